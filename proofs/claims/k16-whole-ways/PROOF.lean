import PyProof.Rows.All
import Wide.All
import OpenK.AllK
import Wide.FinOn
import HandS.ForMost
import HandS.ForExc
import HandS.Deep
import HandS.Star
import HandS.Style
import HandS.Zip
import HandS.Evl
import HandS.IsInst
import KE.KDictKeyed
import PyProof.ReprRoads
import HandS.Conv
import KE.KDictPairs
import KE.KDictZip
import KE.DataMinMax
import PySem.Challenge.RW_bothfeet_k16_whole_ways_lead_back
import HandS.Defaults
import HandS.ExcInit
import HandS.ExcField
import HandS.ExcOwn
import HandS.WordsExc
import KE.KExcSuper
import KE.KSuper
import PyProof.FitsInt
import PyProof.ReprLen
import HandS.TupSets
import HandS.SetFor
import HandS.RaiseMore
import KE.KStateDown
import HandS.Head0
import HandS.Head1
import HandS.Head2
import HandS.HeadEnd
import HandS.HeadHook1
import HandS.HeadHook2
import HandS.HeadHook4
import Lean
set_option autoImplicit true
set_option Elab.async false
set_option linter.all false
set_option maxRecDepth 100000
set_option maxHeartbeats 1000000
/-! Data without the heap (D), and what stands for it in the abstract heap. -/
namespace BF
open PySem PySem.Spec PyProof.Rows L2

/-- data: no lists within -/
inductive D where
  | non | bl (b : Bool) | int (i : Int) | str (x : Str) | tup (ds : List D)
noncomputable instance : DecidableEq D := fun a b => Classical.propDecidable (a = b)

mutual
inductive TD (H : Hp) : V → D → Prop
  | non : TD H .non .non
  | bl (b : Bool) : TD H (.bl b) (.bl b)
  | int (i : Int) : TD H (.int i) (.int i)
  | str (x : Str) : TD H (.str x) (.str x)
  | tup {a : Addr} {xs : List V} {ds : List D} : H a = some (.tup xs) → TDs H xs ds → TD H (.ref a) (.tup ds)
inductive TDs (H : Hp) : List V → List D → Prop
  | nil : TDs H [] []
  | cons {v : V} {vs : List V} {d : D} {ds : List D} : TD H v d → TDs H vs ds → TDs H (v :: vs) (d :: ds)
end

abbrev Ex := Evl.Ex
/-- the tuples stay -/
def KT (H H' : Hp) : Prop := ∀ b xs, H b = some (.tup xs) → H' b = some (.tup xs)
theorem Ex_kt {H H' : Hp} (e : Ex H H') : KT H H' := fun b xs h => e b _ h
theorem KT.refl (H : Hp) : KT H H := fun _ _ h => h
theorem KT.trans {H H1 H2 : Hp} (a : KT H H1) (b : KT H1 H2) : KT H H2 := fun c xs h => b c xs (a c xs h)
/-- another thing than a tuple is written -/
theorem KT.put {H H' : Hp} {p : Addr} {u o : HO} (k : KT H H') (h : H p = some u) (hu : ∀ xs, u ≠ .tup xs) : KT H (upd H' p o) := fun b xs hb => by
  have ne : b ≠ p := fun z => by rw [z, h] at hb; exact hu xs (Option.some.inj hb)
  rw [upd_ne ne]; exact k b xs hb
theorem KT.put_none {H H' : Hp} {p : Addr} {o : HO} (k : KT H H') (h : H p = none) : KT H (upd H' p o) := fun b xs hb => by
  rw [upd_ne (ne_of_none hb h)]; exact k b xs hb

mutual
theorem TD.mono {H H' : Hp} (k : KT H H') : ∀ (d : D) (v : V), TD H v d → TD H' v d
  | .non, _, h => by cases h; exact .non
  | .bl b, _, h => by cases h; exact .bl b
  | .int i, _, h => by cases h; exact .int i
  | .str x, _, h => by cases h; exact .str x
  | .tup ds, _, h => by
    cases h with
    | tup h1 h2 => exact .tup (k _ _ h1) (TDs.mono k ds _ h2)
theorem TDs.mono {H H' : Hp} (k : KT H H') : ∀ (ds : List D) (vs : List V), TDs H vs ds → TDs H' vs ds
  | [], _, h => by cases h; exact .nil
  | d :: ds, _, h => by
    cases h with
    | cons h1 h2 => exact .cons (TD.mono k d _ h1) (TDs.mono k ds _ h2)
end
theorem TD.up {H H' : Hp} {d : D} {v : V} (h : TD H v d) (k : KT H H') : TD H' v d := TD.mono k d v h
theorem TDs.up {H H' : Hp} {d : List D} {v : List V} (h : TDs H v d) (k : KT H H') : TDs H' v d := TDs.mono k d v h

section
variable {H : Hp}
theorem TDs.length : ∀ {vs : List V} {ds : List D}, TDs H vs ds → vs.length = ds.length
  | _, _, .nil => rfl
  | _, _, .cons _ t => by simp [TDs.length t]
theorem TDs.get : ∀ {vs : List V} {ds : List D} {i : Nat} {d : D}, TDs H vs ds → ds[i]? = some d → ∃ v, vs[i]? = some v ∧ TD H v d
  | _, _, _, _, .nil, e => by simp at e
  | _, _, 0, _, .cons h _, e => by simp at e; subst e; exact ⟨_, rfl, h⟩
  | _, _, i + 1, d, .cons _ t, e => by
    obtain ⟨v, h1, h2⟩ := TDs.get (i := i) (d := d) t (by simpa using e)
    exact ⟨v, by simpa using h1, h2⟩
theorem TDs.get' : ∀ {vs : List V} {ds : List D} {i : Nat} {v : V}, TDs H vs ds → vs[i]? = some v → ∃ d, ds[i]? = some d ∧ TD H v d
  | _, _, _, _, .nil, e => by simp at e
  | _, _, 0, _, .cons h _, e => by simp at e; subst e; exact ⟨_, rfl, h⟩
  | _, _, i + 1, v, .cons _ t, e => by
    obtain ⟨d, h1, h2⟩ := TDs.get' (i := i) (v := v) t (by simpa using e)
    exact ⟨d, by simpa using h1, h2⟩
theorem TDs.append : ∀ {vs ws : List V} {ds es : List D}, TDs H vs ds → TDs H ws es → TDs H (vs ++ ws) (ds ++ es)
  | _, _, _, _, .nil, h => h
  | _, _, _, _, .cons a t, h => .cons a (TDs.append t h)
theorem TDs.take : ∀ {vs : List V} {ds : List D} (n : Nat), TDs H vs ds → TDs H (vs.take n) (ds.take n)
  | _, _, 0, _ => .nil
  | _, _, _ + 1, .nil => .nil
  | _, _, n + 1, .cons a t => .cons a (TDs.take n t)
theorem TDs.drop : ∀ {vs : List V} {ds : List D} (n : Nat), TDs H vs ds → TDs H (vs.drop n) (ds.drop n)
  | _, _, 0, h => h
  | _, _, _ + 1, .nil => .nil
  | _, _, n + 1, .cons _ t => TDs.drop n t
theorem TDs.one {v : V} {d : D} (h : TD H v d) : TDs H [v] [d] := .cons h .nil
theorem TDs.ints : ∀ ns : List Int, TDs H (ns.map V.int) (ns.map D.int)
  | [] => .nil
  | n :: ns => .cons (.int n) (TDs.ints ns)
theorem TDs.of_ints : ∀ {ns : List Int} {vs : List V}, TDs H vs (ns.map D.int) → vs = ns.map V.int
  | [], _, h => by cases h; rfl
  | n :: ns, _, h => by
    cases h with
    | cons a t => cases a; rw [TDs.of_ints t]; rfl
theorem TDs.of_bls : ∀ {ns : List Bool} {vs : List V}, TDs H vs (ns.map D.bl) → vs = ns.map V.bl
  | [], _, h => by cases h; rfl
  | n :: ns, _, h => by
    cases h with
    | cons a t => cases a; rw [TDs.of_bls t]; rfl
end

/-! ### the same as the library's data -/
mutual
def D.py : D → PyData
  | .non => .none
  | .bl b => .bool b
  | .int i => .int i
  | .str x => .str x
  | .tup ds => .tuple (D.pys ds)
def D.pys : List D → List PyData
  | [] => []
  | d :: ds => D.py d :: D.pys ds
end
mutual
def D.key : D → NestedKey
  | .non => .none
  | .bl b => .num (if b = true then 1 else 0)
  | .int i => .num i
  | .str x => .text x
  | .tup ds => .tup (D.keys ds)
def D.keys : List D → List NestedKey
  | [] => []
  | d :: ds => D.key d :: D.keys ds
end
/-! no truth, no text within -/
mutual
def D.nb : D → Bool
  | .bl _ => false
  | .str _ => false
  | .tup ds => D.nbs ds
  | _ => true
def D.nbs : List D → Bool
  | [] => true
  | d :: ds => D.nb d && D.nbs ds
end
mutual
def D.dep : D → Nat
  | .tup ds => D.deps ds + 1
  | _ => 0
def D.deps : List D → Nat
  | [] => 0
  | d :: ds => max (D.dep d) (D.deps ds)
end
theorem D.pys_map : ∀ ds : List D, D.pys ds = ds.map D.py
  | [] => rfl
  | d :: ds => by rw [D.pys, D.pys_map ds]; rfl
mutual
theorem D.depth_py : ∀ d : D, d.py.depth = d.dep
  | .non => by simp [D.py, D.dep, PyData.depth]
  | .bl _ => by simp [D.py, D.dep, PyData.depth]
  | .int _ => by simp [D.py, D.dep, PyData.depth]
  | .str _ => by simp [D.py, D.dep, PyData.depth]
  | .tup ds => by simp only [D.py, D.dep, PyData.depth]; rw [D.depths_py ds]
theorem D.depths_py : ∀ ds : List D, PyData.depthAll (D.pys ds) = D.deps ds
  | [] => by simp [D.pys, D.deps, PyData.depthAll]
  | d :: ds => by simp only [D.pys, D.deps, PyData.depthAll]; rw [D.depth_py d, D.depths_py ds]
end
mutual
theorem D.depth_key : ∀ d : D, d.key.depth = d.dep
  | .non => by simp [D.key, D.dep, NestedKey.depth]
  | .bl _ => by simp [D.key, D.dep, NestedKey.depth]
  | .int _ => by simp [D.key, D.dep, NestedKey.depth]
  | .str _ => by simp [D.key, D.dep, NestedKey.depth]
  | .tup ds => by simp only [D.key, D.dep, NestedKey.depth]; rw [D.depths_key ds]
theorem D.depths_key : ∀ ds : List D, NestedKey.depthAll (D.keys ds) = D.deps ds
  | [] => by simp [D.keys, D.deps, NestedKey.depthAll]
  | d :: ds => by simp only [D.keys, D.deps, NestedKey.depthAll]; rw [D.depth_key d, D.depths_key ds]
end
mutual
theorem D.lay_py : ∀ d : D, d.nb = true → d.py.canLay0 = true
  | .non, _ => by simp [D.py, PyData.canLay0]
  | .bl _, h => by simp [D.nb] at h
  | .int _, _ => by simp [D.py, PyData.canLay0]
  | .str _, h => by simp [D.nb] at h
  | .tup ds, h => by simp only [D.py, PyData.canLay0]; exact D.lays_py ds (by simpa [D.nb] using h)
theorem D.lays_py : ∀ ds : List D, D.nbs ds = true → PyData.canLayAll0 (D.pys ds) = true
  | [], _ => by simp [D.pys, PyData.canLayAll0]
  | d :: ds, h => by
    simp only [D.nbs, Bool.and_eq_true] at h
    simp only [D.pys, PyData.canLayAll0]; rw [D.lay_py d h.1, D.lays_py ds h.2]; rfl
end
theorem D.shaped {d : D} (hb : d.nb = true) (h : d.dep ≤ 64) : SeqAt.shaped d.py = true := by
  have e : d.py.depth ≤ 64 := by rw [D.depth_py]; exact h
  unfold SeqAt.shaped
  rw [D.lay_py d hb, decide_eq_true e]; rfl
theorem D.shapedL {ds : List D} (hb : D.nbs ds = true) (h : D.deps ds ≤ 63) : SeqAt.shaped (.list (D.pys ds)) = true := by
  have e : (PyData.list (D.pys ds)).depth ≤ 64 := by simp only [PyData.depth]; rw [D.depths_py]; omega
  have e2 : (PyData.list (D.pys ds)).canLay0 = true := by simp only [PyData.canLay0]; exact D.lays_py ds hb
  unfold SeqAt.shaped
  rw [e2, decide_eq_true e]; rfl
mutual
theorem D.key_inj : ∀ (d e : D), d.nb = true → e.nb = true → d.key = e.key → d = e
  | .non, e, _, h2, h => by cases e <;> simp_all [D.key, D.nb]
  | .bl _, e, h1, _, h => by simp [D.nb] at h1
  | .int _, e, _, h2, h => by cases e <;> simp_all [D.key, D.nb]
  | .str _, e, h1, _, h => by simp [D.nb] at h1
  | .tup ds, e, h1, h2, h => by
    cases e with
    | tup es =>
      simp only [D.nb] at h1 h2
      simp only [D.key] at h
      injection h with h
      rw [D.keys_inj ds es h1 h2 h]
    | _ => simp [D.key] at h
theorem D.keys_inj : ∀ (ds es : List D), D.nbs ds = true → D.nbs es = true → D.keys ds = D.keys es → ds = es
  | [], [], _, _, _ => rfl
  | [], _ :: _, _, _, h => by simp [D.keys] at h
  | _ :: _, [], _, _, h => by simp [D.keys] at h
  | d :: ds, e :: es, h1, h2, h => by
    simp only [D.nbs, Bool.and_eq_true] at h1 h2
    simp only [D.keys] at h
    injection h with ha hb
    rw [D.key_inj d e h1.1 h2.1 ha, D.keys_inj ds es h1.2 h2.2 hb]
end
mutual
theorem D.eqv_py : ∀ (d e : D), d.nb = true → e.nb = true → PyData.eqv d.py e.py = decide (d = e)
  | .non, e, _, h2 => by cases e <;> simp_all [D.py, D.nb, PyData.eqv]
  | .bl _, e, h1, _ => by simp [D.nb] at h1
  | .int i, e, _, h2 => by cases e <;> simp_all [D.py, D.nb, PyData.eqv, Bool.beq_eq_decide_eq]
  | .str _, e, h1, _ => by simp [D.nb] at h1
  | .tup ds, e, h1, h2 => by
    cases e with
    | tup es =>
      simp only [D.nb] at h1 h2
      simp only [D.py, PyData.eqv]
      rw [D.eqvs_py ds es h1 h2]
      by_cases h : ds = es
      · subst h; simp
      · rw [decide_eq_false h, decide_eq_false (fun z => h (D.tup.inj z))]
    | bl b => simp [D.nb] at h2
    | _ => simp [D.py, PyData.eqv]
theorem D.eqvs_py : ∀ (ds es : List D), D.nbs ds = true → D.nbs es = true → PyData.eqvAll (D.pys ds) (D.pys es) = decide (ds = es)
  | [], [], _, _ => by simp [D.pys, PyData.eqvAll]
  | [], _ :: _, _, _ => by simp [D.pys, PyData.eqvAll]
  | _ :: _, [], _, _ => by simp [D.pys, PyData.eqvAll]
  | d :: ds, e :: es, h1, h2 => by
    simp only [D.nbs, Bool.and_eq_true] at h1 h2
    simp only [D.pys, PyData.eqvAll]
    rw [D.eqv_py d e h1.1 h2.1, D.eqvs_py ds es h1.2 h2.2]
    by_cases h : d = e <;> by_cases h' : ds = es <;> simp [h, h']
end
mutual
theorem TD.dp {K : PySem.W.Frag} {H : Hp} : ∀ (d : D) (v : V), TD H v d → Dp K H v d.py
  | .non, _, h => by cases h; exact .non
  | .bl b, _, h => by cases h; exact .bl b
  | .int i, _, h => by cases h; exact .int i
  | .str x, _, h => by cases h; exact .str x
  | .tup ds, _, h => by
    cases h with
    | tup h1 h2 => exact .tup (SqT.of h1) (TDs.dp ds _ h2)
theorem TDs.dp {K : PySem.W.Frag} {H : Hp} : ∀ (ds : List D) (vs : List V), TDs H vs ds → DpAll K H vs (D.pys ds)
  | [], _, h => by cases h; exact .nil
  | d :: ds, _, h => by
    cases h with
    | cons h1 h2 => exact .cons (TD.dp d _ h1) (TDs.dp ds _ h2)
end
mutual
theorem TD.nest {X : Cx} {pins : List (Addr × Obj)} {σ : L2.St} {H : Hp} {s : Shared} (I : Inv X pins σ H s) : ∀ (d : D) (v : V) (u : Value), TD H v d → RelV v u → NestedIs s.heap d.key u
  | .non, _, _, h, r => by cases h; cases r; exact .none
  | .bl b, _, _, h, r => by cases h; cases r; exact .bool rfl
  | .int i, _, _, h, r => by cases h; obtain ⟨t, rfl⟩ := r; exact .int i t
  | .str x, _, _, h, r => by cases h; obtain ⟨t, rfl⟩ := r; exact .text x t
  | .tup ds, _, _, h, r => by
    cases h with
    | tup h1 h2 =>
      cases r
      obtain ⟨its, rv, ⟨o, ho, hc, n, hd⟩, _⟩ := I.tuple (SqT.of h1)
      exact .tup ho hc hd (TDs.nest I ds _ _ h2 (by simpa using rv))
theorem TDs.nest {X : Cx} {pins : List (Addr × Obj)} {σ : L2.St} {H : Hp} {s : Shared} (I : Inv X pins σ H s) : ∀ (ds : List D) (vs : List V) (us : List Value), TDs H vs ds → Vals vs us → NestedAll s.heap (D.keys ds) us
  | [], _, _, h, r => by cases h; cases r; exact .nil
  | d :: ds, _, _, h, r => by
    cases h with
    | cons h1 h2 =>
      cases r with
      | cons r1 r2 => exact .cons (TD.nest I d _ _ h1 r1) (TDs.nest I ds _ _ h2 r2)
end
end BF

set_option Elab.async false
set_option linter.all false
set_option maxRecDepth 100000
set_option maxHeartbeats 1000000
set_option autoImplicit false
/-! Abstract values, slots, expressions and statements over them. -/
namespace BF
open PySem PySem.Spec PyProof.Rows L2

/-- what a name holds: data; a list (own: it stands at this name alone and may be changed); a dict; a Profile -/
inductive AV where
  | d (x : D)
  | l (own : Bool) (xs : List D)
  | m (own : Bool) (kvs : List (D × (D ⊕ List D)))
  | pr (cs : List (Int × Int))
  | kp (P : V → Prop)
  | ll (xs ys : List D)
def AV.own : AV → Bool
  | .l o _ => o
  | .m o _ => o
  | _ => false
/-- as it is read -/
def AV.un : AV → AV
  | .l _ xs => .l false xs
  | .m _ k => .m false k
  | .ll _ _ => .kp fun _ => True
  | a => a

structure Ga where
  P : Program
  w : World
  K : PySem.W.Frag
  mg : Str → Option Value
abbrev gaOf (X : Cx) : Ga := ⟨X.prog, X.w, X.K, X.mg⟩

def corD (c : Int × Int) : D := .tup [.int c.1, .int c.2]
def PrOk (g : Ga) (H : Hp) (a : Addr) (cs : List (Int × Int)) : Prop :=
  ∃ C dx fs q, H a = some (.ins C dx fs) ∧ fs.lookup ("corners" : Str) = some (.ref q) ∧ TD H (.ref q) (.tup (cs.map corD)) ∧ g.mg "Profile" = some (.ref C)

def IsDic (p : Addr) (es : Array DictEntry) : Heap → Prop := fun h => ∃ o ep, h.get? p = some o ∧ o.ExactDict ∧ o.data = .dict es ep
def VOk (O : Addr → Prop) (H : Hp) (v : V) : D ⊕ List D → Prop
  | .inl d => TD H v d
  | .inr ds => ∃ q vs, v = .ref q ∧ ¬ O q ∧ H q = some (.lst vs) ∧ TDs H vs ds
def EnOk (g : Ga) (O : Addr → Prop) (H : Hp) (kv : D × (D ⊕ List D)) (e : DictEntry) : Prop :=
  ∃ kV vV, RelV kV e.key ∧ TD H kV kv.1 ∧ e.hash = kv.1.key.hash g.w ∧ RelV vV e.val ∧ VOk O H vV kv.2
def DicOk (g : Ga) (O : Addr → Prop) (H : Hp) (p : Addr) (kvs : List (D × (D ⊕ List D))) : Prop :=
  ∃ es, H p = some (.ext (IsDic p es)) ∧ Paired (EnOk g O H) kvs es.toList ∧ (p == sysModules) = false ∧ (kvs.map (·.1)).Nodup ∧ ∀ kv ∈ kvs, kv.1.nb = true ∧ kv.1.dep ≤ 8

/-- a name's value; O: the lists and dicts that may change -/
def Sl (g : Ga) (O : Addr → Prop) (H : Hp) (v : V) : AV → Prop
  | .d x => TD H v x
  | .l own xs => ∃ p vs, v = .ref p ∧ (O p ↔ own = true) ∧ H p = some (.lst vs) ∧ TDs H vs xs
  | .m own kvs => ∃ p, v = .ref p ∧ (O p ↔ own = true) ∧ DicOk g O H p kvs
  | .pr cs => ∃ p, v = .ref p ∧ PrOk g H p cs
  | .kp P => P v
  | .ll xs ys => ∃ t p q vs ws, v = .ref t ∧ H t = some (.tup [.ref p, .ref q]) ∧ (¬ O p ∧ ¬ O q) ∧ H p = some (.lst vs) ∧ H q = some (.lst ws) ∧ TDs H vs xs ∧ TDs H ws ys
/-- an expression's value, H the heap ahead, H2 behind; own: a new list -/
def Rs (g : Ga) (H H2 : Hp) (v : V) : AV → Prop
  | .d x => TD H2 v x
  | .l own xs => ∃ p vs, v = .ref p ∧ (own = true → H p = none) ∧ H2 p = some (.lst vs) ∧ TDs H2 vs xs
  | .m own kvs => own = false ∧ ∃ p, v = .ref p ∧ DicOk g (fun _ => False) H2 p kvs
  | .pr cs => ∃ p, v = .ref p ∧ PrOk g H2 p cs
  | .kp P => P v
  | .ll xs ys => ∃ t p q vs ws, v = .ref t ∧ H2 t = some (.tup [.ref p, .ref q]) ∧ (H p = none ∧ H q = none) ∧ H2 p = some (.lst vs) ∧ H2 q = some (.lst ws) ∧ TDs H2 vs xs ∧ TDs H2 ws ys

abbrev AE := List (Option AV)

section
variable {g : Ga} {O : Addr → Prop} {H H1 H2 H3 : Hp} {v : V} {a : AV}
theorem VOk.mono (e : Ex H H2) : ∀ {x : D ⊕ List D}, VOk O H v x → VOk O H2 v x
  | .inl _, h => TD.up h (Ex_kt e)
  | .inr _, ⟨q, vs, h1, h2, h3, h4⟩ => ⟨q, vs, h1, h2, e _ _ h3, h4.up (Ex_kt e)⟩
theorem EnOk.mono (e : Ex H H2) {kv : D × (D ⊕ List D)} {en : DictEntry} (h : EnOk g O H kv en) : EnOk g O H2 kv en :=
  let ⟨kV, vV, h1, h2, h3, h4, h5⟩ := h; ⟨kV, vV, h1, h2.up (Ex_kt e), h3, h4, h5.mono e⟩
theorem DicOk.mono (e : Ex H H2) {p : Addr} {kvs : List (D × (D ⊕ List D))} (h : DicOk g O H p kvs) : DicOk g O H2 p kvs :=
  let ⟨es, h1, h2, h3⟩ := h; ⟨es, e _ _ h1, Paired.mapP h2 fun _ _ q => q.mono e, h3⟩
theorem PrOk.mono (e : Ex H H2) {p : Addr} {cs : List (Int × Int)} (h : PrOk g H p cs) : PrOk g H2 p cs :=
  let ⟨C, dx, fs, q, h1, h2, h3, h4⟩ := h; ⟨C, dx, fs, q, e _ _ h1, h2, h3.up (Ex_kt e), h4⟩
theorem Sl.mono (e : Ex H H2) : ∀ {a : AV}, Sl g O H v a → Sl g O H2 v a
  | .d _, h => TD.up h (Ex_kt e)
  | .l _ _, ⟨p, vs, h1, h2, h3, h4⟩ => ⟨p, vs, h1, h2, e _ _ h3, h4.up (Ex_kt e)⟩
  | .m _ _, ⟨p, h1, h2, h3⟩ => ⟨p, h1, h2, h3.mono e⟩
  | .pr _, ⟨p, h1, h2⟩ => ⟨p, h1, h2.mono e⟩
  | .kp _, h => h
  | .ll _ _, ⟨t, p, q, vs, ws, h1, h2, h3, h4, h5, h6, h7⟩ => ⟨t, p, q, vs, ws, h1, e _ _ h2, h3, e _ _ h4, e _ _ h5, h6.up (Ex_kt e), h7.up (Ex_kt e)⟩
theorem Rs.mono (e : Ex H2 H3) : ∀ {a : AV}, Rs g H H2 v a → Rs g H H3 v a
  | .d _, h => TD.up h (Ex_kt e)
  | .l _ _, ⟨p, vs, h1, h2, h3, h4⟩ => ⟨p, vs, h1, h2, e _ _ h3, h4.up (Ex_kt e)⟩
  | .m _ _, ⟨h0, p, h1, h2⟩ => ⟨h0, p, h1, h2.mono e⟩
  | .pr _, ⟨p, h1, h2⟩ => ⟨p, h1, h2.mono e⟩
  | .kp _, h => h
  | .ll _ _, ⟨t, p, q, vs, ws, h1, h2, h3, h4, h5, h6, h7⟩ => ⟨t, p, q, vs, ws, h1, e _ _ h2, h3, e _ _ h4, e _ _ h5, h6.up (Ex_kt e), h7.up (Ex_kt e)⟩
theorem Rs.back (e : Ex H H1) : ∀ {a : AV}, Rs g H1 H2 v a → Rs g H H2 v a
  | .d _, h => h
  | .l _ _, ⟨p, vs, h1, h2, h3, h4⟩ => ⟨p, vs, h1, fun o => Evl.fresh_back e (h2 o), h3, h4⟩
  | .m _ _, h => h
  | .pr _, h => h
  | .kp _, h => h
  | .ll _ _, ⟨t, p, q, vs, ws, h1, h2, h3, h4⟩ => ⟨t, p, q, vs, ws, h1, h2, ⟨Evl.fresh_back e h3.1, Evl.fresh_back e h3.2⟩, h4⟩
theorem VOk.any : ∀ {x : D ⊕ List D}, VOk O H v x → VOk (fun _ => False) H v x
  | .inl _, h => h
  | .inr _, ⟨q, vs, h1, h2, h3, h4⟩ => ⟨q, vs, h1, fun z => z, h3, h4⟩
theorem DicOk.any {p : Addr} {kvs : List (D × (D ⊕ List D))} (h : DicOk g O H p kvs) : DicOk g (fun _ => False) H p kvs :=
  let ⟨es, h1, h2, h3⟩ := h
  ⟨es, h1, Paired.mapP h2 fun _ _ ⟨kV, vV, q1, q2, q3, q4, q5⟩ => ⟨kV, vV, q1, q2, q3, q4, q5.any⟩, h3⟩
/-- a name, read -/
theorem Sl.rs : ∀ {a : AV}, Sl g O H v a → Rs g H H v a.un
  | .d _, h => h
  | .l _ _, ⟨p, vs, h1, h2, h3, h4⟩ => ⟨p, vs, h1, fun z => by simp at z, h3, h4⟩
  | .m _ _, ⟨p, h1, h2, h3⟩ => ⟨rfl, p, h1, h3.any⟩
  | .pr _, h => h
  | .kp _, h => h
  | .ll _ _, _ => trivial
/-- a value, handed to a def -/
theorem Rs.arg : ∀ {a : AV}, Rs g H H2 v a → Sl g (fun _ => False) H2 v a.un
  | .d _, h => h
  | .l _ _, ⟨p, vs, h1, h2, h3, h4⟩ => ⟨p, vs, h1, ⟨fun z => z.elim, fun z => by simp at z⟩, h3, h4⟩
  | .m _ _, ⟨_, p, h1, h2⟩ => ⟨p, h1, ⟨fun z => z.elim, fun z => by simp at z⟩, h2⟩
  | .pr _, h => h
  | .kp _, h => h
  | .ll _ _, _ => trivial
end

/-- it may change -/
def Lo : Option HO → Prop
  | some (.lst _) => True
  | some (.ext _) => True
  | _ => False
structure RS (g : Ga) (O : Addr → Prop) (H : Hp) (σ : L2.St) (τ : AE) : Prop where
  len : σ.length = τ.length
  at_ : ∀ (i : Nat) (a : AV), τ[i]? = some (some a) → ∃ v, σ[i]? = some (some v) ∧ Sl g O H v a
  sep : ∀ (i j : Nat) (a b : AV) (v : V), i ≠ j → τ[i]? = some (some a) → τ[j]? = some (some b) → a.own = true → b.own = true → σ[i]? = some (some v) → σ[j]? = some (some v) → False
  wf : ∀ p, O p → Lo (H p)
theorem RS.mono {g : Ga} {O : Addr → Prop} {H H2 : Hp} {σ : L2.St} {τ : AE} (r : RS g O H σ τ) (e : Ex H H2) : RS g O H2 σ τ :=
  ⟨r.len, fun i a h => let ⟨v, h1, h2⟩ := r.at_ i a h; ⟨v, h1, h2.mono e⟩, r.sep, fun p h => by
    have z := r.wf p h
    cases q : H p with
    | none => rw [q] at z; exact z.elim
    | some o => rw [e p o q]; rw [q] at z; exact z⟩
theorem RS.there {g : Ga} {O : Addr → Prop} {H : Hp} {σ : L2.St} {τ : AE} (r : RS g O H σ τ) {p : Addr} (h : O p) : H p ≠ none := fun z => by
  have q := r.wf p h
  rw [z] at q; exact q

/-! ### judgements -/
def XE (X : Cx) (σ : L2.St) (H : Hp) (e : Expr) (Q : VK) : Prop :=
  ∀ pins s, Inv X pins σ H s → wpAny (model X.prog X.w) X.A (eval e X.env) (EP X pins σ Q) X.xe s
def XT (X : Cx) (σ : L2.St) (H : Hp) (e : Expr) (Q : Bool → Hp → Prop) : Prop :=
  ∀ pins s, Inv X pins σ H s → wpAny (model X.prog X.w) X.A (isTrue e X.env (eval e X.env)) (TP X pins σ Q) X.xe s
def XA (X : Cx) (σ : L2.St) (H : Hp) (es : List Expr) (Q : List V → Hp → Prop) : Prop :=
  ∀ pos pins s, Inv X pins σ H s → wpAny (model X.prog X.w) X.A (spliced (backTo pos (starEach es X.env))) (AP X pins σ Q) X.xe s
def XSs (X : Cx) (D : Ends) (σ : L2.St) (H : Hp) (sts : List Stmt) : Prop :=
  ∀ pins s, Inv X pins σ H s → wpAny (model X.prog X.w) X.A (execs sts X.env) (SP X pins D) X.xe s
theorem pe_can (X : Cx) (e : Expr) : PE X e fun σ H Q => XE X σ H e Q := ⟨fun pins s σ H Q I h => h pins s I⟩
theorem pt_can (X : Cx) (e : Expr) : PT X e fun σ H Q => XT X σ H e Q := ⟨fun pins s σ H Q I h => h pins s I⟩
theorem pa_can (X : Cx) (es : List Expr) : PA X es fun σ H Q => XA X σ H es Q := ⟨fun pos pins s σ H Q I h => h pos pins s I⟩
theorem pss_can (X : Cx) (sts : List Stmt) : PSs X sts fun D σ H => XSs X D σ H sts := ⟨fun pins s σ H D I h => h pins s I⟩
theorem XE.of {X : Cx} {e : Expr} {t : TE} {σ : L2.St} {H : Hp} {Q : VK} (h : PE X e t) (q : t σ H Q) : XE X σ H e Q := fun pins s I => h.run pins s σ H Q I q
theorem XT.of {X : Cx} {e : Expr} {t : TT} {σ : L2.St} {H : Hp} {Q : Bool → Hp → Prop} (h : PT X e t) (q : t σ H Q) : XT X σ H e Q := fun pins s I => h.run pins s σ H Q I q
theorem XA.of {X : Cx} {es : List Expr} {t : TA} {σ : L2.St} {H : Hp} {Q : List V → Hp → Prop} (h : PA X es t) (q : t σ H Q) : XA X σ H es Q := fun pos pins s I => h.run pos pins s σ H Q I q
theorem XSs.of {X : Cx} {sts : List Stmt} {t : TS} {D : Ends} {σ : L2.St} {H : Hp} (h : PSs X sts t) (q : t D σ H) : XSs X D σ H sts := fun pins s I => h.run pins s σ H D I q

/-- an expression's value -/
structure DE (X : Cx) (τ : AE) (e : Expr) (a : AV) : Prop where
  run : ∀ (O : Addr → Prop) (H : Hp) (σ : L2.St) (Q : VK), RS (gaOf X) O H σ τ → (∀ v H2, Ex H H2 → Rs (gaOf X) H H2 v a → Q v H2) → XE X σ H e Q
/-- a test -/
structure DT (X : Cx) (τ : AE) (e : Expr) (b : Bool) : Prop where
  run : ∀ (O : Addr → Prop) (H : Hp) (σ : L2.St) (Q : Bool → Hp → Prop), RS (gaOf X) O H σ τ → (∀ H2, Ex H H2 → Q b H2) → XT X σ H e Q
/-- arguments, data alone -/
structure DD (X : Cx) (τ : AE) (es : List Expr) (ds : List D) : Prop where
  run : ∀ (O : Addr → Prop) (H : Hp) (σ : L2.St) (Q : List V → Hp → Prop), RS (gaOf X) O H σ τ → (∀ vs H2, Ex H H2 → TDs H2 vs ds → Q vs H2) → XA X σ H es Q
/-- arguments of any kind -/
def RsL (g : Ga) (H : Hp) (vs : List V) (as : List AV) : Prop := Paired (fun v a => Sl g (fun _ => False) H v a) vs as
structure DA (X : Cx) (τ : AE) (es : List Expr) (as : List AV) : Prop where
  run : ∀ (O : Addr → Prop) (H : Hp) (σ : L2.St) (Q : List V → Hp → Prop), RS (gaOf X) O H σ τ → (∀ vs H2, Ex H H2 → RsL (gaOf X) H2 vs as → Q vs H2) → XA X σ H es Q

section
variable {X : Cx} {τ : AE} {e a b c : Expr} {es : List Expr} {pos : Pos}
/-! ### names, constants, arguments -/
theorem de_var {x : Str} {v : AV} (i : Nat) (ht : τ[i]? = some (some v) := by rfl) (hN : X.N[i]? = some x := by rfl)
    (hv : Vis X.env.scope x := by first | exact Or.inl rfl | exact Or.inr (Or.inl rfl) | exact Or.inr (Or.inr rfl)) (hd : (x == ("__debug__" : Str)) = false := by decide) (hc : (x == ("__classdict__" : Str)) = false := by decide) :
    DE X τ (.Name x pos) v.un := ⟨fun O H σ Q r q => by
  obtain ⟨u, h1, h2⟩ := r.at_ i v ht
  exact XE.of (pe_var hN hv hd hc) ⟨u, h1, q u H (Evl.Ex.refl H) h2.rs⟩⟩
theorem de_vd {x : Str} {v : D} (i : Nat) (ht : τ[i]? = some (some (.d v)) := by rfl) (hN : X.N[i]? = some x := by rfl)
    (hv : Vis X.env.scope x := by first | exact Or.inl rfl | exact Or.inr (Or.inl rfl) | exact Or.inr (Or.inr rfl)) (hd : (x == ("__debug__" : Str)) = false := by decide) (hc : (x == ("__classdict__" : Str)) = false := by decide) :
    DE X τ (.Name x pos) (.d v) := de_var i ht hN hv hd hc
theorem de_vl {x : Str} {o : Bool} {v : List D} (i : Nat) (ht : τ[i]? = some (some (.l o v)) := by rfl) (hN : X.N[i]? = some x := by rfl)
    (hv : Vis X.env.scope x := by first | exact Or.inl rfl | exact Or.inr (Or.inl rfl) | exact Or.inr (Or.inr rfl)) (hd : (x == ("__debug__" : Str)) = false := by decide) (hc : (x == ("__classdict__" : Str)) = false := by decide) :
    DE X τ (.Name x pos) (.l false v) := de_var i ht hN hv hd hc
theorem de_vm {x : Str} {o : Bool} {v : List (D × (D ⊕ List D))} (i : Nat) (ht : τ[i]? = some (some (.m o v)) := by rfl) (hN : X.N[i]? = some x := by rfl)
    (hv : Vis X.env.scope x := by first | exact Or.inl rfl | exact Or.inr (Or.inl rfl) | exact Or.inr (Or.inr rfl)) (hd : (x == ("__debug__" : Str)) = false := by decide) (hc : (x == ("__classdict__" : Str)) = false := by decide) :
    DE X τ (.Name x pos) (.m false v) := de_var i ht hN hv hd hc
theorem de_vp {x : Str} {v : List (Int × Int)} (i : Nat) (ht : τ[i]? = some (some (.pr v)) := by rfl) (hN : X.N[i]? = some x := by rfl)
    (hv : Vis X.env.scope x := by first | exact Or.inl rfl | exact Or.inr (Or.inl rfl) | exact Or.inr (Or.inr rfl)) (hd : (x == ("__debug__" : Str)) = false := by decide) (hc : (x == ("__classdict__" : Str)) = false := by decide) :
    DE X τ (.Name x pos) (.pr v) := de_var i ht hN hv hd hc
theorem de_int {i : Int} {j : Nat} : DE X τ (.Constant (.int i) j pos) (.d (.int i)) := ⟨fun O H σ Q r q => XE.of pe_int (q _ H (Evl.Ex.refl H) (.int i))⟩
theorem de_bl {i : Bool} {j : Nat} : DE X τ (.Constant (.bool i) j pos) (.d (.bl i)) := ⟨fun O H σ Q r q => XE.of pe_bl (q _ H (Evl.Ex.refl H) (.bl i))⟩
theorem de_non {j : Nat} : DE X τ (.Constant .none j pos) (.d .non) := ⟨fun O H σ Q r q => XE.of pe_non (q _ H (Evl.Ex.refl H) .non)⟩
theorem de_str {x : Str} {j : Nat} : DE X τ (.Constant (.str x) j pos) (.d (.str x)) := ⟨fun O H σ Q r q => XE.of pe_str (q _ H (Evl.Ex.refl H) (.str x))⟩
theorem dd_nil : DD X τ [] [] := ⟨fun O H σ Q r q => XA.of pa_nil (q _ H (Evl.Ex.refl H) .nil)⟩
theorem dd_cons {d : D} {ds : List D} (h1 : DE X τ e (.d d)) (h2 : DD X τ es ds) (hs : starEach (e :: es) X.env = (false, eval e X.env) :: starEach es X.env := by rfl) : DD X τ (e :: es) (d :: ds) :=
  ⟨fun O H σ Q r q => XA.of (pa_cons (pe_can X e) (pa_can X es) hs) (h1.run O H σ _ r fun v H1 e1 r1 => h2.run O H1 σ _ (r.mono e1) fun vs H2 e2 r2 =>
    q _ H2 (e1.trans e2) (.cons (TD.up r1 (Ex_kt e2)) r2))⟩
theorem da_nil : DA X τ [] [] := ⟨fun O H σ Q r q => XA.of pa_nil (q _ H (Evl.Ex.refl H) .nil)⟩
theorem da_cons {v : AV} {as : List AV} (h1 : DE X τ e v) (h2 : DA X τ es as) (hs : starEach (e :: es) X.env = (false, eval e X.env) :: starEach es X.env := by rfl) : DA X τ (e :: es) (v.un :: as) :=
  ⟨fun O H σ Q r q => XA.of (pa_cons (pe_can X e) (pa_can X es) hs) (h1.run O H σ _ r fun v H1 e1 r1 => h2.run O H1 σ _ (r.mono e1) fun vs H2 e2 r2 =>
    q _ H2 (e1.trans e2) (.cons (r1.arg.mono e2) r2))⟩
theorem da_d {v : D} {as : List AV} (h1 : DE X τ e (.d v)) (h2 : DA X τ es as) (hs : starEach (e :: es) X.env = (false, eval e X.env) :: starEach es X.env := by rfl) : DA X τ (e :: es) (.d v :: as) := da_cons h1 h2 hs
theorem da_l {o : Bool} {v : List D} {as : List AV} (h1 : DE X τ e (.l o v)) (h2 : DA X τ es as) (hs : starEach (e :: es) X.env = (false, eval e X.env) :: starEach es X.env := by rfl) : DA X τ (e :: es) (.l false v :: as) := da_cons h1 h2 hs
theorem da_m {o : Bool} {v : List (D × (D ⊕ List D))} {as : List AV} (h1 : DE X τ e (.m o v)) (h2 : DA X τ es as) (hs : starEach (e :: es) X.env = (false, eval e X.env) :: starEach es X.env := by rfl) : DA X τ (e :: es) (.m false v :: as) := da_cons h1 h2 hs
theorem da_p {v : List (Int × Int)} {as : List AV} (h1 : DE X τ e (.pr v)) (h2 : DA X τ es as) (hs : starEach (e :: es) X.env = (false, eval e X.env) :: starEach es X.env := by rfl) : DA X τ (e :: es) (.pr v :: as) := da_cons h1 h2 hs
theorem da_of {ds : List D} (h : DD X τ es ds) : DA X τ es (ds.map AV.d) := ⟨fun O H σ Q r q => h.run O H σ Q r fun vs H2 e1 t => q vs H2 e1 (by
  clear q h r e1
  induction ds generalizing vs with
  | nil => cases t; exact .nil
  | cons d ds ih => cases t with | cons t1 t2 => exact .cons t1 (ih _ t2))⟩

/-! ### operators -/
/-- f on two values -/
def OpD (X : Cx) (f : Value → Value → Sem Value) (a b c : AV) : Prop :=
  ∃ r, OpR X f r ∧ ∀ (H0 H : Hp) (v u : V) (Q : VK), Rs (gaOf X) H0 H v a → Rs (gaOf X) H0 H u b → (∀ z H2, Ex H H2 → Rs (gaOf X) H H2 z c → Q z H2) → r v u H Q
theorem de_bin {op : Operator} {x y z : AV} (ho : OpD X (binaryOp op) x y z) (ha : DE X τ a x) (hb : DE X τ b y) : DE X τ (.BinOp a op b pos) z := by
  obtain ⟨r, h1, h2⟩ := ho
  exact ⟨fun O H σ Q rs q => XE.of (pe_op h1 (pe_can X a) (pe_can X b)) (ha.run O H σ _ rs fun v H1 e1 r1 => hb.run O H1 σ _ (rs.mono e1) fun u H2 e2 r2 =>
    h2 H H2 v u Q (r1.mono e2) (r2.back e1) fun z H3 e3 r3 => q z H3 ((e1.trans e2).trans e3) (r3.back (e1.trans e2)))⟩
theorem de_cmp {op : CmpOp} {x y z : AV} (ho : OpD X (compareOp op) x y z) (ha : DE X τ a x) (hb : DE X τ b y) (hm : behindInMarks op b = false := by first | exact nomark _ | rfl) : DE X τ (.Compare a [op] [b] pos) z := by
  obtain ⟨r, h1, h2⟩ := ho
  exact ⟨fun O H σ Q rs q => XE.of (pe_cmpR h1 (pe_can X a) (pe_can X b) hm) (ha.run O H σ _ rs fun v H1 e1 r1 => hb.run O H1 σ _ (rs.mono e1) fun u H2 e2 r2 =>
    h2 H H2 v u Q (r1.mono e2) (r2.back e1) fun z H3 e3 r3 => q z H3 ((e1.trans e2).trans e3) (r3.back (e1.trans e2)))⟩
theorem dt_cmp {op : CmpOp} {x y : AV} {k : Bool} (ho : OpD X (compareOp op) x y (.d (.bl k))) (ha : DE X τ a x) (hb : DE X τ b y) (hm : behindInMarks op b = false := by first | exact nomark _ | rfl) : DT X τ (.Compare a [op] [b] pos) k := by
  obtain ⟨r, h1, h2⟩ := ho
  exact ⟨fun O H σ Q rs q => XT.of (pt_cmpR h1 (pe_can X a) (pe_can X b) hm) (ha.run O H σ _ rs fun v H1 e1 r1 => hb.run O H1 σ _ (rs.mono e1) fun u H2 e2 r2 =>
    h2 H H2 v u _ (r1.mono e2) (r2.back e1) fun z H3 e3 r3 => ⟨k, (by cases r3; rfl), q H3 ((e1.trans e2).trans e3)⟩)⟩
/-- a op b op' c -/
theorem dt_chain {op op' : CmpOp} {x y z : AV} {k k' : Bool} (ho : OpD X (compareOp op) x y (.d (.bl k))) (ho' : OpD X (compareOp op') y z (.d (.bl k'))) (ha : DE X τ a x) (hb : DE X τ b y) (hc : DE X τ c z)
    (hm : lastMarks [op, op'] [b, c] = false := by with_unfolding_all rfl) : DT X τ (.Compare a [op, op'] [b, c] pos) (k && k') := by
  obtain ⟨r, h1, h2⟩ := ho
  obtain ⟨r', h1', h2'⟩ := ho'
  exact ⟨fun O H σ Q rs q => XT.of (pt_chain h1 h1' (pe_can X a) (pe_can X b) (pe_can X c) hm) (ha.run O H σ _ rs fun v H1 e1 r1 => hb.run O H1 σ _ (rs.mono e1) fun u H2 e2 r2 =>
    h2 H H2 v u _ (r1.mono e2) (r2.back e1) fun w H3 e3 r3 => ⟨k, (by cases r3; rfl), by
      cases k with
      | false =>
        rw [if_neg Bool.false_ne_true]
        exact ⟨false, rfl, q H3 ((e1.trans e2).trans e3)⟩
      | true =>
        rw [if_pos rfl]
        exact hc.run O H3 σ _ ((rs.mono e1).mono (e2.trans e3)) fun w2 H4 e4 r4 => h2' H1 H4 u w2 _ (r2.mono (e3.trans e4)) (r4.back (e2.trans e3)) fun z H5 e5 r5 =>
          ⟨k', (by cases r5; rfl), q H5 ((((e1.trans e2).trans e3).trans e4).trans e5)⟩⟩)⟩

theorem od_int {f : Value → Value → Sem Value} {g : Int → Int → V} {h : Int → Int → D} {i j : Int} (ho : OpR X f (rI0 g)) (hh : ∀ H, TD H (g i j) (h i j)) : OpD X f (.d (.int i)) (.d (.int j)) (.d (h i j)) :=
  ⟨_, ho, fun H0 H v u Q r1 r2 q => by cases r1; cases r2; exact ⟨i, j, rfl, rfl, q _ H (Evl.Ex.refl H) (hh H)⟩⟩
theorem od_intC {f : Value → Value → Sem Value} {C : Int → Int → Prop} {g : Int → Int → V} {h : Int → Int → D} {i j : Int} (ho : OpR X f (rI C g)) (hh : ∀ H, TD H (g i j) (h i j)) (hc : C i j) : OpD X f (.d (.int i)) (.d (.int j)) (.d (h i j)) :=
  ⟨_, ho, fun H0 H v u Q r1 r2 q => by cases r1; cases r2; exact ⟨i, j, rfl, rfl, hc, q _ H (Evl.Ex.refl H) (hh H)⟩⟩
theorem od_add {i j : Int} : OpD X (binaryOp .Add) (.d (.int i)) (.d (.int j)) (.d (.int (i + j))) := od_int (h := fun i j => .int (i + j)) op_add fun _ => .int _
theorem od_sub {i j : Int} : OpD X (binaryOp .Sub) (.d (.int i)) (.d (.int j)) (.d (.int (i - j))) := od_int (h := fun i j => .int (i - j)) op_sub fun _ => .int _
theorem od_mul {i j : Int} (h : CMul i j) : OpD X (binaryOp .Mult) (.d (.int i)) (.d (.int j)) (.d (.int (i * j))) := od_intC (h := fun i j => .int (i * j)) op_mul (fun _ => .int _) h
theorem od_fdiv {i j : Int} (h : CDivN i j) : OpD X (binaryOp .FloorDiv) (.d (.int i)) (.d (.int j)) (.d (.int (i.fdiv j))) := od_intC (h := fun i j => .int (i.fdiv j)) op_fdivN (fun _ => .int _) h
theorem od_mod {i j : Int} (h : 0 < j) : OpD X (binaryOp .Mod) (.d (.int i)) (.d (.int j)) (.d (.int (i % j))) := od_intC (h := fun i j => .int (i % j)) op_mod (fun _ => .int _) h
theorem od_pow {i j : Int} (h : CPow i j) : OpD X (binaryOp .Pow) (.d (.int i)) (.d (.int j)) (.d (.int (i ^ j.toNat))) := od_intC (h := fun i j => .int (i ^ j.toNat)) op_pow (fun _ => .int _) h
theorem od_lt {i j : Int} : OpD X (compareOp .Lt) (.d (.int i)) (.d (.int j)) (.d (.bl (decide (i < j)))) := od_int (h := fun i j => .bl (decide (i < j))) op_lt fun _ => .bl _
theorem od_le {i j : Int} : OpD X (compareOp .LtE) (.d (.int i)) (.d (.int j)) (.d (.bl (decide (i ≤ j)))) := od_int (h := fun i j => .bl (decide (i ≤ j))) op_le fun _ => .bl _
theorem od_gt {i j : Int} : OpD X (compareOp .Gt) (.d (.int i)) (.d (.int j)) (.d (.bl (decide (j < i)))) := od_int (h := fun i j => .bl (decide (j < i))) op_gt fun _ => .bl _
theorem od_ge {i j : Int} : OpD X (compareOp .GtE) (.d (.int i)) (.d (.int j)) (.d (.bl (decide (j ≤ i)))) := od_int (h := fun i j => .bl (decide (j ≤ i))) op_ge fun _ => .bl _
theorem od_eqI {i j : Int} : OpD X (compareOp .Eq) (.d (.int i)) (.d (.int j)) (.d (.bl (decide (i = j)))) :=
  ⟨_, op_eq, fun H0 H v u Q r1 r2 q => by cases r1; cases r2; exact ⟨rfl, q _ H (Evl.Ex.refl H) (by rw [dec_int, Bool.beq_eq_decide_eq]; exact .bl _)⟩⟩
theorem od_neI {i j : Int} : OpD X (compareOp .NotEq) (.d (.int i)) (.d (.int j)) (.d (.bl (!decide (i = j)))) :=
  ⟨_, op_ne, fun H0 H v u Q r1 r2 q => by cases r1; cases r2; exact ⟨rfl, q _ H (Evl.Ex.refl H) (by rw [dec_int, Bool.beq_eq_decide_eq]; exact .bl _)⟩⟩
theorem od_eqB {i j : Bool} : OpD X (compareOp .Eq) (.d (.bl i)) (.d (.bl j)) (.d (.bl (decide (i = j)))) :=
  ⟨_, op_eq, fun H0 H v u Q r1 r2 q => by cases r1; cases r2; exact ⟨rfl, q _ H (Evl.Ex.refl H) (by rw [dec_bl, Bool.beq_eq_decide_eq]; exact .bl _)⟩⟩
theorem od_eqD {x y : D} (hu : X.A.units + 64 < cLine) (hx : x.nb = true) (hy : y.nb = true) (dx : x.dep ≤ 64) (dy : y.dep ≤ 64) : OpD X (compareOp .Eq) (.d x) (.d y) (.d (.bl (decide (x = y)))) :=
  ⟨_, op_eqD hu, fun H0 H v u Q r1 r2 q => ⟨x.py, y.py, TD.dp _ _ r1, TD.dp _ _ r2, D.shaped hx dx, D.shaped hy dy, q _ H (Evl.Ex.refl H) (by rw [D.eqv_py x y hx hy]; exact .bl _)⟩⟩
theorem od_neD {x y : D} (hu : X.A.units + 64 < cLine) (hx : x.nb = true) (hy : y.nb = true) (dx : x.dep ≤ 64) (dy : y.dep ≤ 64) : OpD X (compareOp .NotEq) (.d x) (.d y) (.d (.bl (!decide (x = y)))) :=
  ⟨_, op_neD hu, fun H0 H v u Q r1 r2 q => ⟨x.py, y.py, TD.dp _ _ r1, TD.dp _ _ r2, D.shaped hx dx, D.shaped hy dy, q _ H (Evl.Ex.refl H) (by rw [D.eqv_py x y hx hy]; exact .bl _)⟩⟩
theorem Rs.lst_dp {g : Ga} {K : PySem.W.Frag} {H0 H : Hp} {v : V} {o : Bool} {xs : List D} (h : Rs g H0 H v (.l o xs)) : Dp K H v (.list (D.pys xs)) :=
  let ⟨p, vs, h1, _, h3, h4⟩ := h; h1 ▸ .lst (SqL.of h3) (TDs.dp _ _ h4)
theorem od_eqL {o o' : Bool} {xs ys : List D} (hu : X.A.units + 64 < cLine) (hx : D.nbs xs = true) (hy : D.nbs ys = true) (dx : D.deps xs ≤ 63) (dy : D.deps ys ≤ 63) : OpD X (compareOp .Eq) (.l o xs) (.l o' ys) (.d (.bl (decide (xs = ys)))) :=
  ⟨_, op_eqD hu, fun H0 H v u Q r1 r2 q => ⟨_, _, r1.lst_dp, r2.lst_dp, D.shapedL hx dx, D.shapedL hy dy, q _ H (Evl.Ex.refl H) (by simp only [PyData.eqv]; rw [D.eqvs_py xs ys hx hy]; exact .bl _)⟩⟩
theorem od_neL {o o' : Bool} {xs ys : List D} (hu : X.A.units + 64 < cLine) (hx : D.nbs xs = true) (hy : D.nbs ys = true) (dx : D.deps xs ≤ 63) (dy : D.deps ys ≤ 63) : OpD X (compareOp .NotEq) (.l o xs) (.l o' ys) (.d (.bl (!decide (xs = ys)))) :=
  ⟨_, op_neD hu, fun H0 H v u Q r1 r2 q => ⟨_, _, r1.lst_dp, r2.lst_dp, D.shapedL hx dx, D.shapedL hy dy, q _ H (Evl.Ex.refl H) (by simp only [PyData.eqv]; rw [D.eqvs_py xs ys hx hy]; exact .bl _)⟩⟩
theorem nbs_mem {xs : List D} (h : D.nbs xs = true) : ∀ x ∈ xs, x.nb = true := by
  induction xs with
  | nil => intro x hx; cases hx
  | cons a r ih =>
    simp only [D.nbs, Bool.and_eq_true] at h
    intro x hx
    rcases List.mem_cons.mp hx with e | e
    · subst e; exact h.1
    · exact ih h.2 x e
theorem any_mem {x : D} {xs : List D} (hx : x.nb = true) (hs : D.nbs xs = true) : ((D.pys xs).any fun z => PyData.eqv z x.py) = decide (x ∈ xs) := by
  induction xs with
  | nil => simp [D.pys]
  | cons a r ih =>
    simp only [D.nbs, Bool.and_eq_true] at hs
    simp only [D.pys, List.any_cons]
    rw [ih hs.2, D.eqv_py a x hs.1 hx, Bool.eq_iff_iff]
    simp only [Bool.or_eq_true, decide_eq_true_eq, List.mem_cons]
    exact ⟨fun h => h.imp Eq.symm id, fun h => h.imp Eq.symm id⟩
theorem od_inL {o : Bool} {x : D} {xs : List D} (hu : X.A.units + 65 < cLine) (hx : x.nb = true) (hs : D.nbs xs = true) (dx : x.dep ≤ 64) (ds : D.deps xs ≤ 63) : OpD X (compareOp .In) (.d x) (.l o xs) (.d (.bl (decide (x ∈ xs)))) :=
  ⟨_, op_inD hu, fun H0 H v u Q r1 r2 q => ⟨_, _, TD.dp _ _ r1, r2.lst_dp, D.shaped hx dx, D.shapedL hs ds, q _ H (Evl.Ex.refl H) (by rw [any_mem hx hs]; exact .bl _)⟩⟩
theorem od_niL {o : Bool} {x : D} {xs : List D} (hu : X.A.units + 65 < cLine) (hx : x.nb = true) (hs : D.nbs xs = true) (dx : x.dep ≤ 64) (ds : D.deps xs ≤ 63) : OpD X (compareOp .NotIn) (.d x) (.l o xs) (.d (.bl (!decide (x ∈ xs)))) :=
  ⟨_, op_notInD hu, fun H0 H v u Q r1 r2 q => ⟨_, _, TD.dp _ _ r1, r2.lst_dp, D.shaped hx dx, D.shapedL hs ds, q _ H (Evl.Ex.refl H) (by rw [any_mem hx hs]; exact .bl _)⟩⟩
theorem od_isN {x : D} : OpD X (compareOp .Is) (.d x) (.d .non) (.d (.bl (decide (x = .non)))) :=
  ⟨_, op_isN, fun H0 H v u Q r1 r2 q => by
    cases r2
    refine ⟨rfl, q _ H (Evl.Ex.refl H) ?_⟩
    have e : decide (v = V.non) = decide (x = D.non) := by cases r1 <;> simp
    rw [e]; exact .bl _⟩
theorem od_cat {o o' : Bool} {xs ys : List D} (hz : xs.length + ys.length ≤ sizeLine) : OpD X (binaryOp .Add) (.l o xs) (.l o' ys) (.l true (xs ++ ys)) :=
  ⟨_, op_cat, fun H0 H v u Q ⟨p, vs, e1, _, h1, t1⟩ ⟨p2, ws, e2, _, h2, t2⟩ q => ⟨p, p2, vs, ws, e1, e2, h1, h2, by rw [t1.length, t2.length]; exact hz, fun r hr =>
    q _ _ (Evl.Ex.new hr) ⟨r, _, rfl, fun _ => hr, upd_same, (t1.append t2).up ((KT.refl H).put_none hr)⟩⟩⟩
end
end BF

set_option Elab.async false
set_option linter.all false
set_option maxRecDepth 100000
set_option maxHeartbeats 1000000
set_option autoImplicit false
/-! Expressions: tests, displays, subscripts, calls. -/
namespace BF
open PySem PySem.Spec PyProof.Rows L2

section
variable {X : Cx} {τ : AE} {e a b c : Expr} {es : List Expr} {pos : Pos}
theorem exr (H : Hp) : Ex H H := Evl.Ex.refl H
/-! ### truth -/
theorem dt_val {k : Bool} (h : DE X τ e (.d (.bl k))) (he : ∀ whole, isTrue e X.env whole = (do let v ← whole; standAt e.pos; holding [v] (truthy v)) := by intro _; rfl) : DT X τ e k :=
  ⟨fun O H σ Q r q => XT.of (pt_val (pe_can X e) he) (h.run O H σ _ r fun v H2 e2 r2 => ⟨k, (by cases r2; rfl), q H2 e2⟩)⟩
theorem dt_not {k : Bool} (h : DT X τ e k) : DT X τ (.UnaryOp .Not e pos) (!k) :=
  ⟨fun O H σ Q r q => XT.of (pt_not (pt_can X e)) (h.run O H σ _ r fun H2 e2 => q H2 e2)⟩
/-- and, or of tests; the last one by its own -/
structure DW (X : Cx) (τ : AE) (op : BoolOp) (es : List Expr) (pos : Pos) (k : Bool) : Prop where
  run : ∀ (O : Addr → Prop) (H : Hp) (σ : L2.St) (Q : Bool → Hp → Prop) (whole : Sem Value) (pins : List (Addr × Obj)) (s : Shared), RS (gaOf X) O H σ τ → (∀ H2, Ex H H2 → Q k H2) → Inv X pins σ H s →
    wpAny (model X.prog X.w) X.A (isTrue (.BoolOp op es pos) X.env whole) (TP X pins σ Q) X.xe s
def canW (X : Cx) (op : BoolOp) (es : List Expr) (pos : Pos) : TT := fun σ H Q => ∀ whole pins s, Inv X pins σ H s → wpAny (model X.prog X.w) X.A (isTrue (.BoolOp op es pos) X.env whole) (TP X pins σ Q) X.xe s
theorem pw_can (X : Cx) (op : BoolOp) (es : List Expr) (pos : Pos) : PW X (.BoolOp op es pos) (canW X op es pos) := ⟨fun wh pins s σ H Q I h => h wh pins s I⟩
theorem dw_and1 {k : Bool} (h : DT X τ e k) : DW X τ .And [e] pos k := ⟨fun O H σ Q wh pins s r q I => (pw_and1 (pt_can X e)).run wh pins s σ H Q I (h.run O H σ _ r q)⟩
theorem dw_or1 {k : Bool} (h : DT X τ e k) : DW X τ .Or [e] pos k := ⟨fun O H σ Q wh pins s r q I => (pw_or1 (pt_can X e)).run wh pins s σ H Q I (h.run O H σ _ r q)⟩
theorem dw_and {k j : Bool} (h : DT X τ a k) (h2 : k = true → DW X τ .And (b :: es) pos j) : DW X τ .And (a :: b :: es) pos (k && j) :=
  ⟨fun O H σ Q wh pins s r q I => (pw_and (pt_can X a) (pw_can X .And (b :: es) pos)).run wh pins s σ H Q I (h.run O H σ _ r fun H2 e2 => by
    cases k with
    | false => exact iteF (q H2 e2)
    | true => exact iteT fun wh' pins' s' I' => (h2 rfl).run O H2 σ Q wh' pins' s' (r.mono e2) (fun H3 e3 => q H3 (e2.trans e3)) I')⟩
theorem dw_or {k j : Bool} (h : DT X τ a k) (h2 : k = false → DW X τ .Or (b :: es) pos j) : DW X τ .Or (a :: b :: es) pos (k || j) :=
  ⟨fun O H σ Q wh pins s r q I => (pw_or (pt_can X a) (pw_can X .Or (b :: es) pos)).run wh pins s σ H Q I (h.run O H σ _ r fun H2 e2 => by
    cases k with
    | true => exact iteT (q H2 e2)
    | false => exact iteF fun wh' pins' s' I' => (h2 rfl).run O H2 σ Q wh' pins' s' (r.mono e2) (fun H3 e3 => q H3 (e2.trans e3)) I')⟩
theorem dt_w {op : BoolOp} {k : Bool} (h : DW X τ op es pos k) : DT X τ (.BoolOp op es pos) k := ⟨fun O H σ Q r q pins s I => h.run O H σ Q _ pins s r q I⟩
/-- as values -/
theorem de_one {op : BoolOp} {v : AV} (h : DE X τ e v) : DE X τ (.BoolOp op [e] pos) v := ⟨fun O H σ Q r q => XE.of (pe_one (pe_can X e)) (h.run O H σ Q r q)⟩
theorem de_and {k j : Bool} (h : DE X τ a (.d (.bl k))) (h2 : k = true → DE X τ (.BoolOp .And (b :: es) pos) (.d (.bl j))) : DE X τ (.BoolOp .And (a :: b :: es) pos) (.d (.bl (k && j))) :=
  ⟨fun O H σ Q r q => XE.of (pe_and (pe_can X a) (pe_can X _)) (h.run O H σ _ r fun v H2 e2 r2 => ⟨k, (by cases r2; rfl), by
    cases k with
    | false => exact iteF (q _ H2 e2 (.bl _))
    | true => exact iteT ((h2 rfl).run O H2 σ Q (r.mono e2) fun u H3 e3 r3 => q u H3 (e2.trans e3) r3)⟩)⟩
theorem de_or {k j : Bool} (h : DE X τ a (.d (.bl k))) (h2 : k = false → DE X τ (.BoolOp .Or (b :: es) pos) (.d (.bl j))) : DE X τ (.BoolOp .Or (a :: b :: es) pos) (.d (.bl (k || j))) :=
  ⟨fun O H σ Q r q => XE.of (pe_or (pe_can X a) (pe_can X _)) (h.run O H σ _ r fun v H2 e2 r2 => ⟨k, (by cases r2; rfl), by
    cases k with
    | true => exact iteT (q _ H2 e2 (.bl _))
    | false => exact iteF ((h2 rfl).run O H2 σ Q (r.mono e2) fun u H3 e3 r3 => q u H3 (e2.trans e3) r3)⟩)⟩
theorem de_not {k : Bool} (h : DE X τ e (.d (.bl k))) : DE X τ (.UnaryOp .Not e pos) (.d (.bl (!k))) :=
  ⟨fun O H σ Q r q => XE.of (pe_not (pe_can X e)) (h.run O H σ _ r fun v H2 e2 r2 => ⟨k, (by cases r2; rfl), q _ H2 e2 (.bl _)⟩)⟩
theorem de_neg {i : Int} (h : DE X τ e (.d (.int i))) : DE X τ (.UnaryOp .USub e pos) (.d (.int (-i))) :=
  ⟨fun O H σ Q r q => XE.of (pe_un un_neg (pe_can X e)) (h.run O H σ _ r fun v H2 e2 r2 => ⟨i, (by cases r2; rfl), q _ H2 e2 (.int _)⟩)⟩
/-- a if c else b -/
theorem de_if {k : Bool} {v : AV} (hc : DT X τ c k) (ha : k = true → DE X τ a v) (hb : k = false → DE X τ b v) : DE X τ (.IfExp c a b pos) v :=
  ⟨fun O H σ Q r q => XE.of (pe_ifExp (pt_can X c) (pe_can X a) (pe_can X b)) (hc.run O H σ _ r fun H2 e2 => by
    cases k with
    | true => exact iteT ((ha rfl).run O H2 σ Q (r.mono e2) fun u H3 e3 r3 => q u H3 (e2.trans e3) (r3.back e2))
    | false => exact iteF ((hb rfl).run O H2 σ Q (r.mono e2) fun u H3 e3 r3 => q u H3 (e2.trans e3) (r3.back e2)))⟩
theorem de_ifd {k : Bool} {x y : D} (hc : DT X τ c k) (ha : k = true → DE X τ a (.d x)) (hb : k = false → DE X τ b (.d y)) : DE X τ (.IfExp c a b pos) (.d (if k = true then x else y)) :=
  de_if hc (fun h => by rw [if_pos h]; exact ha h) fun h => by rw [if_neg (by rw [h]; exact Bool.false_ne_true)]; exact hb h
/-- the same value, said otherwise -/
theorem de_eq {v w : AV} (h : DE X τ e v) (q : v = w) : DE X τ e w := q ▸ h
theorem dt_eq {v w : Bool} (h : DT X τ e v) (q : v = w) : DT X τ e w := q ▸ h

/-! ### displays -/
theorem sz_le {n : Nat} (h : n ≤ 100000) : n ≤ sizeLine := Evl.sz_of h
theorem de_tup {x1 : Nat} {ds : List D} (h : DD X τ es ds) (hz : ds.length ≤ 100000 := by simp) : DE X τ (.Tuple es x1 pos) (.d (.tup ds)) :=
  ⟨fun O H σ Q r q => XE.of (pe_tup (pa_can X es)) (h.run O H σ _ r fun vs H2 e2 t => ⟨by rw [t.length]; exact sz_le hz, fun p hp =>
    q _ _ (e2.trans (Evl.Ex.new hp)) (.tup upd_same (t.up ((KT.refl H2).put_none hp)))⟩)⟩
theorem de_lst {ds : List D} (h : DD X τ es ds) (hz : ds.length ≤ 100000 := by simp) : DE X τ (.List es pos) (.l true ds) :=
  ⟨fun O H σ Q r q => XE.of (pe_lst (pa_can X es)) (h.run O H σ _ r fun vs H2 e2 t => ⟨by rw [t.length]; exact sz_le hz, fun p hp =>
    q _ _ (e2.trans (Evl.Ex.new hp)) ⟨p, vs, rfl, fun _ => Evl.fresh_back e2 hp, upd_same, t.up ((KT.refl H2).put_none hp)⟩⟩)⟩
/-- *e ahead in a display -/
theorem dd_star {o : Bool} {xs ds : List D} {p : Pos} (h : DE X τ e (.l o xs)) (h2 : DD X τ es ds) (hs : starEach (.Starred e p :: es) X.env = (true, eval e X.env) :: starEach es X.env := by rfl) : DD X τ (.Starred e p :: es) (xs ++ ds) :=
  ⟨fun O H σ Q r q => XA.of (StX.pa_star (pe_can X e) (pa_can X es) hs) (h.run O H σ _ r fun v H1 e1 ⟨l, vs, h1, _, h3, h4⟩ => ⟨l, vs, h1, .inr (SqL.of h3), h2.run O H1 σ _ (r.mono e1) fun ws H2 e2 t =>
    q _ H2 (e1.trans e2) ((h4.up (Ex_kt e2)).append t)⟩)⟩

/-! ### subscripts -/
theorem atI_td {H : Hp} {vs : List V} {ds : List D} {i : Int} {d : D} (t : TDs H vs ds) (h : atI ds i = some d) : ∃ v, atI vs i = some v ∧ TD H v d := by
  unfold atI at h ⊢
  rw [t.length]
  cases e : ixN ds.length i with
  | none => rw [e] at h; cases h
  | some j => rw [e] at h; exact t.get h
theorem de_ixL {o : Bool} {xs : List D} {i : Int} {d : D} (ha : DE X τ a (.l o xs)) (hb : DE X τ b (.d (.int i))) (h : atI xs i = some d) (hs : PlainIx b := by intro _ _; rfl) : DE X τ (.Subscript a b pos) (.d d) :=
  ⟨fun O H σ Q r q => XE.of (pe_ix ix_list (pe_can X a) (pe_can X b) hs) (ha.run O H σ _ r fun v H1 e1 ⟨p, vs, h1, _, h3, h4⟩ => hb.run O H1 σ _ (r.mono e1) fun u H2 e2 r2 => by
    obtain ⟨w, hw, tw⟩ := atI_td (h4.up (Ex_kt e2)) h
    exact ⟨p, vs, i, w, h1, (by cases r2; rfl), SqL.of (e2 _ _ h3), hw, q w H2 (e1.trans e2) tw⟩)⟩
theorem de_ixT {xs : List D} {i : Int} {d : D} (ha : DE X τ a (.d (.tup xs))) (hb : DE X τ b (.d (.int i))) (h : atI xs i = some d := by rfl) (hs : PlainIx b := by intro _ _; rfl) : DE X τ (.Subscript a b pos) (.d d) :=
  ⟨fun O H σ Q r q => XE.of (pe_ix ix_tup (pe_can X a) (pe_can X b) hs) (ha.run O H σ _ r fun v H1 e1 r1 => hb.run O H1 σ _ (r.mono e1) fun u H2 e2 r2 => by
    cases r1 with
    | tup h3 h4 =>
      obtain ⟨w, hw, tw⟩ := atI_td (h4.up (Ex_kt e2)) h
      exact ⟨_, _, i, w, rfl, (by cases r2; rfl), SqT.of (e2 _ _ h3), hw, q w H2 (e1.trans e2) tw⟩)⟩
/-- a slice's part -/
structure DO (X : Cx) (τ : AE) (e : Option Expr) (o : Option Int) : Prop where
  run : ∃ t, PO X e t ∧ ∀ (O : Addr → Prop) (H : Hp) (σ : L2.St) (Q : Option Int → Hp → Prop), RS (gaOf X) O H σ τ → (∀ H2, Ex H H2 → Q o H2) → t σ H Q
theorem do_none : DO X τ none none := ⟨_, po_none, fun O H σ Q r q => q H (exr H)⟩
theorem do_some {i : Int} (h : DE X τ e (.d (.int i))) : DO X τ (some e) (some i) :=
  ⟨_, po_some (pe_can X e), fun O H σ Q r q => h.run O H σ _ r fun v H2 e2 r2 => ⟨i, (by cases r2; rfl), q H2 e2⟩⟩
def cutD (xs : List D) (lo hi : Option Int) : List D := (xs.drop (HT.sIx xs.length 0 lo)).take (HT.sIx xs.length xs.length hi - HT.sIx xs.length 0 lo)
theorem cut_td {H : Hp} {vs : List V} {ds : List D} (t : TDs H vs ds) (lo hi : Option Int) : TDs H (cutV vs lo hi) (cutD ds lo hi) := by
  unfold cutV cutD
  rw [t.length]
  exact (t.drop _).take _
theorem de_slL {o : Bool} {xs : List D} {lo hi : Option Expr} {i j : Option Int} {p2 : Pos} (ha : DE X τ a (.l o xs)) (hl : DO X τ lo i) (hh : DO X τ hi j) : DE X τ (.Subscript a (.Slice lo hi none p2) pos) (.l true (cutD xs i j)) := by
  obtain ⟨tl, pl, rl⟩ := hl
  obtain ⟨th, ph, rh⟩ := hh
  exact ⟨fun O H σ Q r q => XE.of (pe_slice sl_list (pe_can X a) pl ph) (ha.run O H σ _ r fun v H1 e1 ⟨p, vs, h1, _, h3, h4⟩ => rl O H1 σ _ (r.mono e1) fun H2 e2 => rh O H2 σ _ ((r.mono e1).mono e2) fun H3 e3 =>
    ⟨p, vs, h1, SqL.of (e3 _ _ (e2 _ _ h3)), fun l hl => q _ _ (((e1.trans e2).trans e3).trans (Evl.Ex.new hl))
      ⟨l, _, rfl, fun _ => Evl.fresh_back ((e1.trans e2).trans e3) hl, upd_same, (cut_td (h4.up (Ex_kt (e2.trans e3))) i j).up ((KT.refl H3).put_none hl)⟩⟩)⟩
/-- of a tuple, not the whole -/
theorem de_slT {xs : List D} {lo hi : Option Expr} {i j : Option Int} {p2 : Pos} (ha : DE X τ a (.d (.tup xs))) (hl : DO X τ lo i) (hh : DO X τ hi j) (hw : ¬ (HT.sIx xs.length 0 i = 0 ∧ HT.sIx xs.length xs.length j = xs.length)) :
    DE X τ (.Subscript a (.Slice lo hi none p2) pos) (.d (.tup (cutD xs i j))) := by
  obtain ⟨tl, pl, rl⟩ := hl
  obtain ⟨th, ph, rh⟩ := hh
  exact ⟨fun O H σ Q r q => XE.of (pe_slice sl_tup (pe_can X a) pl ph) (ha.run O H σ _ r fun v H1 e1 r1 => rl O H1 σ _ (r.mono e1) fun H2 e2 => rh O H2 σ _ ((r.mono e1).mono e2) fun H3 e3 => by
    cases r1 with
    | tup h3 h4 =>
      exact ⟨_, _, rfl, SqT.of (e3 _ _ (e2 _ _ h3)), by rw [h4.length]; exact hw, fun l hl => q _ _ (((e1.trans e2).trans e3).trans (Evl.Ex.new hl))
        (.tup upd_same ((cut_td (h4.up (Ex_kt (e2.trans e3))) i j).up ((KT.refl H3).put_none hl)))⟩)⟩

/-! ### calls of the program's own defs -/
/-- a def's promise: what it gives for which arguments -/
def spR (g : Ga) (R : List AV → AV → Prop) : Sp := fun vs H Q _ => ∃ as r, R as r ∧ RsL g H vs as ∧ ∀ v H', Ex H H' → Rs g H H' v r → Q v H'
structure FnD (g : Ga) (base : Heap) (x : Str) (k : Nat) (ps : List Str) (dvs : List V) (R : List AV → AV → Prop) : Prop where
  ex : ∃ f fd ds, g.mg x = some (.ref f) ∧ PySem.W.keepIn g.K (.ref f) = true ∧ Binds g.K fd ps ds ∧ Vals dvs ds ∧ FnOk g.P g.w g.K g.mg base CX0 k f fd ps (spR g R)
theorem de_call {x : Str} {k : Nat} {ps : List Str} {R : List AV → AV → Prop} {as : List AV} {v : AV} {p : Pos} (F : FnD (gaOf X) X.base x k ps [] R) (hr : Room k X.A) (ha : DA X τ (e :: es) as) (hR : R as v) (hg : Gl X x := by rfl) (hdb : (x == ("__debug__" : Str)) = false := by decide)
    (he : starEach (e :: es) X.env = (false, eval e X.env) :: starEach es X.env := by rfl) (hpl : (backTo pos (starEach es X.env)).any (·.1) = false := by rfl) : DE X τ (.Call (.Name x p) (e :: es) [] pos) v := by
  obtain ⟨f, fd, ds, h1, h2, h3, h4, h5⟩ := F.ex
  exact ⟨fun O H σ Q r q => XE.of (pe_call (E := E0) h5 hr hg h1 h2 h3 h4 pass0 (pa_can X (e :: es)) hdb he hpl) (ha.run O H σ _ r fun vs H1 e1 r1 => by
    show spR (gaOf X) R (vs ++ []) H1 Q E0
    rw [List.append_nil]
    exact ⟨as, v, hR, r1, fun u H2 e2 r2 => q u H2 (e1.trans e2) (r2.back e1)⟩)⟩
/-! ### built-ins -/
def BuD (X : Cx) (f : Value) (as : List AV) (c : AV) : Prop :=
  ∃ r, CallR X f r ∧ ∀ (H : Hp) (vs : List V) (Q : VK), RsL (gaOf X) H vs as → (∀ z H2, Ex H H2 → Rs (gaOf X) H H2 z c → Q z H2) → r vs H Q
theorem de_cb {x : Str} {id : String} {as : List AV} {v : AV} {p : Pos} (ho : BuD X (.builtin id) as v) (ha : DA X τ (e :: es) as) (hm : X.mg x = none) (hv : bootBuiltins x = some (.builtin id)) (hg : Gl X x := by rfl) (hn : x ≠ "__name__" := by decide) (hdb : (x == ("__debug__" : Str)) = false := by decide)
    (he : starEach (e :: es) X.env = (false, eval e X.env) :: starEach es X.env := by rfl) (hpl : (backTo pos (starEach es X.env)).any (·.1) = false := by rfl) : DE X τ (.Call (.Name x p) (e :: es) [] pos) v := by
  obtain ⟨r, h1, h2⟩ := ho
  exact ⟨fun O H σ Q rs q => XE.of (pe_callB h1 hg hm hv (pa_can X (e :: es)) hn hdb he hpl) (ha.run O H σ _ rs fun vs H1 e1 r1 => h2 H1 vs Q r1 fun z H2 e2 r2 => q z H2 (e1.trans e2) (r2.back e1))⟩
theorem de_cty {x : Str} {T : String} {as : List AV} {v : AV} {p : Pos} (ho : BuD X (.type T) as v) (ha : DA X τ (e :: es) as) (hm : X.mg x = none) (hv : bootBuiltins x = some (.type T)) (hg : Gl X x := by rfl) (hn : x ≠ "__name__" := by decide) (hdb : (x == ("__debug__" : Str)) = false := by decide)
    (he : starEach (e :: es) X.env = (false, eval e X.env) :: starEach es X.env := by rfl) (hpl : (backTo pos (starEach es X.env)).any (·.1) = false := by rfl) : DE X τ (.Call (.Name x p) (e :: es) [] pos) v := by
  obtain ⟨r, h1, h2⟩ := ho
  exact ⟨fun O H σ Q rs q => XE.of (pe_callTy h1 hg hm hv (pa_can X (e :: es)) hn hdb he hpl) (ha.run O H σ _ rs fun vs H1 e1 r1 => h2 H1 vs Q r1 fun z H2 e2 r2 => q z H2 (e1.trans e2) (r2.back e1))⟩
theorem rsl1 {g : Ga} {H : Hp} {vs : List V} {a : AV} (h : RsL g H vs [a]) : ∃ v, vs = [v] ∧ Sl g (fun _ => False) H v a := by
  cases h with | cons h1 h2 => cases h2; exact ⟨_, rfl, h1⟩
theorem rsl2 {g : Ga} {H : Hp} {vs : List V} {a b : AV} (h : RsL g H vs [a, b]) : ∃ v u, vs = [v, u] ∧ Sl g (fun _ => False) H v a ∧ Sl g (fun _ => False) H u b := by
  cases h with | cons h1 h2 => cases h2 with | cons h3 h4 => cases h4; exact ⟨_, _, rfl, h1, h3⟩
theorem bu_abs {i : Int} : BuD X (.builtin "abs") [.d (.int i)] (.d (.int (if i < 0 then -i else i))) :=
  ⟨_, call_abs, fun H vs Q r q => by obtain ⟨v, rfl, h⟩ := rsl1 r; cases h; exact ⟨i, rfl, q _ H (exr H) (.int _)⟩⟩
theorem bu_max2 {i j : Int} (hc : X.calm = true) : BuD X (.builtin "max") [.d (.int i), .d (.int j)] (.d (.int (if j > i then j else i))) :=
  ⟨_, call_max2 hc, fun H vs Q r q => by obtain ⟨v, u, rfl, h, h'⟩ := rsl2 r; cases h; cases h'; exact ⟨i, j, rfl, q _ H (exr H) (.int _)⟩⟩
theorem bu_min2 {i j : Int} (hc : X.calm = true) : BuD X (.builtin "min") [.d (.int i), .d (.int j)] (.d (.int (if j < i then j else i))) :=
  ⟨_, call_min2 hc, fun H vs Q r q => by obtain ⟨v, u, rfl, h, h'⟩ := rsl2 r; cases h; cases h'; exact ⟨i, j, rfl, q _ H (exr H) (.int _)⟩⟩
theorem bu_lenL {o : Bool} {xs : List D} : BuD X (.builtin "len") [.l o xs] (.d (.int xs.length)) :=
  ⟨_, call_len_seq, fun H vs Q r q => by
    obtain ⟨v, rfl, p, ws, rfl, _, h3, h4⟩ := rsl1 r
    exact ⟨p, ws, rfl, .inl (SqL.of h3), q _ H (exr H) (by rw [h4.length]; exact .int _)⟩⟩
theorem bu_lenT {xs : List D} : BuD X (.builtin "len") [.d (.tup xs)] (.d (.int xs.length)) :=
  ⟨_, call_len_seq, fun H vs Q r q => by
    obtain ⟨v, rfl, h⟩ := rsl1 r
    cases h with
    | tup h3 h4 => exact ⟨_, _, rfl, .inr (SqT.of h3), q _ H (exr H) (by rw [h4.length]; exact .int _)⟩⟩
theorem ty_intI {i : Int} : BuD X (.type "int") [.d (.int i)] (.d (.int i)) :=
  ⟨_, call_int1, fun H vs Q r q => by obtain ⟨v, rfl, h⟩ := rsl1 r; cases h; exact .inl ⟨i, rfl, q _ H (exr H) (.int _)⟩⟩
theorem ty_intB {i : Bool} : BuD X (.type "int") [.d (.bl i)] (.d (.int (if i then 1 else 0))) :=
  ⟨_, call_int1, fun H vs Q r q => by obtain ⟨v, rfl, h⟩ := rsl1 r; cases h; exact .inr ⟨i, rfl, q _ H (exr H) (.int _)⟩⟩
theorem ty_listL {o : Bool} {xs : List D} : BuD X (.type "list") [.l o xs] (.l true xs) :=
  ⟨_, call_list_of, fun H vs Q r q => by
    obtain ⟨v, rfl, p, ws, rfl, _, h3, h4⟩ := rsl1 r
    exact ⟨p, ws, rfl, .inl (SqL.of h3), fun l hl => q _ _ (Evl.Ex.new hl) ⟨l, ws, rfl, fun _ => hl, upd_same, h4.up ((KT.refl H).put_none hl)⟩⟩⟩
theorem ty_tupL {o : Bool} {xs : List D} : BuD X (.type "tuple") [.l o xs] (.d (.tup xs)) :=
  ⟨_, call_tuple_of, fun H vs Q r q => by
    obtain ⟨v, rfl, p, ws, rfl, _, h3, h4⟩ := rsl1 r
    exact ⟨p, ws, rfl, .inl ⟨SqL.of h3, fun l hl => q _ _ (Evl.Ex.new hl) (.tup upd_same (h4.up ((KT.refl H).put_none hl)))⟩⟩⟩
theorem bu_all {o : Bool} {bs : List Bool} (hc : X.calm = true) : BuD X (.builtin "all") [.l o (bs.map D.bl)] (.d (.bl (bs.all id))) :=
  ⟨_, cr_all hc, fun H vs Q r q => by
    obtain ⟨v, rfl, p, ws, rfl, _, h3, h4⟩ := rsl1 r
    rw [h4.of_bls] at h3
    exact ⟨p, bs, rfl, SqL.of h3, q _ H (exr H) (.bl _)⟩⟩
theorem bu_maxL {o : Bool} {ns : List Int} {m : Int} (hc : X.calm = true) (h1 : m ∈ ns) (h2 : ∀ y ∈ ns, y ≤ m) : BuD X (.builtin "max") [.l o (ns.map D.int)] (.d (.int m)) :=
  ⟨_, cr_max hc, fun H vs Q r q => by
    obtain ⟨v, rfl, p, ws, rfl, _, h3, h4⟩ := rsl1 r
    rw [h4.of_ints] at h3
    exact ⟨p, ns, rfl, SqL.of h3, List.length_pos_of_mem h1, fun k k1 k2 => q _ H (exr H) (by rw [Int.le_antisymm (h2 k k1) (k2 m h1)]; exact .int _)⟩⟩
theorem bu_minL {o : Bool} {ns : List Int} {m : Int} (hc : X.calm = true) (h1 : m ∈ ns) (h2 : ∀ y ∈ ns, m ≤ y) : BuD X (.builtin "min") [.l o (ns.map D.int)] (.d (.int m)) :=
  ⟨_, cr_min hc, fun H vs Q r q => by
    obtain ⟨v, rfl, p, ws, rfl, _, h3, h4⟩ := rsl1 r
    rw [h4.of_ints] at h3
    exact ⟨p, ns, rfl, SqL.of h3, List.length_pos_of_mem h1, fun k k1 k2 => q _ H (exr H) (by rw [Int.le_antisymm (k2 m h1) (h2 k k1)]; exact .int _)⟩⟩
end
end BF

set_option Elab.async false
set_option linter.all false
set_option maxRecDepth 100000
set_option maxHeartbeats 1000000
set_option autoImplicit false
/-! Statements over abstract values. -/
namespace BF
open PySem PySem.Spec PyProof.Rows L2

/-- what may be kept at a name -/
def AV.stor : AV → Bool
  | .l o _ => o
  | .m _ _ => false
  | .ll _ _ => false
  | _ => true
def more (O : Addr → Prop) (p : Addr) : Addr → Prop := fun q => O q ∨ q = p
section
variable {g : Ga} {O : Addr → Prop} {H H2 : Hp} {v u : V} {a b : AV} {p : Addr}
theorem VOk.wid (hp : H p = none) : ∀ {x : D ⊕ List D}, VOk O H v x → VOk (more O p) H v x
  | .inl _, h => h
  | .inr _, ⟨q, vs, h1, h2, h3, h4⟩ => ⟨q, vs, h1, fun z => Or.elim z h2 fun e => (by rw [e, hp] at h3; cases h3), h3, h4⟩
theorem DicOk.wid (hp : H p = none) {q : Addr} {kvs : List (D × (D ⊕ List D))} (h : DicOk g O H q kvs) : DicOk g (more O p) H q kvs :=
  let ⟨es, h1, h2, h3⟩ := h
  ⟨es, h1, Paired.mapP h2 fun _ _ ⟨kV, vV, q1, q2, q3, q4, q5⟩ => ⟨kV, vV, q1, q2, q3, q4, q5.wid hp⟩, h3⟩
theorem Sl.wid (hp : H p = none) : ∀ {a : AV}, Sl g O H v a → Sl g (more O p) H v a
  | .d _, h => h
  | .l _ _, ⟨q, vs, h1, h2, h3, h4⟩ => ⟨q, vs, h1, ⟨fun z => Or.elim z h2.mp fun e => (by rw [e, hp] at h3; cases h3), fun z => .inl (h2.mpr z)⟩, h3, h4⟩
  | .m _ _, ⟨q, h1, h2, h3⟩ => ⟨q, h1, ⟨fun z => Or.elim z h2.mp fun e => (by obtain ⟨es, h4, _⟩ := h3; rw [e, hp] at h4; cases h4), fun z => .inl (h2.mpr z)⟩, h3.wid hp⟩
  | .pr _, h => h
  | .kp _, h => h
  | .ll _ _, ⟨t, p', q, vs, ws, h1, h2, h3, h4, h5, h6⟩ => ⟨t, p', q, vs, ws, h1, h2, ⟨fun z => Or.elim z h3.1 fun e => (by rw [e, hp] at h4; cases h4), fun z => Or.elim z h3.2 fun e => (by rw [e, hp] at h5; cases h5)⟩, h4, h5, h6⟩
/-- where a list or a dict stands, something stands -/
theorem Sl.ref_there (h : Sl g O H v a) (ho : a.own = true) : ∃ q, v = .ref q ∧ O q ∧ H q ≠ none := by
  cases a with
  | d x => cases ho
  | pr x => cases ho
  | kp x => cases ho
  | ll x y => cases ho
  | l o xs =>
    obtain ⟨q, vs, h1, h2, h3, h4⟩ := h
    exact ⟨q, h1, h2.mpr ho, by rw [h3]; simp⟩
  | m o xs =>
    obtain ⟨q, h1, h2, es, h3, h4⟩ := h
    exact ⟨q, h1, h2.mpr ho, by rw [h3]; simp⟩
theorem set_at {α : Type} {l : List α} {i j : Nat} {x y : α} (h : (l.set i x)[j]? = some y) : (j = i ∧ y = x ∧ i < l.length) ∨ (j ≠ i ∧ l[j]? = some y) := by
  by_cases e : j = i
  · subst e
    rw [List.getElem?_set] at h
    simp only [if_pos rfl] at h
    by_cases hl : j < l.length
    · rw [if_pos hl] at h; exact .inl ⟨rfl, (Option.some.inj h).symm, hl⟩
    · rw [if_neg hl] at h; cases h
  · rw [List.getElem?_set_ne (Ne.symm e)] at h
    exact .inr ⟨e, h⟩
/-- a value is stored -/
theorem RS.put {σ : L2.St} {τ : AE} {i : Nat} (r : RS g O H σ τ) (e : Ex H H2) (h : Rs g H H2 v a) (hs : a.stor = true) :
    ∃ O', RS g O' H2 (σ.set i (some v)) (τ.set i (some a)) ∧ ∀ p, O' p → O p ∨ H p = none := by
  have r2 := r.mono e
  have plain : (∀ O, Sl g O H2 v a) → a.own = false → ∃ O', RS g O' H2 (σ.set i (some v)) (τ.set i (some a)) ∧ ∀ p, O' p → O p ∨ H p = none := fun hv ho => by
    refine ⟨O, ⟨by rw [List.length_set, List.length_set]; exact r.len, fun j b hj => ?_, fun j k b c u ne hj hk hb hc sj sk => ?_, r2.wf⟩, fun p => .inl⟩
    · rcases set_at hj with ⟨rfl, q, hl⟩ | ⟨ne, q⟩
      · cases q
        exact ⟨v, by rw [List.getElem?_set_self (by rw [r.len]; exact hl)], hv O⟩
      · obtain ⟨u, h1, h2⟩ := r2.at_ j b q
        exact ⟨u, by rw [List.getElem?_set_ne (Ne.symm ne)]; exact h1, h2⟩
    · rcases set_at hj with ⟨rfl, q, _⟩ | ⟨n1, q1⟩
      · cases q; rw [ho] at hb; cases hb
      · rcases set_at hk with ⟨rfl, q, _⟩ | ⟨n2, q2⟩
        · cases q; rw [ho] at hc; cases hc
        · rw [List.getElem?_set_ne (Ne.symm n1)] at sj
          rw [List.getElem?_set_ne (Ne.symm n2)] at sk
          exact r.sep j k b c u ne q1 q2 hb hc sj sk
  cases a with
  | d x => exact plain (fun O => h) rfl
  | pr x => exact plain (fun O => h) rfl
  | kp x => exact plain (fun O => h) rfl
  | ll x y => cases hs
  | m o x => cases hs
  | l o xs =>
    have ho : o = true := hs
    subst ho
    obtain ⟨p, vs, rfl, h1, h2, h3⟩ := h
    have hp : H p = none := h1 rfl
    refine ⟨more O p, ⟨by rw [List.length_set, List.length_set]; exact r.len, fun j b hj => ?_, fun j k b c u ne hj hk hb hc sj sk => ?_, fun q hq => ?_⟩, fun q hq => hq.imp id fun z => by rw [z]; exact hp⟩
    · rcases set_at hj with ⟨rfl, q, hl⟩ | ⟨ne, q⟩
      · cases q
        exact ⟨.ref p, by rw [List.getElem?_set_self (by rw [r.len]; exact hl)], p, vs, rfl, ⟨fun _ => rfl, fun _ => .inr rfl⟩, h2, h3⟩
      · obtain ⟨u, h4, h5⟩ := r.at_ j b q
        exact ⟨u, by rw [List.getElem?_set_ne (Ne.symm ne)]; exact h4, (h5.wid hp).mono e⟩
    · have other : ∀ (m : Nat) (d : AV), m ≠ i → τ[m]? = some (some d) → d.own = true → σ[m]? = some (some (V.ref p)) → False := fun m d _ hm hd sm => by
        obtain ⟨w, w1, w2⟩ := r.at_ m d hm
        rw [sm] at w1; cases w1
        obtain ⟨q, z1, _, z3⟩ := w2.ref_there hd
        cases z1
        exact z3 hp
      rcases set_at hj with ⟨rfl, q, hl⟩ | ⟨n1, q1⟩
      · rw [List.getElem?_set_self (by rw [r.len]; exact hl)] at sj
        cases sj
        rcases set_at hk with ⟨z, _, _⟩ | ⟨n2, q2⟩
        · exact ne z.symm
        · rw [List.getElem?_set_ne (Ne.symm n2)] at sk
          exact other k c n2 q2 hc sk
      · rw [List.getElem?_set_ne (Ne.symm n1)] at sj
        rcases set_at hk with ⟨rfl, q, hl⟩ | ⟨n2, q2⟩
        · rw [List.getElem?_set_self (by rw [r.len]; exact hl)] at sk
          cases sk
          exact other j b n1 q1 hb sj
        · rw [List.getElem?_set_ne (Ne.symm n2)] at sk
          exact r.sep j k b c u ne q1 q2 hb hc sj sk
    · rcases hq with z | z
      · exact r2.wf q z
      · rw [z, h2]; trivial
/-- data is stored, the heap as it is -/
theorem RS.putD {σ : L2.St} {τ : AE} {i : Nat} {x : D} (r : RS g O H σ τ) (h : TD H v x) : RS g O H (σ.set i (some v)) (τ.set i (some (.d x))) := by
  refine ⟨by rw [List.length_set, List.length_set]; exact r.len, fun j b hj => ?_, fun j k b c u ne hj hk hb hc sj sk => ?_, r.wf⟩
  · rcases set_at hj with ⟨rfl, q, hl⟩ | ⟨ne, q⟩
    · cases q
      exact ⟨v, by rw [List.getElem?_set_self (by rw [r.len]; exact hl)], h⟩
    · obtain ⟨u, h1, h2⟩ := r.at_ j b q
      exact ⟨u, by rw [List.getElem?_set_ne (Ne.symm ne)]; exact h1, h2⟩
  · rcases set_at hj with ⟨rfl, q, _⟩ | ⟨n1, q1⟩
    · cases q; cases hb
    · rcases set_at hk with ⟨rfl, q, _⟩ | ⟨n2, q2⟩
      · cases q; cases hc
      · rw [List.getElem?_set_ne (Ne.symm n1)] at sj
        rw [List.getElem?_set_ne (Ne.symm n2)] at sk
        exact r.sep j k b c u ne q1 q2 hb hc sj sk
theorem VOk.keep {o : HO} (hO : O p) (k : KT H (upd H p o)) : ∀ {x : D ⊕ List D}, VOk O H v x → VOk O (upd H p o) v x
  | .inl _, h => TD.up h k
  | .inr _, ⟨q, vs, h1, h2, h3, h4⟩ => ⟨q, vs, h1, h2, by rw [upd_ne (fun z => h2 (by rw [z]; exact hO))]; exact h3, h4.up k⟩
theorem DicOk.keep {o : HO} (hO : O p) (k : KT H (upd H p o)) {q : Addr} (ne : q ≠ p) {kvs : List (D × (D ⊕ List D))} (h : DicOk g O H q kvs) : DicOk g O (upd H p o) q kvs :=
  let ⟨es, h1, h2, h3⟩ := h
  ⟨es, by rw [upd_ne ne]; exact h1, Paired.mapP h2 fun _ _ ⟨kV, vV, q1, q2, q3, q4, q5⟩ => ⟨kV, vV, q1, q2.up k, q3, q4, q5.keep hO k⟩, h3⟩
/-- another owned thing changes -/
theorem Sl.keep {o : HO} (hO : O p) (hl : Lo (H p)) (hv : a.own = true → v ≠ .ref p) (h : Sl g O H v a) : Sl g O (upd H p o) v a := by
  have k : KT H (upd H p o) := fun b xs hb => by
    have ne : b ≠ p := fun z => by rw [z] at hb; rw [hb] at hl; exact hl
    rw [upd_ne ne]; exact hb
  cases a with
  | d x => exact TD.up h k
  | l own xs =>
    obtain ⟨q, vs, h1, h2, h3, h4⟩ := h
    have ne : q ≠ p := fun z => by
      cases own with
      | true => exact hv rfl (by rw [h1, z])
      | false => have := h2.mp (by rw [z]; exact hO); cases this
    exact ⟨q, vs, h1, h2, by rw [upd_ne ne]; exact h3, h4.up k⟩
  | m own xs =>
    obtain ⟨q, h1, h2, h3⟩ := h
    have ne : q ≠ p := fun z => by
      cases own with
      | true => exact hv rfl (by rw [h1, z])
      | false => have := h2.mp (by rw [z]; exact hO); cases this
    exact ⟨q, h1, h2, h3.keep hO k ne⟩
  | pr cs =>
    obtain ⟨q, h1, C, dx, fs, t, h2, h3, h4, h5⟩ := h
    have ne : q ≠ p := fun z => by rw [← z, h2] at hl; exact hl
    exact ⟨q, h1, C, dx, fs, t, by rw [upd_ne ne]; exact h2, h3, TD.up h4 k, h5⟩
  | kp x => exact h
  | ll x y =>
    obtain ⟨t, p', q, vs, ws, h1, h2, h3, h4, h5, h6, h7⟩ := h
    exact ⟨t, p', q, vs, ws, h1, k _ _ h2, h3, by rw [upd_ne (fun z => h3.1 (by rw [z]; exact hO))]; exact h4, by rw [upd_ne (fun z => h3.2 (by rw [z]; exact hO))]; exact h5, h6.up k, h7.up k⟩
theorem lo_kt {o : HO} (hl : Lo (H p)) : KT H (upd H p o) := fun b xs hb => by
  have ne : b ≠ p := fun z => by rw [z] at hb; rw [hb] at hl; exact hl
  rw [upd_ne ne]; exact hb
/-- an owned thing at slot i changes -/
theorem RS.wr {σ : L2.St} {τ : AE} {i : Nat} {o : HO} (r : RS g O H σ τ) (hi : τ[i]? = some (some a)) (ha : a.own = true) (hs : σ[i]? = some (some (.ref p))) (hO : O p) (hb : b.own = true) (lo : Lo (some o)) (h : Sl g O (upd H p o) (.ref p) b) :
    RS g O (upd H p o) σ (τ.set i (some b)) := by
  have hl := r.wf p hO
  refine ⟨by rw [List.length_set]; exact r.len, fun j c hj => ?_, fun j k c d u ne hj hk hc hd sj sk => ?_, fun q hq => ?_⟩
  · rcases set_at hj with ⟨rfl, q, _⟩ | ⟨ne, q⟩
    · cases q; exact ⟨.ref p, hs, h⟩
    · obtain ⟨u, h1, h2⟩ := r.at_ j c q
      refine ⟨u, h1, h2.keep hO hl fun hc z => ?_⟩
      subst z
      exact r.sep j i c a (.ref p) ne q hi hc ha h1 hs
  · have back : ∀ (m : Nat) (e : AV), (τ.set i (some b))[m]? = some (some e) → ∃ e', τ[m]? = some (some e') ∧ (e.own = true → e'.own = true) := fun m e hm => by
      rcases set_at hm with ⟨rfl, q, _⟩ | ⟨_, q⟩
      · exact ⟨a, hi, fun _ => ha⟩
      · exact ⟨e, q, id⟩
    obtain ⟨c', hc1, hc2⟩ := back j c hj
    obtain ⟨d', hd1, hd2⟩ := back k d hk
    exact r.sep j k c' d' u ne hc1 hd1 (hc2 hc) (hd2 hd) sj sk
  · by_cases z : q = p
    · rw [z, upd_same]; exact lo
    · rw [upd_ne z]; exact r.wf q hq
/-- a list is no longer changed -/
theorem RS.seal {σ : L2.St} {τ : AE} {i : Nat} {xs : List D} (r : RS g O H σ τ) (hi : τ[i]? = some (some (.l true xs))) : ∃ O', RS g O' H σ (τ.set i (some (.l false xs))) ∧ ∀ p, O' p → O p := by
  obtain ⟨v, hv, p, vs, rfl, h2, h3, h4⟩ := r.at_ i _ hi
  have hO : O p := h2.mpr rfl
  have ent : ∀ {w : V} {x : D ⊕ List D}, VOk O H w x → VOk (fun q => O q ∧ q ≠ p) H w x := fun {w x} hx => by
    cases x with
    | inl d => exact hx
    | inr d => obtain ⟨q, ws, z1, z2, z3⟩ := hx; exact ⟨q, ws, z1, fun y => z2 y.1, z3⟩
  have dic : ∀ {q : Addr} {kvs : List (D × (D ⊕ List D))}, DicOk g O H q kvs → DicOk g (fun q => O q ∧ q ≠ p) H q kvs := fun {q kvs} hd =>
    let ⟨es, h1, h2, h3⟩ := hd
    ⟨es, h1, Paired.mapP h2 fun _ _ ⟨kV, vV, q1, q2, q3, q4, q5⟩ => ⟨kV, vV, q1, q2, q3, q4, ent q5⟩, h3⟩
  refine ⟨fun q => O q ∧ q ≠ p, ⟨by rw [List.length_set]; exact r.len, fun j c hj => ?_, fun j k c d u ne hj hk hc hd sj sk => ?_, fun q hq => r.wf q hq.1⟩, fun q hq => hq.1⟩
  · rcases set_at hj with ⟨rfl, q, _⟩ | ⟨ne, q⟩
    · cases q; exact ⟨.ref p, hv, p, vs, rfl, ⟨fun z => absurd rfl z.2, fun z => by cases z⟩, h3, h4⟩
    · obtain ⟨u, u1, u2⟩ := r.at_ j c q
      refine ⟨u, u1, ?_⟩
      cases c with
      | d x => exact u2
      | pr x => exact u2
      | kp x => exact u2
      | ll x y =>
        obtain ⟨t, p', q', vs', ws', z1, z2, z3, z4⟩ := u2
        exact ⟨t, p', q', vs', ws', z1, z2, ⟨fun y => z3.1 y.1, fun y => z3.2 y.1⟩, z4⟩
      | l own x =>
        obtain ⟨q', ws, z1, z2, z3⟩ := u2
        refine ⟨q', ws, z1, ⟨fun z => z2.mp z.1, fun z => ⟨z2.mpr z, fun y => ?_⟩⟩, z3⟩
        exact r.sep j i _ _ (.ref p) ne q hi z rfl (by rw [u1, z1, y]) hv
      | m own x =>
        obtain ⟨q', z1, z2, z3⟩ := u2
        refine ⟨q', z1, ⟨fun z => z2.mp z.1, fun z => ⟨z2.mpr z, fun y => ?_⟩⟩, dic z3⟩
        exact r.sep j i _ _ (.ref p) ne q hi z rfl (by rw [u1, z1, y]) hv
  · rcases set_at hj with ⟨rfl, q, _⟩ | ⟨n1, q1⟩
    · cases q; cases hc
    · rcases set_at hk with ⟨rfl, q, _⟩ | ⟨n2, q2⟩
      · cases q; cases hd
      · exact r.sep j k c d u ne q1 q2 hc hd sj sk
end

/-! ### statements -/
/-- G: what stands as it stood -/
def SI (X : Cx) (G : Hp) (τ : AE) (σ : L2.St) (H : Hp) : Prop := ∃ O, RS (gaOf X) O H σ τ ∧ Ex G H ∧ ∀ p, O p → G p = none
structure DS (X : Cx) (τ : AE) (sts : List Stmt) (N : AE → Prop) (R : AV → Prop) : Prop where
  run : ∀ (G : Hp) (D : Ends) (σ : L2.St) (H : Hp), Ex X.H_0 G → SI X G τ σ H → (∀ τ' σ' H', N τ' → SI X G τ' σ' H' → D.nx σ' H') →
    (∀ a v H', R a → Ex G H' → Rs (gaOf X) X.H_0 H' v a → D.rt v H') → XSs X D σ H sts
section
variable {X : Cx} {τ : AE} {st : Stmt} {sts : List Stmt} {N : AE → Prop} {R : AV → Prop} {e c : Expr} {A B : List Stmt} {pos : Pos}
theorem ds_nil (h : N τ) : DS X τ [] N R := ⟨fun G D σ H _ I n _ => XSs.of pss_nil (n τ σ H h I)⟩
theorem DS.imp {N' : AE → Prop} {R' : AV → Prop} (h : DS X τ sts N R) (hn : ∀ t, N t → N' t) (hr : ∀ a, R a → R' a) : DS X τ sts N' R' :=
  ⟨fun G D σ H x I n r => h.run G D σ H x I (fun t s h' q => n t s h' (hn t q)) fun a v h' q => r a v h' (hr a q)⟩
/-- name = e -/
theorem ds_set {x : Str} {p' : Pos} {a : AV} (i : Nat) (he : DE X τ e a) (k : DS X (τ.set i (some a)) sts N R) (hs : a.stor = true := by rfl) (hN : X.N.Nodup := by assumption) (hi : X.N[i]? = some x := by rfl) (hx : Loc X.env.scope x := by first | exact Or.inl rfl | exact Or.inr rfl)
    (hsw : swapsWith e (some (.Name x p')) pos.line X.env = pure false := by rfl) (hf : X.fn x = true ∨ X.env.scope.names.lookup x = some .local := by first | exact .inl rfl | exact .inr rfl) : DS X τ (.Assign [.Name x p'] e pos :: sts) N R :=
  ⟨fun G D σ H x0 ⟨O, rs, eg, og⟩ n r => XSs.of (pss_cons (ps_set hN hi hx (pe_can X e) hsw hf) (pss_can X sts)) (he.run O H σ _ rs fun v H2 e2 r2 => by
    obtain ⟨O', rs', ho⟩ := rs.put (i := i) e2 r2 hs
    exact k.run G D _ H2 x0 ⟨O', rs', eg.trans e2, fun p hp => (ho p hp).elim (og p) fun z => Evl.fresh_back eg z⟩ n r)⟩
/-- return e -/
theorem ds_ret {a : AV} (he : DE X τ e a) (h : R a) : DS X τ (.Return (some e) pos :: sts) N R :=
  ⟨fun G D σ H x0 ⟨O, rs, eg, og⟩ n r => XSs.of (pss_cons (ps_ret (pe_can X e)) (pss_can X sts)) (he.run O H σ _ rs fun v H2 e2 r2 => r a v H2 h (eg.trans e2) (r2.back (x0.trans eg)))⟩
/-- return name, a list of its own -/
theorem ds_retL {x : Str} {xs : List D} {pp : Pos} (i : Nat) (h : R (.l true xs)) (ht : τ[i]? = some (some (.l true xs)) := by rfl) (hN : X.N[i]? = some x := by rfl)
    (hv : Vis X.env.scope x := by first | exact Or.inl rfl | exact Or.inr (Or.inl rfl) | exact Or.inr (Or.inr rfl)) (hd : (x == ("__debug__" : Str)) = false := by decide) (hc : (x == ("__classdict__" : Str)) = false := by decide) : DS X τ (.Return (some (.Name x pp)) pos :: sts) N R :=
  ⟨fun G D σ H x0 ⟨O, rs, eg, og⟩ n r => XSs.of (pss_cons (ps_ret (pe_var hN hv hd hc)) (pss_can X sts)) (by
    obtain ⟨u, h1, p, vs, rfl, h3, h4, h5⟩ := rs.at_ i _ ht
    exact ⟨.ref p, h1, r _ _ H h eg ⟨p, vs, rfl, fun _ => Evl.fresh_back x0 (og p (h3.mpr rfl)), h4, h5⟩⟩)⟩
theorem ds_if {k : Bool} (hc : DT X τ c k) (h1 : k = true → DS X τ A (fun t => DS X t sts N R) R) (h2 : k = false → DS X τ B (fun t => DS X t sts N R) R) : DS X τ (.If c A B pos :: sts) N R :=
  ⟨fun G D σ H x0 ⟨O, rs, eg, og⟩ n r => XSs.of (pss_cons (ps_if (pt_can X c) (pss_can X A) (pss_can X B)) (pss_can X sts)) (hc.run O H σ _ rs fun H2 e2 => by
    have I2 : SI X G τ σ H2 := ⟨O, rs.mono e2, eg.trans e2, og⟩
    cases k with
    | true => exact iteT ((h1 rfl).run G _ σ H2 x0 I2 (fun t s' h' q I' => q.run G D s' h' x0 I' n r) r)
    | false => exact iteF ((h2 rfl).run G _ σ H2 x0 I2 (fun t s' h' q I' => q.run G D s' h' x0 I' n r) r))⟩
/-- a statement that is never come to -/
theorem ds_never (h : False) : DS X τ sts N R := h.elim
theorem ds_seal {xs : List D} (i : Nat) (k : DS X (τ.set i (some (.l false xs))) sts N R) (hi : τ[i]? = some (some (.l true xs)) := by rfl) : DS X τ sts N R :=
  ⟨fun G D σ H x0 ⟨O, rs, eg, og⟩ n r => by
    obtain ⟨O', rs', ho⟩ := rs.seal hi
    exact k.run G D σ H x0 ⟨O', rs', eg, fun p hp => og p (ho p hp)⟩ n r⟩
/-- xs.append(e), xs at slot i -/
theorem ds_app {x : Str} {xs : List D} {d : D} {p1 ap cp : Pos} (i : Nat) (he : DE X τ e (.d d)) (hz : xs.length < 100000) (k : DS X (τ.set i (some (.l true (xs ++ [d])))) sts N R) (hi : τ[i]? = some (some (.l true xs)) := by rfl) (hN : X.N[i]? = some x := by rfl)
    (hv : Vis X.env.scope x := by first | exact Or.inl rfl | exact Or.inr (Or.inl rfl) | exact Or.inr (Or.inr rfl)) (hd : (x == ("__debug__" : Str)) = false := by decide) (hc : (x == ("__classdict__" : Str)) = false := by decide)
    (hbase : attributeBase (.Name x p1) "append" X.env (eval (.Name x p1) X.env) = eval (.Name x p1) X.env := by rfl) (hline : (ap.endLine == cp.line) = true := by rfl) (hs : starEach [e] X.env = (false, eval e X.env) :: starEach [] X.env := by rfl)
    (hfew : ((backTo cp (starEach [e] X.env)).all (fun x => !x.1) && (backToKw cp (keywordEach [] X.env)).all (fun x => x.1.isSome) && decide ([e].length + ([] : List Keyword).length + (if ([] : List Keyword).isEmpty then 0 else 1) < 30)) = true := by rfl)
    (hsw : swapsWith (.Call (.Attribute (.Name x p1) "append" ap) [e] [] cp) none pos.line X.env = pure false := by rfl) :
    DS X τ (.Expr (.Call (.Attribute (.Name x p1) "append" ap) [e] [] cp) pos :: sts) N R :=
  ⟨fun G D σ H x0 ⟨O, rs, eg, og⟩ n r => XSs.of (pss_cons (ps_expr (pe_bm PySem.F.plainAttrs_list PySem.F.slot_list_append PySem.F.type_list_append mt_append (pe_var hN hv hd hc) (pa_cons (pe_can X e) pa_nil hs) hbase hfew hline hs) hsw) (pss_can X sts)) (by
    obtain ⟨u, h1, p, vs, rfl, h3, h4, h5⟩ := rs.at_ i _ hi
    refine ⟨.ref p, h1, Or.inl ⟨rfl, vs, SqL.of h4⟩, he.run O H σ _ rs fun v H2 e2 r2 => ⟨p, vs, v, rfl, rfl, e2 _ _ h4, by rw [h5.length]; exact Evl.sz_lt hz, ?_⟩⟩
    have rs2 := rs.mono e2
    have hO := h3.mpr rfl
    have kt := lo_kt (o := .lst (vs ++ [v])) (rs2.wf p hO)
    refine k.run G D σ _ x0 ⟨O, rs2.wr hi rfl h1 hO rfl trivial ⟨p, _, rfl, h3, upd_same, ((h5.up (Ex_kt e2)).append (TDs.one r2)).up kt⟩, Evl.Ex.mut (eg.trans e2) (og p hO), og⟩ n r)⟩
end
end BF

set_option Elab.async false
set_option linter.all false
set_option maxRecDepth 100000
set_option maxHeartbeats 1000000
set_option autoImplicit false
/-! Targets, loops, defs. -/
namespace BF
open PySem PySem.Spec PyProof.Rows L2

/-! ### targets -/
def XG (X : Cx) (tg : Expr) (v : V) (σ : L2.St) (H : Hp) (Q : L2.St → Hp → Prop) : Prop :=
  ∀ pins s u, Inv X pins σ H s → RelV v u → wpAny (model X.prog X.w) X.A (assign tg X.env u) (fun _ s' => ∃ σ' H', Inv X pins σ' H' s' ∧ Q σ' H') X.xe s
theorem pg_can (X : Cx) (tg : Expr) : PG X tg fun v σ H Q => XG X tg v σ H Q := ⟨fun pins s σ H v u Q I r h => h pins s u I r⟩
theorem XG.of {X : Cx} {tg : Expr} {g : TG} {v : V} {σ : L2.St} {H : Hp} {Q : L2.St → Hp → Prop} (h : PG X tg g) (q : g v σ H Q) : XG X tg v σ H Q := fun pins s u I r => h.run pins s σ H v u Q I r q
def XGs (X : Cx) (ts : List Expr) (vs : List V) (σ : L2.St) (H : Hp) (Q : L2.St → Hp → Prop) : Prop :=
  ∀ pins s us, Inv X pins σ H s → Vals vs us → wpAny (model X.prog X.w) X.A (assignInOrder ((assignEach ts X.env).map (·.2)) us) (fun _ s' => ∃ σ' H', Inv X pins σ' H' s' ∧ Q σ' H') X.xe s
theorem pgs_can (X : Cx) (ts : List Expr) : PGs X ts fun vs σ H Q => XGs X ts vs σ H Q := ⟨fun pins s σ H vs us Q I r h => h pins s us I r⟩
theorem XGs.of {X : Cx} {ts : List Expr} {g : TGs} {vs : List V} {σ : L2.St} {H : Hp} {Q : L2.St → Hp → Prop} (h : PGs X ts g) (q : g vs σ H Q) : XGs X ts vs σ H Q := fun pins s us I r => h.run pins s σ H vs us Q I r q
/-- data goes to a target -/
structure DG (X : Cx) (τ : AE) (tg : Expr) (d : D) (τ' : AE) : Prop where
  run : ∀ (O : Addr → Prop) (H : Hp) (σ : L2.St) (v : V) (Q : L2.St → Hp → Prop), RS (gaOf X) O H σ τ → TD H v d → (∀ σ', RS (gaOf X) O H σ' τ' → Q σ' H) → XG X tg v σ H Q
structure DGs (X : Cx) (τ : AE) (ts : List Expr) (ds : List D) (τ' : AE) : Prop where
  run : ∀ (O : Addr → Prop) (H : Hp) (σ : L2.St) (vs : List V) (Q : L2.St → Hp → Prop), RS (gaOf X) O H σ τ → TDs H vs ds → (∀ σ', RS (gaOf X) O H σ' τ' → Q σ' H) → XGs X ts vs σ H Q
section
variable {X : Cx} {τ τ1 τ2 : AE} {e : Expr} {es : List Expr} {pos : Pos}
theorem dg_name {x : Str} {d : D} (i : Nat) (hN : X.N.Nodup := by assumption) (hi : X.N[i]? = some x := by rfl) (hx : Loc X.env.scope x := by first | exact Or.inl rfl | exact Or.inr rfl)
    (hf : X.fn x = true ∨ X.env.scope.names.lookup x = some .local := by first | exact .inl rfl | exact .inr rfl) : DG X τ (.Name x pos) d (τ.set i (some (.d d))) :=
  ⟨fun O H σ v Q r t q => XG.of (pg_name hN hi hx hf) (q _ (r.putD t))⟩
theorem dgs_nil : DGs X τ [] [] τ := ⟨fun O H σ vs Q r t q => XGs.of pgs_nil (by cases t; exact ⟨rfl, q σ r⟩)⟩
theorem dgs_cons {d : D} {ds : List D} (h1 : DG X τ e d τ1) (h2 : DGs X τ1 es ds τ2) (hs : (assignEach (e :: es) X.env).map (·.2) = assign e X.env :: (assignEach es X.env).map (·.2) := by rfl) : DGs X τ (e :: es) (d :: ds) τ2 :=
  ⟨fun O H σ vs Q r t q => XGs.of (pgs_cons (pg_can X e) (pgs_can X es) hs) (by
    cases t with
    | cons t1 t2 => exact ⟨_, _, rfl, h1.run O H σ _ _ r t1 fun σ' r' => h2.run O H σ' _ _ r' t2 q⟩)⟩
theorem dg_tup {k : Nat} {ds : List D} (h : DGs X τ es ds τ2) (hl : ds.length = es.length := by rfl) (hc : X.calm = true := by rfl) (hn : (assignEach es X.env).length = es.length := by rfl) (hst : (assignEach es X.env).findIdx? (·.1) = none := by rfl) : DG X τ (.Tuple es k pos) (.tup ds) τ2 :=
  ⟨fun O H σ v Q r t q => XG.of (pg_tup hc (pgs_can X es) hn hst) (by
    cases t with
    | tup t1 t2 => exact ⟨_, _, rfl, SqT.of t1, t2.length.trans hl, h.run O H σ _ _ r t2 q⟩)⟩
end

section
variable {X : Cx} {τ τ2 : AE} {st : Stmt} {sts : List Stmt} {N : AE → Prop} {R : AV → Prop} {e c tg : Expr} {A B body : List Stmt} {pos : Pos}
/-- (a, b, ..) = e, names or patterns -/
theorem ds_asg {d : D} (he : DE X τ e (.d d)) (hg : DG X τ tg d τ2) (k : DS X τ2 sts N R) (hs : swapsWithSole [tg] e pos.line X.env = pure false := by rfl) (hw : swappedStores [tg] e X.env = pure none := by rfl)
    (h1 : (assignEach [tg] X.env).map (·.2) = [assign tg X.env] := by rfl) : DS X τ (.Assign [tg] e pos :: sts) N R :=
  ⟨fun G D σ H x0 ⟨O, rs, eg, og⟩ n r => XSs.of (pss_cons (ps_asg (pe_can X e) (pg_can X tg) hs hw h1) (pss_can X sts)) (he.run O H σ _ rs fun v H2 e2 r2 =>
    hg.run O H2 σ v _ (rs.mono e2) r2 fun σ' rs' => k.run G D σ' H2 x0 ⟨O, rs', eg.trans e2, og⟩ n r)⟩
/-- a, b = e1, e2 at once, data -/
theorem ds_par {x y : Str} {a b : Expr} {d1 d2 : D} {px py pt : Pos} {kt k2 : Nat} {pt2 : Pos} (i j : Nat) (ha : DD X τ [a, b] [d1, d2]) (k : DS X ((τ.set i (some (.d d1))).set j (some (.d d2))) sts N R) (hij : i ≠ j := by decide) (hc : X.calm = true := by rfl) (hN : X.N.Nodup := by assumption) (hi : X.N[i]? = some x := by rfl) (hj : X.N[j]? = some y := by rfl)
    (hx : X.env.scope.names.lookup x = some .local := by rfl) (hy : X.env.scope.names.lookup y = some .local := by rfl)
    (hw : swappedStores [.Tuple [.Name x px, .Name y py] kt pt] (.Tuple [a, b] k2 pt2) X.env = pure (some [x, y]) := by rfl)
    (hs : swapsWithSole [.Tuple [.Name x px, .Name y py] kt pt] (.Tuple [a, b] k2 pt2) pos.line X.env = pure false := by rfl) : DS X τ (.Assign [.Tuple [.Name x px, .Name y py] kt pt] (.Tuple [a, b] k2 pt2) pos :: sts) N R :=
  ⟨fun G D σ H x0 ⟨O, rs, eg, og⟩ n r => XSs.of (pss_cons (ps_par hc hN hi hj hij hx hy (pa_can X [a, b]) hw hs) (pss_can X sts)) (ha.run O H σ _ rs fun vs H2 e2 t => by
    cases t with
    | cons t1 t2 =>
      cases t2 with
      | cons t2 t3 =>
        cases t3
        exact ⟨_, _, rfl, k.run G D _ H2 x0 ⟨O, ((rs.mono e2).putD t1).putD t2, eg.trans e2, og⟩ n r⟩)⟩

/-! ### loops -/
def XI (X : Cx) (tg iter : Expr) (σ : L2.St) (H : Hp) (R : It → Hp → Prop) : Prop :=
  ∀ pins s, Inv X pins σ H s → wpAny (model X.prog X.w) X.A (eval iter X.env) (fun v s1 => wpAny (model X.prog X.w) X.A (pyIter v) (PIE X pins σ tg R) X.xe s1) X.xe s
theorem pi_can (X : Cx) (tg iter : Expr) : PI X tg iter fun σ H R => XI X tg iter σ H R := ⟨fun pins s σ H R I h => h pins s I⟩
theorem XI.of {X : Cx} {tg iter : Expr} {wi : TI} {σ : L2.St} {H : Hp} {R : It → Hp → Prop} (h : PI X tg iter wi) (q : wi σ H R) : XI X tg iter σ H R := fun pins s I => h.run pins s σ H R I q
/-- what is not owned -/
noncomputable def rst (O : Addr → Prop) (H : Hp) : Hp := fun b => open Classical in if O b then none else H b
theorem rst_in {O : Addr → Prop} {H : Hp} {b : Addr} (h : ¬ O b) : rst O H b = H b := if_neg h
theorem rst_out {O : Addr → Prop} {H : Hp} {b : Addr} (h : O b) : rst O H b = none := if_pos h
theorem rst_ex {O : Addr → Prop} {H : Hp} : Ex (rst O H) H := fun b o h => by
  by_cases hb : O b
  · rw [rst_out hb] at h; cases h
  · rw [rst_in hb] at h; exact h
theorem rst_kt {g : Ga} {O : Addr → Prop} {H : Hp} {σ : L2.St} {τ : AE} (r : RS g O H σ τ) : KT H (rst O H) := fun b xs h => by
  have hb : ¬ O b := fun z => by have q := r.wf b z; rw [h] at q; exact q
  rw [rst_in hb]; exact h
/-- an iterator gives the items ds, one by one, wherever G stands -/
def ItOk (J : It) (ds : List D) (G : Hp) : Prop := ∀ (i : Nat) (H' : Hp), Ex G H' →
  (i < ds.length → J.go i H' ∧ ∀ x H'', J.yld i H' x H'' → Ex H' H'' ∧ ∃ d, ds[i]? = some d ∧ TD H'' x d) ∧ (ds.length ≤ i → J.stop i H')
structure DI (X : Cx) (τ : AE) (tg iter : Expr) (ds : List D) : Prop where
  run : ∀ (O : Addr → Prop) (H : Hp) (σ : L2.St) (R : It → Hp → Prop), RS (gaOf X) O H σ τ → (∀ J H1, Ex H H1 → ItOk J ds (rst O H1) → R J H1) → XI X tg iter σ H R
theorem itok_list {K : PySem.W.Frag} {a : Addr} {vs : List V} {ds : List D} {G : Hp} (h : G a = some (.lst vs)) (t : TDs G vs ds) : ItOk (Itl K a) ds G := fun i H' e => by
  have uniq : ∀ xs, SqL K H' a xs → (∃ o, H' a = some o) → True := fun _ _ _ => trivial
  refine ⟨fun hi => ⟨⟨vs, vs[i]'(by rw [t.length]; exact hi), SqL.of (e _ _ h), List.getElem?_eq_getElem _⟩, fun x H'' y => ?_⟩, fun hi => ⟨vs, SqL.of (e _ _ h), by rw [t.length]; exact hi⟩⟩
  obtain ⟨rfl, y⟩ := y
  obtain ⟨d, h1, h2⟩ := t.get' (y vs (SqL.of (e _ _ h)))
  exact ⟨exr _, d, h1, h2.up (Ex_kt e)⟩
theorem itok_tup {K : PySem.W.Frag} {a : Addr} {vs : List V} {ds : List D} {G : Hp} (h : G a = some (.tup vs)) (t : TDs G vs ds) : ItOk (Itt K a) ds G := fun i H' e => by
  refine ⟨fun hi => ⟨⟨vs, vs[i]'(by rw [t.length]; exact hi), SqT.of (e _ _ h), List.getElem?_eq_getElem _⟩, fun x H'' y => ?_⟩, fun hi => ⟨vs, SqT.of (e _ _ h), by rw [t.length]; exact hi⟩⟩
  obtain ⟨rfl, y⟩ := y
  obtain ⟨d, h1, h2⟩ := t.get' (y vs (SqT.of (e _ _ h)))
  exact ⟨exr _, d, h1, h2.up (Ex_kt e)⟩
/-- a name that holds a list, not its own to change -/
theorem di_var {x : Str} {xs : List D} (i : Nat) (ht : τ[i]? = some (some (.l false xs)) := by rfl) (hN : X.N[i]? = some x := by rfl)
    (hv : Vis X.env.scope x := by first | exact Or.inl rfl | exact Or.inr (Or.inl rfl) | exact Or.inr (Or.inr rfl)) (hd : (x == ("__debug__" : Str)) = false := by decide) (hc : (x == ("__classdict__" : Str)) = false := by decide) :
    DI X τ tg (.Name x pos) xs := ⟨fun O H σ R r q => XI.of (pi_list (pe_var hN hv hd hc)) (by
  obtain ⟨u, h1, p, vs, rfl, h3, h4, h5⟩ := r.at_ i _ ht
  have nO : ¬ O p := fun z => by cases h3.mp z
  exact ⟨_, h1, p, rfl, ⟨vs, SqL.of h4⟩, q _ H (exr H) (itok_list (by rw [rst_in nO]; exact h4) (h5.up (rst_kt r)))⟩)⟩
/-- a new list -/
theorem di_new {xs : List D} (he : DE X τ e (.l true xs)) : DI X τ tg e xs := ⟨fun O H σ R r q => XI.of (pi_list (pe_can X e)) (he.run O H σ _ r fun v H2 e2 ⟨p, vs, h1, h2, h3, h4⟩ => by
  subst h1
  have nO : ¬ O p := fun z => r.there z (h2 rfl)
  exact ⟨p, rfl, ⟨vs, SqL.of h3⟩, q _ H2 e2 (itok_list (by rw [rst_in nO]; exact h3) (h4.up (rst_kt (r.mono e2))))⟩)⟩
theorem di_tup {xs : List D} (he : DE X τ e (.d (.tup xs))) : DI X τ tg e xs := ⟨fun O H σ R r q => XI.of (pi_tup (pe_can X e)) (he.run O H σ _ r fun v H2 e2 t => by
  cases t with
  | tup t1 t2 =>
    have kt := rst_kt (r.mono e2)
    exact ⟨_, rfl, ⟨_, SqT.of t1⟩, q _ H2 e2 (itok_tup (kt _ _ t1) (t2.up kt))⟩)⟩
/-- for .. in ..: I, a word by the turn -/
theorem ds_for {ds : List D} (hi : DI X τ tg e ds) (I : Nat → AE → Prop) (h0 : I 0 τ) (step : ∀ i d τ', ds[i]? = some d → I i τ' → ∃ τ2, DG X τ' tg d τ2 ∧ DS X τ2 body (I (i + 1)) R) (done : ∀ τ', I ds.length τ' → DS X τ' sts N R)
    (hp : PassesOwn (model X.prog X.w) X.A X.env X.xe := by exact PassesOwn.never) (hc : X.calm = true := by rfl) (hs : ∀ x, foldedSetIterable e X.env x = pure x := by intro _; rfl) : DS X τ (.For tg e body [] pos :: sts) N R :=
  ⟨fun G D σ H x0 ⟨O, rs, eg, og⟩ n r => XSs.of (pss_cons (ps_for hp hc (pi_can X tg e) (pg_can X tg) (pss_can X body) hs) (pss_can X sts)) (hi.run O H σ _ rs fun J H1 e1 ok => by
    -- what stands through the loop: all that is not owned
    have eG : Ex G (rst O H1) := fun b o hb => by
      have nb : ¬ O b := fun z => by rw [og b z] at hb; cases hb
      rw [rst_in nb]; exact e1 b o (eg b o hb)
    have x1 : Ex X.H_0 (rst O H1) := x0.trans eG
    refine ⟨fun i m σ' H' => m = ds.length - i ∧ i ≤ ds.length ∧ ∃ τ', I i τ' ∧ SI X (rst O H1) τ' σ' H', ⟨ds.length, by simp, Nat.zero_le _, τ, h0, O, rs.mono e1, rst_ex, fun p hp => rst_out hp⟩, ?_⟩
    rintro i m σ' H' ⟨rfl, hi, τ', w, O', rs', eg', og'⟩
    obtain ⟨ok1, ok2⟩ := ok i H' eg'
    by_cases hlt : i < ds.length
    · obtain ⟨go, y⟩ := ok1 hlt
      refine .inr ⟨go, fun σ2 H2 => ∃ τ2, I (i + 1) τ2 ∧ SI X (rst O H1) τ2 σ2 H2, fun σ2 H2 ⟨τ2, w2, s2⟩ => ⟨ds.length - (i + 1), by omega, rfl, hlt, τ2, w2, s2⟩, fun x H'' yx => ?_⟩
      obtain ⟨e2, d, hd, td⟩ := y x H'' yx
      obtain ⟨τ2, dg, dsb⟩ := step i d τ' hd w
      exact dg.run O' H'' σ' x _ (rs'.mono e2) td fun σ2 rs2 => dsb.run (rst O H1) _ σ2 H'' x1 ⟨O', rs2, eg'.trans e2, og'⟩ (fun τ3 σ3 H3 w3 s3 => ⟨τ3, w3, s3⟩) fun a v H3 ra e3 => r a v H3 ra (eG.trans e3)
    · have e : i = ds.length := by omega
      subst e
      exact .inl ⟨ok2 (Nat.le_refl _), (done τ' w).run G D σ' H' x0 ⟨O', rs', eG.trans eg', fun p hp => by
        cases hq : G p with
        | none => rfl
        | some o => have z := eG p o hq; rw [og' p hp] at z; cases z⟩ n r⟩)⟩
/-- while c: I a word, m what falls -/
theorem ds_while (I : AE → Prop) (m : AE → Nat) (h0 : I τ) (step : ∀ τ', I τ' → ∃ k, DT X τ' c k ∧ (k = true → DS X τ' body (fun t => I t ∧ m t < m τ') R) ∧ (k = false → DS X τ' sts N R))
    (hp : PassesOwn (model X.prog X.w) X.A X.env X.xe := by exact PassesOwn.never) : DS X τ (.While c body [] pos :: sts) N R :=
  ⟨fun G D σ H x0 si n r => XSs.of (pss_cons (ps_while hp (pt_can X c) (pss_can X body)) (pss_can X sts)) (by
    refine ⟨fun k σ' H' => ∃ τ', I τ' ∧ m τ' = k ∧ SI X G τ' σ' H', ⟨_, τ, h0, rfl, si⟩, ?_⟩
    rintro k σ' H' ⟨τ', w, rfl, O, rs, eg, og⟩
    obtain ⟨b, hb, h1, h2⟩ := step τ' w
    refine hb.run O H' σ' _ rs fun H2 e2 => ?_
    have s2 : SI X G τ' σ' H2 := ⟨O, rs.mono e2, eg.trans e2, og⟩
    cases b with
    | true => exact ⟨_, fun σ3 H3 z => z, (h1 rfl).run G _ σ' H2 x0 s2 (fun τ3 σ3 H3 ⟨w3, l3⟩ s3 => ⟨m τ3, l3, τ3, w3, rfl, s3⟩) r⟩
    | false => exact (h2 rfl).run G D σ' H2 x0 s2 n r)⟩
end

/-! ### a def keeps its promise -/
def startA (N : List Str) (as : List AV) : AE := as.map some ++ List.replicate (N.length - as.length) none
theorem rsl_len {g : Ga} {H : Hp} {vs : List V} {as : List AV} (h : RsL g H vs as) : vs.length = as.length := Paired.length h
theorem rsl_get {g : Ga} {H : Hp} : ∀ {vs : List V} {as : List AV} {i : Nat} {a : AV}, RsL g H vs as → as[i]? = some a → ∃ v, vs[i]? = some v ∧ Sl g (fun _ => False) H v a
  | _, _, _, _, .nil, e => by simp at e
  | _, _, 0, _, .cons h _, e => by simp at e; subst e; exact ⟨_, rfl, h⟩
  | _, _, i + 1, a, .cons _ t, e => by
    obtain ⟨v, h1, h2⟩ := rsl_get (i := i) (a := a) t (by simpa using e)
    exact ⟨v, by simpa using h1, h2⟩
theorem start_rs {g : Ga} {H : Hp} {N : List Str} {vs : List V} {as : List AV} (h : RsL g H vs as) (hn : ∀ a ∈ as, a.own = false) : RS g (fun _ => False) H (L2.start N vs) (startA N as) := by
  have hl := rsl_len h
  have at_ : ∀ (i : Nat) (a : AV), (startA N as)[i]? = some (some a) → as[i]? = some a := fun i a e => by
    unfold startA at e
    by_cases hi : i < as.length
    · rw [List.getElem?_append_left (by simpa using hi), List.getElem?_map] at e
      cases q : as[i]? with
      | none => rw [q] at e; cases e
      | some b => rw [q] at e; cases e; rfl
    · rw [List.getElem?_append_right (by simpa using hi), List.getElem?_replicate] at e
      split at e <;> cases e
  refine ⟨by simp [L2.start, startA, hl], fun i a e => ?_, fun i j a b v ne h1 h2 o1 => ?_, fun p hp => hp.elim⟩
  · have ha := at_ i a e
    obtain ⟨v, h1, h2⟩ := rsl_get h ha
    have hi : i < vs.length := (List.getElem?_eq_some_iff.mp h1).1
    exact ⟨v, by unfold L2.start; rw [List.getElem?_append_left (by simpa using hi), List.getElem?_map, h1]; rfl, h2⟩
  · rw [hn a (List.mem_of_getElem? (at_ i a h1))] at o1; cases o1
section
variable {g : Ga} {base : Heap}
/-- THE RULE for a def that lets nothing out -/
theorem fnd_of {x qual : Str} {st : Stmt} {f : Addr} {fd : FuncData} {N ps : List Str} {k : Nat} {R : List AV → AV → Prop} (hm : g.mg x = some (.ref f)) (F : Fun g.K x qual st f fd) (hb : Binds g.K fd ps []) (S : FnScope N ps (defScope st))
    (len : ∀ as r, R as r → as.length = ps.length) (own : ∀ as r, R as r → ∀ a ∈ as, a.own = false)
    (body : ∀ (cdv : Value) (A : Around) (outer : List Env) (s : Shared) (H : Hp) (E : XK) (as : List AV) (r : AV), Room k (A.deeper (envOfC qual (defScope st) s.heap.objs.size f cdv)) → R as r →
      DS (cxOf CX0 g.P g.w g.K g.mg base N qual (defScope st) f cdv A outer s H E).nox (startA N as) (defBody st) (fun _ => r = .d .non) (fun a => a = r)) : FnD g base x (k + 1) ps [] R := by
  refine ⟨f, fd, [], hm, F.kp, hb, .nil, F.ok S (fun vs H Q E h => ?_) fun cdv A outer s H vs Q E hr h => ?_⟩
  · obtain ⟨as, r, h1, h2, _⟩ := h
    rw [rsl_len h2]; exact len as r h1
  · obtain ⟨as, r, h1, h2, h3⟩ := h
    refine ⟨_, pss_can _ _, (body cdv A outer s H E as r hr h1).run H _ _ H (exr H) ⟨fun _ => False, start_rs h2 (own as r h1), exr H, fun p hp => hp.elim⟩ (fun τ' σ' H' hn ⟨O, _, eg, _⟩ => ?_) fun a v H' ha e ra => ?_⟩
    · exact h3 _ H' eg (by rw [hn]; exact .non)
    · subst ha
      exact h3 v H' e ra
end
end BF

set_option Elab.async false
set_option linter.all false
set_option maxRecDepth 100000
set_option maxHeartbeats 1000000
set_option autoImplicit false
/-! isinstance, comprehensions, enumerate and zip. -/
namespace BF
open PySem PySem.Spec PyProof.Rows L2

def D.ty : D → String
  | .non => "NoneType"
  | .bl _ => "bool"
  | .int _ => "int"
  | .str _ => "str"
  | .tup _ => "tuple"
def D.isI : D → Bool
  | .bl _ => true
  | .int _ => true
  | _ => false
def D.isB : D → Bool
  | .bl _ => true
  | _ => false
def AV.isLT : AV → Bool
  | .d (.tup _) => true
  | .l _ _ => true
  | _ => false
section
variable {X : Cx} {τ : AE} {e : Expr} {pos : Pos}
theorem td_ty {K : PySem.W.Frag} {H : Hp} {v : V} {x : D} (h : TD H v x) : TyX K H v (.type x.ty) := by
  cases h with
  | non => exact .base .non
  | bl b => exact .base (.bl b)
  | int i => exact .base (.int i)
  | str s => exact .base (.str s)
  | tup h1 h2 => exact .base (.tup h1)
theorem kit_int : ∀ x : D, kitB x.ty "int" = some x.isI
  | .non => (by decide +kernel : kitB "NoneType" "int" = some false)
  | .bl _ => (by decide +kernel : kitB "bool" "int" = some true)
  | .int _ => (by decide +kernel : kitB "int" "int" = some true)
  | .str _ => (by decide +kernel : kitB "str" "int" = some false)
  | .tup _ => (by decide +kernel : kitB "tuple" "int" = some false)
theorem kit_bool : ∀ x : D, kitB x.ty "bool" = some x.isB
  | .non => (by decide +kernel : kitB "NoneType" "bool" = some false)
  | .bl _ => (by decide +kernel : kitB "bool" "bool" = some true)
  | .int _ => (by decide +kernel : kitB "int" "bool" = some false)
  | .str _ => (by decide +kernel : kitB "str" "bool" = some false)
  | .tup _ => (by decide +kernel : kitB "tuple" "bool" = some false)
theorem kit_list : ∀ x : D, kitB x.ty "list" = some false
  | .non => (by decide +kernel : kitB "NoneType" "list" = some false)
  | .bl _ => (by decide +kernel : kitB "bool" "list" = some false)
  | .int _ => (by decide +kernel : kitB "int" "list" = some false)
  | .str _ => (by decide +kernel : kitB "str" "list" = some false)
  | .tup _ => (by decide +kernel : kitB "tuple" "list" = some false)
theorem kit_tup : ∀ x : D, kitB x.ty "tuple" = some (AV.isLT (.d x))
  | .non => (by decide +kernel : kitB "NoneType" "tuple" = some false)
  | .bl _ => (by decide +kernel : kitB "bool" "tuple" = some false)
  | .int _ => (by decide +kernel : kitB "int" "tuple" = some false)
  | .str _ => (by decide +kernel : kitB "str" "tuple" = some false)
  | .tup _ => (by decide +kernel : kitB "tuple" "tuple" = some true)
/-- isinstance(e, T) -/
theorem de_isi {x : D} {n : Str} {T : String} {b : Bool} {p p2 : Pos} (he : DE X τ e (.d x)) (hk : kitB x.ty T = some b) (hm : X.mg "isinstance" = none) (hn : X.mg n = none) (hb : bootBuiltins n = some (.type T)) (hg : Gl X "isinstance" := by rfl) (hg2 : Gl X n := by rfl)
    (n1 : n ≠ "__name__" := by decide) (n2 : (n == ("__debug__" : Str)) = false := by decide) (hs : starEach [e, .Name n p2] X.env = (false, eval e X.env) :: starEach [.Name n p2] X.env := by rfl)
    (hs2 : starEach [.Name n p2] X.env = (false, eval (.Name n p2) X.env) :: starEach [] X.env := by rfl) (hpl : (backTo pos (starEach [.Name n p2] X.env)).any (·.1) = false := by rfl) :
    DE X τ (.Call (.Name "isinstance" p) [e, .Name n p2] [] pos) (.d (.bl b)) :=
  ⟨fun O H σ Q rs q => XE.of (pe_callB call_isi hg hm PyProof.Rows.boot_isinstance (pa_cons (pe_can X e) (pa_cons (pe_bltn (v := .ty T) hg2 hn hb rfl n1 n2) pa_nil hs2) hs) (by decide) (by decide) hs hpl)
    (he.run O H σ _ rs fun v H1 e1 r1 => ⟨v, .ty T, _, _, b, rfl, .ty T, td_ty r1, kit_ty hk, q _ H1 e1 (.bl b)⟩)⟩
/-- isinstance(e, (list, tuple)) -/
theorem de_isLT {a : AV} {p p2 p3 p4 : Pos} {k4 : Nat} (he : DE X τ e a) (ha : match a with | .m _ _ => False | .pr _ => False | .kp _ => False | .ll _ _ => False | _ => True) (hm : X.mg "isinstance" = none) (hl : X.mg "list" = none) (ht : X.mg "tuple" = none) (hg : Gl X "isinstance" := by rfl) (hgl : Gl X "list" := by rfl) (hgt : Gl X "tuple" := by rfl)
    (hs : starEach [e, .Tuple [.Name "list" p2, .Name "tuple" p3] k4 p4] X.env = (false, eval e X.env) :: starEach [.Tuple [.Name "list" p2, .Name "tuple" p3] k4 p4] X.env := by rfl)
    (hs2 : starEach [.Tuple [.Name "list" p2, .Name "tuple" p3] k4 p4] X.env = (false, eval (.Tuple [.Name "list" p2, .Name "tuple" p3] k4 p4) X.env) :: starEach [] X.env := by rfl)
    (hs3 : starEach [.Name "list" p2, .Name "tuple" p3] X.env = (false, eval (.Name "list" p2) X.env) :: starEach [.Name "tuple" p3] X.env := by rfl) (hs4 : starEach [.Name "tuple" p3] X.env = (false, eval (.Name "tuple" p3) X.env) :: starEach [] X.env := by rfl)
    (hpl : (backTo pos (starEach [.Tuple [.Name "list" p2, .Name "tuple" p3] k4 p4] X.env)).any (·.1) = false := by rfl) :
    DE X τ (.Call (.Name "isinstance" p) [e, .Tuple [.Name "list" p2, .Name "tuple" p3] k4 p4] [] pos) (.d (.bl a.isLT)) :=
  ⟨fun O H σ Q rs q => XE.of (pe_callB call_isiT hg hm PyProof.Rows.boot_isinstance (pa_cons (pe_can X e) (pa_cons (pe_tup (pa_cons (pe_bltn (v := .ty "list") hgl hl PyProof.Rows.boot_list rfl) (pa_cons (pe_bltn (v := .ty "tuple") hgt ht PyProof.Rows.boot_tuple rfl) pa_nil hs4) hs3)) pa_nil hs2) hs) (by decide) (by decide) hs hpl)
    (he.run O H σ _ rs fun v H1 e1 r1 => ⟨by show 2 ≤ sizeLine; decide, fun tp htp => by
      have two : Paired ClsV [V.ty "list", V.ty "tuple"] [Value.type "list", Value.type "tuple"] := .cons (.ty _) (.cons (.ty _) .nil)
      have fin : Q (.bl a.isLT) (upd H1 tp (.tup [V.ty "list", V.ty "tuple"])) := q _ _ (e1.trans (Evl.Ex.new htp)) (.bl _)
      cases a with
      | m o k => exact ha.elim
      | pr c => exact ha.elim
      | kp c => exact ha.elim
      | ll _ _ => exact ha.elim
      | d x =>
        have r2 : TD (upd H1 tp (.tup [V.ty "list", V.ty "tuple"])) v x := TD.up r1 ((KT.refl H1).put_none htp)
        exact ⟨v, tp, _, _, _, _, rfl, upd_same, two, td_ty r2, kitAny_cons (kit_ty (kit_list x)) (fun _ => kitAny_cons (kit_ty (kit_tup x)) (fun z => by rw [kitAny_nil, z]) fun z => z) (fun z => by cases z), fin⟩
      | l o xs =>
        obtain ⟨l, vs, rfl, _, h3, _⟩ := r1
        exact ⟨.ref l, tp, _, .type "list", _, _, rfl, upd_same, two, .base (.lst (by rw [upd_ne (ne_of_none h3 htp)]; exact h3)), kitAny_cons (b := true) (kit_ty (by decide +kernel)) (fun z => by cases z) (fun _ => rfl), fin⟩⟩)⟩
end

/-! ### comprehensions -/
section
variable {X : Cx} {τ : AE} {tg iter elt c : Expr} {ifs : List Expr} {pos : Pos}
abbrev bX (X : Cx) (scope : Scope) (s : Shared) (H : Hp) (C : Addr) (cl : List (Str × Addr)) (fp : List Addr) : Cx := X.blk s H scope (compEnvC scope cl C X.env) fp
theorem pts_blk {scope : Scope} {s : Shared} {H : Hp} {C : Addr} {cl : List (Str × Addr)} {fp : List Addr} :
    PTs (bX X scope s H C cl fp) ifs fun σ H' Q => ∀ s H C cl fp pins s', Inv (bX X scope s H C cl fp) pins σ H' s' →
      wpAny (model X.prog X.w) X.A (forIn ifs true fun c r => if r = true then do let ok ← isTrue c (compEnvC scope cl C X.env) (eval c (compEnvC scope cl C X.env)); pure (ForInStep.yield ok) else pure (ForInStep.yield r)) (TP (bX X scope s H C cl fp) pins σ Q) (fun _ _ => False) s' :=
  ⟨fun pins s' σ H' Q I h => h s H C cl fp pins s' I⟩
/-- a clause's tests, abstractly: none, or one -/
structure DTs (X : Cx) (τ : AE) (ifs : List Expr) (b : Bool) : Prop where
  run : ∀ (O : Addr → Prop) (H : Hp) (σ : L2.St) (Q : Bool → Hp → Prop) (pins : List (Addr × Obj)) (s : Shared), RS (gaOf X) O H σ τ → (∀ H2, Ex H H2 → Q b H2) → Inv X pins σ H s →
    wpAny (model X.prog X.w) X.A (forIn ifs true fun c r => if r = true then do let ok ← isTrue c X.env (eval c X.env); pure (ForInStep.yield ok) else pure (ForInStep.yield r)) (TP X pins σ Q) X.xe s
theorem dts_nil : DTs X τ [] true := ⟨fun O H σ Q pins s r q I => pts_nil.run pins s σ H Q I (q H (exr H))⟩
theorem dts_one {b : Bool} (h : DT X τ c b) : DTs X τ [c] b := ⟨fun O H σ Q pins s r q I => (pts_one (pt_can X c)).run pins s σ H Q I (h.run O H σ Q r q)⟩

def wipeA (τ : AE) : List Nat → AE
  | [] => τ
  | v :: vs => (wipeA τ vs).set v none
theorem wipe_rs {g : Ga} {O : Addr → Prop} {H : Hp} {σ : L2.St} : ∀ {vs : List Nat} {τ : AE}, RS g O H σ τ → RS g O H (wipe σ vs) (wipeA τ vs)
  | [], _, r => r
  | i :: vs, τ, r => by
    have r := wipe_rs (vs := vs) r
    unfold wipe wipeA
    refine ⟨by rw [List.length_set, List.length_set]; exact r.len, fun j a hj => ?_, fun j k a b u ne hj hk ha hb sj sk => ?_, r.wf⟩
    · rcases set_at hj with ⟨_, q, _⟩ | ⟨ne, q⟩
      · cases q
      · obtain ⟨v, h1, h2⟩ := r.at_ j a q
        exact ⟨v, by rw [List.getElem?_set_ne (Ne.symm ne)]; exact h1, h2⟩
    · rcases set_at hj with ⟨_, q, _⟩ | ⟨n1, q1⟩
      · cases q
      · rcases set_at hk with ⟨_, q, _⟩ | ⟨n2, q2⟩
        · cases q
        · rw [List.getElem?_set_ne (Ne.symm n1)] at sj
          rw [List.getElem?_set_ne (Ne.symm n2)] at sk
          exact r.sep j k a b u ne q1 q2 ha hb sj sk
theorem wipe_get (σ : L2.St) : ∀ (us : List Nat) (j : Nat), (wipe σ us)[j]? = if j ∈ us then (if j < σ.length then some none else none) else σ[j]?
  | [], j => by simp [wipe]
  | u :: us, j => by
    show ((wipe σ us).set u none)[j]? = _
    rw [List.getElem?_set, wipe_length, wipe_get σ us j]
    by_cases e : u = j
    · subst e; simp
    · have e' : ¬ j = u := fun z => e z.symm
      by_cases hm : j ∈ us <;> simp [e, e', hm]
/-- the slots that are not named vs stay -/
theorem wipe_idem {σ σ2 : L2.St} {vs : List Nat} (hl : σ2.length = σ.length) (h : ∀ j, j ∉ vs → σ2[j]? = σ[j]?) : wipe σ2 vs = wipe σ vs := by
  refine List.ext_getElem? fun j => ?_
  rw [wipe_get, wipe_get, hl]
  by_cases hm : j ∈ vs
  · rw [if_pos hm, if_pos hm]
  · rw [if_neg hm, if_neg hm]; exact h j hm
/-- data goes to a target of the names vs alone -/
structure DGw (X : Cx) (τ : AE) (tg : Expr) (d : D) (τ' : AE) (vs : List Nat) : Prop where
  run : ∀ (O : Addr → Prop) (H : Hp) (σ : L2.St) (v : V) (Q : L2.St → Hp → Prop), RS (gaOf X) O H σ τ → TD H v d → (∀ σ', RS (gaOf X) O H σ' τ' → σ'.length = σ.length → (∀ j, j ∉ vs → σ'[j]? = σ[j]?) → Q σ' H) → XG X tg v σ H Q
structure DGsw (X : Cx) (τ : AE) (ts : List Expr) (ds : List D) (τ' : AE) (vs : List Nat) : Prop where
  run : ∀ (O : Addr → Prop) (H : Hp) (σ : L2.St) (ws : List V) (Q : L2.St → Hp → Prop), RS (gaOf X) O H σ τ → TDs H ws ds → (∀ σ', RS (gaOf X) O H σ' τ' → σ'.length = σ.length → (∀ j, j ∉ vs → σ'[j]? = σ[j]?) → Q σ' H) → XGs X ts ws σ H Q
theorem dw_name {x : Str} {d : D} {vs : List Nat} (i : Nat) (hv : i ∈ vs := by decide) (hN : X.N.Nodup := by assumption) (hi : X.N[i]? = some x := by rfl) (hx : Loc X.env.scope x := by first | exact Or.inl rfl | exact Or.inr rfl)
    (hf : X.fn x = true ∨ X.env.scope.names.lookup x = some .local := by first | exact .inl rfl | exact .inr rfl) : DGw X τ (.Name x pos) d (τ.set i (some (.d d))) vs :=
  ⟨fun O H σ v Q r t q => XG.of (pg_name hN hi hx hf) (q _ (r.putD t) (by rw [List.length_set]) fun j hj => List.getElem?_set_ne (fun e => hj (by rw [← e]; exact hv)))⟩
theorem dsw_nil {vs : List Nat} : DGsw X τ [] [] τ vs := ⟨fun O H σ ws Q r t q => XGs.of pgs_nil (by cases t; exact ⟨rfl, q σ r rfl fun _ _ => rfl⟩)⟩
theorem dsw_cons {e : Expr} {es : List Expr} {d : D} {ds : List D} {τ1 τ2 : AE} {vs : List Nat} (h1 : DGw X τ e d τ1 vs) (h2 : DGsw X τ1 es ds τ2 vs) (hs : (assignEach (e :: es) X.env).map (·.2) = assign e X.env :: (assignEach es X.env).map (·.2) := by rfl) : DGsw X τ (e :: es) (d :: ds) τ2 vs :=
  ⟨fun O H σ ws Q r t q => XGs.of (pgs_cons (pg_can X e) (pgs_can X es) hs) (by
    cases t with
    | cons t1 t2 => exact ⟨_, _, rfl, h1.run O H σ _ _ r t1 fun σ' r' l1 k1 => h2.run O H σ' _ _ r' t2 fun σ2 r2 l2 k2 => q σ2 r2 (l2.trans l1) fun j hj => (k2 j hj).trans (k1 j hj)⟩)⟩
theorem dw_tup {es : List Expr} {k : Nat} {ds : List D} {τ2 : AE} {vs : List Nat} (h : DGsw X τ es ds τ2 vs) (hl : ds.length = es.length := by rfl) (hc : X.calm = true := by rfl) (hn : (assignEach es X.env).length = es.length := by rfl) (hst : (assignEach es X.env).findIdx? (·.1) = none := by rfl) : DGw X τ (.Tuple es k pos) (.tup ds) τ2 vs :=
  ⟨fun O H σ v Q r t q => XG.of (pg_tup hc (pgs_can X es) hn hst) (by
    cases t with
    | tup t1 t2 => exact ⟨_, _, rfl, SqT.of t1, t2.length.trans hl, h.run O H σ _ _ r t2 q⟩)⟩
abbrev lcG (X : Cx) (scope : Scope) (tg : Expr) : TG := fun v σ H' Q => ∀ s H C cl fp, XG (bX X scope s H C cl fp) tg v σ H' Q
abbrev lcE (X : Cx) (scope : Scope) (elt : Expr) : TE := fun σ H' Q => ∀ s H C cl fp, XE (bX X scope s H C cl fp) σ H' elt Q
abbrev lcT (X : Cx) (scope : Scope) (ifs : List Expr) : TT := fun σ H' Q => ∀ s H C cl fp pins s', Inv (bX X scope s H C cl fp) pins σ H' s' →
  wpAny (model X.prog X.w) X.A (forIn ifs true fun c r => if r = true then do let ok ← isTrue c (compEnvC scope cl C X.env) (eval c (compEnvC scope cl C X.env)); pure (ForInStep.yield ok) else pure (ForInStep.yield r)) (TP (bX X scope s H C cl fp) pins σ Q) (fun _ _ => False) s'
/-- what a comprehension comes to -/
structure LcS (X : Cx) (τ : AE) (T : TE) (a : AV) : Prop where
  run : ∀ (O : Addr → Prop) (H : Hp) (σ : L2.St) (Q : VK), RS (gaOf X) O H σ τ → (∀ v H2, Ex H H2 → Rs (gaOf X) H H2 v a → Q v H2) → T σ H Q
theorem lc_sem {scope : Scope} {ds : List D} (own : List (Str × Nat)) (f : Nat → Bool) (g : Nat → D) (hi : DI X τ tg iter ds) (hz : ds.length ≤ 100000)
    (body : ∀ i d, ds[i]? = some d → ∃ τ2, ∀ s H C cl fp, DGw (bX X scope s H C cl fp) (wipeA τ (own.map (·.2))) tg d τ2 (own.map (·.2)) ∧ DTs (bX X scope s H C cl fp) τ2 ifs (f i) ∧ (f i = true → DE (bX X scope s H C cl fp) τ2 elt (.d (g i)))) :
    LcS X τ (tLc (fun σ H R => XI X tg iter σ H R) (lcG X scope tg) (lcT X scope ifs) (lcE X scope elt) (own.map (·.2))) (.l true (((List.range ds.length).filter f).map g)) := by
  refine ⟨fun O H σ Q rs q => hi.run O H σ _ rs fun J H1 e1 itok L hL => ?_⟩
  have rs1 := rs.mono e1
  have hO : ¬ O L := fun z => rs1.there z hL
  -- behind i turns
  refine ⟨fun i m H' => m = ds.length - i ∧ i ≤ ds.length ∧ Ex H1 H' ∧ ∃ vs, H' L = some (.lst vs) ∧ TDs H' vs (((List.range i).filter f).map g), ⟨ds.length, by simp, Nat.zero_le _, Evl.Ex.new hL, [], upd_same, .nil⟩, ?_⟩
  rintro i m H' ⟨rfl, hle, e', vs, hv, tv⟩
  have eG : Ex (rst O H1) H' := rst_ex.trans e'
  obtain ⟨ok1, ok2⟩ := itok i H' eG
  by_cases hlt : i < ds.length
  · obtain ⟨go, y⟩ := ok1 hlt
    refine .inr ⟨go, fun H2 => i + 1 ≤ ds.length ∧ Ex H1 H2 ∧ ∃ vs, H2 L = some (.lst vs) ∧ TDs H2 vs (((List.range (i + 1)).filter f).map g), fun H2 ⟨w1, w2, w3⟩ => ⟨ds.length - (i + 1), by omega, rfl, w1, w2, w3⟩, fun x H'' yx => ?_⟩
    obtain ⟨e2, d, hd, td⟩ := y x H'' yx
    obtain ⟨τ2, hb⟩ := body i d hd
    have rs2 : RS (gaOf X) O H'' (wipe σ (own.map (·.2))) (wipeA τ (own.map (·.2))) := wipe_rs (rs1.mono (e'.trans e2))
    intro s0 H0 C0 cl0 fp0
    refine (hb s0 H0 C0 cl0 fp0).1.run O H'' _ x _ rs2 td fun σ2 r2 l2 k2 => ⟨?_, ?_⟩
    · have a1 : (wipe (wipe σ (own.map (·.2))) (own.map (·.2))) = wipe σ (own.map (·.2)) := wipe_idem (wipe_length _ _) fun j hj => by
        cases h : σ[j]? with
        | none => exact List.getElem?_eq_none (by rw [wipe_length]; exact List.getElem?_eq_none_iff.mp h)
        | some o => rw [wipe_out hj, h]
      rw [← a1]
      exact wipe_idem l2 fun j hj => k2 j hj
    · intro s1 Hh1 C1 cl1 fp1 pins s' I'
      refine (hb s1 Hh1 C1 cl1 fp1).2.1.run O H'' σ2 _ pins s' r2 (fun H3 e3 => ?_) I'
      have tv3 := tv.up (Ex_kt (e2.trans e3))
      have hv3 := (e2.trans e3) _ _ hv
      cases hf : f i with
      | false =>
        refine iteF ⟨hlt, e'.trans (e2.trans e3), vs, hv3, ?_⟩
        rw [List.range_succ, List.filter_append, List.filter_cons, if_neg (by rw [hf]; exact Bool.false_ne_true)]
        simpa using tv3
      | true =>
        refine iteT fun s5 H5 C5 cl5 fp5 => ((hb s5 H5 C5 cl5 fp5).2.2 hf).run O H3 σ2 _ (r2.mono e3) fun w H4 e4 r4 => ⟨vs, e4 _ _ hv3, ?_, hlt, ?_, vs ++ [w], upd_same, ?_⟩
        · rw [tv.length, List.length_map]
          have := List.length_filter_le f (List.range i)
          rw [List.length_range] at this
          exact Evl.sz_lt (by omega)
        · exact Evl.Ex.mut (e'.trans (e2.trans (e3.trans e4))) hL
        · have kt : KT H4 (upd H4 L (.lst (vs ++ [w]))) := (KT.refl H4).put (e4 _ _ hv3) (fun _ z => by cases z)
          rw [List.range_succ, List.filter_append, List.filter_cons, if_pos hf, List.map_append]
          exact ((tv3.up (Ex_kt e4)).append (TDs.one r4)).up kt
  · have e : i = ds.length := by omega
    subst e
    exact .inl ⟨ok2 (Nat.le_refl _), q _ H' (e1.trans e') ⟨L, vs, rfl, fun _ => Evl.fresh_back e1 hL, hv, tv⟩⟩
/-- [elt for tg in iter if ..] -/
theorem de_lc {scope : Scope} {ds : List D} (own : List (Str × Nat)) (f : Nat → Bool) (g : Nat → D) (hi : DI X τ tg iter ds) (hz : ds.length ≤ 100000)
    (body : ∀ i d, ds[i]? = some d → ∃ τ2, ∀ s H C cl fp, DGw (bX X scope s H C cl fp) (wipeA τ (own.map (·.2))) tg d τ2 (own.map (·.2)) ∧ DTs (bX X scope s H C cl fp) τ2 ifs (f i) ∧ (f i = true → DE (bX X scope s H C cl fp) τ2 elt (.d (g i))))
    (ok : BlkOk X.N X.env.scope scope own) (hc : X.calm = true := by rfl) (hN : X.N.Nodup := by assumption) (hs : ∀ x, foldedSetIterable iter X.env x = pure x := by intro _; rfl) :
    DE X τ (.ListComp elt [⟨tg, iter, ifs, 0⟩] scope pos) (.l true (((List.range ds.length).filter f).map g)) :=
  ⟨fun O H σ Q rs q => XE.of (pe_lc (own := own) (tt := lcT X scope ifs) (g := lcG X scope tg) (te := lcE X scope elt) hc hN (pi_can X tg iter) ok
    (fun s H C cl fp => ⟨fun pins s' σ H' v u Q I r h => h s H C cl fp pins s' u I r⟩) (fun s H C cl fp => pts_blk) (fun s H C cl fp => ⟨fun pins s' σ H' Q I h => h s H C cl fp pins s' I⟩) hs)
    ((lc_sem own f g hi hz body).run O H σ Q rs q)⟩
/-- x = [elt for tg in iter if ..] -/
theorem ds_setLc {sts : List Stmt} {N : AE → Prop} {R : AV → Prop} {x : Str} {px spos : Pos} (i : Nat) {scope : Scope} {ds : List D} (own : List (Str × Nat)) (f : Nat → Bool) (g : Nat → D) (hi : DI X τ tg iter ds) (hz : ds.length ≤ 100000)
    (body : ∀ i d, ds[i]? = some d → ∃ τ2, ∀ s H C cl fp, DGw (bX X scope s H C cl fp) (wipeA τ (own.map (·.2))) tg d τ2 (own.map (·.2)) ∧ DTs (bX X scope s H C cl fp) τ2 ifs (f i) ∧ (f i = true → DE (bX X scope s H C cl fp) τ2 elt (.d (g i))))
    (ok : BlkOk X.N X.env.scope scope own) (hc : X.calm = true := by rfl) (hN : X.N.Nodup := by assumption) (hs : ∀ x, foldedSetIterable iter X.env x = pure x := by intro _; rfl) 
    (k : DS X (τ.set i (some (.l true (((List.range ds.length).filter f).map g)))) sts N R) (hx : X.N[i]? = some x := by rfl) (hl : X.env.scope.names.lookup x = some .local := by rfl)
    (hsw : swapsWith (.ListComp elt [⟨tg, iter, ifs, 0⟩] scope pos) (some (.Name x px)) spos.line X.env = pure true := by rfl) : DS X τ (.Assign [.Name x px] (.ListComp elt [⟨tg, iter, ifs, 0⟩] scope pos) spos :: sts) N R :=
  ⟨fun G D σ H x0 ⟨O, rs, eg, og⟩ n r => XSs.of (pss_cons (ps_setLc (own := own) (tt := lcT X scope ifs) (g := lcG X scope tg) (te := lcE X scope elt) hc hN hx hl hsw (pi_can X tg iter) ok
    (fun s H C cl fp => ⟨fun pins s' σ H' v u Q I r h => h s H C cl fp pins s' u I r⟩) (fun s H C cl fp => pts_blk) (fun s H C cl fp => ⟨fun pins s' σ H' Q I h => h s H C cl fp pins s' I⟩) hs) (pss_can X sts))
    ((lc_sem own f g hi hz body).run O H σ (fun v H1 => XSs X D (σ.set i (some v)) H1 sts) rs fun v H2 e2 r2 => by
      obtain ⟨O', rs', ho⟩ := rs.put (i := i) e2 r2 rfl
      exact k.run G D _ H2 x0 ⟨O', rs', eg.trans e2, fun p hp => (ho p hp).elim (og p) fun z => Evl.fresh_back eg z⟩ n r)⟩
end
end BF

set_option Elab.async false
set_option linter.all false
set_option maxRecDepth 100000
set_option maxHeartbeats 1000000
set_option autoImplicit false
/-! Dicts whose keys are numbers and nested tuples of them, on the machine's own heap. -/
namespace BF
open PySem PySem.Spec PyProof.Rows

/-- the entry e has the key k -/
def KeyOf (w : World) (h : Heap) (k : NestedKey) (e : DictEntry) : Prop := NestedIs h k e.key ∧ k.depth ≤ 8 ∧ e.hash = k.hash w
theorem pr_nth {α β : Type} {F : α → β → Prop} : ∀ {xs : List α} {ys : List β} {i : Nat} {y : β}, Paired F xs ys → ys[i]? = some y → ∃ x, xs[i]? = some x ∧ F x y
  | _, _, _, _, .nil, e => by simp at e
  | _, _, 0, _, .cons h _, e => by simp at e; subst e; exact ⟨_, rfl, h⟩
  | _, _, i + 1, y, .cons _ t, e => by
    obtain ⟨x, h1, h2⟩ := pr_nth (i := i) (y := y) t (by simpa using e)
    exact ⟨x, by simpa using h1, h2⟩
theorem pr_nthL {α β : Type} {F : α → β → Prop} : ∀ {xs : List α} {ys : List β} {i : Nat} {x : α}, Paired F xs ys → xs[i]? = some x → ∃ y, ys[i]? = some y ∧ F x y
  | _, _, _, _, .nil, e => by simp at e
  | _, _, 0, _, .cons h _, e => by simp at e; subst e; exact ⟨_, rfl, h⟩
  | _, _, i + 1, y, .cons _ t, e => by
    obtain ⟨x, h1, h2⟩ := pr_nthL (i := i) (x := y) t (by simpa using e)
    exact ⟨x, by simpa using h1, h2⟩
theorem pr_app {α β : Type} {F : α → β → Prop} : ∀ {xs xs' : List α} {ys ys' : List β}, Paired F xs ys → Paired F xs' ys' → Paired F (xs ++ xs') (ys ++ ys')
  | _, _, _, _, .nil, h => h
  | _, _, _, _, .cons a t, h => .cons a (pr_app t h)
theorem pr_mapL {α β γ : Type} {F : α → β → Prop} {f : γ → α} : ∀ {xs : List γ} {ys : List β}, Paired (fun c b => F (f c) b) xs ys → Paired F (xs.map f) ys
  | _, _, .nil => .nil
  | _, _, .cons a t => .cons a (pr_mapL t)

section
variable {prog : Program} {w : World} {A : Around} {E : Value → Shared → Prop} {s : Shared}
theorem nested_ne {h : Heap} {k k' : NestedKey} {v u : Value} (h1 : NestedIs h k v) (h2 : NestedIs h k' u) (ne : k ≠ k') : v ≠ u := fun e => ne (NestedIs.inj _ _ _ h1 (e ▸ h2))
theorem tells_quiet {key : Value} {stored : List Value} {Q : Bool → Shared → Prop} (hk : QuietAt prog w 8 s key) (hs : ∀ v ∈ stored, QuietAt prog w 8 s v) (hq : Q false s) : wpAny (model prog w) A (tableMayTell key stored) Q E s := by
  unfold tableMayTell
  split
  · exact wpAny_pure hq
  · refine wpAny_bind (hk _ _ _ ?_)
    rw [if_neg (by decide)]
    refine wpAny_bind (wpAny_forIn_list _ (fun rest r s' => (s' = s ∧ r = (none, ())) ∧ ∀ v ∈ rest, QuietAt prog w 8 s v) _ ?_ ?_ _ _ ⟨⟨rfl, rfl⟩, hs⟩)
    · rintro x rest r s' ⟨⟨rfl, rfl⟩, hr⟩
      refine wpAny_bind (hr x List.mem_cons_self _ _ _ ?_)
      rw [if_neg (by decide)]
      exact wpAny_pure ⟨⟨rfl, rfl⟩, fun v hv => hr v (List.mem_cons_of_mem _ hv)⟩
    · rintro r s' ⟨⟨rfl, rfl⟩, _⟩
      exact wpAny_pure hq

/-- the place of a key among the entries -/
theorem find_nest {d : Addr} {kv : Value} {o : Obj} {es : Array DictEntry} {ep : Nat} {ks : List NestedKey} {k : NestedKey} {Q : Option Nat → Shared → Prop} (hu : A.units + 8 < cLine) (hk : NestedIs s.heap k kv) (h8 : k.depth ≤ 8) (nt : ∀ x, k ≠ .text x)
    (ho : s.heap.get? d = some o) (hd : o.data = .dict es ep) (hp : Paired (KeyOf w s.heap) ks es.toList) (hn : ks.Nodup) (hnone : k ∉ ks → Q none s) (hsome : ∀ j, ks[j]? = some k → Q (some j) s) :
    wpAny (model prog w) A (dictFind d kv (k.hash w)) Q E s := by
  have ent : ∀ {i : Nat} {e : DictEntry}, es[i]? = some e → ∃ k', ks[i]? = some k' ∧ KeyOf w s.heap k' e := fun {i e} h => pr_nth hp (by rw [Array.getElem?_toList]; exact h)
  have entK : ∀ {i : Nat} {k' : NestedKey}, ks[i]? = some k' → ∃ e, es[i]? = some e ∧ KeyOf w s.heap k' e := fun {i k'} h => by
    obtain ⟨e, h1, h2⟩ := pr_nthL hp h
    exact ⟨e, by rw [← Array.getElem?_toList]; exact h1, h2⟩
  have uniq : ∀ {i j : Nat}, ks[i]? = some k → ks[j]? = some k → i = j := fun {i j} h1 h2 => (List.getElem?_inj (List.getElem?_eq_some_iff.mp h1).1 hn).mp (h1.trans h2.symm)
  -- the places of its hash
  obtain ⟨pl, hpl, hmem⟩ : ∃ pl, pl = placesWithHash es.size (fun i => es[i]?.map (·.hash)) (k.hash w) ∧ ∀ j, ks[j]? = some k → j ∈ pl := by
    refine ⟨_, rfl, fun j hj => ?_⟩
    obtain ⟨e, h1, _, _, h2⟩ := entK hj
    unfold placesWithHash
    refine List.mem_filter.mpr ⟨List.mem_range.mpr (Array.getElem?_eq_some_iff.mp h1).1, ?_⟩
    show (es[j]?.map (·.hash) == some (k.hash w)) = true
    rw [h1]; simp [h2]
  have hnd : pl.Nodup := by rw [hpl]; unfold placesWithHash; exact List.nodup_range.filter _
  have quiet : ∀ v ∈ pl.filterMap (fun i => es[i]?.map (·.key)), QuietAt prog w 8 s v := fun v hv => by
    obtain ⟨i, _, hi⟩ := List.mem_filterMap.mp hv
    cases he : es[i]? with
    | none => rw [he] at hi; cases hi
    | some e =>
      rw [he] at hi
      obtain rfl : e.key = v := by simpa using hi
      obtain ⟨k', _, x1, x2, _⟩ := ent he
      exact quiet_key k' _ 8 s x1 x2
  have eqb : ∀ {i : Nat} {e : DictEntry} {k' : NestedKey} {A' : Around} {Q' : Bool → Shared → Prop}, A'.units = A.units → es[i]? = some e → ks[i]? = some k' → Q' (decide (k' = k)) s → wpAny (model prog w) A' (eqBool e.key kv) Q' E s := fun {i e k' A' Q'} ha he hk' q => by
    obtain ⟨k2, h1, x1, x2, _⟩ := ent he
    rw [hk'] at h1; cases h1
    exact eqAt_key k' k A' s _ _ x1 hk (by rw [ha]; omega) _ _ _ _ (by rw [← NestedKey.decide_eq]; exact q)
  -- what a turn keeps
  let I : List Nat → Option Nat → Prop := fun rest hit => ∃ dn, pl = dn ++ rest ∧ ((hit = none ∧ ∀ j ∈ dn, ks[j]? ≠ some k) ∨ ∃ j ∈ dn, ks[j]? = some k ∧ hit = some j)
  have I0 : I pl none := ⟨[], rfl, .inl ⟨rfl, fun j hj => by cases hj⟩⟩
  have nxt : ∀ {x rest hit}, I (x :: rest) hit → ks[x]? ≠ some k → I rest hit := fun {x rest hit} ⟨dn, e, h⟩ ne => by
    refine ⟨dn ++ [x], by rw [e]; simp, h.imp (fun ⟨h1, h2⟩ => ⟨h1, fun j hj => ?_⟩) fun ⟨j, h1, h2⟩ => ⟨j, by simp [h1], h2⟩⟩
    rcases List.mem_append.mp hj with z | z
    · exact h2 j z
    · rw [List.mem_singleton.mp z]; exact ne
  have fst : ∀ {x rest hit}, I (x :: rest) hit → ks[x]? = some k → hit = none ∧ I rest (some x) := fun {x rest hit} ⟨dn, e, h⟩ hx => by
    refine ⟨?_, dn ++ [x], by rw [e]; simp, .inr ⟨x, by simp, hx, rfl⟩⟩
    rcases h with ⟨h, _⟩ | ⟨j, hj, hjk, _⟩
    · exact h
    · have := uniq hjk hx
      subst this
      rw [e] at hnd
      exact absurd (List.mem_cons_self) ((List.nodup_append.mp hnd).2.2 j hj j · rfl)
  have last : ∀ {hit}, I [] hit → Q hit s := fun {hit} ⟨dn, e, h⟩ => by
    rw [List.append_nil] at e
    rcases h with ⟨rfl, h⟩ | ⟨j, _, hj, rfl⟩
    · refine hnone fun hm => ?_
      obtain ⟨j, hj⟩ := List.mem_iff_getElem?.mp hm
      exact h j (e ▸ hmem j hj) hj
    · exact hsome j hj
  unfold dictFind
  try with_reducible refine wpAny_holding ?_
  refine wpAny_bind (wpAny_dictEntries ho hd ?_)
  have notr : ¬ (es.any fun e => e.key == kv && e.hash != k.hash w) = true := by
    rw [← Array.any_toList, List.any_eq_true]
    rintro ⟨e, hin, hc⟩
    obtain ⟨i, hi⟩ := List.mem_iff_getElem?.mp hin
    obtain ⟨k', _, x1, _, x3⟩ := ent (by rw [← Array.getElem?_toList]; exact hi)
    simp only [Bool.and_eq_true, beq_iff_eq, bne_iff_ne, ne_eq] at hc
    rw [hc.1] at x1
    exact hc.2 (by rw [x3, NestedIs.inj _ _ _ x1 hk])
  have qk : QuietAt prog w 8 s kv := quiet_key k kv 8 s hk h8
  -- one turn
  have hasH : ∀ {x : Nat} {e : DictEntry}, es[x]? = some e → ks[x]? = some k → (e.hash == k.hash w) = true := fun {x e} h1 h2 => by
    obtain ⟨k2, h3, _, _, x3⟩ := ent h1
    rw [h2] at h3; cases h3
    simp [x3]
  have plain : wpAny (model prog w) A (dictWalkPlain d kv (k.hash w) es pl) Q E s := by
    unfold dictWalkPlain
    refine wpAny_bind (wpAny_forIn_list _ (fun rest r s' => (s' = s ∧ r = (none, ())) ∧ I rest none) _ ?_ ?_ _ _ ⟨⟨rfl, rfl⟩, I0⟩)
    · rintro x rest r s' ⟨⟨rfl, rfl⟩, i⟩
      have none_of : ∀ {t : List Nat}, I t none → ∀ e : Nat, True := fun _ _ => trivial
      cases he : es[x]? with
      | none => exact wpAny_pure ⟨⟨rfl, rfl⟩, nxt i fun z => by obtain ⟨e, h, _⟩ := entK z; rw [he] at h; cases h⟩
      | some e =>
        obtain ⟨k', hk', x1, x2, x3⟩ := ent he
        dsimp only
        by_cases hh : (e.hash == k.hash w) = true
        · rw [if_pos hh]
          refine wpAny_bind (wpAny_dictEpoch ho hd (wpAny_bind (eqb rfl he hk' (wpAny_bind (wpAny_dictEpoch ho hd ?_)))))
          rw [if_neg (by simp)]
          by_cases hkk : k' = k
          · rw [decide_eq_true hkk]
            exact wpAny_bind (wpAny_rule (wpAny_pure (wpAny_pure (hsome x (hkk ▸ hk')))))
          · rw [decide_eq_false hkk]
            exact wpAny_bind (wpAny_rule (wpAny_pure ⟨⟨rfl, rfl⟩, nxt i fun z => hkk (by rw [hk'] at z; exact Option.some.inj z)⟩))
        · rw [if_neg hh]
          exact wpAny_pure ⟨⟨rfl, rfl⟩, nxt i fun z => hh (hasH he z)⟩
    · rintro r s' ⟨⟨rfl, rfl⟩, i⟩
      exact wpAny_pure (last i)
  by_cases hall : ((kv :: pl.filterMap fun i => es[i]?.map (·.key)).all carriedByValue) = true
  · cases hk with
    | text x t => exact absurd rfl (nt _)
    | none => dsimp only; rw [← hpl, if_pos hall]; exact plain
    | bool e => dsimp only; rw [← hpl, if_pos hall]; exact plain
    | int i t => dsimp only; rw [← hpl, if_pos hall]; exact plain
    | tup x1 x2 x3 x4 => dsimp only; rw [← hpl, if_pos hall]; exact plain
  have hk2 := hk
  cases hk2 with
  | text x t => exact absurd rfl (nt _)
  | none =>
    dsimp only
    rw [← hpl, if_neg hall]
    by_cases hone : ((pl.filterMap fun i => es[i]?.map (·.key)) == [Value.none]) = true <;>
    (first | rw [if_pos hone] | rw [if_neg hone]) <;> (first | refine wpAny_bind (wpAny_pure ?_) | refine wpAny_bind (tells_quiet qk quiet ?_)) <;> (
      rw [if_neg (by simp)]
      refine wpAny_bind (wpAny_forIn_list _ (fun rest r s' => (s' = s ∧ r.1 = none) ∧ I rest r.2) _ ?_ ?_ _ _ ⟨⟨rfl, rfl⟩, I0⟩)
      · rintro x rest ⟨r1, hit⟩ s' ⟨⟨rfl, z⟩, i⟩
        dsimp only at z i
        subst z
        cases he : es[x]? with
        | none => exact wpAny_pure ⟨⟨rfl, rfl⟩, nxt i fun z => by obtain ⟨e, h, _⟩ := entK z; rw [he] at h; cases h⟩
        | some e =>
          obtain ⟨k', hk', x1, x2, x3⟩ := ent he
          dsimp only
          split
          next hh =>
            refine wpAny_bind (wpAny_dictEpoch ho hd (wpAny_bind (eqb rfl he hk' (wpAny_bind (wpAny_dictEpoch ho hd ?_)))))
            rw [if_neg (by simp)]
            by_cases hkk : k' = NestedKey.none
            · rw [decide_eq_true hkk, if_pos rfl]
              obtain ⟨hz, i2⟩ := fst i (hkk ▸ hk')
              subst hz
              rw [if_neg (by simp)]
              refine wpAny_bind (wpAny_rule ?_)
              split
              next => exact wpAny_pure (wpAny_pure (hsome x (hkk ▸ hk')))
              next => exact wpAny_pure ⟨⟨rfl, rfl⟩, i2⟩
            · rw [decide_eq_false hkk, if_neg (by simp)]
              refine wpAny_bind (wpAny_rule ?_)
              first | rw [if_neg (by simp)] | skip
              exact wpAny_pure ⟨⟨rfl, rfl⟩, nxt i fun z => hkk (by rw [hk'] at z; exact Option.some.inj z)⟩
          next hh => exact wpAny_pure ⟨⟨rfl, rfl⟩, nxt i fun z => hh (hasH he z)⟩
      · rintro ⟨r1, hit⟩ s' ⟨⟨rfl, z⟩, i⟩
        dsimp only at z i
        subst z
        exact wpAny_pure (last i))
  | @bool bv iv e =>
    dsimp only
    rw [← hpl, if_neg hall]
    by_cases hone : ((pl.filterMap fun i => es[i]?.map (·.key)) == [Value.bool bv]) = true <;>
    (first | rw [if_pos hone] | rw [if_neg hone]) <;> (first | refine wpAny_bind (wpAny_pure ?_) | refine wpAny_bind (tells_quiet qk quiet ?_)) <;> (
      rw [if_neg (by simp)]
      refine wpAny_bind (wpAny_forIn_list _ (fun rest r s' => (s' = s ∧ r.1 = none) ∧ I rest r.2) _ ?_ ?_ _ _ ⟨⟨rfl, rfl⟩, I0⟩)
      · rintro x rest ⟨r1, hit⟩ s' ⟨⟨rfl, z⟩, i⟩
        dsimp only at z i
        subst z
        cases he : es[x]? with
        | none => exact wpAny_pure ⟨⟨rfl, rfl⟩, nxt i fun z => by obtain ⟨e, h, _⟩ := entK z; rw [he] at h; cases h⟩
        | some e =>
          obtain ⟨k', hk', x1, x2, x3⟩ := ent he
          dsimp only
          split
          next hh =>
            refine wpAny_bind (wpAny_dictEpoch ho hd (wpAny_bind (eqb rfl he hk' (wpAny_bind (wpAny_dictEpoch ho hd ?_)))))
            rw [if_neg (by simp)]
            by_cases hkk : k' = NestedKey.num iv
            · rw [decide_eq_true hkk, if_pos rfl]
              obtain ⟨hz, i2⟩ := fst i (hkk ▸ hk')
              subst hz
              rw [if_neg (by simp)]
              refine wpAny_bind (wpAny_rule ?_)
              split
              next => exact wpAny_pure (wpAny_pure (hsome x (hkk ▸ hk')))
              next => exact wpAny_pure ⟨⟨rfl, rfl⟩, i2⟩
            · rw [decide_eq_false hkk, if_neg (by simp)]
              refine wpAny_bind (wpAny_rule ?_)
              first | rw [if_neg (by simp)] | skip
              exact wpAny_pure ⟨⟨rfl, rfl⟩, nxt i fun z => hkk (by rw [hk'] at z; exact Option.some.inj z)⟩
          next hh => exact wpAny_pure ⟨⟨rfl, rfl⟩, nxt i fun z => hh (hasH he z)⟩
      · rintro ⟨r1, hit⟩ s' ⟨⟨rfl, z⟩, i⟩
        dsimp only at z i
        subst z
        exact wpAny_pure (last i))
  | int iv tv =>
    dsimp only
    rw [← hpl, if_neg hall]
    by_cases hone : ((pl.filterMap fun i => es[i]?.map (·.key)) == [Value.int iv tv]) = true <;>
    (first | rw [if_pos hone] | rw [if_neg hone]) <;> (first | refine wpAny_bind (wpAny_pure ?_) | refine wpAny_bind (tells_quiet qk quiet ?_)) <;> (
      rw [if_neg (by simp)]
      refine wpAny_bind (wpAny_forIn_list _ (fun rest r s' => (s' = s ∧ r.1 = none) ∧ I rest r.2) _ ?_ ?_ _ _ ⟨⟨rfl, rfl⟩, I0⟩)
      · rintro x rest ⟨r1, hit⟩ s' ⟨⟨rfl, z⟩, i⟩
        dsimp only at z i
        subst z
        cases he : es[x]? with
        | none => exact wpAny_pure ⟨⟨rfl, rfl⟩, nxt i fun z => by obtain ⟨e, h, _⟩ := entK z; rw [he] at h; cases h⟩
        | some e =>
          obtain ⟨k', hk', x1, x2, x3⟩ := ent he
          dsimp only
          split
          next hh =>
            refine wpAny_bind (wpAny_dictEpoch ho hd (wpAny_bind (eqb rfl he hk' (wpAny_bind (wpAny_dictEpoch ho hd ?_)))))
            rw [if_neg (by simp)]
            by_cases hkk : k' = NestedKey.num iv
            · rw [decide_eq_true hkk, if_pos rfl]
              obtain ⟨hz, i2⟩ := fst i (hkk ▸ hk')
              subst hz
              rw [if_neg (by simp)]
              refine wpAny_bind (wpAny_rule ?_)
              split
              next => exact wpAny_pure (wpAny_pure (hsome x (hkk ▸ hk')))
              next => exact wpAny_pure ⟨⟨rfl, rfl⟩, i2⟩
            · rw [decide_eq_false hkk, if_neg (by simp)]
              refine wpAny_bind (wpAny_rule ?_)
              first | rw [if_neg (by simp)] | skip
              exact wpAny_pure ⟨⟨rfl, rfl⟩, nxt i fun z => hkk (by rw [hk'] at z; exact Option.some.inj z)⟩
          next hh => exact wpAny_pure ⟨⟨rfl, rfl⟩, nxt i fun z => hh (hasH he z)⟩
      · rintro ⟨r1, hit⟩ s' ⟨⟨rfl, z⟩, i⟩
        dsimp only at z i
        subst z
        exact wpAny_pure (last i))
  | @tup av ov vv nv kl y1 y2 y3 y4 =>
    dsimp only
    rw [← hpl, if_neg hall, if_neg notr]
    by_cases hone : ((pl.filterMap fun i => es[i]?.map (·.key)) == [Value.ref av]) = true <;>
    (first | rw [if_pos hone] | rw [if_neg hone]) <;> (first | refine wpAny_bind (wpAny_pure ?_) | refine wpAny_bind (tells_quiet qk quiet ?_)) <;> (
      rw [if_neg (by simp)]
      refine wpAny_bind (wpAny_forIn_list _ (fun rest r s' => (s' = s ∧ r.1 = none) ∧ I rest r.2) _ ?_ ?_ _ _ ⟨⟨rfl, rfl⟩, I0⟩)
      · rintro x rest ⟨r1, hit⟩ s' ⟨⟨rfl, z⟩, i⟩
        dsimp only at z i
        subst z
        cases he : es[x]? with
        | none => exact wpAny_pure ⟨⟨rfl, rfl⟩, nxt i fun z => by obtain ⟨e, h, _⟩ := entK z; rw [he] at h; cases h⟩
        | some e =>
          obtain ⟨k', hk', x1, x2, x3⟩ := ent he
          dsimp only
          split
          next hh =>
            refine wpAny_bind (wpAny_dictEpoch ho hd (wpAny_bind (eqb rfl he hk' (wpAny_bind (wpAny_dictEpoch ho hd ?_)))))
            rw [if_neg (by simp)]
            by_cases hkk : k' = NestedKey.tup kl
            · rw [decide_eq_true hkk, if_pos rfl]
              obtain ⟨hz, i2⟩ := fst i (hkk ▸ hk')
              subst hz
              rw [if_neg (by simp)]
              refine wpAny_bind (wpAny_rule ?_)
              split
              next => exact wpAny_pure (wpAny_pure (hsome x (hkk ▸ hk')))
              next => exact wpAny_pure ⟨⟨rfl, rfl⟩, i2⟩
            · rw [decide_eq_false hkk, if_neg (by simp)]
              refine wpAny_bind (wpAny_rule ?_)
              first | rw [if_neg (by simp)] | skip
              exact wpAny_pure ⟨⟨rfl, rfl⟩, nxt i fun z => hkk (by rw [hk'] at z; exact Option.some.inj z)⟩
          next hh => exact wpAny_pure ⟨⟨rfl, rfl⟩, nxt i fun z => hh (hasH he z)⟩
      · rintro ⟨r1, hit⟩ s' ⟨⟨rfl, z⟩, i⟩
        dsimp only at z i
        subst z
        exact wpAny_pure (last i))
end
end BF

set_option Elab.async false
set_option linter.all false
set_option maxRecDepth 100000
set_option maxHeartbeats 1000000
set_option autoImplicit false
/-! Reading and writing such dicts. -/
namespace BF
open PySem PySem.Spec PyProof.Rows

structure NDic (w : World) (h : Heap) (d : Addr) (es : Array DictEntry) (ks : List NestedKey) : Prop where
  obj : ∃ o ep, h.get? d = some o ∧ o.ExactDict ∧ o.data = .dict es ep
  ents : Paired (KeyOf w h) ks es.toList
  nd : ks.Nodup
structure NKey (h : Heap) (k : NestedKey) (v : Value) : Prop where
  is : NestedIs h k v
  dp : k.depth ≤ 8
  nt : ∀ x, k ≠ .text x
section
variable {prog : Program} {w : World} {A : Around} {E : Value → Shared → Prop} {s : Shared} {d : Addr} {es : Array DictEntry} {ks : List NestedKey} {k : NestedKey} {kv : Value}
theorem NDic.typeIs (D : NDic w s.heap d es ks) : s.TypeIs (.ref d) "dict" := let ⟨o, _, h1, h2, _⟩ := D.obj; ⟨o, h1, h2.1⟩
theorem NDic.noDict (D : NDic w s.heap d es ks) : ∀ b, Value.ref d = .ref b → ∃ ob, s.heap.get? b = some ob ∧ ob.dict = none := fun b q => by
  cases q
  obtain ⟨o, _, h1, h2, _⟩ := D.obj
  exact ⟨o, h1, h2.2.1⟩
/-- what stands at a key: o, or nothing -/
def NAt (es : Array DictEntry) (ks : List NestedKey) (k : NestedKey) (r : Option Value) : Prop :=
  (r = none ∧ k ∉ ks) ∨ ∃ (j : Nat) (e : DictEntry), ks[j]? = some k ∧ es[j]? = some e ∧ r = some e.val
theorem get_nest {r : Option Value} {Q : Option Value → Shared → Prop} (hu : A.units + 8 < cLine) (K : NKey s.heap k kv) (D : NDic w s.heap d es ks) (R : NAt es ks k r) (h : Q r { s with toks := s.toks + k.draws }) :
    wpAny (model prog w) A (dictGet d kv) Q E s := by
  obtain ⟨o, ep, ho, hx, hd⟩ := D.obj
  unfold dictGet
  try with_reducible refine wpAny_holding ?_
  refine wpAny_bind (pyHash_key _ _ _ _ _ K.is (by have := K.dp; omega) (wpAny_bind (find_nest (s := { s with toks := s.toks + k.draws }) hu K.is K.dp K.nt ho hd D.ents D.nd (fun hn => ?_) fun j hj => ?_)))
  · rcases R with ⟨rfl, _⟩ | ⟨j, e, h1, _⟩
    · exact wpAny_pure h
    · exact absurd (List.mem_of_getElem? h1) hn
  · rcases R with ⟨_, h1⟩ | ⟨i, e, h1, h2, rfl⟩
    · exact absurd (List.mem_of_getElem? hj) h1
    · have q : j = i := (List.getElem?_inj (List.getElem?_eq_some_iff.mp hj).1 D.nd).mp (hj.trans h1.symm)
      subst q
      refine wpAny_bind (wpAny_dictEntries (s := { s with toks := s.toks + k.draws }) ho hd ?_)
      rw [h2]
      exact wpAny_pure h
/-- d[k], there -/
theorem getItem_nest {e : Value} {Q : Value → Shared → Prop} (hu : A.in1.units + 8 < cLine) (K : NKey s.heap k kv) (D : NDic w s.heap d es ks) (R : NAt es ks k (some e)) (h : Q e { s with toks := s.toks + k.draws }) :
    wpAny (model prog w) A (getItem (.ref d) kv) Q E s := by
  unfold getItem
  try with_reducible refine wpAny_holding ?_
  refine wpAny_bind (wpAny_sequenceKey D.typeIs (by decide) (wpAny_bind (wpAny_callSpecial?_slot (name := Str.ofString "__getitem__") D.typeIs PySem.F.slot_dict_getitem (wpAny_call_entry PySem.F.slot_dict_getitem D.typeIs entry_dict_getitem ?_ (args_dict_getitem _ _)))))
  show wpAny _ A.in1 (dictGet d kv >>= _) _ _ s
  exact wpAny_bind (get_nest (A := A.in1) hu K D R (wpAny_pure ⟨e, rfl, wpAny_pure h⟩))
/-- k in d -/
theorem contains_nest {r : Option Value} {Q : Bool → Shared → Prop} (hu : A.in1.units + 8 < cLine) (hs : (d == sysModules) = false) (K : NKey s.heap k kv) (D : NDic w s.heap d es ks) (R : NAt es ks k r) (h : Q r.isSome { s with toks := s.toks + k.draws }) :
    wpAny (model prog w) A (contains (.ref d) kv) Q E s := by
  unfold contains
  try with_reducible refine wpAny_holding ?_
  refine wpAny_bind (wpAny_specialOf D.typeIs slot_dict_contains.lookup ?_)
  show wpAny _ A (if (some (Value.builtin "dict.__contains__") == some Value.none) = true then _ else _) _ E s
  rw [if_neg (by rw [beq_builtin_none]; exact Bool.false_ne_true)]
  refine wpAny_bind (wpAny_callSpecialUnlessNone?_slot (name := Str.ofString "__contains__") D.typeIs slot_dict_contains (wpAny_call_entry slot_dict_contains D.typeIs entry_dict_contains ?_ (args_dict_contains _ _)))
  show wpAny _ A.in1 (dictGet d kv >>= _) _ _ s
  refine wpAny_bind (get_nest (A := A.in1) hu K D R ?_)
  cases r with
  | some p =>
    show wpAny _ A.in1 (ret (.bool true)) _ _ _
    exact wpAny_pure ⟨_, rfl, wpAny_truthy_bool h⟩
  | none =>
    show wpAny _ A.in1 (Builtin.Dict.pendingKey? d kv >>= _) _ _ _
    exact wpAny_bind (wpAny_pendingKey_other hs (wpAny_pure ⟨_, rfl, wpAny_truthy_bool h⟩))
/-- d.get(k, x) -/
theorem meets_get2_nest (hs : (d == sysModules) = false) (x : Value) :
    MeetsIn prog w (Builtin.«dict.get» ⟨[.ref d, kv, x], []⟩) (fun A R s => ∃ es ks k r, A.in1.units + 8 < cLine ∧ NKey s.heap k kv ∧ NDic w s.heap d es ks ∧ NAt es ks k r ∧ R (.ok (.ret (r.getD x))) { s with toks := s.toks + k.draws }) :=
  .of_wp fun A R s ⟨es, ks, k, r, hu, K, D, N, h⟩ => by
    show wpAny _ A.in1 (dictGet d kv >>= _) _ _ s
    refine wpAny_bind (get_nest hu K D N ?_)
    cases r with
    | some v => exact wpAny_pure ⟨v, rfl, h⟩
    | none =>
      show wpAny _ A.in1 (Builtin.Dict.missed d kv >>= _) _ _ _
      exact wpAny_bind (wpAny_missed_other hs (wpAny_pure ⟨x, rfl, h⟩))
theorem KeyOf.at_ {h h' : Heap} {o : Obj} {ep : Nat} {e : DictEntry} (ho : h.get? d = some o) (hd : o.data = .dict es ep) (sb : Heap.SameBut d h h') (K : KeyOf w h k e) : KeyOf w h' k e :=
  ⟨NestedIs.at (fun b ob vs n hb hc => by
    refine (sb.2 b fun e => ?_).trans hb
    subst e
    rw [ho] at hb; cases hb
    rw [hd] at hc; cases hc) _ _ K.1, K.2⟩
theorem NestedIs.sb {h h' : Heap} {o : Obj} {ep : Nat} {v : Value} (ho : h.get? d = some o) (hd : o.data = .dict es ep) (sb : Heap.SameBut d h h') (K : NestedIs h k v) : NestedIs h' k v :=
  NestedIs.at (fun b ob vs n hb hc => by
    refine (sb.2 b fun e => ?_).trans hb
    subst e
    rw [ho] at hb; cases hb
    rw [hd] at hc; cases hc) _ _ K
theorem pr_modify {α β : Type} {F : α → β → Prop} {f : β → β} (hf : ∀ a b, F a b → F a (f b)) : ∀ {xs : List α} {ys : List β} (j : Nat), Paired F xs ys → Paired F xs (ys.modify j f)
  | _, _, j, .nil => by cases j <;> exact .nil
  | _, _, 0, .cons h t => .cons (hf _ _ h) t
  | _, _, j + 1, .cons h t => .cons h (pr_modify hf j t)
/-- d[k] = v -/
theorem dictSet_nest {v : Value} {Q : Unit → Shared → Prop} (hu : A.units + 8 < cLine) (K : NKey s.heap k kv) (D : NDic w s.heap d es ks) (hz : es.size ≤ sizeLine)
    (hnew : k ∉ ks → ∀ h', NDic w h' d (es.push ⟨k.hash w, kv, v⟩) (ks ++ [k]) → Heap.SameBut d s.heap h' → Q () { s with heap := h', toks := s.toks + k.draws })
    (hold : ∀ j, ks[j]? = some k → ∀ h', NDic w h' d (es.modify j fun e => { e with val := v }) ks → Heap.SameBut d s.heap h' → Q () { s with heap := h', toks := s.toks + k.draws }) :
    wpAny (model prog w) A (dictSet d kv v) Q E s := by
  obtain ⟨o, ep, ho, hx, hd⟩ := D.obj
  unfold dictSet
  try with_reducible refine wpAny_holding ?_
  refine wpAny_bind (pyHash_key _ _ _ _ _ K.is (by have := K.dp; omega) ?_)
  unfold dictSetHashed
  try with_reducible refine wpAny_holding ?_
  refine wpAny_bind (find_nest (s := { s with toks := s.toks + k.draws }) hu K.is K.dp K.nt ho hd D.ents D.nd (fun hn => ?_) fun j hj => ?_)
  · refine wpAny_bind (wpAny_rule (wpAny_updateDictKeys (hz := by omega) (s := { s with toks := s.toks + k.draws }) ho hd (hnew hn _ ⟨⟨_, ep + 1, Heap.get?_update_self _ ho (Obj.isFreed_of_dict (Obj.data_mapDictKeys hd _)), hx.mapDictKeys _, Obj.data_mapDictKeys hd _⟩, ?_, ?_⟩ (Heap.SameBut.update ..))))
    · rw [Array.toList_push]
      exact pr_app (L2.Paired.mapP D.ents fun a b q => q.at_ ho hd (Heap.SameBut.update ..)) (.cons ⟨NestedIs.sb ho hd (Heap.SameBut.update ..) K.is, K.dp, rfl⟩ .nil)
    · exact List.nodup_append.mpr ⟨D.nd, by simp, fun a ha b hb => by rw [List.mem_singleton.mp hb]; exact fun z => hn (z ▸ ha)⟩
  · refine wpAny_bind (wpAny_rule (wpAny_bind (wpAny_updateDict (s := { s with toks := s.toks + k.draws }) ho hd (wpAny_point (hold j hj _ ⟨⟨_, ep, Heap.get?_update_self _ ho (Obj.isFreed_of_dict (Obj.data_mapDict hd _)), hx.mapDict _, Obj.data_mapDict hd _⟩, ?_, D.nd⟩ (Heap.SameBut.update ..))))))
    rw [Array.toList_modify]
    exact pr_modify (fun a b q => ⟨q.1, q.2.1, q.2.2⟩) j (L2.Paired.mapP D.ents fun a b q => q.at_ ho hd (Heap.SameBut.update ..))
theorem setItem_nest {v : Value} {Q : Unit → Shared → Prop} (hu : A.in1.units + 8 < cLine) (K : NKey s.heap k kv) (D : NDic w s.heap d es ks) (hz : es.size ≤ sizeLine)
    (hnew : k ∉ ks → ∀ h', NDic w h' d (es.push ⟨k.hash w, kv, v⟩) (ks ++ [k]) → Heap.SameBut d s.heap h' → Q () { s with heap := h', toks := s.toks + k.draws })
    (hold : ∀ j, ks[j]? = some k → ∀ h', NDic w h' d (es.modify j fun e => { e with val := v }) ks → Heap.SameBut d s.heap h' → Q () { s with heap := h', toks := s.toks + k.draws }) :
    wpAny (model prog w) A (setItem (.ref d) kv v) Q E s := by
  unfold setItem
  try with_reducible refine wpAny_holding ?_
  refine wpAny_bind (wpAny_sequenceKey D.typeIs (by decide) (wpAny_bind (wpAny_callSpecial?_slot (name := Str.ofString "__setitem__") D.typeIs PySem.F.slot_dict_setitem (wpAny_call_entry PySem.F.slot_dict_setitem D.typeIs entry_dict_setitem ?_ (args_dict_setitem _ _ _)))))
  show wpAny _ A.in1 (Builtin.Dict.notOrdered "__setitem__" ⟨[.ref d, kv, v], []⟩ >>= _) _ _ s
  refine wpAny_bind (wpAny_notOrdered_dict D.typeIs ?_)
  show wpAny _ A.in1 (dictSet d kv v >>= _) _ _ s
  exact wpAny_bind (dictSet_nest (A := A.in1) hu K D hz (fun hn h' D' sb => wpAny_pure ⟨.none, rfl, wpAny_pure (hnew hn h' D' sb)⟩) fun j hj h' D' sb => wpAny_pure ⟨.none, rfl, wpAny_pure (hold j hj h' D' sb)⟩)
end
end BF

set_option Elab.async false
set_option linter.all false
set_option maxRecDepth 100000
set_option maxHeartbeats 1000000
set_option autoImplicit false
/-! Dicts as they stand at names. -/
namespace BF
open PySem PySem.Spec PyProof.Rows L2

abbrev Kvs := List (D × (D ⊕ List D))
noncomputable def keyAt (kvs : Kvs) (k : D) : Option (D ⊕ List D) := (kvs.find? fun kv => decide (kv.1 = k)).map (·.2)
noncomputable def putA (kvs : Kvs) (k : D) (v : D ⊕ List D) : Kvs := if k ∈ kvs.map (·.1) then kvs.map (fun kv => if kv.1 = k then (k, v) else kv) else kvs ++ [(k, v)]
theorem keyAt_none {kvs : Kvs} {k : D} : keyAt kvs k = none ↔ k ∉ kvs.map (·.1) := by
  unfold keyAt
  rw [Option.map_eq_none_iff, List.find?_eq_none]
  constructor
  · intro h hm
    obtain ⟨x, h1, h2⟩ := List.mem_map.mp hm
    exact h x h1 (by simpa using h2)
  · intro h x hx hk
    exact h (List.mem_map.mpr ⟨x, hx, by simpa using hk⟩)
theorem keyAt_some {kvs : Kvs} {k : D} {v : D ⊕ List D} (h : keyAt kvs k = some v) : ∃ j : Nat, kvs[j]? = some (k, v) := by
  unfold keyAt at h
  obtain ⟨x, h1, h2⟩ := Option.map_eq_some_iff.mp h
  have h3 := List.find?_some h1
  have h4 := List.mem_of_find?_eq_some h1
  obtain ⟨j, hj⟩ := List.mem_iff_getElem?.mp h4
  have : x = (k, v) := by
    have e : x.1 = k := by simpa using h3
    rw [← e, ← h2]
  exact ⟨j, by rw [hj, this]⟩
theorem putA_keys (kvs : Kvs) (k : D) (v : D ⊕ List D) : (putA kvs k v).map (·.1) = if k ∈ kvs.map (·.1) then kvs.map (·.1) else kvs.map (·.1) ++ [k] := by
  unfold putA
  split
  · rw [List.map_map]
    apply List.map_congr_left
    intro a _
    show (if a.1 = k then (k, v) else a).1 = a.1
    split
    · rename_i h; exact h.symm
    · rfl
  · simp
theorem putA_nodup {kvs : Kvs} {k : D} {v : D ⊕ List D} (h : (kvs.map (·.1)).Nodup) : ((putA kvs k v).map (·.1)).Nodup := by
  rw [putA_keys]
  split
  · exact h
  · rename_i hn
    exact List.nodup_append.mpr ⟨h, by simp, fun a ha b hb => by rw [List.mem_singleton.mp hb]; exact fun z => hn (z ▸ ha)⟩
def KeysOk (kvs : Kvs) : Prop := (kvs.map (·.1)).Nodup ∧ ∀ kv ∈ kvs, kv.1.nb = true ∧ kv.1.dep ≤ 8
theorem putA_ok {kvs : Kvs} {k : D} {v : D ⊕ List D} (h : KeysOk kvs) (hb : k.nb = true) (hd : k.dep ≤ 8) : KeysOk (putA kvs k v) := by
  refine ⟨putA_nodup h.1, fun kv hkv => ?_⟩
  have hm : kv.1 ∈ (putA kvs k v).map (·.1) := List.mem_map_of_mem hkv
  rw [putA_keys] at hm
  have old : ∀ {x : D}, x ∈ kvs.map (·.1) → x.nb = true ∧ x.dep ≤ 8 := fun {x} hx => by
    obtain ⟨y, h1, h2⟩ := List.mem_map.mp hx
    rw [← h2]; exact h.2 y h1
  split at hm
  · exact old hm
  · rcases List.mem_append.mp hm with z | z
    · exact old z
    · rw [List.mem_singleton.mp z]; exact ⟨hb, hd⟩
theorem putA_len (kvs : Kvs) (k : D) (v : D ⊕ List D) : (putA kvs k v).length ≤ kvs.length + 1 := by
  unfold putA
  split <;> simp
section
variable {X : Cx} {pins : List (Addr × Obj)} {σ : L2.St} {H : Hp} {s : Shared} {O : Addr → Prop} {d : Addr} {es : Array DictEntry} {kvs : Kvs}
theorem nkey_of (I : Inv X pins σ H s) {h : Heap} {es0 : Array DictEntry} (D0 : IsDic d es0 s.heap) (hk : ∀ b o, b ≠ d → s.heap.get? b = some o → h.get? b = some o) {kV : V} {u : Value} {k : D} (r : RelV kV u) (t : TD H kV k) : NestedIs h k.key u := by
  obtain ⟨o0, ep0, ho, _, hd⟩ := D0
  exact NestedIs.at (fun b ob vs n hb hc => hk b ob (fun e => by subst e; rw [ho] at hb; cases hb; rw [hd] at hc; cases hc) hb) _ _ (TD.nest I _ _ _ t r)
theorem nkey_ok (I : Inv X pins σ H s) {h : Heap} {es0 : Array DictEntry} (D0 : IsDic d es0 s.heap) (hk : ∀ b o, b ≠ d → s.heap.get? b = some o → h.get? b = some o) {kV : V} {u : Value} {k : D} (r : RelV kV u) (t : TD H kV k) (hb : k.nb = true) (h8 : k.dep ≤ 8) : NKey h k.key u :=
  ⟨nkey_of I D0 hk r t, by rw [D.depth_key]; exact h8, fun x e => by cases k <;> simp [D.key, D.nb] at e hb⟩
theorem keys_nd (h : KeysOk kvs) : (kvs.map fun kv => kv.1.key).Nodup := by
  induction kvs with
  | nil => exact List.nodup_nil
  | cons a r ih =>
    have h1 := h.1
    rw [List.map_cons, List.nodup_cons] at h1
    rw [List.map_cons, List.nodup_cons]
    refine ⟨fun hm => h1.1 ?_, ih ⟨h1.2, fun kv hkv => h.2 kv (List.mem_cons_of_mem _ hkv)⟩⟩
    obtain ⟨y, y1, y2⟩ := List.mem_map.mp hm
    exact List.mem_map.mpr ⟨y, y1, D.key_inj _ _ (h.2 y (List.mem_cons_of_mem _ y1)).1 (h.2 a List.mem_cons_self).1 y2⟩
theorem pr_mapL' {α β γ : Type} {F : α → β → Prop} {G : γ → β → Prop} {f : γ → α} (hf : ∀ c b, c ∈ c :: [] → G c b → F (f c) b) : ∀ {xs : List γ} {ys : List β}, Paired G xs ys → Paired F (xs.map f) ys
  | _, _, .nil => .nil
  | _, _, .cons a t => .cons (hf _ _ (by simp) a) (pr_mapL' hf t)
theorem pr_mem {α β : Type} {F : α → β → Prop} : ∀ {xs : List α} {ys : List β}, Paired F xs ys → Paired (fun a b => a ∈ xs ∧ F a b) xs ys
  | _, _, .nil => .nil
  | _, _, .cons a t => .cons ⟨by simp, a⟩ (L2.Paired.mapP (pr_mem t) fun _ _ q => ⟨List.mem_cons_of_mem _ q.1, q.2⟩)
theorem ndic_of (I : Inv X pins σ H s) {h : Heap} {es0 : Array DictEntry} (D0 : IsDic d es0 s.heap) (hk : ∀ b o, b ≠ d → s.heap.get? b = some o → h.get? b = some o) (Di : IsDic d es h) (P : Paired (EnOk (gaOf X) O H) kvs es.toList) (K : KeysOk kvs) : NDic X.w h d es (kvs.map fun kv => kv.1.key) := by
  refine ⟨Di, pr_mapL' (G := fun kv e => kv ∈ kvs ∧ EnOk (gaOf X) O H kv e) (fun c b _ q => ?_) (pr_mem P), keys_nd K⟩
  obtain ⟨hm, kV, vV, h1, h2, h3, _⟩ := q
  exact ⟨nkey_of I D0 hk h1 h2, by rw [D.depth_key]; exact (K.2 c hm).2, h3⟩
theorem key_mem_iff (K : KeysOk kvs) {k : D} (hb : k.nb = true) : (k.key ∈ kvs.map fun kv => kv.1.key) ↔ k ∈ kvs.map (·.1) := by
  constructor
  · intro h
    obtain ⟨y, y1, y2⟩ := List.mem_map.mp h
    exact List.mem_map.mpr ⟨y, y1, D.key_inj _ _ (K.2 y y1).1 hb y2⟩
  · intro h
    obtain ⟨y, y1, y2⟩ := List.mem_map.mp h
    exact List.mem_map.mpr ⟨y, y1, by rw [y2]⟩
/-- what is read at a key -/
theorem nat_of (P : Paired (EnOk (gaOf X) O H) kvs es.toList) (K : KeysOk kvs) {k : D} (hb : k.nb = true) :
    (keyAt kvs k = none → NAt es (kvs.map fun kv => kv.1.key) k.key none) ∧
      ∀ vv, keyAt kvs k = some vv → ∃ e vV, NAt es (kvs.map fun kv => kv.1.key) k.key (some e) ∧ RelV vV e ∧ VOk O H vV vv := by
  refine ⟨fun h => .inl ⟨rfl, fun hm => keyAt_none.mp h ((key_mem_iff K hb).mp hm)⟩, fun vv h => ?_⟩
  obtain ⟨j, hj⟩ := keyAt_some h
  obtain ⟨e, h1, kV, vV, _, _, _, h2, h3⟩ := pr_nthL P hj
  exact ⟨e.val, vV, .inr ⟨j, e, by rw [List.getElem?_map, hj]; rfl, by rw [← Array.getElem?_toList]; exact h1, rfl⟩, h2, h3⟩
theorem pr_replace {F : D × (D ⊕ List D) → DictEntry → Prop} {k : D} {vv : D ⊕ List D} {f : DictEntry → DictEntry} (hf : ∀ a b, a.1 = k → F a b → F (k, vv) (f b)) :
    ∀ {kvs : Kvs} {l : List DictEntry} {j : Nat} {o : D ⊕ List D}, Paired F kvs l → (kvs.map (·.1)).Nodup → kvs[j]? = some (k, o) → Paired F (kvs.map fun kv => if kv.1 = k then (k, vv) else kv) (l.modify j f)
  | _, _, j, o, .nil, _, h => by simp at h
  | a :: xs, b :: ys, 0, o, .cons h t, nd, e => by
    simp at e
    rw [List.map_cons, List.nodup_cons] at nd
    have ha : a.1 = k := by rw [e]
    have rest : (xs.map fun kv => if kv.1 = k then (k, vv) else kv) = xs := by
      conv => rhs; rw [← List.map_id xs]
      apply List.map_congr_left
      intro c hc
      rw [if_neg (fun z => nd.1 (by rw [ha, ← z]; exact List.mem_map_of_mem hc))]; rfl
    show Paired F ((if a.1 = k then (k, vv) else a) :: _) (f b :: ys)
    rw [if_pos ha, rest]
    exact .cons (hf a b ha h) t
  | a :: xs, b :: ys, j + 1, o, .cons h t, nd, e => by
    rw [List.map_cons, List.nodup_cons] at nd
    have e' : xs[j]? = some (k, o) := by simpa using e
    have ha : ¬ a.1 = k := fun z => nd.1 (by rw [z]; exact List.mem_map_of_mem (f := (·.1)) (List.mem_of_getElem? e'))
    show Paired F ((if a.1 = k then (k, vv) else a) :: _) (b :: ys.modify j f)
    rw [if_neg ha]
    exact .cons h (pr_replace hf t nd.2 e')
/-- writing at a key -/
theorem set_abs {A : Around} {E : Value → Shared → Prop} (I : Inv X pins σ H s) {es0 : Array DictEntry} (D0 : IsDic d es0 s.heap) {s1 : Shared} (hk : ∀ b o, b ≠ d → s.heap.get? b = some o → s1.heap.get? b = some o) (Di : IsDic d es s1.heap) (P : Paired (EnOk (gaOf X) O H) kvs es.toList) (K : KeysOk kvs)
    {kV vV : V} {u val : Value} {k : D} {vv : D ⊕ List D} (r : RelV kV u) (t : TD H kV k) (hb : k.nb = true) (h8 : k.dep ≤ 8) (rv : RelV vV val) (tv : VOk O H vV vv) (hz : kvs.length ≤ sizeLine) (hu : A.units + 8 < cLine)
    {Q : Unit → Shared → Prop} (h : ∀ h' es' tk, IsDic d es' h' → Paired (EnOk (gaOf X) O H) (putA kvs k vv) es'.toList → Heap.SameBut d s1.heap h' → Q () { s1 with heap := h', toks := tk }) :
    wpAny (model X.prog X.w) A (dictSet d u val) Q E s1 := by
  have sz : es.size ≤ sizeLine := by
    have q : kvs.length = es.size := by rw [← Array.length_toList]; exact PySem.Paired.length P
    rw [← q]; exact hz
  refine dictSet_nest hu (nkey_ok I D0 hk r t hb h8) (ndic_of I D0 hk Di P K) sz (fun hn h' D' sb => ?_) fun j hj h' D' sb => ?_
  · refine h h' _ _ D'.obj ?_ sb
    have hn' : k ∉ kvs.map (·.1) := fun z => hn ((key_mem_iff K hb).mpr z)
    unfold putA
    rw [if_neg hn', Array.toList_push]
    exact pr_app P (.cons ⟨kV, vV, r, t, rfl, rv, tv⟩ .nil)
  · refine h h' _ _ D'.obj ?_ sb
    rw [List.getElem?_map] at hj
    obtain ⟨y, h1, h2⟩ := Option.map_eq_some_iff.mp hj
    have hy : y.1 = k := D.key_inj _ _ (K.2 y (List.mem_of_getElem? h1)).1 hb h2
    have hm : k ∈ kvs.map (·.1) := hy ▸ List.mem_map_of_mem (List.mem_of_getElem? h1)
    unfold putA
    rw [if_pos hm, Array.toList_modify]
    refine pr_replace (fun a b ha q => ?_) P K.1 (o := y.2) (by rw [h1, ← hy])
    obtain ⟨kV', vV', q1, q2, q3, q4, q5⟩ := q
    exact ⟨kV', vV, q1, by rw [← ha]; exact q2, by rw [← ha]; exact q3, rv, tv⟩
end
end BF

set_option Elab.async false
set_option linter.all false
set_option maxRecDepth 100000
set_option maxHeartbeats 1000000
set_option autoImplicit false
/-! Rules for dicts. -/
namespace BF
open PySem PySem.Spec PyProof.Rows L2

section
variable {X : Cx} {pins : List (Addr × Obj)} {σ : L2.St} {H : Hp} {s : Shared} {O : Addr → Prop} {d : Addr} {kvs : Kvs}
theorem DicOk.rd (I : Inv X pins σ H s) (h : DicOk (gaOf X) O H d kvs) : ∃ es, IsDic d es s.heap ∧ Paired (EnOk (gaOf X) O H) kvs es.toList ∧ (d == sysModules) = false ∧ KeysOk kvs ∧ NDic X.w s.heap d es (kvs.map fun kv => kv.1.key) := by
  obtain ⟨es, h1, h2, h3, h4, h5⟩ := h
  obtain ⟨q, _⟩ := (show IsDic d es s.heap ∧ _ from I.hok d _ h1)
  exact ⟨es, q, h2, h3, ⟨h4, h5⟩, ndic_of I q (fun _ _ _ e => e) q h2 ⟨h4, h5⟩⟩
theorem dic_obj {es : Array DictEntry} {h : Heap} {H' : Hp} (q : IsDic d es h) : ObjOk X.prog X.w H' h d (.ext (IsDic d es)) :=
  ⟨q, let ⟨o, _, h, _⟩ := q; ⟨o, h⟩, fun h1 h2 ⟨o, ep, a, b⟩ k => ⟨o, ep, k o a, b⟩⟩
end
section
variable {X : Cx} {o i e f value : Expr} {pos pos' : Pos} {apos cpos : Pos} {td ty tv tx : TE}
/-- {} -/
theorem pe_dnewA : PE X (.Dict [] [] pos) (fun σ H Q => ∀ p, H p = none → (p == sysModules) = false → Q (.ref p) (upd H p (.ext (IsDic p #[])))) := ⟨fun pins s σ H Q I h =>
  wpAny_Dict_empty ⟨.ref s.heap.objs.size, _, I.laid (a := s.heap.objs.size) (o := .ext (IsDic s.heap.objs.size #[])) (t' := s.toks) (fun _ _ q => Heap.get?_push_of_some _ q) (Nat.le_refl _) (dic_obj ⟨_, 0, Heap.get?_push_size _ rfl, ⟨rfl, rfl, rfl⟩, rfl⟩), rfl,
    h _ (I.hok.fresh (Nat.le_refl _)) (beq_eq_false_iff_ne.mpr (Ne.symm (Nat.ne_of_lt I.big)))⟩⟩
/-- what is at k -/
def AtK (X : Cx) (O : Addr → Prop) (H : Hp) (kvs : Kvs) (k : D) (v : V) : Prop := ∃ vv, keyAt kvs k = some vv ∧ VOk O H v vv
theorem pe_mget (hu : X.A.units + 64 < cLine) (ho : PE X o td) (hi : PE X i ty) (hs : NoSl i) : PE X (.Subscript o i pos) (fun σ H Q => td σ H fun x H1 => ty σ H1 fun y H2 => ∃ d O kvs k, x = .ref d ∧ DicOk (gaOf X) O H2 d kvs ∧ TD H2 y k ∧ k.nb = true ∧ k.dep ≤ 8 ∧ (keyAt kvs k).isSome = true ∧
    ∀ v, AtK X O H2 kvs k v → Q v H2) := by
  refine ⟨fun pins s σ H Q I h => ?_⟩
  refine subD_of PySem.F.slot_dict_getitem.lookup hs (thn (ho.run pins s σ H _ I h) fun u s1 ⟨x, H1, I1, rx, q1⟩ => thn (hi.run pins s1 σ H1 _ I1 q1) fun iv s2 ⟨y, H2, I2, ry, d, O, kvs, k, ex, dk, t, hb, h8, hs, q2⟩ => ?_)
  subst ex
  obtain rfl : u = Value.ref d := rx
  obtain ⟨es, q, P, lo, K, N⟩ := dk.rd I2
  obtain ⟨vv, hv⟩ := Option.isSome_iff_exists.mp hs
  obtain ⟨ev, vV, n1, n2, n3⟩ := (nat_of P K hb).2 vv hv
  exact ⟨N.typeIs, getItem_nest (by show X.A.units + 1 + 8 < cLine; omega) (nkey_ok I2 q (fun _ _ _ e => e) ry t hb h8) N n1 ⟨vV, H2, I2.tok _, n2, q2 vV ⟨vv, hv, n3⟩⟩⟩
theorem pe_mget2 (hu : X.A.units + 64 < cLine) (ho : PE X o td) (he : PE X e ty) (hf : PE X f tx) (m : M2 X o "get" apos e f cpos) : PE X (.Call (.Attribute o "get" apos) [e, f] [] cpos)
    (fun σ H Q => td σ H fun x H1 => ∃ d O1 kvs1, x = .ref d ∧ DicOk (gaOf X) O1 H1 d kvs1 ∧ ty σ H1 fun y H2 => tx σ H2 fun z H3 => ∃ O kvs k, DicOk (gaOf X) O H3 d kvs ∧ TD H3 y k ∧ k.nb = true ∧ k.dep ≤ 8 ∧
      (∀ v, AtK X O H3 kvs k v → Q v H3) ∧ (keyAt kvs k = none → Q z H3)) := by
  refine ⟨fun pins s σ H Q I h => ?_⟩
  refine wpAny_Call_method m.base m.few m.line PySem.F.plainAttrs_dict PySem.F.slot_dict_get PySem.F.type_dict_get (thn (ho.run pins s σ H _ I h) fun u s1 ⟨x, H1, I1, rx, d, O1, kvs1, ex, dk1, q1⟩ => ?_)
  subst ex
  obtain rfl : u = Value.ref d := rx
  obtain ⟨es1, _, _, _, _, N1⟩ := dk1.rd I1
  refine ⟨N1.typeIs, N1.noDict, ?_⟩
  rw [m.trees]
  refine Calls.callWith_builtin rfl (Calls.evalArgs_plain (Calls.spliced_cons (thn (he.run pins s1 σ H1 _ I1 q1) fun iv s2 ⟨y, H2, I2, ry, q2⟩ =>
    Calls.spliced_cons (thn (hf.run pins s2 σ H2 _ I2 q2) fun fv s3 ⟨z, H3, I3, rz, O, kvs, k, dk, t, hb, h8, q3, q4⟩ => Calls.spliced_nil ?_))))
  obtain ⟨es, q, P, lo, K, N⟩ := dk.rd I3
  refine call_meetsIn PySem.F.slot_dict_get N.typeIs PySem.F.entry_dict_get (PySem.F.args_dict_get_3 _ _ _) (meets_get2_nest lo fv) ?_
  cases hk : keyAt kvs k with
  | none => exact ⟨es, _, k.key, none, by show X.A.units + 1 + 8 < cLine; omega, nkey_ok I3 q (fun _ _ _ e => e) ry t hb h8, N, (nat_of P K hb).1 hk, ⟨z, H3, I3.tok _, rz, q4 hk⟩⟩
  | some vv =>
    obtain ⟨ev, vV, n1, n2, n3⟩ := (nat_of P K hb).2 vv hk
    exact ⟨es, _, k.key, some ev, by show X.A.units + 1 + 8 < cLine; omega, nkey_ok I3 q (fun _ _ _ e => e) ry t hb h8, N, n1, ⟨vV, H3, I3.tok _, n2, q3 vV ⟨vv, hk, n3⟩⟩⟩
theorem ps_mput (hu : X.A.units + 64 < cLine) (ho : PE X o td) (hi : PE X i ty) (hv : PE X value tv) (hs : swapsWith value (some (.Subscript o i pos')) pos.line X.env = pure false) :
    PS X (.Assign [.Subscript o i pos'] value pos) (fun D σ H => tv σ H fun v H1 => td σ H1 fun x H2 => ty σ H2 fun y H3 => ∃ d O kvs k vv, x = .ref d ∧ DicOk (gaOf X) O H3 d kvs ∧ TD H3 y k ∧ k.nb = true ∧ k.dep ≤ 8 ∧ VOk O H3 v vv ∧ kvs.length < 100000 ∧
      ∀ es', Paired (EnOk (gaOf X) O H3) (putA kvs k vv) es'.toList → D.nx σ (upd H3 d (.ext (IsDic d es')))) := by
  refine ⟨fun pins s σ H D I h => ?_⟩
  refine wpAny_Assign_Subscript (thn (hv.run pins s σ H _ I h) fun r s1 ⟨v, H1, I1, rv, q1⟩ => thn (ho.run pins s1 σ H1 _ I1 q1) fun u s2 ⟨x, H2, I2, rx, q2⟩ => thn (hi.run pins s2 σ H2 _ I2 q2) fun iv s3 ⟨y, H3, I3, ry, d, O, kvs, k, vv, ex, dk, t, hb, h8, tv, hz, q3⟩ => ?_) hs
  subst ex
  obtain rfl : u = Value.ref d := rx
  obtain ⟨es, q, P, lo, K, N⟩ := dk.rd I3
  obtain ⟨_, he, _⟩ := dk
  unfold setItem
  try with_reducible refine wpAny_holding ?_
  refine wpAny_bind (wpAny_sequenceKey N.typeIs (by decide) (wpAny_bind (wpAny_callSpecial?_slot (name := Str.ofString "__setitem__") N.typeIs PySem.F.slot_dict_setitem (wpAny_call_entry PySem.F.slot_dict_setitem N.typeIs entry_dict_setitem ?_ (args_dict_setitem _ _ _)))))
  show wpAny _ X.A.in1 (Builtin.Dict.notOrdered "__setitem__" ⟨[.ref d, iv, r], []⟩ >>= _) _ _ s3
  refine wpAny_bind (wpAny_notOrdered_dict N.typeIs ?_)
  show wpAny _ X.A.in1 (dictSet d iv r >>= _) _ _ s3
  refine wpAny_bind (set_abs I3 q (s1 := s3) (fun _ _ _ e => e) q P K ry t hb h8 rv tv (by have := Evl.sz_of (n := 100000) (Nat.le_refl _); omega) (by show X.A.units + 1 + 8 < cLine; omega) fun h' es' tk q' P' sb => wpAny_pure ⟨.none, rfl, wpAny_pure ⟨σ, _, ?_, q3 es' P'⟩⟩)
  have hx : ∃ u, h'.get? d = some u := let ⟨o, _, h, _⟩ := q'; ⟨o, h⟩
  exact I3.write (x := d) (e := d) (t' := tk) (by rw [he]; exact trivial) (.inl rfl) (fun b u hb z => (sb.2 b hb).trans z) hx (dic_obj q')
/-- list(x) -/
theorem call_listM (hc : X.calm = true) : CallR X (.type "list") (fun xs H Q => ∃ d O kvs, xs = [V.ref d] ∧ DicOk (gaOf X) O H d kvs ∧ kvs.length ≤ 100000 ∧ ∀ p ws, H p = none → TDs H ws (kvs.map (·.1)) → Q (.ref p) (upd H p (.lst ws))) := by
  intro pins s σ H xs us Q I r h
  obtain ⟨d, O, kvs, rfl, dk, hz, q⟩ := h
  obtain ⟨u, rfl, rx⟩ := r.one
  cases rx
  obtain ⟨es, ⟨ob, ep, ho, hx, hdt⟩, P, lo, K, N⟩ := dk.rd I
  have sz : kvs.length = es.size := by rw [← Array.length_toList]; exact PySem.Paired.length P
  have hz' := Evl.sz_of hz
  refine PySem.W.kdl_call (kdl_raw lo hx hdt) (I.ok.hd hc) ho (by omega) fun h' tk acc' c' kp e it => ?_
  have ea : acc'.toList = es.toList.map (·.key) := by
    apply List.ext_getElem?
    intro j
    rw [List.getElem?_map]
    cases hj : acc'.toList[j]? with
    | none =>
      have h1 := List.getElem?_eq_none_iff.mp hj
      rw [Array.length_toList, it.1] at h1
      rw [List.getElem?_eq_none (by rw [Array.length_toList]; exact h1)]; rfl
    | some v =>
      obtain ⟨en, hen, hv⟩ := it.2 j v (by rw [← Array.getElem?_toList]; exact hj)
      rw [Array.getElem?_toList, hen, hv]; rfl
  obtain ⟨ws, rv, tw⟩ : ∃ ws, Vals ws (es.toList.map (·.key)) ∧ TDs H ws (kvs.map (·.1)) := by
    generalize es.toList = l at P
    clear q sz K N dk
    induction P with
    | nil => exact ⟨[], .nil, .nil⟩
    | cons h t ih =>
      obtain ⟨kV, _, h1, h2, _⟩ := h
      obtain ⟨ws, w1, w2⟩ := ih (by simp at hz; omega) (by simp at hz'; omega)
      exact ⟨kV :: ws, .cons h1 w1, .cons h2 w2⟩
  have wz : ws.length ≤ sizeLine := by rw [tw.length, List.length_map]; exact hz'
  refine ⟨.ref s.heap.objs.size, _, I.laid (t' := tk) (o := .lst ws) kp (Nat.le_refl _) ⟨wz, acc'.toList, c', by rw [ea]; exact rv, by rw [Array.toArray_toList]; exact e⟩, rfl, q _ _ (I.hok.fresh (Nat.le_refl _)) tw⟩
theorem op_inM (hu : X.A.units + 64 < cLine) : OpR X (compareOp .In) (fun x y H Q => ∃ d O kvs k, y = .ref d ∧ DicOk (gaOf X) O H d kvs ∧ TD H x k ∧ k.nb = true ∧ k.dep ≤ 8 ∧ Q (.bl (keyAt kvs k).isSome) H) := by
  intro pins s σ H x y v u Q I rx ry h
  obtain ⟨d, O, kvs, k, rfl, dk, t, hb, h8, q⟩ := h
  cases ry
  obtain ⟨es, qd, P, lo, K, N⟩ := dk.rd I
  show wpAny _ X.A (do return Value.bool (← contains (.ref d) v)) _ _ s
  have key := nkey_ok I qd (fun _ _ _ e => e) rx t hb h8
  cases hk : keyAt kvs k with
  | none => exact wpAny_bind (contains_nest (by show X.A.units + 1 + 8 < cLine; omega) lo key N ((nat_of P K hb).1 hk) (wpAny_pure ⟨.bl false, H, I.tok _, rfl, by rw [hk] at q; exact q⟩))
  | some vv =>
    obtain ⟨ev, vV, n1, n2, n3⟩ := (nat_of P K hb).2 vv hk
    exact wpAny_bind (contains_nest (by show X.A.units + 1 + 8 < cLine; omega) lo key N n1 (wpAny_pure ⟨.bl true, H, I.tok _, rfl, by rw [hk] at q; exact q⟩))
theorem op_niM (hu : X.A.units + 64 < cLine) : OpR X (compareOp .NotIn) (fun x y H Q => ∃ d O kvs k, y = .ref d ∧ DicOk (gaOf X) O H d kvs ∧ TD H x k ∧ k.nb = true ∧ k.dep ≤ 8 ∧ Q (.bl (!(keyAt kvs k).isSome)) H) := by
  intro pins s σ H x y v u Q I rx ry h
  obtain ⟨d, O, kvs, k, rfl, dk, t, hb, h8, q⟩ := h
  cases ry
  obtain ⟨es, qd, P, lo, K, N⟩ := dk.rd I
  show wpAny _ X.A (do return Value.bool (!(← contains (.ref d) v))) _ _ s
  have key := nkey_ok I qd (fun _ _ _ e => e) rx t hb h8
  cases hk : keyAt kvs k with
  | none => exact wpAny_bind (contains_nest (by show X.A.units + 1 + 8 < cLine; omega) lo key N ((nat_of P K hb).1 hk) (wpAny_pure ⟨.bl true, H, I.tok _, rfl, by rw [hk] at q; exact q⟩))
  | some vv =>
    obtain ⟨ev, vV, n1, n2, n3⟩ := (nat_of P K hb).2 vv hk
    exact wpAny_bind (contains_nest (by show X.A.units + 1 + 8 < cLine; omega) lo key N n1 (wpAny_pure ⟨.bl false, H, I.tok _, rfl, by rw [hk] at q; exact q⟩))
end
end BF

set_option Elab.async false
set_option linter.all false
set_option maxRecDepth 100000
set_option maxHeartbeats 1000000
set_option autoImplicit false
/-! x.update([(k, True), ..]). -/
namespace BF
open PySem PySem.Spec PyProof.Rows L2

noncomputable def putAll (kvs : Kvs) (ks : List D) : Kvs := ks.foldl (fun a k => putA a k (.inl (.bl true))) kvs
theorem putAll_ok : ∀ {ks : List D} {kvs : Kvs}, KeysOk kvs → (∀ k ∈ ks, k.nb = true ∧ k.dep ≤ 8) → KeysOk (putAll kvs ks)
  | [], _, h, _ => h
  | k :: ks, kvs, h, hk => putAll_ok (ks := ks) (putA_ok h (hk k List.mem_cons_self).1 (hk k List.mem_cons_self).2) fun j hj => hk j (List.mem_cons_of_mem _ hj)
theorem putAll_len : ∀ (ks : List D) (kvs : Kvs), (putAll kvs ks).length ≤ kvs.length + ks.length
  | [], _ => Nat.le_refl _
  | k :: ks, kvs => by
    have h1 := putAll_len ks (putA kvs k (.inl (.bl true)))
    have h2 := putA_len kvs k (.inl (.bl true))
    show (putAll (putA kvs k _) ks).length ≤ List.length kvs + (ks.length + 1)
    omega
theorem putAll_snoc (kvs : Kvs) (ks : List D) (i : Nat) (k : D) (h : ks[i]? = some k) : putAll kvs (ks.take (i + 1)) = putA (putAll kvs (ks.take i)) k (.inl (.bl true)) := by
  unfold putAll
  rw [List.take_add_one, h, List.foldl_append]; rfl
section
variable {X : Cx} {pins : List (Addr × Obj)} {σ : L2.St} {H : Hp} {s : Shared}
/-- the pairs of a list, as they lie -/
theorem pairs_of (I : Inv X pins σ H s) : ∀ {ks : List D} {vs : List V} {its : List Value}, TDs H vs (ks.map fun k => .tup [k, .bl true]) → Vals vs its →
    ∃ (Tl : List Addr) (us : List Value), its = Tl.map Value.ref ∧ Paired (fun T u => PairAt s.heap T u (.bool true)) Tl us ∧ Paired (fun k u => ∃ kV, RelV kV u ∧ TD H kV k) ks us
  | [], _, _, t, r => by cases t; cases r; exact ⟨[], [], rfl, .nil, .nil⟩
  | k :: ks, _, _, t, r => by
    cases t with
    | cons t1 t2 =>
      cases r with
      | cons r1 r2 =>
        obtain ⟨Tl, us, e, p1, p2⟩ := pairs_of I t2 r2
        cases t1 with
        | tup h1 h2 =>
          cases r1
          obtain ⟨its, rv, p, _⟩ := I.tuple (SqT.of h1)
          cases h2 with
          | cons a1 a2 =>
            cases a2 with
            | cons b1 b2 =>
              cases b2
              cases b1
              cases rv with
              | cons x1 x2 =>
                cases x2 with
                | cons y1 y2 =>
                  cases y2
                  cases y1
                  exact ⟨_ :: Tl, _ :: us, by rw [e]; rfl, .cons (.inl p) p1, .cons ⟨_, x1, a1⟩ p2⟩
theorem pe_mupd {o e : Expr} {apos cpos : Pos} {td te : TE} (hc : X.calm = true) (hu : X.A.units + 64 < cLine) (ho : PE X o td) (he : PE X e te) (m : M1 X o "update" apos e cpos) : PE X (.Call (.Attribute o "update" apos) [e] [] cpos)
    (fun σ H Q => td σ H fun x H1 => ∃ d O1 kvs1, x = .ref d ∧ DicOk (gaOf X) O1 H1 d kvs1 ∧ te σ H1 fun y H2 => ∃ p vs ks O kvs, y = .ref p ∧ H2 p = some (.lst vs) ∧ TDs H2 vs (ks.map fun k => .tup [k, .bl true]) ∧ DicOk (gaOf X) O H2 d kvs ∧
      (∀ k ∈ ks, k.nb = true ∧ k.dep ≤ 8) ∧ kvs.length + ks.length ≤ 100000 ∧ ∀ es', Paired (EnOk (gaOf X) O H2) (putAll kvs ks) es'.toList → Q .non (upd H2 d (.ext (IsDic d es')))) := by
  refine ⟨fun pins s σ H Q I h => ?_⟩
  refine wpAny_Call_method m.base m.few m.line PySem.F.plainAttrs_dict PySem.F.slot_dict_update PySem.F.type_dict_update (thn (ho.run pins s σ H _ I h) fun u s1 ⟨x, H1, I1, rx, d, O1, kvs1, ex, dk1, q1⟩ => ?_)
  subst ex
  obtain rfl : u = Value.ref d := rx
  obtain ⟨es1, _, _, _, _, N1⟩ := dk1.rd I1
  refine ⟨N1.typeIs, N1.noDict, ?_⟩
  rw [m.trees]
  refine Calls.callWith_builtin rfl (Calls.evalArgs_plain (Calls.spliced_cons (thn (he.run pins s1 σ H1 _ I1 q1) fun fv s2 ⟨y, H2, I2, ry, p, vs, ks, O, kvs, ey, hp, tv, dk, kok, hz, q2⟩ => Calls.spliced_nil ?_)))
  subst ey
  obtain rfl : fv = Value.ref p := ry
  obtain ⟨es, qd, P, lo, K, N⟩ := dk.rd I2
  obtain ⟨_, its, n, rv, _, hl⟩ := I2.lstM hp
  obtain ⟨Tl, us, ei, pT, pk⟩ := pairs_of I2 tv rv
  obtain ⟨_, hd0, _⟩ := dk
  have hz' := Evl.sz_of hz
  -- the places of the pairs
  let Ts : Nat → Addr := fun j => Tl.getD j 0
  let ps : List (Value × Value) := us.map fun u => (u, Value.bool true)
  have lT : Tl.length = us.length := PySem.Paired.length pT
  have lk : ks.length = us.length := PySem.Paired.length pk
  have psl : ps.length = ks.length := by show (us.map _).length = _; rw [List.length_map, lk]
  have PI : PairItems s2.heap its.toArray Ts ps := by
    refine ⟨by rw [ei, List.size_toArray, List.length_map, psl, lk, lT], fun j k v hj => ?_⟩
    rw [List.getElem?_map] at hj
    obtain ⟨u, hu1, hu2⟩ := Option.map_eq_some_iff.mp hj
    cases hu2
    obtain ⟨T, hT, hp2⟩ := pr_nth pT hu1
    have e : Ts j = T := by show Tl.getD j 0 = T; rw [List.getD_eq_getElem?_getD, hT]; rfl
    rw [e]
    exact ⟨by rw [ei]; simp [hT], hp2⟩
  have typ : ∀ {b : Addr}, b ∈ p :: (List.range ps.length).map Ts → b ≠ d := fun {b} hb e => by
    obtain ⟨o, ep, h1, h2, h3⟩ := qd
    rw [e] at hb
    rcases List.mem_cons.mp hb with z | z
    · rw [z, hl] at h1; cases h1; cases h3
    · obtain ⟨j, hj, z⟩ := List.mem_map.mp z
      obtain ⟨⟨k, v⟩, hkv⟩ : ∃ w, ps[j]? = some w := ⟨_, List.getElem?_eq_getElem (List.mem_range.mp hj)⟩
      have w := (PI.2 j k v hkv).2
      rw [z] at w
      rcases w with ⟨o2, w1, _, n2, w3⟩ | ⟨o2, w1, _, n2, w3⟩ <;> (rw [h1] at w1; cases w1; rw [h3] at w3; cases w3)
  have fin : ∀ h' tk, ((∃ es', IsDic d es' h' ∧ Paired (EnOk (gaOf X) O H2) (putAll kvs (ks.take ps.length)) es'.toList) ∧ ∀ b o, b ≠ d → s2.heap.get? b = some o → h'.get? b = some o) → EP X pins σ Q .none { s2 with heap := h', toks := tk } := fun h' tk ⟨⟨es', z1, z2⟩, z3⟩ => by
    rw [psl, List.take_length] at z2
    refine ⟨.non, _, ?_, rfl, q2 es' z2⟩
    exact I2.write (x := d) (e := d) (t' := tk) (by rw [hd0]; exact trivial) (.inl rfl) (fun b u hb z => z3 b u hb z) (let ⟨o, _, h, _⟩ := z1; ⟨o, h⟩) (dic_obj z1)
  refine call_meetsIn PySem.F.slot_dict_update N.typeIs PySem.F.entry_dict_update (PySem.F.args_dict_update_2 _ _)
    (S := fun A' R s' => A' = X.A ∧ s' = s2 ∧ ∀ h' tk, ((∃ es', IsDic d es' h' ∧ Paired (EnOk (gaOf X) O H2) (putAll kvs (ks.take ps.length)) es'.toList) ∧ ∀ b o, b ≠ d → s2.heap.get? b = some o → h'.get? b = some o) → R (.ok (.ret .none)) { s2 with heap := h', toks := tk })
    (fun A' R s' hS => ?_) ⟨rfl, rfl, fin⟩
  obtain ⟨rfl, rfl, hq⟩ := hS
  refine meets_dict_update_arg N.typeIs (updateFrom_arg (Tab := fun i h => (∃ es', IsDic d es' h ∧ Paired (EnOk (gaOf X) O H2) (putAll kvs (ks.take i)) es'.toList) ∧ ∀ b o, b ≠ d → s'.heap.get? b = some o → h.get? b = some o)
    (PairArg.list p its.toArray Ts ps) .none (I2.ok.hd hc) ⟨⟨_, n, hl, rfl, rfl, rfl⟩, PI⟩ (fun hb => typ hb rfl) ⟨⟨es, qd, P⟩, fun _ _ _ e => e⟩ ?_ ?_ ?_ ?_)
  · rintro i h ⟨⟨es', ⟨o, ep, z1, _⟩, _⟩, _⟩
    exact Heap.lt_size z1
  · rintro i h h' wr' hd hw ⟨⟨es', ⟨o, ep, z1, z2⟩, z3⟩, z4⟩ hk
    refine ⟨⟨es', ⟨o, ep, hk d o hd z1, z2⟩, z3⟩, fun b o hb e => hk b o (fun hm => ?_) (z4 b o hb e)⟩
    rcases hw b hm with w | w
    · cases w
    · rw [w] at e; cases e
  · rintro i k v s3 Q' E' hi hrel ⟨⟨es', z1, z3⟩, z4⟩ _ hQ
    have hrel' : ps[i]? = some (k, v) := hrel
    rw [List.getElem?_map] at hrel'
    obtain ⟨u, hu1, hu2⟩ := Option.map_eq_some_iff.mp hrel'
    cases hu2
    obtain ⟨kd, hkd, kV, rk, tk⟩ := pr_nth pk hu1
    have hm := kok kd (List.mem_of_getElem? hkd)
    have Kf : KeysOk (putAll kvs (ks.take i)) := putAll_ok K fun j hj => kok j (List.mem_of_mem_take hj)
    have lf := putAll_len (ks.take i) kvs
    refine set_abs (A := X.A.in1) (vv := .inl (.bl true)) (vV := .bl true) I2 qd z4 z1 z3 Kf rk tk hm.1 hm.2 rfl (.bl true) ?_ (by show X.A.units + 1 + 8 < cLine; omega) fun h' es2 tk' w1 w2 sb => hQ h' tk' ⟨⟨es2, w1, ?_⟩, fun b o hb e => (sb.2 b hb).trans (z4 b o hb e)⟩ sb
    · have : (ks.take i).length ≤ ks.length := by rw [List.length_take]; omega
      omega
    · rw [putAll_snoc kvs ks i kd hkd]; exact w2
  · intro h' tk tb hk
    exact hq h' tk tb
end
end BF

set_option Elab.async false
set_option linter.all false
set_option maxRecDepth 100000
set_option maxHeartbeats 1000000
set_option autoImplicit false
/-! Dicts and lists as they change. -/
namespace BF
open PySem PySem.Spec PyProof.Rows L2

section
variable {g : Ga} {O : Addr → Prop} {H H2 : Hp} {v u : V} {a b : AV} {p : Addr} {σ : L2.St} {τ : AE} {i : Nat}
/-- a new owned thing is stored -/
theorem RS.putOwn (r : RS g O H σ τ) (e : Ex H H2) (hp : H p = none) (lo : Lo (H2 p)) (ho : a.own = true) (hs : Sl g (more O p) H2 (.ref p) a) : RS g (more O p) H2 (σ.set i (some (.ref p))) (τ.set i (some a)) := by
  have r2 := r.mono e
  have other : ∀ (m : Nat) (d : AV), m ≠ i → τ[m]? = some (some d) → d.own = true → σ[m]? = some (some (V.ref p)) → False := fun m d _ hm hd sm => by
    obtain ⟨w, w1, w2⟩ := r.at_ m d hm
    rw [sm] at w1; cases w1
    obtain ⟨q, z1, _, z3⟩ := w2.ref_there hd
    cases z1
    exact z3 hp
  refine ⟨by rw [List.length_set, List.length_set]; exact r.len, fun j b hj => ?_, fun j k b c u ne hj hk hb hc sj sk => ?_, fun q hq => ?_⟩
  · rcases set_at hj with ⟨rfl, q, hl⟩ | ⟨ne, q⟩
    · cases q
      exact ⟨.ref p, by rw [List.getElem?_set_self (by rw [r.len]; exact hl)], hs⟩
    · obtain ⟨u, h4, h5⟩ := r.at_ j b q
      exact ⟨u, by rw [List.getElem?_set_ne (Ne.symm ne)]; exact h4, (h5.wid hp).mono e⟩
  · rcases set_at hj with ⟨rfl, q, hl⟩ | ⟨n1, q1⟩
    · rw [List.getElem?_set_self (by rw [r.len]; exact hl)] at sj
      cases sj
      rcases set_at hk with ⟨z, _, _⟩ | ⟨n2, q2⟩
      · exact ne z.symm
      · rw [List.getElem?_set_ne (Ne.symm n2)] at sk
        exact other k c n2 q2 hc sk
    · rw [List.getElem?_set_ne (Ne.symm n1)] at sj
      rcases set_at hk with ⟨rfl, q, hl⟩ | ⟨n2, q2⟩
      · rw [List.getElem?_set_self (by rw [r.len]; exact hl)] at sk
        cases sk
        exact other j b n1 q1 hb sj
      · rw [List.getElem?_set_ne (Ne.symm n2)] at sk
        exact r.sep j k b c u ne q1 q2 hb hc sj sk
  · rcases hq with z | z
    · exact r2.wf q z
    · rw [z]; exact lo
theorem RS.mput {kvs kvs' : Kvs} {es' : Array DictEntry} (r : RS g O H σ τ) (hi : τ[i]? = some (some (.m true kvs))) (hs : σ[i]? = some (some (.ref p))) (hO : O p) (lo : (p == sysModules) = false) (P : Paired (EnOk g O H) kvs' es'.toList) (K : KeysOk kvs') :
    RS g O (upd H p (.ext (IsDic p es'))) σ (τ.set i (some (.m true kvs'))) := by
  have kt : KT H (upd H p (.ext (IsDic p es'))) := lo_kt (r.wf p hO)
  refine r.wr hi rfl hs hO rfl trivial ⟨p, rfl, ⟨fun _ => rfl, fun _ => hO⟩, es', upd_same, L2.Paired.mapP P fun _ _ ⟨kV, vV, q1, q2, q3, q4, q5⟩ => ⟨kV, vV, q1, q2.up kt, q3, q4, q5.keep hO kt⟩, lo, K.1, K.2⟩
end

section
variable {X : Cx} {τ : AE} {st : Stmt} {sts : List Stmt} {N : AE → Prop} {R : AV → Prop} {e k c : Expr} {pos : Pos}
/-- x = {} -/
theorem ds_dnew {x : Str} {p' dp : Pos} (i : Nat) (k : DS X (τ.set i (some (.m true []))) sts N R) (hN : X.N.Nodup := by assumption) (hi : X.N[i]? = some x := by rfl) (hx : Loc X.env.scope x := by first | exact Or.inl rfl | exact Or.inr rfl)
    (hsw : swapsWith (.Dict [] [] dp) (some (.Name x p')) pos.line X.env = pure false := by rfl) (hf : X.fn x = true ∨ X.env.scope.names.lookup x = some .local := by first | exact .inl rfl | exact .inr rfl) : DS X τ (.Assign [.Name x p'] (.Dict [] [] dp) pos :: sts) N R :=
  ⟨fun G D σ H x0 ⟨O, rs, eg, og⟩ n r => XSs.of (pss_cons (ps_set hN hi hx pe_dnewA hsw hf) (pss_can X sts)) fun p hp lo => by
    refine k.run G D _ _ x0 ⟨more O p, rs.putOwn (Evl.Ex.new hp) hp (by rw [upd_same]; trivial) rfl ⟨p, rfl, ⟨fun _ => rfl, fun _ => .inr rfl⟩, #[], upd_same, .nil, lo, List.nodup_nil, fun _ h => by cases h⟩, eg.trans (Evl.Ex.new hp), fun q hq => ?_⟩ n r
    rcases hq with z | z
    · exact og q z
    · rw [z]; exact Evl.fresh_back eg hp⟩
/-- what a value is in a dict -/
def MVal : AV → D ⊕ List D → Prop
  | .d x, y => y = .inl x
  | .l o xs, y => o = true ∧ y = .inr xs
  | _, _ => False
theorem mval_ok {g : Ga} {O : Addr → Prop} {H H1 H2 : Hp} {σ : L2.St} {τ : AE} {v : V} {a : AV} {y : D ⊕ List D} (r : RS g O H σ τ) (h : Rs g H H1 v a) (m : MVal a y) (e : Ex H1 H2) : VOk O H2 v y := by
  cases a with
  | d x => cases m; exact TD.up h (Ex_kt e)
  | l o xs =>
    obtain ⟨rfl, rfl⟩ := m
    obtain ⟨p, vs, h1, h2, h3, h4⟩ := h
    exact ⟨p, vs, h1, fun z => r.there z (h2 rfl), e _ _ h3, h4.up (Ex_kt e)⟩
  | m o kv => cases m
  | pr c => cases m
  | kp c => cases m
  | ll _ _ => cases m
/-- x[k] = e -/
theorem ds_mput {x : Str} {kvs : Kvs} {kd : D} {v : AV} (i : Nat) (vv : D ⊕ List D) (he : DE X τ e v) (hk : DE X τ k (.d kd)) (hv : MVal v vv) (hb : kd.nb = true) (h8 : kd.dep ≤ 8) (hz : List.length kvs < 100000) (hu : X.A.units + 64 < cLine)
    (kk : DS X (τ.set i (some (.m true (putA kvs kd vv)))) sts N R) {p1 p2 : Pos} (hi : τ[i]? = some (some (.m true kvs)) := by rfl) (hN : X.N[i]? = some x := by rfl)
    (hvis : Vis X.env.scope x := by first | exact Or.inl rfl | exact Or.inr (Or.inl rfl) | exact Or.inr (Or.inr rfl)) (hd : (x == ("__debug__" : Str)) = false := by decide) (hc : (x == ("__classdict__" : Str)) = false := by decide)
    (hsw : swapsWith e (some (.Subscript (.Name x p1) k p2)) pos.line X.env = pure false := by rfl) : DS X τ (.Assign [.Subscript (.Name x p1) k p2] e pos :: sts) N R :=
  ⟨fun G D σ H x0 ⟨O, rs, eg, og⟩ n r => XSs.of (pss_cons (ps_mput hu (pe_var hN hvis hd hc) (pe_can X k) (pe_can X e) hsw) (pss_can X sts)) (he.run O H σ _ rs fun v1 H1 e1 r1 => by
    obtain ⟨u, h1, p, rfl, h3, h4⟩ := (rs.mono e1).at_ i _ hi
    have hO := h3.mpr rfl
    refine ⟨.ref p, h1, hk.run O H1 σ _ (rs.mono e1) fun y H2 e2 r2 => ?_⟩
    have h5 := h4.mono e2
    obtain ⟨_, _, _, lo, K1, K2⟩ := id h5
    refine ⟨p, O, kvs, kd, vv, rfl, h5, r2, hb, h8, mval_ok rs r1 hv e2, hz, fun es' P' => ?_⟩
    exact kk.run G D σ _ x0 ⟨O, ((rs.mono e1).mono e2).mput hi h1 hO lo P' (putA_ok ⟨K1, K2⟩ hb h8), Evl.Ex.mut ((eg.trans e1).trans e2) (og p hO), og⟩ n r)⟩
/-- x.get(k, []), lists -/
theorem de_mget2 {x : Str} {kvs : Kvs} {kd : D} {ds : List D} {o : Bool} {p1 lp apos cpos : Pos} (i : Nat) (hk : DE X τ k (.d kd)) (hb : kd.nb = true) (h8 : kd.dep ≤ 8) (hu : X.A.units + 64 < cLine) (hr : keyAt kvs kd = some (.inr ds) ∨ (keyAt kvs kd = none ∧ ds = []))
    (hi : τ[i]? = some (some (.m o kvs)) := by rfl) (hN : X.N[i]? = some x := by rfl) (hvis : Vis X.env.scope x := by first | exact Or.inl rfl | exact Or.inr (Or.inl rfl) | exact Or.inr (Or.inr rfl)) (hd : (x == ("__debug__" : Str)) = false := by decide) (hc : (x == ("__classdict__" : Str)) = false := by decide)
    (m : M2 X (.Name x p1) "get" apos k (.List [] lp) cpos := by exact ⟨rfl, rfl, rfl, rfl⟩) : DE X τ (.Call (.Attribute (.Name x p1) "get" apos) [k, .List [] lp] [] cpos) (.l false ds) :=
  ⟨fun O H σ Q rs q => XE.of (pe_mget2 hu (pe_var hN hvis hd hc) (pe_can X k) (pe_can X _) m) (by
    obtain ⟨u, h1, p, rfl, h3, h4⟩ := rs.at_ i _ hi
    refine ⟨.ref p, h1, p, O, kvs, rfl, h4, hk.run O H σ _ rs fun y H2 e2 r2 => (de_lst dd_nil).run O H2 σ _ (rs.mono e2) fun z H3 e3 r3 => ⟨O, kvs, kd, (h4.mono e2).mono e3, TD.up r2 (Ex_kt e3), hb, h8, fun v ⟨vv, hv, tv⟩ => ?_, fun hv => ?_⟩⟩
    · rcases hr with w | ⟨w, _⟩
      · rw [w] at hv; cases hv
        obtain ⟨b, vs, z1, z2, z3, z4⟩ := tv
        exact q v H3 (e2.trans e3) ⟨b, vs, z1, fun z => (by cases z), z3, z4⟩
      · rw [w] at hv; cases hv
    · rcases hr with w | ⟨_, rfl⟩
      · rw [w] at hv; cases hv
      · obtain ⟨b, vs, z1, z2, z3, z4⟩ := r3
        exact q z H3 (e2.trans e3) ⟨b, vs, z1, fun z => (by cases z), z3, z4⟩)⟩
/-- x[k] -/
theorem de_mixL {x : Str} {kvs : Kvs} {kd : D} {ds : List D} {o : Bool} {p1 : Pos} (i : Nat) (hk : DE X τ k (.d kd)) (hb : kd.nb = true) (h8 : kd.dep ≤ 8) (hu : X.A.units + 64 < cLine) (hr : keyAt kvs kd = some (.inr ds)) (hi : τ[i]? = some (some (.m o kvs)) := by rfl) (hN : X.N[i]? = some x := by rfl)
    (hvis : Vis X.env.scope x := by first | exact Or.inl rfl | exact Or.inr (Or.inl rfl) | exact Or.inr (Or.inr rfl)) (hd : (x == ("__debug__" : Str)) = false := by decide) (hc : (x == ("__classdict__" : Str)) = false := by decide) (hs : NoSl k := by intro _ _; rfl) :
    DE X τ (.Subscript (.Name x p1) k pos) (.l false ds) :=
  ⟨fun O H σ Q rs q => XE.of (pe_mget hu (pe_var hN hvis hd hc) (pe_can X k) hs) (by
    obtain ⟨u, h1, p, rfl, h3, h4⟩ := rs.at_ i _ hi
    refine ⟨.ref p, h1, hk.run O H σ _ rs fun y H2 e2 r2 => ⟨p, O, kvs, kd, rfl, h4.mono e2, r2, hb, h8, by rw [hr]; rfl, fun v ⟨vv, hv, tv⟩ => ?_⟩⟩
    rw [hr] at hv; cases hv
    obtain ⟨b, vs, z1, z2, z3, z4⟩ := tv
    exact q v H2 e2 ⟨b, vs, z1, fun z => (by cases z), z3, z4⟩)⟩
theorem de_mixD {x : Str} {kvs : Kvs} {kd y : D} {o : Bool} {p1 : Pos} (i : Nat) (hk : DE X τ k (.d kd)) (hb : kd.nb = true) (h8 : kd.dep ≤ 8) (hu : X.A.units + 64 < cLine) (hr : keyAt kvs kd = some (.inl y)) (hi : τ[i]? = some (some (.m o kvs)) := by rfl) (hN : X.N[i]? = some x := by rfl)
    (hvis : Vis X.env.scope x := by first | exact Or.inl rfl | exact Or.inr (Or.inl rfl) | exact Or.inr (Or.inr rfl)) (hd : (x == ("__debug__" : Str)) = false := by decide) (hc : (x == ("__classdict__" : Str)) = false := by decide) (hs : NoSl k := by intro _ _; rfl) :
    DE X τ (.Subscript (.Name x p1) k pos) (.d y) :=
  ⟨fun O H σ Q rs q => XE.of (pe_mget hu (pe_var hN hvis hd hc) (pe_can X k) hs) (by
    obtain ⟨u, h1, p, rfl, h3, h4⟩ := rs.at_ i _ hi
    refine ⟨.ref p, h1, hk.run O H σ _ rs fun y H2 e2 r2 => ⟨p, O, kvs, kd, rfl, h4.mono e2, r2, hb, h8, by rw [hr]; rfl, fun v ⟨vv, hv, tv⟩ => ?_⟩⟩
    rw [hr] at hv; cases hv
    exact q v H2 e2 tv)⟩
theorem ty_listM {o : Bool} {kvs : Kvs} (hc : X.calm = true) (hz : List.length kvs ≤ 100000) : BuD X (.type "list") [.m o kvs] (.l true (kvs.map (·.1))) :=
  ⟨_, call_listM hc, fun H vs Q r q => by
    obtain ⟨v, rfl, p, rfl, _, h⟩ := rsl1 r
    exact ⟨p, _, kvs, rfl, h, hz, fun l ws hl tw => q _ _ (Evl.Ex.new hl) ⟨l, ws, rfl, fun _ => hl, upd_same, tw.up ((KT.refl H).put_none hl)⟩⟩⟩
theorem od_inM {kvs : Kvs} {kd : D} (hb : kd.nb = true) (h8 : kd.dep ≤ 8) (hu : X.A.units + 64 < cLine) : OpD X (compareOp .In) (.d kd) (.m false kvs) (.d (.bl (keyAt kvs kd).isSome)) :=
  ⟨_, op_inM hu, fun H0 H v u Q r1 ⟨_, p, e, h⟩ q => ⟨p, _, kvs, kd, e, h, r1, hb, h8, q _ H (exr H) (.bl _)⟩⟩
theorem od_niM {kvs : Kvs} {kd : D} (hb : kd.nb = true) (h8 : kd.dep ≤ 8) (hu : X.A.units + 64 < cLine) : OpD X (compareOp .NotIn) (.d kd) (.m false kvs) (.d (.bl (!(keyAt kvs kd).isSome))) :=
  ⟨_, op_niM hu, fun H0 H v u Q r1 ⟨_, p, e, h⟩ q => ⟨p, _, kvs, kd, e, h, r1, hb, h8, q _ H (exr H) (.bl _)⟩⟩
/-- x.update([(k, True), ..]) -/
theorem ds_mupd {x : Str} {kvs : Kvs} {ks : List D} {o : Bool} {p1 apos cpos : Pos} (i : Nat) (he : DE X τ e (.l o (ks.map fun k => .tup [k, .bl true]))) (hk : ∀ k ∈ ks, k.nb = true ∧ k.dep ≤ 8) (hz : List.length kvs + ks.length ≤ 100000) (hu : X.A.units + 64 < cLine)
    (kk : DS X (τ.set i (some (.m true (putAll kvs ks)))) sts N R) (hi : τ[i]? = some (some (.m true kvs)) := by rfl) (hN : X.N[i]? = some x := by rfl)
    (hvis : Vis X.env.scope x := by first | exact Or.inl rfl | exact Or.inr (Or.inl rfl) | exact Or.inr (Or.inr rfl)) (hd : (x == ("__debug__" : Str)) = false := by decide) (hc : (x == ("__classdict__" : Str)) = false := by decide) (hcalm : X.calm = true := by rfl)
    (m : M1 X (.Name x p1) "update" apos e cpos := by exact ⟨rfl, rfl, rfl, rfl⟩) (hsw : swapsWith (.Call (.Attribute (.Name x p1) "update" apos) [e] [] cpos) none pos.line X.env = pure false := by rfl) :
    DS X τ (.Expr (.Call (.Attribute (.Name x p1) "update" apos) [e] [] cpos) pos :: sts) N R :=
  ⟨fun G D σ H x0 ⟨O, rs, eg, og⟩ n r => XSs.of (pss_cons (ps_expr (pe_mupd hcalm hu (pe_var hN hvis hd hc) (pe_can X e) m) hsw) (pss_can X sts)) (by
    obtain ⟨u, h1, p, rfl, h3, h4⟩ := rs.at_ i _ hi
    have hO := h3.mpr rfl
    refine ⟨.ref p, h1, p, O, kvs, rfl, h4, he.run O H σ _ rs fun y H2 e2 ⟨l, vs, w1, w2, w3, w4⟩ => ?_⟩
    have h5 := h4.mono e2
    obtain ⟨_, _, _, lo, K1, K2⟩ := id h5
    refine ⟨l, vs, ks, O, kvs, w1, w3, w4, h5, hk, hz, fun es' P' => ?_⟩
    exact kk.run G D σ _ x0 ⟨O, (rs.mono e2).mput hi h1 hO lo P' (putAll_ok ⟨K1, K2⟩ hk), Evl.Ex.mut (eg.trans e2) (og p hO), og⟩ n r)⟩
/-- xs.extend(e) -/
theorem ds_ext {x : Str} {xs ys : List D} {o : Bool} {p1 ap cp : Pos} (i : Nat) (he : DE X τ e (.l o ys)) (hz : xs.length + ys.length ≤ 100000) (k : DS X (τ.set i (some (.l true (xs ++ ys)))) sts N R) (hi : τ[i]? = some (some (.l true xs)) := by rfl) (hN : X.N[i]? = some x := by rfl)
    (hv : Vis X.env.scope x := by first | exact Or.inl rfl | exact Or.inr (Or.inl rfl) | exact Or.inr (Or.inr rfl)) (hd : (x == ("__debug__" : Str)) = false := by decide) (hc : (x == ("__classdict__" : Str)) = false := by decide)
    (hbase : attributeBase (.Name x p1) "extend" X.env (eval (.Name x p1) X.env) = eval (.Name x p1) X.env := by rfl) (hline : (ap.endLine == cp.line) = true := by rfl) (hs : starEach [e] X.env = (false, eval e X.env) :: starEach [] X.env := by rfl)
    (hfew : ((backTo cp (starEach [e] X.env)).all (fun x => !x.1) && (backToKw cp (keywordEach [] X.env)).all (fun x => x.1.isSome) && decide ([e].length + ([] : List Keyword).length + (if ([] : List Keyword).isEmpty then 0 else 1) < 30)) = true := by rfl)
    (hsw : swapsWith (.Call (.Attribute (.Name x p1) "extend" ap) [e] [] cp) none pos.line X.env = pure false := by rfl) :
    DS X τ (.Expr (.Call (.Attribute (.Name x p1) "extend" ap) [e] [] cp) pos :: sts) N R :=
  ⟨fun G D σ H x0 ⟨O, rs, eg, og⟩ n r => XSs.of (pss_cons (ps_expr (pe_bm PySem.F.plainAttrs_list PySem.F.slot_list_extend PySem.F.type_list_extend mt_extend (pe_var hN hv hd hc) (pa_cons (pe_can X e) pa_nil hs) hbase hfew hline hs) hsw) (pss_can X sts)) (by
    obtain ⟨u, h1, p, vs, rfl, h3, h4, h5⟩ := rs.at_ i _ hi
    refine ⟨.ref p, h1, Or.inl ⟨rfl, vs, SqL.of h4⟩, he.run O H σ _ rs fun v H2 e2 ⟨l, ws, w1, w2, w3, w4⟩ => ⟨p, l, vs, ws, rfl, by rw [w1], e2 _ _ h4, w3, by rw [h5.length, w4.length]; exact Evl.sz_of hz, ?_⟩⟩
    have rs2 := rs.mono e2
    have hO := h3.mpr rfl
    have kt := lo_kt (o := .lst (vs ++ ws)) (rs2.wf p hO)
    refine k.run G D σ _ x0 ⟨O, rs2.wr hi rfl h1 hO rfl trivial ⟨p, _, rfl, h3, upd_same, ((h5.up (Ex_kt e2)).append w4).up kt⟩, Evl.Ex.mut (eg.trans e2) (og p hO), og⟩ n r)⟩
/-- xs.insert(j, e) -/
theorem ds_ins {x : Str} {xs : List D} {y : D} {j : Nat} {ej : Expr} {p1 ap cp : Pos} (i : Nat) (hj : DE X τ ej (.d (.int j))) (he : DE X τ e (.d y)) (hz : xs.length < 100000) (hj2 : j ≤ xs.length) (k : DS X (τ.set i (some (.l true (xs.take j ++ [y] ++ xs.drop j)))) sts N R) (hi : τ[i]? = some (some (.l true xs)) := by rfl) (hN : X.N[i]? = some x := by rfl)
    (hv : Vis X.env.scope x := by first | exact Or.inl rfl | exact Or.inr (Or.inl rfl) | exact Or.inr (Or.inr rfl)) (hd : (x == ("__debug__" : Str)) = false := by decide) (hc : (x == ("__classdict__" : Str)) = false := by decide)
    (hbase : attributeBase (.Name x p1) "insert" X.env (eval (.Name x p1) X.env) = eval (.Name x p1) X.env := by rfl) (hline : (ap.endLine == cp.line) = true := by rfl) (hs : starEach [ej, e] X.env = (false, eval ej X.env) :: starEach [e] X.env := by rfl) (hs2 : starEach [e] X.env = (false, eval e X.env) :: starEach [] X.env := by rfl)
    (hfew : ((backTo cp (starEach [ej, e] X.env)).all (fun x => !x.1) && (backToKw cp (keywordEach [] X.env)).all (fun x => x.1.isSome) && decide ([ej, e].length + ([] : List Keyword).length + (if ([] : List Keyword).isEmpty then 0 else 1) < 30)) = true := by rfl)
    (hpl : (backTo cp (starEach [e] X.env)).any (·.1) = false := by rfl) (hsw : swapsWith (.Call (.Attribute (.Name x p1) "insert" ap) [ej, e] [] cp) none pos.line X.env = pure false := by rfl) :
    DS X τ (.Expr (.Call (.Attribute (.Name x p1) "insert" ap) [ej, e] [] cp) pos :: sts) N R :=
  ⟨fun G D σ H x0 ⟨O, rs, eg, og⟩ n r => XSs.of (pss_cons (ps_expr (pe_bm PySem.F.plainAttrs_list PySem.F.slot_list_insert PySem.F.type_list_insert mt_insert (pe_var hN hv hd hc) (pa_cons (pe_can X ej) (pa_cons (pe_can X e) pa_nil hs2) hs) hbase hfew hline hs hpl) hsw) (pss_can X sts)) (by
    obtain ⟨u, h1, p, vs, rfl, h3, h4, h5⟩ := rs.at_ i _ hi
    refine ⟨.ref p, h1, Or.inl ⟨rfl, vs, SqL.of h4⟩, hj.run O H σ _ rs fun jv H2 e2 r2 => he.run O H2 σ _ (rs.mono e2) fun v H3 e3 r3 => ⟨p, vs, j, v, rfl, by cases r2; rfl, e3 _ _ (e2 _ _ h4), by rw [h5.length]; exact Evl.sz_lt hz, by omega, by omega, ?_⟩⟩
    have e23 := e2.trans e3
    have rs2 := rs.mono e23
    have hO := h3.mpr rfl
    have h6 := h5.up (Ex_kt e23)
    rw [Int.toNat_natCast]
    have kt := lo_kt (o := .lst (vs.take j ++ [v] ++ vs.drop j)) (rs2.wf p hO)
    refine k.run G D σ _ x0 ⟨O, rs2.wr hi rfl h1 hO rfl trivial ⟨p, _, rfl, h3, upd_same, (((h6.take j).append (TDs.one r3)).append (h6.drop j)).up kt⟩, Evl.Ex.mut (eg.trans e23) (og p hO), og⟩ n r)⟩
/-- a, b = e1, e2 at once, of any kind -/
theorem ds_par2 {x y : Str} {a b : Expr} {v w : AV} {px py pt : Pos} {kt k2 : Nat} {pt2 : Pos} (i j : Nat) (ha : DE X τ a v) (hb : DE X τ b w) (k : DS X ((τ.set i (some v)).set j (some w)) sts N R) (sv : v.stor = true := by rfl) (sw : w.stor = true := by rfl) (hij : i ≠ j := by decide) (hc : X.calm = true := by rfl) (hN : X.N.Nodup := by assumption) (hi : X.N[i]? = some x := by rfl) (hj : X.N[j]? = some y := by rfl)
    (hx : X.env.scope.names.lookup x = some .local := by rfl) (hy : X.env.scope.names.lookup y = some .local := by rfl)
    (hw : swappedStores [.Tuple [.Name x px, .Name y py] kt pt] (.Tuple [a, b] k2 pt2) X.env = pure (some [x, y]) := by rfl)
    (hs : swapsWithSole [.Tuple [.Name x px, .Name y py] kt pt] (.Tuple [a, b] k2 pt2) pos.line X.env = pure false := by rfl)
    (s1 : starEach [a, b] X.env = (false, eval a X.env) :: starEach [b] X.env := by rfl) (s2 : starEach [b] X.env = (false, eval b X.env) :: starEach [] X.env := by rfl) : DS X τ (.Assign [.Tuple [.Name x px, .Name y py] kt pt] (.Tuple [a, b] k2 pt2) pos :: sts) N R :=
  ⟨fun G D σ H x0 ⟨O, rs, eg, og⟩ n r => XSs.of (pss_cons (ps_par hc hN hi hj hij hx hy (pa_cons (pe_can X a) (pa_cons (pe_can X b) pa_nil s2) s1) hw hs) (pss_can X sts)) (ha.run O H σ _ rs fun u1 H1 e1 r1 => hb.run O H1 σ _ (rs.mono e1) fun u2 H2 e2 r2 => by
    obtain ⟨O1, rs1, ho1⟩ := rs.put (i := i) e1 r1 sv
    obtain ⟨O2, rs2, ho2⟩ := rs1.put (i := j) e2 r2 sw
    refine ⟨u1, u2, rfl, k.run G D _ H2 x0 ⟨O2, rs2, (eg.trans e1).trans e2, fun p hp => ?_⟩ n r⟩
    rcases ho2 p hp with z | z
    · exact (ho1 p z).elim (og p) fun z => Evl.fresh_back eg z
    · exact Evl.fresh_back (eg.trans e1) z)⟩
end
end BF

set_option Elab.async false
set_option linter.all false
set_option maxRecDepth 100000
set_option maxHeartbeats 1000000
set_option autoImplicit false
/-! list(zip(xs, ys)). -/
namespace BF
open PySem PySem.Spec PyProof.Rows L2

/-- an iterator over a list or a tuple -/
structure SrcIt (prog : Program) (w : World) (it l : Addr) (xs : Array Value) (St : Nat → Heap → Prop) : Prop where
  item : ∀ {A : Around} {E : Value → Shared → Prop} {s : Shared} {k : Nat} {x : Value} {Q : Value → Shared → Prop}, St k s.heap → xs[k]? = some x → (∀ h', St (k + 1) h' → Heap.SameBut it s.heap h' → Q x { s with heap := h' }) → wpAny (model prog w) A (Builtin.SmallTypes.nextOf (.ref it)) Q E s
  done : ∀ {A : Around} {E : Value → Shared → Prop} {s : Shared} {k : Nat} {Q : Value → Shared → Prop}, A.handled = none → St k s.heap → xs[k]? = none → (∀ h' e, Heap.ExtBut it s.heap h' → (∃ o, h'.get? e = some o ∧ o.cls = .type "StopIteration") → E (.ref e) { s with heap := h' }) → wpAny (model prog w) A (Builtin.SmallTypes.nextOf (.ref it)) Q E s
  keep : ∀ {k : Nat} {h h' : Heap}, St k h → (∀ b o, b = it ∨ b = l → h.get? b = some o → h'.get? b = some o) → St k h'
section
variable {prog : Program} {w : World} {A : Around} {E : Value → Shared → Prop} {s : Shared}
theorem src_list {it l : Addr} {xs : Array Value} (hne : it ≠ l) : SrcIt prog w it l xs (fun k h => h.IsListIter it l k ∧ h.IsList l xs) :=
  ⟨fun st hx hQ => wpAny_nextOf_list_item st.1 st.2 hx fun h' a b => hQ h' ⟨a, st.2.at fun o e => b.extBut _ _ (Ne.symm hne) e⟩ b, fun hh st hx hE => wpAny_nextOf_list_end hh st.1 st.2 hx hE,
    fun st k => ⟨st.1.at fun o e => k _ o (.inl rfl) e, st.2.at fun o e => k _ o (.inr rfl) e⟩⟩
theorem src_tup {it l : Addr} {xs : Array Value} (hne : it ≠ l) : SrcIt prog w it l xs (fun k h => h.IsTupleIter it l k ∧ h.IsTuple l xs) :=
  ⟨fun st hx hQ => RZ.nextOf_tuple_item st.1 st.2 hx fun h' a b => hQ h' ⟨a, st.2.at fun o e => b.extBut _ _ (Ne.symm hne) e⟩ b, fun hh st hx hE => RZ.nextOf_tuple_end hh st.1 st.2 hx hE,
    fun st k => ⟨st.1.at fun o e => k _ o (.inl rfl) e, st.2.at fun o e => k _ o (.inr rfl) e⟩⟩
variable {z TI TO T i1 i2 l1 l2 : Addr} {f : Bool} {oT : Obj} {k : Nat} {xs ys : Array Value} {S1 S2 : Nat → Heap → Prop}
theorem held_item {x y : Value} {Q : Value → Shared → Prop} (D : ZipApart z TI TO i1 i2 l1 l2) (R1 : SrcIt prog w i1 l1 xs S1) (R2 : SrcIt prog w i2 l2 ys S2) (hz : IsZipHeld s.heap z TI TO T f) (hT : s.heap.get? T = some oT) (hTI : IsPair s.heap TI (.ref i1) (.ref i2))
    (h1 : S1 k s.heap) (h2 : S2 k s.heap) (hx : xs[k]? = some x) (hy : ys[k]? = some y)
    (hQ : ∀ h', IsZipHeld h' z TI TO T true → S1 (k + 1) h' → S2 (k + 1) h' → IsPair h' s.heap.objs.size x y → h'.objs.size = s.heap.objs.size + 1 → (∀ c o, c ≠ z → c ≠ i1 → c ≠ i2 → s.heap.get? c = some o → h'.get? c = some o) → Q (.ref s.heap.objs.size) { s with heap := h' }) :
    wpAny (model prog w) A (Builtin.«zip.__next__» ⟨[.ref z], []⟩) (fun fin s' => ∃ v, fin = .done (.ret v) ∧ Q v s') E s := by
  show wpAny _ A (field (.ref z) 2 >>= _) _ E s
  refine wpAny_bind (wpAny_field hz rfl (x := .bool false) rfl ?_)
  show wpAny _ A (field (.ref z) 3 >>= _) _ E s
  refine wpAny_bind (wpAny_field hz rfl (x := .ref TI) rfl (wpAny_bind (wpAny_seqItems hTI rfl ?_)))
  show wpAny _ A (Builtin.SmallTypes.ownedTupleIsFree (.ref z) >>= _) _ E s
  refine wpAny_bind (wpAny_tupleHeld_zip hz hT fun ha hza sa => ?_)
  simp only [Bool.false_eq_true, if_false]
  refine wpAny_bind ?_
  rw [← Array.forIn_toList]
  simp only [List.forIn_cons, List.forIn_nil]
  refine wpAny_bind (wpAny_bind (wpAny_holding ?_))
  show wpAny _ A (Builtin.SmallTypes.nextOf (.ref i1) >>= _) _ E _
  refine wpAny_bind (R1.item (s := { s with heap := ha }) (R1.keep h1 fun b o hb e => sa.extBut _ _ (by rcases hb with rfl | rfl; exact D.i1z; exact D.l1z) e) hx fun hb h1b sb => wpAny_pure (wpAny_pure ?_))
  refine wpAny_bind (wpAny_bind (wpAny_holding ?_))
  show wpAny _ A (Builtin.SmallTypes.nextOf (.ref i2) >>= _) _ E _
  refine wpAny_bind (R2.item (s := { s with heap := hb }) (R2.keep h2 fun b o hb e => sb.extBut _ _ (by rcases hb with rfl | rfl; exact D.i12.symm; exact D.l2i1) (sa.extBut _ _ (by rcases hb with rfl | rfl; exact D.i2z; exact D.l2z) e)) hy fun hc h2c sc => wpAny_pure (wpAny_pure (wpAny_pure ?_)))
  show wpAny _ A (newTuple [x, y] >>= _) _ E _
  refine wpAny_bind (wpAny_newTuple ?_)
  have sz : hc.objs.size = s.heap.objs.size := by rw [sc.1, sb.1, sa.1]
  have hzc : IsZipHeld hc z TI TO T true := sc.extBut _ _ D.i2z.symm (sb.extBut _ _ D.i1z.symm hza)
  have kc : ∀ c o, c ≠ z → c ≠ i1 → c ≠ i2 → s.heap.get? c = some o → hc.get? c = some o := fun c o c1 c2 c3 e => sc.extBut _ _ c3 (sb.extBut _ _ c2 (sa.extBut _ _ c1 e))
  have h1c : S1 (k + 1) hc := R1.keep h1b fun b o hb e => sc.extBut _ _ (by rcases hb with rfl | rfl; exact D.i12; exact D.l1i2) e
  refine wpAny_pure ⟨_, rfl, ?_⟩
  show Q (.ref hc.objs.size) _
  have hp : IsPair (hc.push { cls := .type "tuple", data := .seq #[x, y] }) hc.objs.size x y := Heap.get?_push_size _ rfl
  have hsz : (hc.push { cls := .type "tuple", data := .seq #[x, y] }).objs.size = hc.objs.size + 1 := Heap.size_push ..
  rw [sz] at hp hsz ⊢
  exact hQ _ (Heap.get?_push_of_some _ hzc) (R1.keep h1c fun b o _ e => Heap.get?_push_of_some _ e) (R2.keep h2c fun b o _ e => Heap.get?_push_of_some _ e) hp hsz fun c o c1 c2 c3 e => Heap.get?_push_of_some _ (kc c o c1 c2 c3 e)
theorem held_done {Q : Fin → Shared → Prop} (hh : A.handled = none) (D : ZipApart z TI TO i1 i2 l1 l2) (R1 : SrcIt prog w i1 l1 xs S1) (R2 : SrcIt prog w i2 l2 ys S2) (hz : IsZipHeld s.heap z TI TO T f) (hT : s.heap.get? T = some oT) (hTI : IsPair s.heap TI (.ref i1) (.ref i2))
    (h1 : S1 k s.heap) (h2 : S2 k s.heap) (hend : xs[k]? = none ∨ ys[k]? = none)
    (hE : ∀ h' e, (∀ c o, c ≠ z → c ≠ i1 → c ≠ i2 → s.heap.get? c = some o → h'.get? c = some o) → (∃ o, h'.get? e = some o ∧ o.cls = .type "StopIteration") → E (.ref e) { s with heap := h' }) :
    wpAny (model prog w) A (Builtin.«zip.__next__» ⟨[.ref z], []⟩) Q E s := by
  show wpAny _ A (field (.ref z) 2 >>= _) _ E s
  refine wpAny_bind (wpAny_field hz rfl (x := .bool false) rfl ?_)
  show wpAny _ A (field (.ref z) 3 >>= _) _ E s
  refine wpAny_bind (wpAny_field hz rfl (x := .ref TI) rfl (wpAny_bind (wpAny_seqItems hTI rfl ?_)))
  show wpAny _ A (Builtin.SmallTypes.ownedTupleIsFree (.ref z) >>= _) _ E s
  refine wpAny_bind (wpAny_tupleHeld_zip hz hT fun ha hza sa => ?_)
  simp only [Bool.false_eq_true, if_false]
  refine wpAny_bind ?_
  rw [← Array.forIn_toList]
  simp only [List.forIn_cons, List.forIn_nil]
  refine wpAny_bind (wpAny_bind (wpAny_holding ?_))
  show wpAny _ A (Builtin.SmallTypes.nextOf (.ref i1) >>= _) _ E _
  have k1 : S1 k ha := R1.keep h1 fun b o hb e => sa.extBut _ _ (by rcases hb with rfl | rfl; exact D.i1z; exact D.l1z) e
  cases hx : xs[k]? with
  | none =>
    exact wpAny_bind (R1.done (s := { s with heap := ha }) hh k1 hx fun hb e sb he => hE hb e (fun c o c1 c2 _ x => sb _ _ c2 (sa.extBut _ _ c1 x)) he)
  | some x =>
    have hy : ys[k]? = none := by rcases hend with h | h; rw [hx] at h; cases h; exact h
    refine wpAny_bind (R1.item (s := { s with heap := ha }) k1 hx fun hb h1b sb => wpAny_pure (wpAny_pure ?_))
    refine wpAny_bind (wpAny_bind (wpAny_holding ?_))
    show wpAny _ A (Builtin.SmallTypes.nextOf (.ref i2) >>= _) _ E _
    exact wpAny_bind (R2.done (s := { s with heap := hb }) hh (R2.keep h2 fun b o hb e => sb.extBut _ _ (by rcases hb with rfl | rfl; exact D.i12.symm; exact D.l2i1) (sa.extBut _ _ (by rcases hb with rfl | rfl; exact D.i2z; exact D.l2z) e)) hy
      fun hc e sc he => hE hc e (fun c o c1 c2 c3 x => sc _ _ c3 (sb.extBut _ _ c2 (sa.extBut _ _ c1 x))) he)
/-- the zip as it stands ahead of turn k, S the list that is being made -/
def ZSt (z TI TO i1 i2 S : Addr) (S1 S2 : Nat → Heap → Prop) (k : Nat) (h : Heap) : Prop :=
  IsPair h TI (.ref i1) (.ref i2) ∧ S1 k h ∧ S2 k h ∧ ((k = 0 ∧ IsZip h z TI TO .none ∧ ∃ a b, IsPair h TO a b) ∨ ∃ T f oT, IsZipHeld h z TI TO T f ∧ h.get? T = some oT ∧ T ≠ z ∧ T ≠ i1 ∧ T ≠ i2 ∧ T ≠ S)
structure ZNx (prog : Program) (w : World) (z TO i1 i2 S : Addr) (xs ys : Array Value) (St : Nat → Heap → Prop) : Prop where
  item : ∀ {A : Around} {E : Value → Shared → Prop} {s : Shared} {k : Nat} {x y : Value} {Q : Option Value → Shared → Prop}, St k s.heap → S < s.heap.objs.size → xs[k]? = some x → ys[k]? = some y →
    (∀ h', St (k + 1) h' → IsPair h' s.heap.objs.size x y → h'.objs.size = s.heap.objs.size + 1 → (∀ c o, c ≠ z → c ≠ TO → c ≠ i1 → c ≠ i2 → s.heap.get? c = some o → h'.get? c = some o) → Q (some (.ref s.heap.objs.size)) { s with heap := h' }) → wpAny (model prog w) A (pyNext (.ref z)) Q E s
  done : ∀ {A : Around} {E : Value → Shared → Prop} {s : Shared} {k : Nat} {Q : Option Value → Shared → Prop}, A.handled = none → St k s.heap → xs[k]? = none ∨ ys[k]? = none →
    (∀ h', (∀ c o, c ≠ z → c ≠ TO → c ≠ i1 → c ≠ i2 → s.heap.get? c = some o → h'.get? c = some o) → Q none { s with heap := h' }) → wpAny (model prog w) A (pyNext (.ref z)) Q E s
  keep : ∀ {k : Nat} {h h' : Heap}, St k h → (∀ c o, c ≠ S → h.get? c = some o → h'.get? c = some o) → St k h'
  type : ∀ {k : Nat} {s : Shared}, St k s.heap → s.TypeIs (.ref z) "zip"
  self : ∀ {A : Around} {E : Value → Shared → Prop} {s : Shared} {k : Nat} {Q : Value → Shared → Prop}, St k s.heap → Q (.ref z) s → wpAny (model prog w) A (pyIter (.ref z)) Q E s
theorem znx_of (D : ZipApart z TI TO i1 i2 l1 l2) {S : Addr} (hS : S ≠ z ∧ S ≠ TI ∧ S ≠ TO ∧ S ≠ i1 ∧ S ≠ i2 ∧ S ≠ l1 ∧ S ≠ l2) (R1 : SrcIt prog w i1 l1 xs S1) (R2 : SrcIt prog w i2 l2 ys S2)
    (first : ∀ {A : Around} {E : Value → Shared → Prop} {s : Shared} {x y a b : Value} {Q : Option Value → Shared → Prop}, IsZip s.heap z TI TO .none → IsPair s.heap TI (.ref i1) (.ref i2) → IsPair s.heap TO a b → S1 0 s.heap → S2 0 s.heap → xs[0]? = some x → ys[0]? = some y →
      (∀ h', IsZip h' z TI TO (rawInt s.heap.objs.size) → S1 1 h' → S2 1 h' → IsPair h' s.heap.objs.size x y → h'.objs.size = s.heap.objs.size + 1 → (∀ c o, c ≠ z → c ≠ TO → c ≠ i1 → c ≠ i2 → s.heap.get? c = some o → h'.get? c = some o) → Q (some (.ref s.heap.objs.size)) { s with heap := h' }) → wpAny (model prog w) A (pyNext (.ref z)) Q E s)
    (fdone : ∀ {A : Around} {E : Value → Shared → Prop} {s : Shared} {a b : Value} {Q : Option Value → Shared → Prop}, A.handled = none → IsZip s.heap z TI TO .none → IsPair s.heap TI (.ref i1) (.ref i2) → IsPair s.heap TO a b → S1 0 s.heap → S2 0 s.heap → xs[0]? = none ∨ ys[0]? = none →
      (∀ h', (∀ c o, c ≠ z → c ≠ TO → c ≠ i1 → c ≠ i2 → s.heap.get? c = some o → h'.get? c = some o) → Q none { s with heap := h' }) → wpAny (model prog w) A (pyNext (.ref z)) Q E s)
    (lt1 : ∀ k h, S1 k h → i1 < h.objs.size) (lt2 : ∀ k h, S2 k h → i2 < h.objs.size) : ZNx prog w z TO i1 i2 S xs ys (ZSt z TI TO i1 i2 S S1 S2) where
  item := fun {A E s k x y Q} st hSs hx hy hQ => by
    obtain ⟨hTI, h1, h2, hz⟩ := st
    rcases hz with ⟨rfl, hz, a, b, hTO⟩ | ⟨T, f, oT, hz, hT, t1, t2, t3, t4⟩
    · refine first hz hTI hTO h1 h2 hx hy fun h' a1 a2 a3 a4 a5 kp => hQ h' ⟨kp _ _ D.TIz D.TITO D.TIi1 D.TIi2 hTI, a2, a3, .inr ⟨s.heap.objs.size, false, _, a1, a4, Nat.ne_of_gt (Heap.lt_size hz), Nat.ne_of_gt (lt1 _ _ h1), Nat.ne_of_gt (lt2 _ _ h2), Nat.ne_of_gt hSs⟩⟩ a4 a5 kp
    · have hTy : s.TypeIs (.ref z) "zip" := ⟨_, hz, rfl⟩
      unfold pyNext
      refine wpAny_bind (wpAny_attempt (wpAny_callSpecial?_slot (name := Str.ofString "__next__") hTy F.slot_zip_next (wpAny_call_entry F.slot_zip_next hTy F.entry_zip_next (held_item D R1 R2 hz hT hTI h1 h2 hx hy fun h' a1 a2 a3 a4 a5 kp => wpAny_pure ?_) (F.args_zip_next_1 _))))
      exact hQ h' ⟨kp _ _ D.TIz D.TIi1 D.TIi2 hTI, a2, a3, .inr ⟨T, true, oT, a1, kp _ _ t1 t2 t3 hT, t1, t2, t3, t4⟩⟩ a4 a5 fun c o c1 _ c3 c4 e => kp c o c1 c3 c4 e
  done := fun {A E s k Q} hh st hend hQ => by
    obtain ⟨hTI, h1, h2, hz⟩ := st
    rcases hz with ⟨rfl, hz, a, b, hTO⟩ | ⟨T, f, oT, hz, hT, t1, t2, t3, t4⟩
    · exact fdone hh hz hTI hTO h1 h2 hend hQ
    · have hTy : s.TypeIs (.ref z) "zip" := ⟨_, hz, rfl⟩
      unfold pyNext
      refine wpAny_bind (wpAny_attempt (wpAny_callSpecial?_slot (name := Str.ofString "__next__") hTy F.slot_zip_next (wpAny_call_entry F.slot_zip_next hTy F.entry_zip_next (held_done hh D R1 R2 hz hT hTI h1 h2 hend fun h' e kp he => ?_) (F.args_zip_next_1 _))))
      obtain ⟨o, ho, hc⟩ := he
      exact wpAny_bind (wpAny_isInstance (T := "StopIteration") (b := true) ⟨o, ho, hc⟩ isSubtype_stop (wpAny_pure (hQ _ fun c o c1 _ c3 c4 e => kp c o c1 c3 c4 e)))
  keep := fun {k h h'} st kp => by
    obtain ⟨hTI, h1, h2, hz⟩ := st
    obtain ⟨s1, s2, s3, s4, s5, s6, s7⟩ := hS
    refine ⟨kp _ _ (Ne.symm s2) hTI, R1.keep h1 fun b o hb e => kp _ _ (by rcases hb with rfl | rfl; exact Ne.symm s4; exact Ne.symm s6) e, R2.keep h2 fun b o hb e => kp _ _ (by rcases hb with rfl | rfl; exact Ne.symm s5; exact Ne.symm s7) e, ?_⟩
    rcases hz with ⟨rfl, hz, a, b, hTO⟩ | ⟨T, f, oT, hz, hT, t1, t2, t3, t4⟩
    · exact .inl ⟨rfl, kp _ _ (Ne.symm s1) hz, a, b, kp _ _ (Ne.symm s3) hTO⟩
    · exact .inr ⟨T, f, oT, kp _ _ (Ne.symm s1) hz, kp _ _ t4 hT, t1, t2, t3, t4⟩
  type := fun {k s} st => by
    obtain ⟨_, _, _, hz⟩ := st
    rcases hz with ⟨_, hz, _⟩ | ⟨T, f, oT, hz, _⟩
    · exact ⟨_, hz, rfl⟩
    · exact ⟨_, hz, rfl⟩
  self := fun {A E s k Q} st h => by
    obtain ⟨_, _, _, hz⟩ := st
    rcases hz with ⟨_, hz, _⟩ | ⟨T, f, oT, hz, _⟩
    · exact wpAny_pyIter_zip hz h
    · have hT : s.TypeIs (.ref z) "zip" := ⟨_, hz, rfl⟩
      refine wpAny_pyIter_slot hT F.slot_zip_iter (wpAny_call_entry F.slot_zip_iter hT F.entry_zip_iter ?_ (F.args_zip_iter_1 _))
      exact wpAny_pure ⟨_, rfl, "zip", _, hT, F.slot_zip_next.lookup, h⟩
end
end BF

set_option Elab.async false
set_option linter.all false
set_option maxRecDepth 100000
set_option maxHeartbeats 1000000
set_option autoImplicit false
/-! list(zip(xs, ys)): the loop, the call. -/
namespace BF
open PySem PySem.Spec PyProof.Rows L2

theorem zip_no_len : typeLookup (.type "zip") "__len__" = pure none := by rw [typeLookup_type, builtinLookup_eq_fast]; kernel_rfl
theorem zip_no_hint : typeLookup (.type "zip") "__length_hint__" = pure none := by rw [typeLookup_type, builtinLookup_eq_fast]; kernel_rfl
/-- the first pairs lie in the heap -/
def Prs (ax ay : List V) (H : Hp) (ws : List V) : Prop := ∀ j, j < ws.length → ∃ T x y, ws[j]? = some (.ref T) ∧ ax[j]? = some x ∧ ay[j]? = some y ∧ H T = some (.tup [x, y])
section
variable {X : Cx} {pins : List (Addr × Obj)} {σ : L2.St} {z TO i1 i2 S : Addr} {xs ys : List Value} {ax ay : List V} {St : Nat → Heap → Prop}
theorem fpOther {H H' : Hp} {b : Addr} (F : FpOk X pins H b) (h : H' b = none) : FpOk X pins H' b := ⟨h, F.2⟩
theorem zip_loop {A : Around} {R : Result → Shared → Prop} {res : Value} {H0 : Hp} {N0 n : Nat} (Z : ZNx X.prog X.w z TO i1 i2 S xs.toArray ys.toArray St) (hh : A.handled = none) (vx : Vals ax xs) (vy : Vals ay ys) (hn : n = min ax.length ay.length) (hz : n ≤ sizeLine)
    (hS : S ≠ z ∧ S ≠ TO ∧ S ≠ i1 ∧ S ≠ i2) (hlt : z < N0 ∧ TO < N0 ∧ i1 < N0 ∧ i2 < N0) (hS0 : H0 S = none)
    (hR : ∀ s' H' ws, Inv X pins σ H' s' → Ex H0 H' → H' S = some (.lst ws) → ws.length = n → Prs ax ay H' ws → R (.ok (.ret res)) s') :
    ∀ (m k : Nat) (s : Shared) (H : Hp) (ws : List V), n - k = m → k ≤ n → Inv X pins σ H s → Ex H0 H → H S = some (.lst ws) → ws.length = k → Prs ax ay H ws → St k s.heap → N0 ≤ s.heap.objs.size → (∀ b ∈ [z, TO, i1, i2], FpOk X pins H b) →
      codeAny (model X.prog X.w) A (.builtin "list.extend.loop" ⟨[.ref S, .ref z, res], []⟩) R s := by
  have lx := vx.length
  have ly := vy.length
  have off : ∀ {h h' : Heap}, (∀ c o, c ≠ z → c ≠ TO → c ≠ i1 → c ≠ i2 → h.get? c = some o → h'.get? c = some o) → ∀ b o, b ∉ [z, TO, i1, i2] → h.get? b = some o → h'.get? b = some o := fun {h h'} kp b o hb e =>
    kp b o (fun q => hb (by simp [q])) (fun q => hb (by simp [q])) (fun q => hb (by simp [q])) (fun q => hb (by simp [q])) e
  have nS : S ∉ [z, TO, i1, i2] := by simp [hS]
  intro m
  induction m with
  | zero =>
    intro k s H ws hm hk I eH hl hw P st hN hf
    have hkn : k = n := by omega
    refine codeAny_builtin F.entry_extend_loop ?_
    rw [Around.under_plainId F.plain_extend_loop _]
    show wpAny _ A.in1 (pyNext (.ref z) >>= _) _ _ s
    refine wpAny_bind (Z.done (A := A.in1) hh st ?_ fun h' kp => wpAny_pure (hR _ H ws (I.turnedL (t' := s.toks) (ch := [z, TO, i1, i2]) (off kp) hf) eH hl (hw.trans hkn) P))
    have : ax.length ≤ k ∨ ay.length ≤ k := by omega
    rcases this with q | q
    · exact .inl (by simp; omega)
    · exact .inr (by simp; omega)
  | succ m ih =>
    intro k s H ws hm hk I eH hl hw P st hN hf
    have hlt2 : k < n := by omega
    obtain ⟨_, its, c, rv, _, he⟩ := I.lstM hl
    have hSlt := Heap.lt_size he
    obtain ⟨x, hx⟩ : ∃ x, ax[k]? = some x := ⟨_, List.getElem?_eq_getElem (by omega)⟩
    obtain ⟨y, hy⟩ : ∃ y, ay[k]? = some y := ⟨_, List.getElem?_eq_getElem (by omega)⟩
    obtain ⟨u, hu, ru⟩ := vx.get hx
    obtain ⟨u2, hu2, ru2⟩ := vy.get hy
    refine codeAny_builtin F.entry_extend_loop ?_
    rw [Around.under_plainId F.plain_extend_loop _]
    show wpAny _ A.in1 (pyNext (.ref z) >>= _) _ _ s
    refine wpAny_bind (Z.item (A := A.in1) st hSlt (x := u) (y := u2) (by simpa using hu) (by simpa using hu2) fun h' st' hp hsz kp => ?_)
    have hT : H s.heap.objs.size = none := I.hok.fresh (Nat.le_refl _)
    have I1 : Inv X pins σ (upd H s.heap.objs.size (.tup [x, y])) { s with heap := h' } := I.turnedNew (t' := s.toks) (ch := [z, TO, i1, i2]) (off kp) hf (Nat.le_refl _) ⟨by show 2 ≤ sizeLine; decide, [u, u2], .cons ru (.cons ru2 .nil), ⟨_, hp, rfl, _, rfl⟩⟩
    have hl1 : upd H s.heap.objs.size (.tup [x, y]) S = some (.lst ws) := by rw [upd_ne (Nat.ne_of_lt hSlt)]; exact hl
    obtain ⟨_, its1, c1, rv1, hl2, he1⟩ := I1.lstM hl1
    show wpAny _ A.in1 (updateSeq S (·.push (.ref s.heap.objs.size)) >>= _) _ _ _
    have I2 := I1.lset (f := (·.push (.ref s.heap.objs.size))) (its' := its1 ++ [.ref s.heap.objs.size]) (ys := ws ++ [.ref s.heap.objs.size]) (t' := s.toks) hl1 he1 (by simp) (rv1.append (.cons (show RelV (V.ref s.heap.objs.size) (Value.ref s.heap.objs.size) from rfl) .nil)) (by rw [List.length_append, List.length_singleton]; omega)
    have fr : ∀ b ∈ [z, TO, i1, i2], b ≠ s.heap.objs.size ∧ b ≠ S := fun b hb => by
      simp at hb
      obtain ⟨q1, q2, q3, q4⟩ := hlt
      obtain ⟨w1, w2, w3, w4⟩ := hS
      rcases hb with rfl | rfl | rfl | rfl
      · exact ⟨Nat.ne_of_lt (Nat.lt_of_lt_of_le q1 hN), Ne.symm w1⟩
      · exact ⟨Nat.ne_of_lt (Nat.lt_of_lt_of_le q2 hN), Ne.symm w2⟩
      · exact ⟨Nat.ne_of_lt (Nat.lt_of_lt_of_le q3 hN), Ne.symm w3⟩
      · exact ⟨Nat.ne_of_lt (Nat.lt_of_lt_of_le q4 hN), Ne.symm w4⟩
    have hTS : s.heap.objs.size ≠ S := Nat.ne_of_gt hSlt
    refine wpAny_bind (wpAny_updateSeq he1 rfl (wpAny_pure ⟨plainId_quiet F.plain_extend_loop _, ih (k + 1) _ _ (ws ++ [.ref s.heap.objs.size]) (by omega) hlt2 I2 ?_ upd_same (by simp [hw]) ?_ ?_ ?_ ?_⟩) ?_ ?_)
    · exact Evl.Ex.mut (eH.trans (Evl.Ex.new hT)) hS0
    · intro j hj
      rw [List.length_append, List.length_singleton] at hj
      by_cases e : j = ws.length
      · subst e
        refine ⟨s.heap.objs.size, x, y, by simp, by rw [hw]; exact hx, by rw [hw]; exact hy, by rw [upd_ne hTS, upd_same]⟩
      · obtain ⟨T, x', y', h1, h2, h3, h4⟩ := P j (by omega)
        refine ⟨T, x', y', by rw [List.getElem?_append_left (by omega)]; exact h1, h2, h3, ?_⟩
        rw [upd_ne (fun z => by rw [z, hl] at h4; cases h4), upd_ne (fun z => by rw [z, hT] at h4; cases h4)]
        exact h4
    · exact Z.keep st' fun c o hc e => (Heap.get?_update_other _ _ (Ne.symm hc)).trans e
    · show N0 ≤ (h'.update S _).objs.size
      rw [Heap.size_update, hsz]
      exact Nat.le_succ_of_le hN
    · exact fun b hb => fpOther (hf b hb) (by rw [upd_ne (fr b hb).2, upd_ne (fr b hb).1]; exact (hf b hb).1)
    · rw [List.size_toArray, ← hl2]; omega
    · show (its1.toArray.push _).size ≤ sizeLine + 1
      rw [Array.size_push, List.size_toArray, ← hl2]; omega
/-- list(z) -/
theorem call_list_z {A : Around} {E : Value → Shared → Prop} {Q : Value → Shared → Prop} {s : Shared} {H : Hp} {n : Nat} (Z : ZNx X.prog X.w z TO i1 i2 s.heap.objs.size xs.toArray ys.toArray St) (hh : A.handled = none) (vx : Vals ax xs) (vy : Vals ay ys) (hn : n = min ax.length ay.length) (hz : n ≤ sizeLine)
    (hlt : z < s.heap.objs.size ∧ TO < s.heap.objs.size ∧ i1 < s.heap.objs.size ∧ i2 < s.heap.objs.size) (I : Inv X pins σ H s) (st : St 0 s.heap) (hf : ∀ b ∈ [z, TO, i1, i2], FpOk X pins H b)
    (hQ : ∀ s' H' ws, Inv X pins σ H' s' → Ex H H' → H' s.heap.objs.size = some (.lst ws) → ws.length = n → Prs ax ay H' ws → Q (.ref s.heap.objs.size) s') :
    wpAny (model X.prog X.w) A (call (.type "list") [.ref z]) Q E s := by
  have nz : s.heap.objs.size ≠ z := Nat.ne_of_gt hlt.1
  have hS0 : H s.heap.objs.size = none := I.hok.fresh (Nat.le_refl _)
  refine callType_codes (Q₁ := fun obj s₁ => obj = .ref s.heap.objs.size ∧ s₁ = { s with heap := s.heap.push { cls := .type "list", data := .seq #[] } }) F.called_list (F.typeCall_list_1 _) F.entry_list_init (code_list_new _ ⟨rfl, rfl⟩) fun obj s1 h1 => ?_
  obtain ⟨rfl, rfl⟩ := h1
  have hS : (s.heap.push { cls := .type "list", data := .seq #[] }).get? s.heap.objs.size = some { cls := .type "list", data := .seq #[] } := Heap.get?_push_size _ rfl
  refine ⟨⟨_, hS, rfl⟩, F.args_list_init_2 _ _, ?_⟩
  show wpAny _ A.in1.in1 (do let old ← Builtin.List.listItems (.ref s.heap.objs.size); Builtin.List.listUpdate (.ref s.heap.objs.size) (fun _ => #[]); letGo old.toList.reverse; Builtin.List.listExtendWith (.ref s.heap.objs.size) (.ref z) .none) _ _ _
  refine wpAny_bind ?_
  unfold Builtin.List.listItems
  refine wpAny_bind (wpAny_seqItems hS rfl (wpAny_pure ?_))
  show wpAny _ A.in1.in1 (updateSeq s.heap.objs.size (fun _ => #[]) >>= fun _ => letGo (#[] : Array Value).toList.reverse >>= fun _ => Builtin.List.listExtendWith (.ref s.heap.objs.size) (.ref z) .none) _ _ _
  refine wpAny_bind (wpAny_updateSeq hS rfl (wpAny_bind (wpAny_letGo ?_)))
  have hS2 := Heap.get?_update_self (Obj.mapSeq (fun _ => (#[] : Array Value))) hS rfl
  have k2 : ∀ b o, b ≠ s.heap.objs.size → s.heap.get? b = some o → ((s.heap.push { cls := .type "list", data := .seq #[] }).update s.heap.objs.size (Obj.mapSeq (fun _ => (#[] : Array Value)))).get? b = some o := fun b o hb e => (Heap.get?_update_other _ _ (Ne.symm hb)).trans (Heap.get?_push_of_some _ e)
  generalize hh2 : (s.heap.push { cls := .type "list", data := .seq #[] }).update s.heap.objs.size (Obj.mapSeq (fun _ => (#[] : Array Value))) = h2 at hS2 k2 ⊢
  have st2 : St 0 h2 := Z.keep st k2
  unfold Builtin.List.listExtendWith
  refine wpAny_bind (wpAny_typeOf (Z.type (s := { s with heap := h2 }) st2) ?_)
  have q1 : Builtin.List.listSameRef (.ref s.heap.objs.size) (.ref z) = false := by simp [Builtin.List.listSameRef, nz]
  have q2 : (Value.type "zip" == Value.type "list") = false := by decide
  have q3 : (Value.type "zip" == Value.type "tuple") = false := by decide
  simp only [q1, q2, q3, Bool.or_false, Bool.false_eq_true, if_false]
  refine wpAny_bind (Z.self (s := { s with heap := h2 }) st2 (wpAny_bind (wpAny_holding ?_)))
  unfold Builtin.List.listLengthHint
  refine wpAny_bind (wpAny_specialOf (Z.type (s := { s with heap := h2 }) st2) zip_no_len ?_)
  show wpAny _ _ (specialOf (Value.ref z) (Str.ofString "__length_hint__") >>= _) _ _ _
  refine wpAny_bind (wpAny_specialOf (Z.type (s := { s with heap := h2 }) st2) zip_no_hint (wpAny_pure ?_))
  show wpAny _ _ (rule "list.extend.makes-room" >>= fun _ => Builtin.List.listTouch (.ref s.heap.objs.size) >>= fun _ => again (.builtin "list.extend.loop" ⟨[.ref s.heap.objs.size, .ref z, .none], []⟩)) _ _ _
  refine wpAny_bind (wpAny_rule (wpAny_bind ?_))
  show wpAny _ _ (updateSeq s.heap.objs.size (·.push .none) >>= fun _ => updateSeq s.heap.objs.size (·.pop)) _ _ _
  refine wpAny_bind (wpAny_updateSeq hS2 rfl ?_)
  have hS3 := Heap.get?_update_self (Obj.mapSeq (·.push Value.none)) hS2 rfl
  refine wpAny_updateSeq (hz := by seq_fits) hS3 rfl ?_
  have hS4 := Heap.get?_update_self (Obj.mapSeq (·.pop)) hS3 rfl
  have k4 : ∀ b o, b ≠ s.heap.objs.size → s.heap.get? b = some o → ((h2.update s.heap.objs.size (Obj.mapSeq (·.push Value.none))).update s.heap.objs.size (Obj.mapSeq (·.pop))).get? b = some o := fun b o hb e => (Heap.get?_update_other _ _ (Ne.symm hb)).trans ((Heap.get?_update_other _ _ (Ne.symm hb)).trans (k2 b o hb e))
  generalize (h2.update s.heap.objs.size (Obj.mapSeq (·.push Value.none))).update s.heap.objs.size (Obj.mapSeq (·.pop)) = h4 at hS4 k4 ⊢
  have I4 : Inv X pins σ (upd H s.heap.objs.size (.lst [])) { s with heap := h4 } := I.laid (a := s.heap.objs.size) (o := .lst []) (t' := s.toks) (fun b o e => k4 b o (Nat.ne_of_lt (Heap.lt_size e)) e) (Nat.le_refl _) ⟨Nat.zero_le _, [], _, .nil, hS4⟩
  refine wpAny_pure ⟨plainId_quiet F.plain_extend_loop _, zip_loop (A := A.in1) (N0 := s.heap.objs.size) (H0 := H) Z hh vx vy hn hz ⟨nz, Nat.ne_of_gt hlt.2.1, Nat.ne_of_gt hlt.2.2.1, Nat.ne_of_gt hlt.2.2.2⟩ hlt hS0 (fun s' H' ws I' e' h' l' P' => ?_)
    n 0 _ _ [] (Nat.sub_zero n) (Nat.zero_le _) I4 (Evl.Ex.new hS0) upd_same rfl (fun j hj => by simp at hj) (Z.keep st k4) ?_ fun b hb => fpOther (hf b hb) ?_⟩
  · exact ⟨rfl, hQ s' H' ws I' e' h' l' P'⟩
  · show s.heap.objs.size ≤ h4.objs.size
    exact Nat.le_of_lt (Heap.lt_size hS4)
  · rw [upd_ne ?_]
    · exact (hf b hb).1
    · simp at hb
      rcases hb with rfl | rfl | rfl | rfl
      · exact Ne.symm nz
      · exact Nat.ne_of_lt hlt.2.1
      · exact Nat.ne_of_lt hlt.2.2.1
      · exact Nat.ne_of_lt hlt.2.2.2
end
end BF

set_option Elab.async false
set_option linter.all false
set_option maxRecDepth 100000
set_option maxHeartbeats 1000000
set_option autoImplicit false
/-! list(zip(xs, ys)): the rule. -/
namespace BF
open PySem PySem.Spec PyProof.Rows L2

def tLz (K : PySem.W.Frag) (ta : TA) : TE := fun σ H Q => ta σ H fun vs H1 => ∃ a b xs ys, vs = [.ref a, .ref b] ∧ ((SqL K H1 a xs ∧ SqL K H1 b ys) ∨ (SqT K H1 a xs ∧ SqT K H1 b ys)) ∧
  ∀ H2 p ws, Ex H1 H2 → H1 p = none → H2 p = some (.lst ws) → ws.length = min xs.length ys.length → Prs xs ys H2 ws → Q (.ref p) H2
theorem pe_lz {X : Cx} {e e2 : Expr} {ta : TA} {p p2 pos pos2 : Pos} (hc : X.calm = true) (hg : Gl X "list") (hm : X.mg "list" = none) (hgz : Gl X "zip") (hmz : X.mg "zip" = none) (ha : PA X [e, e2] ta)
    (hs : starEach [e, e2] X.env = (false, eval e X.env) :: starEach [e2] X.env) (hpl : (backTo pos2 (starEach [e2] X.env)).any (·.1) = false)
    (hs1 : starEach [.Call (.Name "zip" p2) [e, e2] [] pos2] X.env = (false, eval (.Call (.Name "zip" p2) [e, e2] [] pos2) X.env) :: starEach [] X.env) :
    PE X (.Call (.Name "list" p) [.Call (.Name "zip" p2) [e, e2] [] pos2] [] pos) (tLz X.K ta) := by
  refine ⟨fun pins s σ H Q I h => ?_⟩
  refine Call_ (ld_blt I hg hm PyProof.Rows.boot_list (PyProof.Rows.callWith_type1 ?_ hs1 rfl))
  rw [hs1]
  refine Calls.spliced_cons ?_
  refine Call_ (ld_blt I hgz hmz PyProof.Rows.boot_zip (PyProof.Rows.callWith_type1 (thn (ha.run pos2 pins s σ H _ I h) fun us s1 ⟨vs, H1, I1, r1, q1⟩ => ?_) hs hpl))
  obtain ⟨a, b, xs, ys, ex, hsq, q⟩ := q1
  subst ex
  cases r1 with
  | cons r rr =>
    cases rr with
    | cons r' rr =>
      cases rr
      cases r
      cases r'
      have key : ∀ {h' : Heap} {z TI TO i1 i2 : Addr} {its its2 : List Value} {St : Nat → Heap → Prop}, Vals xs its → Vals ys its2 → xs.length ≤ sizeLine → (∀ c o, s1.heap.get? c = some o → h'.get? c = some o) → ZNx X.prog X.w z TO i1 i2 h'.objs.size its.toArray its2.toArray St →
          (z < h'.objs.size ∧ TO < h'.objs.size ∧ i1 < h'.objs.size ∧ i2 < h'.objs.size) → (s1.heap.objs.size ≤ z ∧ s1.heap.objs.size ≤ TO ∧ s1.heap.objs.size ≤ i1 ∧ s1.heap.objs.size ≤ i2) → St 0 h' →
          wpAny (model X.prog X.w) X.A (call (.type "list") [.ref z]) (EP X pins σ Q) X.xe { s1 with heap := h' } := by
        intro h' z TI TO i1 i2 its its2 St v1 v2 hz kp Z hlt hge st
        have I2 : Inv X pins σ H1 { s1 with heap := h' } := I1.kept (t' := s1.toks) kp
        refine call_list_z (s := { s1 with heap := h' }) Z (I1.ok.hd hc) v1 v2 rfl (Nat.le_trans (Nat.min_le_left _ _) hz) hlt I2 st (fun c hcm => ?_) fun s' H' ws I' e' hp l' P' => ⟨.ref h'.objs.size, H', I', rfl, q H' _ ws e' (I2.hok.fresh (Nat.le_refl _)) hp l' P'⟩
        have hle : s1.heap.objs.size ≤ c := by
          simp at hcm
          rcases hcm with rfl | rfl | rfl | rfl
          · exact hge.1
          · exact hge.2.1
          · exact hge.2.2.1
          · exact hge.2.2.2
        exact I1.fpOk hle (I1.hok.fresh hle)
      have D : ∀ {x y : Addr}, x < s1.heap.objs.size → y < s1.heap.objs.size → ZipApart (s1.heap.objs.size + 4) (s1.heap.objs.size + 2) (s1.heap.objs.size + 3) s1.heap.objs.size (s1.heap.objs.size + 1) x y := fun {x y} hx hy => PySem.W.ktu_apart s1.heap.objs.size x y hx hy
      have lts : ∀ {h' : Heap}, h'.objs.size = s1.heap.objs.size + 5 → (s1.heap.objs.size + 4 < h'.objs.size ∧ s1.heap.objs.size + 3 < h'.objs.size ∧ s1.heap.objs.size < h'.objs.size ∧ s1.heap.objs.size + 1 < h'.objs.size) := fun {h'} e => by
        rw [e]; exact ⟨by omega, by omega, by omega, by omega⟩
      have ges : s1.heap.objs.size ≤ s1.heap.objs.size + 4 ∧ s1.heap.objs.size ≤ s1.heap.objs.size + 3 ∧ s1.heap.objs.size ≤ s1.heap.objs.size ∧ s1.heap.objs.size ≤ s1.heap.objs.size + 1 := ⟨by omega, by omega, by omega, by omega⟩
      have nS : ∀ {h' : Heap} {x y : Addr}, h'.objs.size = s1.heap.objs.size + 5 → x < s1.heap.objs.size → y < s1.heap.objs.size → h'.objs.size ≠ s1.heap.objs.size + 4 ∧ h'.objs.size ≠ s1.heap.objs.size + 2 ∧ h'.objs.size ≠ s1.heap.objs.size + 3 ∧ h'.objs.size ≠ s1.heap.objs.size ∧ h'.objs.size ≠ s1.heap.objs.size + 1 ∧ h'.objs.size ≠ x ∧ h'.objs.size ≠ y := fun {h' x y} e hx hy => by
        have hx' : x < (s1.heap.objs.size : Nat) := hx
        have hy' : y < (s1.heap.objs.size : Nat) := hy
        rw [e]
        refine ⟨?_, ?_, ?_, ?_, ?_, Nat.ne_of_gt (Nat.lt_of_lt_of_le hx' (by omega)), Nat.ne_of_gt (Nat.lt_of_lt_of_le hy' (by omega))⟩ <;> exact Nat.ne_of_gt (by omega)
      rcases hsq with ⟨hqx, hqy⟩ | ⟨hqx, hqy⟩
      · obtain ⟨its, rv, pl1, z1⟩ := I1.list hqx
        obtain ⟨its2, rv2, pl2, _⟩ := I1.list hqy
        refine call_zip_2 pl1.isList pl2.isList fun h' hz hTI hTO h1 h2 hsz hk => Calls.spliced_nil ?_
        have D1 := D pl1.lt pl2.lt
        refine key (z := s1.heap.objs.size + 4) (TI := s1.heap.objs.size + 2) rv rv2 z1 hk (znx_of D1 (nS hsz pl1.lt pl2.lt) (src_list (Ne.symm D1.l1i1)) (src_list (Ne.symm D1.l2i2)) (fun {A E s x y a b Q} hz hTI hTO s1 s2 hx hy hQ => ?_) (fun {A E s a b Q} hh hz hTI hTO s1 s2 he hQ => ?_) (fun k h st => ?_) fun k h st => ?_) (lts hsz) ges
          ⟨hTI, ⟨h1, pl1.isList.at fun o e => hk _ o e⟩, ⟨h2, pl2.isList.at fun o e => hk _ o e⟩, .inl ⟨rfl, hz, _, _, hTO⟩⟩
        · exact wpAny_pyNext_zip_item D1 hz hTI hTO s1.1 s2.1 s1.2 s2.2 hx hy fun h' a1 a2 a3 a4 a5 a6 kp => hQ h' a1 ⟨a3, s1.2.at fun o e => kp _ o D1.l1z D1.l1TO D1.l1i1 D1.l1i2 e⟩ ⟨a4, s2.2.at fun o e => kp _ o D1.l2z D1.l2TO D1.l2i1 D1.l2i2 e⟩ a5 a6 kp
        · exact wpAny_pyNext_zip_end hh D1 hz hTI hTO s1.1 s2.1 s1.2 s2.2 he hQ
        · obtain ⟨⟨o, e, _⟩, _⟩ := st; exact Heap.lt_size e
        · obtain ⟨⟨o, e, _⟩, _⟩ := st; exact Heap.lt_size e
      · obtain ⟨its, rv, pl1, z1⟩ := I1.tuple hqx
        obtain ⟨its2, rv2, pl2, _⟩ := I1.tuple hqy
        obtain ⟨o1, ho1, _⟩ := id pl1
        obtain ⟨o2, ho2, _⟩ := id pl2
        have t1 : s1.heap.IsTuple a its.toArray := pl1
        have t2 : s1.heap.IsTuple b its2.toArray := pl2
        refine RZ.call_zipT t1 t2 fun h' hz hTI hTO h1 h2 hsz hk => Calls.spliced_nil ?_
        have D1 := D (Heap.lt_size ho1) (Heap.lt_size ho2)
        refine key (z := s1.heap.objs.size + 4) (TI := s1.heap.objs.size + 2) rv rv2 z1 hk (znx_of D1 (nS hsz (Heap.lt_size ho1) (Heap.lt_size ho2)) (src_tup (Ne.symm D1.l1i1)) (src_tup (Ne.symm D1.l2i2)) (fun {A E s x y a b Q} hz hTI hTO s1 s2 hx hy hQ => ?_) (fun {A E s a b Q} hh hz hTI hTO s1 s2 he hQ => ?_) (fun k h st => ?_) fun k h st => ?_) (lts hsz) ges
          ⟨hTI, ⟨h1, t1.at fun o e => hk _ o e⟩, ⟨h2, t2.at fun o e => hk _ o e⟩, .inl ⟨rfl, hz, _, _, hTO⟩⟩
        · exact RZ.pyNext_zipT_item D1 hz hTI hTO s1.1 s2.1 s1.2 s2.2 hx hy fun h' a1 a2 a3 a4 a5 a6 kp => hQ h' a1 ⟨a3, s1.2.at fun o e => kp _ o D1.l1z D1.l1TO D1.l1i1 D1.l1i2 e⟩ ⟨a4, s2.2.at fun o e => kp _ o D1.l2z D1.l2TO D1.l2i1 D1.l2i2 e⟩ a5 a6 kp
        · exact RZ.pyNext_zipT_end hh D1 hz hTI hTO s1.1 s2.1 s1.2 s2.2 he hQ
        · obtain ⟨⟨o, e, _⟩, _⟩ := st; exact Heap.lt_size e
        · obtain ⟨⟨o, e, _⟩, _⟩ := st; exact Heap.lt_size e
end BF

set_option Elab.async false
set_option linter.all false
set_option maxRecDepth 100000
set_option maxHeartbeats 1000000
set_option autoImplicit false
/-! Iterables; comprehensions with two clauses; list(zip(..)); corners. -/
namespace BF
open PySem PySem.Spec PyProof.Rows L2

section
variable {X : Cx} {τ : AE} {e e1 e2 tg : Expr} {pos : Pos}
/-- a list that is not owned -/
structure LS (X : Cx) (τ : AE) (e : Expr) (xs : List D) : Prop where
  run : ∀ (O : Addr → Prop) (H : Hp) (σ : L2.St) (Q : VK), RS (gaOf X) O H σ τ → (∀ p vs H2, Ex H H2 → ¬ O p → H2 p = some (.lst vs) → TDs H2 vs xs → Q (.ref p) H2) → XE X σ H e Q
theorem ls_new {xs : List D} (h : DE X τ e (.l true xs)) : LS X τ e xs := ⟨fun O H σ Q r q => h.run O H σ Q r fun v H2 e2 ⟨p, vs, h1, h2, h3, h4⟩ => h1 ▸ q p vs H2 e2 (fun z => r.there z (h2 rfl)) h3 h4⟩
theorem ls_var {x : Str} {xs : List D} (i : Nat) (ht : τ[i]? = some (some (.l false xs)) := by rfl) (hN : X.N[i]? = some x := by rfl)
    (hv : Vis X.env.scope x := by first | exact Or.inl rfl | exact Or.inr (Or.inl rfl) | exact Or.inr (Or.inr rfl)) (hd : (x == ("__debug__" : Str)) = false := by decide) (hc : (x == ("__classdict__" : Str)) = false := by decide) :
    LS X τ (.Name x pos) xs := ⟨fun O H σ Q r q => XE.of (pe_var hN hv hd hc) (by
  obtain ⟨u, h1, p, vs, rfl, h3, h4, h5⟩ := r.at_ i _ ht
  exact ⟨_, h1, q p vs H (exr H) (fun z => by cases h3.mp z) h4 h5⟩)⟩
/-- the pairs of enumerate and zip -/
def enD (xs : List D) : List D := xs.zipIdx.map fun p => .tup [.int (p.2 : Int), p.1]
def zpD (xs ys : List D) : List D := List.zipWith (fun x y => .tup [x, y]) xs ys
theorem enD_len (xs : List D) : (enD xs).length = xs.length := by simp [enD]
theorem enD_get (xs : List D) (i : Nat) : (enD xs)[i]? = (xs[i]?).map fun x => .tup [.int (i : Int), x] := by simp [enD, List.getElem?_zipIdx, Option.map_map]; rfl
theorem zpD_len (xs ys : List D) : (zpD xs ys).length = min xs.length ys.length := by simp [zpD]
theorem zpD_get {xs ys : List D} {i : Nat} {x y : D} (h1 : xs[i]? = some x) (h2 : ys[i]? = some y) : (zpD xs ys)[i]? = some (.tup [x, y]) := by simp [zpD, List.getElem?_zipWith, h1, h2]
theorem itok_enum {K : PySem.W.Frag} {a : Addr} {vs : List V} {ds : List D} {G : Hp} (h : G a = some (.lst vs)) (t : TDs G vs ds) : ItOk (Ite K a) (enD ds) G := fun i H' e => by
  rw [enD_len, ← t.length]
  refine ⟨fun hi => ⟨⟨vs, vs[i], SqL.of (e _ _ h), List.getElem?_eq_getElem _⟩, fun x H'' y => ?_⟩, fun hi => ⟨vs, SqL.of (e _ _ h), hi⟩⟩
  obtain ⟨T, w, rfl, hT, rfl, hw⟩ := y
  obtain ⟨d, h1, h2⟩ := t.get' (hw vs (SqL.of (e _ _ h)))
  have eT := Evl.Ex.new (o := .tup [.int (i : Nat), w]) hT
  refine ⟨eT, .tup [.int (i : Int), d], by rw [enD_get, h1]; rfl, .tup upd_same (.cons (.int _) (.cons (h2.up (Ex_kt (e.trans eT))) .nil))⟩
theorem itok_zip {K : PySem.W.Frag} {a b : Addr} {vs ws : List V} {ds es : List D} {G : Hp} (h : G a = some (.lst vs)) (t : TDs G vs ds) (h' : G b = some (.lst ws)) (t' : TDs G ws es) : ItOk (Itz K a b) (zpD ds es) G := fun i H' e => by
  rw [zpD_len, ← t.length, ← t'.length]
  refine ⟨fun hi => ⟨⟨vs, ws, vs[i], ws[i], SqL.of (e _ _ h), SqL.of (e _ _ h'), List.getElem?_eq_getElem _, List.getElem?_eq_getElem _⟩, fun x H'' y => ?_⟩, fun hi => ⟨vs, ws, SqL.of (e _ _ h), SqL.of (e _ _ h'), by omega⟩⟩
  obtain ⟨T, w, w', rfl, hT, rfl, hw, hw'⟩ := y
  obtain ⟨d, h1, h2⟩ := t.get' (hw vs (SqL.of (e _ _ h)))
  obtain ⟨d', h1', h2'⟩ := t'.get' (hw' ws (SqL.of (e _ _ h')))
  have eT := Evl.Ex.new (o := .tup [w, w']) hT
  exact ⟨eT, .tup [d, d'], zpD_get h1 h1', .tup upd_same (.cons (h2.up (Ex_kt (e.trans eT))) (.cons (h2'.up (Ex_kt (e.trans eT))) .nil))⟩
theorem di_enum {xs : List D} {p tpos : Pos} {elts : List Expr} {kk : Nat} (he : LS X τ e xs) (hm : X.mg "enumerate" = none) (hg : Gl X "enumerate" := by rfl) (hs : starEach [e] X.env = (false, eval e X.env) :: starEach [] X.env := by rfl) : DI X τ (.Tuple elts kk tpos) (.Call (.Name "enumerate" p) [e] [] pos) (enD xs) :=
  ⟨fun O H σ R r q => XI.of (pi_enum hg hm (pa_cons (pe_can X e) pa_nil hs) hs) (he.run O H σ _ r fun a vs H2 e2 nO h2 t2 => ⟨a, vs, rfl, SqL.of h2, q _ H2 e2 (itok_enum (by rw [rst_in nO]; exact h2) (t2.up (rst_kt (r.mono e2))))⟩)⟩
theorem di_zip {xs ys : List D} {p tpos : Pos} {elts : List Expr} {kk : Nat} (h1 : LS X τ e1 xs) (h2 : LS X τ e2 ys) (hm : X.mg "zip" = none) (hg : Gl X "zip" := by rfl) (hs : starEach [e1, e2] X.env = (false, eval e1 X.env) :: starEach [e2] X.env := by rfl) (hs2 : starEach [e2] X.env = (false, eval e2 X.env) :: starEach [] X.env := by rfl)
    (hpl : (backTo pos (starEach [e2] X.env)).any (·.1) = false := by rfl) : DI X τ (.Tuple elts kk tpos) (.Call (.Name "zip" p) [e1, e2] [] pos) (zpD xs ys) :=
  ⟨fun O H σ R r q => XI.of (pi_zip hg hm (pa_cons (pe_can X e1) (pa_cons (pe_can X e2) pa_nil hs2) hs) hs hpl) (h1.run O H σ _ r fun a vs H1 e1 nO g1 t1 => h2.run O H1 σ _ (r.mono e1) fun b ws H2 e2 nO2 g2 t2 =>
    ⟨a, b, vs, ws, rfl, SqL.of (e2 _ _ g1), SqL.of g2, q _ H2 (e1.trans e2) (itok_zip (by rw [rst_in nO]; exact e2 _ _ g1) ((t1.up (Ex_kt e2)).up (rst_kt ((r.mono e1).mono e2))) (by rw [rst_in nO2]; exact g2) (t2.up (rst_kt ((r.mono e1).mono e2))))⟩)⟩
/-- list(zip(xs, ys)) -/
theorem prs_td {H : Hp} : ∀ {ax ay ws : List V} {ds es : List D}, Prs ax ay H ws → ws.length = min ax.length ay.length → TDs H ax ds → TDs H ay es → TDs H ws (zpD ds es)
  | [], _, ws, _, _, P, hl, t1, t2 => by
    cases t1
    have : ws = [] := List.length_eq_zero_iff.mp (by simpa using hl)
    subst this; exact .nil
  | x :: ax, [], ws, _, _, P, hl, t1, t2 => by
    cases t1; cases t2
    have : ws = [] := List.length_eq_zero_iff.mp (by simpa using hl)
    subst this; exact .nil
  | x :: ax, y :: ay, [], _, _, P, hl, t1, t2 => by simp at hl
  | x :: ax, y :: ay, w :: ws, _, _, P, hl, t1, t2 => by
    cases t1 with
    | cons a1 b1 =>
      cases t2 with
      | cons a2 b2 =>
        refine .cons ?_ (prs_td (fun j hj => ?_) (by simp at hl; omega) b1 b2)
        · obtain ⟨T, x', y', h1, h2, h3, h4⟩ := P 0 (by simp)
          simp at h1 h2 h3
          subst h1 h2 h3
          exact .tup h4 (.cons a1 (.cons a2 .nil))
        · obtain ⟨T, x', y', h1, h2, h3, h4⟩ := P (j + 1) (by simpa using hj)
          exact ⟨T, x', y', by simpa using h1, by simpa using h2, by simpa using h3, h4⟩
theorem de_lzL {xs ys : List D} {p p2 pos2 : Pos} (h1 : LS X τ e1 xs) (h2 : LS X τ e2 ys) (hm : X.mg "list" = none) (hmz : X.mg "zip" = none) (hc : X.calm = true := by rfl) (hg : Gl X "list" := by rfl) (hgz : Gl X "zip" := by rfl)
    (hs : starEach [e1, e2] X.env = (false, eval e1 X.env) :: starEach [e2] X.env := by rfl) (hs2 : starEach [e2] X.env = (false, eval e2 X.env) :: starEach [] X.env := by rfl) (hpl : (backTo pos2 (starEach [e2] X.env)).any (·.1) = false := by rfl)
    (hs1 : starEach [.Call (.Name "zip" p2) [e1, e2] [] pos2] X.env = (false, eval (.Call (.Name "zip" p2) [e1, e2] [] pos2) X.env) :: starEach [] X.env := by rfl) : DE X τ (.Call (.Name "list" p) [.Call (.Name "zip" p2) [e1, e2] [] pos2] [] pos) (.l true (zpD xs ys)) :=
  ⟨fun O H σ Q r q => XE.of (pe_lz hc hg hm hgz hmz (pa_cons (pe_can X e1) (pa_cons (pe_can X e2) pa_nil hs2) hs) hs hpl hs1) (h1.run O H σ _ r fun a vs H1 e1 nO g1 t1 => h2.run O H1 σ _ (r.mono e1) fun b ws H2 e2 nO2 g2 t2 =>
    ⟨a, b, vs, ws, rfl, .inl ⟨SqL.of (e2 _ _ g1), SqL.of g2⟩, fun H3 l us e3 hl h3 hn P => q _ H3 ((e1.trans e2).trans e3) ⟨l, us, rfl, fun _ => Evl.fresh_back (e1.trans e2) hl, h3, prs_td P hn (t1.up (Ex_kt (e2.trans e3))) (t2.up (Ex_kt e3))⟩⟩)⟩
theorem de_lzT {xs ys : List D} {p p2 pos2 : Pos} (h1 : DE X τ e1 (.d (.tup xs))) (h2 : DE X τ e2 (.d (.tup ys))) (hm : X.mg "list" = none) (hmz : X.mg "zip" = none) (hc : X.calm = true := by rfl) (hg : Gl X "list" := by rfl) (hgz : Gl X "zip" := by rfl)
    (hs : starEach [e1, e2] X.env = (false, eval e1 X.env) :: starEach [e2] X.env := by rfl) (hs2 : starEach [e2] X.env = (false, eval e2 X.env) :: starEach [] X.env := by rfl) (hpl : (backTo pos2 (starEach [e2] X.env)).any (·.1) = false := by rfl)
    (hs1 : starEach [.Call (.Name "zip" p2) [e1, e2] [] pos2] X.env = (false, eval (.Call (.Name "zip" p2) [e1, e2] [] pos2) X.env) :: starEach [] X.env := by rfl) : DE X τ (.Call (.Name "list" p) [.Call (.Name "zip" p2) [e1, e2] [] pos2] [] pos) (.l true (zpD xs ys)) :=
  ⟨fun O H σ Q r q => XE.of (pe_lz hc hg hm hgz hmz (pa_cons (pe_can X e1) (pa_cons (pe_can X e2) pa_nil hs2) hs) hs hpl hs1) (h1.run O H σ _ r fun v H1 e1 r1 => h2.run O H1 σ _ (r.mono e1) fun u H2 e2 r2 => by
    cases r1 with
    | tup g1 t1 =>
      cases r2 with
      | tup g2 t2 =>
        exact ⟨_, _, _, _, rfl, .inr ⟨SqT.of (e2 _ _ g1), SqT.of g2⟩, fun H3 l us e3 hl h3 hn P => q _ H3 ((e1.trans e2).trans e3) ⟨l, us, rfl, fun _ => Evl.fresh_back (e1.trans e2) hl, h3, prs_td P hn (t1.up (Ex_kt (e2.trans e3))) (t2.up (Ex_kt e3))⟩⟩)⟩

/-! ### profiles -/
/-- what the class Profile shows -/
structure PfCls (g : Ga) (C : Addr) : Prop where
  cls : Cls g.K C
  nc : NoAttr g.K C "corners"
  ha : PySem.W.findIn g.K (.ref C) "__class__" = some (some (.builtin "object.__class__"))
  hn : PySem.W.specialIn g.K (.builtin "object.__class__") "__get__" = some (some (.builtin "getset_descriptor.__get__"))
  ht : PySem.W.takesIn g.K (.builtin "object.__class__") = some true
  hm : PySem.W.mroIn g.K C (.type "object") = some true
def PfOk (g : Ga) : Prop := ∀ C, g.mg "Profile" = some (.ref C) → PfCls g C
theorem de_cor {cs : List (Int × Int)} (hP : PfOk (gaOf X)) (he : DE X τ e (.pr cs)) (hb : attributeBase e "corners" X.env (eval e X.env) = eval e X.env := by rfl) : DE X τ (.Attribute e "corners" pos) (.d (.tup (cs.map corD))) :=
  ⟨fun O H σ Q r q => XE.of (pe_fld (pe_can X e) hb) (he.run O H σ _ r fun v H2 e2 ⟨p, h1, C, dx, fs, t, h2, h3, h4, h5⟩ =>
    ⟨p, C, dx, fs, _, h1, h2, (hP C h5).cls, (hP C h5).nc, h3, q _ H2 e2 h4⟩)⟩
theorem de_isP {cs : List (Int × Int)} {C : Addr} {p p2 : Pos} (hP : PfOk (gaOf X)) (hC : X.mg "Profile" = some (.ref C)) (he : DE X τ e (.pr cs)) (hm : X.mg "isinstance" = none) (hg : Gl X "isinstance" := by rfl) (hg2 : Gl X "Profile" := by rfl)
    (hs : starEach [e, .Name "Profile" p2] X.env = (false, eval e X.env) :: starEach [.Name "Profile" p2] X.env := by rfl) (hs2 : starEach [.Name "Profile" p2] X.env = (false, eval (.Name "Profile" p2) X.env) :: starEach [] X.env := by rfl) (hpl : (backTo pos (starEach [.Name "Profile" p2] X.env)).any (·.1) = false := by rfl) :
    DE X τ (.Call (.Name "isinstance" p) [e, .Name "Profile" p2] [] pos) (.d (.bl true)) :=
  ⟨fun O H σ Q rs q => XE.of (pe_callB call_isi hg hm PyProof.Rows.boot_isinstance (pa_cons (pe_can X e) (pa_cons (pe_glob (v := .ref C) hg2 hC rfl) pa_nil hs2) hs) (by decide) (by decide) hs hpl)
    (he.run O H σ _ rs fun v H1 e1 ⟨a, h1, C', dx, fs, t, h2, h3, h4, h5⟩ => by
      have e : C' = C := by have := h5.symm.trans hC; cases this; rfl
      subst e
      have P := hP C' h5
      exact ⟨v, .ref C', .ref C', .ref C', true, rfl, .own C', h1 ▸ .base (.ins h2 P.cls P.ha P.hn P.ht P.hm), by unfold PySem.W.kitOne; rw [if_pos (by simp)], q _ H1 e1 (.bl true)⟩)⟩
end

/-! ### two clauses -/
theorem RS.widen {g : Ga} {O : Addr → Prop} {H H2 : Hp} {σ : L2.St} {τ : AE} {p : Addr} (r : RS g O H σ τ) (hp : H p = none) (e : Ex H H2) (lo : Lo (H2 p)) : RS g (more O p) H2 σ τ :=
  ⟨r.len, fun i a h => let ⟨v, h1, h2⟩ := r.at_ i a h; ⟨v, h1, (h2.wid hp).mono e⟩, r.sep, fun q hq => hq.elim (fun z => (r.mono e).wf q z) fun z => by rw [z]; exact lo⟩
/-- a list that no name may change is changed -/
theorem RS.chg {g : Ga} {O : Addr → Prop} {H : Hp} {σ : L2.St} {τ : AE} {p : Addr} {o : HO} (r : RS g O H σ τ) (hO : O p) (no : ∀ (k : Nat) (a : AV), τ[k]? = some (some a) → a.own = true → σ[k]? ≠ some (some (.ref p))) (lo : Lo (some o)) : RS g O (upd H p o) σ τ :=
  ⟨r.len, fun i a h => let ⟨v, h1, h2⟩ := r.at_ i a h; ⟨v, h1, h2.keep hO (r.wf p hO) fun ha z => no i a h ha (by rw [h1, z])⟩, r.sep, fun q hq => by
    by_cases z : q = p
    · rw [z, upd_same]; exact lo
    · rw [upd_ne z]; exact r.wf q hq⟩
section
variable {X : Cx} {τ : AE} {tg iter tg1 iter1 elt : Expr} {pos : Pos}
abbrev lcI (X : Cx) (scope : Scope) (tg iter : Expr) : TI := fun σ H' R => ∀ s H C cl fp, XI (bX X scope s H C cl fp) tg iter σ H' R
theorem lc2_sem {scope : Scope} {ds : List D} (own : List (Str × Nat)) (vs1 : List Nat) (es : Nat → List D) (g : Nat → Nat → D) (hi : DI X τ tg iter ds) (hz : ∀ i j, i < ds.length → j ≤ (es i).length → ((List.range i).flatMap fun i => (List.range (es i).length).map (g i)).length + j ≤ 100000)
    (body : ∀ i d, ds[i]? = some d → ∃ τ2, (∀ (k : Nat) (a : AV), τ2[k]? = some (some a) → a.own = true → k ∉ own.map (·.2) ∧ τ[k]? = some (some a)) ∧ (∀ s H C cl fp, DGw (bX X scope s H C cl fp) (wipeA τ (own.map (·.2))) tg d τ2 (own.map (·.2)) ∧ DI (bX X scope s H C cl fp) τ2 tg1 iter1 (es i)) ∧
      ∀ j d1, (es i)[j]? = some d1 → ∃ τ3, ∀ s H C cl fp, DGw (bX X scope s H C cl fp) (wipeA τ2 vs1) tg1 d1 τ3 vs1 ∧ DE (bX X scope s H C cl fp) τ3 elt (.d (g i j))) :
    LcS X τ (tLc2 (fun σ H R => XI X tg iter σ H R) (lcG X scope tg) tYes (lcI X scope tg1 iter1) (lcG X scope tg1) tYes (lcE X scope elt) (own.map (·.2)) vs1) (.l true ((List.range ds.length).flatMap fun i => (List.range (es i).length).map (g i))) := by
  refine ⟨fun O H σ Q rs q => hi.run O H σ _ rs fun J H1 e1 itok L hL => ?_⟩
  have rs1 := rs.mono e1
  obtain ⟨F, hF, Fs⟩ : ∃ F : Nat → List D, (∀ i, F i = (List.range i).flatMap fun i => (List.range (es i).length).map (g i)) ∧ ∀ i, F (i + 1) = F i ++ (List.range (es i).length).map (g i) :=
    ⟨fun i => (List.range i).flatMap fun i => (List.range (es i).length).map (g i), fun _ => rfl, fun i => by
      show (List.range (i + 1)).flatMap _ = (List.range i).flatMap _ ++ _
      rw [List.range_succ, List.flatMap_append]; simp⟩
  have F0 : F 0 = [] := by rw [hF]; rfl
  -- behind i turns
  refine ⟨fun i m H' => m = ds.length - i ∧ i ≤ ds.length ∧ Ex H1 H' ∧ ∃ vs, H' L = some (.lst vs) ∧ TDs H' vs (F i), ⟨ds.length, by simp, Nat.zero_le _, Evl.Ex.new hL, [], upd_same, by rw [F0]; exact .nil⟩, ?_⟩
  rintro i m H' ⟨rfl, hle, e', vs, hv', tv⟩
  have eG : Ex (rst O H1) H' := rst_ex.trans e'
  obtain ⟨ok1, ok2⟩ := itok i H' eG
  by_cases hlt : i < ds.length
  · obtain ⟨go, y⟩ := ok1 hlt
    refine .inr ⟨go, fun H2 => i + 1 ≤ ds.length ∧ Ex H1 H2 ∧ ∃ vs, H2 L = some (.lst vs) ∧ TDs H2 vs (F (i + 1)), fun H2 ⟨w1, w2, w3⟩ => ⟨ds.length - (i + 1), by omega, rfl, w1, w2, w3⟩, fun x H'' yx => ?_⟩
    obtain ⟨ey, d, hd, td⟩ := y x H'' yx
    obtain ⟨τ2, no, hb, hb2⟩ := body i d hd
    have hv2 := ey _ _ hv'
    have rw2 : RS (gaOf X) (more O L) H'' σ τ := rs1.widen hL (e'.trans ey) (by rw [hv2]; trivial)
    have rs2 : RS (gaOf X) (more O L) H'' (wipe σ (own.map (·.2))) (wipeA τ (own.map (·.2))) := wipe_rs rw2
    intro s0 H0 C0 cl0 fp0
    refine (hb s0 H0 C0 cl0 fp0).1.run (more O L) H'' _ x _ rs2 td fun σ2 r2 l2 k2 => ⟨?_, ?_⟩
    · have a1 : (wipe (wipe σ (own.map (·.2))) (own.map (·.2))) = wipe σ (own.map (·.2)) := wipe_idem (wipe_length _ _) fun j hj => by
        cases h : σ[j]? with
        | none => exact List.getElem?_eq_none (by rw [wipe_length]; exact List.getElem?_eq_none_iff.mp h)
        | some o => rw [wipe_out hj, h]
      rw [← a1]
      exact wipe_idem l2 fun j hj => k2 j hj
    · unfold tYes
      dsimp only
      rw [if_pos rfl]
      intro s1 Hh1 C1 cl1 fp1
      refine (hb s1 Hh1 C1 cl1 fp1).2.run (more O L) H'' σ2 _ r2 fun J1 H4 e4 itok1 => ?_
      have r4 := r2.mono e4
      have tv4 := (tv.up (Ex_kt ey)).up (Ex_kt e4)
      have hv4 := e4 _ _ hv2
      have oL : more O L L := .inr rfl
      have nl : ∀ (k : Nat) (a : AV), τ2[k]? = some (some a) → a.own = true → σ2[k]? ≠ some (some (.ref L)) := fun k a hk ha z => by
        obtain ⟨n1, n2⟩ := no k a hk ha
        obtain ⟨u, u1, u2⟩ := rs1.at_ k a n2
        rw [k2 k n1, wipe_out n1, u1] at z
        cases z
        obtain ⟨p, p1, _, p3⟩ := u2.ref_there ha
        cases p1
        exact p3 hL
      refine ⟨fun j m H5 => m = (es i).length - j ∧ j ≤ (es i).length ∧ Ex H1 H5 ∧ Ex (rst (more O L) H4) H5 ∧ RS (gaOf X) (more O L) H5 σ2 τ2 ∧ ∃ vs, H5 L = some (.lst vs) ∧ TDs H5 vs (F i ++ (List.range j).map (g i)), ⟨(es i).length, by simp, Nat.zero_le _, (e'.trans ey).trans e4, rst_ex, r4, vs, hv4, by simpa using tv4⟩, ?_⟩
      rintro j m H5 ⟨rfl, hje, e5, eG5, r5, vs5, hv5, tv5⟩
      obtain ⟨ok3, ok4⟩ := itok1 j H5 eG5
      by_cases hjl : j < (es i).length
      · obtain ⟨go1, y1⟩ := ok3 hjl
        refine .inr ⟨go1, fun H6 => j + 1 ≤ (es i).length ∧ Ex H1 H6 ∧ Ex (rst (more O L) H4) H6 ∧ RS (gaOf X) (more O L) H6 σ2 τ2 ∧ ∃ vs, H6 L = some (.lst vs) ∧ TDs H6 vs (F i ++ (List.range (j + 1)).map (g i)), fun H6 ⟨w1, w2, w3, w4, w5⟩ => ⟨(es i).length - (j + 1), by omega, rfl, w1, w2, w3, w4, w5⟩, fun x1 H6 yx1 => ?_⟩
        obtain ⟨e6, d1, hd1, td1⟩ := y1 x1 H6 yx1
        obtain ⟨τ3, hb3⟩ := hb2 j d1 hd1
        have r6 := r5.mono e6
        intro s3 H3 C3 cl3 fp3
        refine (hb3 s3 H3 C3 cl3 fp3).1.run (more O L) H6 _ x1 _ (wipe_rs r6) td1 fun σ3 r3 l3 k3 => ⟨?_, ?_⟩
        · have a1 : (wipe (wipe σ2 vs1) vs1) = wipe σ2 vs1 := wipe_idem (wipe_length _ _) fun j hj => by
            cases h : σ2[j]? with
            | none => exact List.getElem?_eq_none (by rw [wipe_length]; exact List.getElem?_eq_none_iff.mp h)
            | some o => rw [wipe_out hj, h]
          rw [← a1]
          exact wipe_idem l3 fun j hj => k3 j hj
        · rw [if_pos rfl]
          intro s5 H7 C5 cl5 fp5
          refine (hb3 s5 H7 C5 cl5 fp5).2.run (more O L) H6 σ3 _ r3 fun w H8 e8 r8 => ?_
          have tv8 := (tv5.up (Ex_kt e6)).up (Ex_kt e8)
          have hv8 := e8 _ _ (e6 _ _ hv5)
          have kt : KT H8 (upd H8 L (.lst (vs5 ++ [w]))) := (KT.refl H8).put hv8 (fun _ z => by cases z)
          refine ⟨vs5, hv8, ?_, hjl, Evl.Ex.mut ((e5.trans e6).trans e8) hL, Evl.Ex.mut ((eG5.trans e6).trans e8) (rst_out oL), (r6.mono e8).chg oL nl trivial, vs5 ++ [w], upd_same, ?_⟩
          · have h1 := hz i j hlt hje
            rw [tv5.length, List.length_append, hF, List.length_map, List.length_range]
            exact Evl.sz_lt (by have := hz i (j + 1) hlt hjl; omega)
          · rw [List.range_succ, List.map_append, ← List.append_assoc]
            exact (tv8.append (TDs.one r8)).up kt
      · have e : j = (es i).length := by omega
        subst e
        exact .inl ⟨ok4 (Nat.le_refl _), hlt, e5, vs5, hv5, by rw [Fs]; exact tv5⟩
  · have e : i = ds.length := by omega
    subst e
    exact .inl ⟨ok2 (Nat.le_refl _), q _ H' (e1.trans e') ⟨L, vs, rfl, fun _ => Evl.fresh_back e1 hL, hv', by rw [hF] at tv; exact tv⟩⟩
theorem de_lc2 {scope : Scope} {ds : List D} (own : List (Str × Nat)) (vs1 : List Nat) (es : Nat → List D) (g : Nat → Nat → D) (hi : DI X τ tg iter ds) (hz : ∀ i j, i < ds.length → j ≤ (es i).length → ((List.range i).flatMap fun i => (List.range (es i).length).map (g i)).length + j ≤ 100000)
    (body : ∀ i d, ds[i]? = some d → ∃ τ2, (∀ (k : Nat) (a : AV), τ2[k]? = some (some a) → a.own = true → k ∉ own.map (·.2) ∧ τ[k]? = some (some a)) ∧ (∀ s H C cl fp, DGw (bX X scope s H C cl fp) (wipeA τ (own.map (·.2))) tg d τ2 (own.map (·.2)) ∧ DI (bX X scope s H C cl fp) τ2 tg1 iter1 (es i)) ∧
      ∀ j d1, (es i)[j]? = some d1 → ∃ τ3, ∀ s H C cl fp, DGw (bX X scope s H C cl fp) (wipeA τ2 vs1) tg1 d1 τ3 vs1 ∧ DE (bX X scope s H C cl fp) τ3 elt (.d (g i j)))
    (ok : BlkOk X.N X.env.scope scope own) (hv : ∀ i ∈ vs1, i ∈ own.map (·.2)) (hc : X.calm = true := by rfl) (hN : X.N.Nodup := by assumption) (hs : ∀ x, foldedSetIterable iter X.env x = pure x := by intro _; rfl) (hs1 : ∀ env x, foldedSetIterable iter1 env x = pure x := by intro _ _; rfl) : DE X τ (.ListComp elt [⟨tg, iter, [], 0⟩, ⟨tg1, iter1, [], 0⟩] scope pos) (.l true ((List.range ds.length).flatMap fun i => (List.range (es i).length).map (g i))) :=
  ⟨fun O H σ Q rs q => XE.of (pe_lc2 (own := own) (vs1 := vs1) (wi1 := lcI X scope tg1 iter1) (g := lcG X scope tg) (g1 := lcG X scope tg1) (te := lcE X scope elt) hc hN (pi_can X tg iter) ok hv (fun s H C cl fp => ⟨fun pins s' σ H' v u Q I r h => h s H C cl fp pins s' u I r⟩) (fun s H C cl fp => pts_nil) (fun s H C cl fp => ⟨fun pins s' σ H' R I h => h s H C cl fp pins s' I⟩) (fun s H C cl fp => ⟨fun pins s' σ H' v u Q I r h => h s H C cl fp pins s' u I r⟩) (fun s H C cl fp => pts_nil)
    (fun s H C cl fp => ⟨fun pins s' σ H' Q I h => h s H C cl fp pins s' I⟩) hs hs1) ((lc2_sem own vs1 es g hi hz body).run O H σ Q rs q)⟩
theorem ds_setLc2 {sts : List Stmt} {N : AE → Prop} {R : AV → Prop} {x : Str} {px spos : Pos} (i : Nat) {scope : Scope} {ds : List D} (own : List (Str × Nat)) (vs1 : List Nat) (es : Nat → List D) (g : Nat → Nat → D) (hi : DI X τ tg iter ds) (hz : ∀ i j, i < ds.length → j ≤ (es i).length → ((List.range i).flatMap fun i => (List.range (es i).length).map (g i)).length + j ≤ 100000)
    (body : ∀ i d, ds[i]? = some d → ∃ τ2, (∀ (k : Nat) (a : AV), τ2[k]? = some (some a) → a.own = true → k ∉ own.map (·.2) ∧ τ[k]? = some (some a)) ∧ (∀ s H C cl fp, DGw (bX X scope s H C cl fp) (wipeA τ (own.map (·.2))) tg d τ2 (own.map (·.2)) ∧ DI (bX X scope s H C cl fp) τ2 tg1 iter1 (es i)) ∧
      ∀ j d1, (es i)[j]? = some d1 → ∃ τ3, ∀ s H C cl fp, DGw (bX X scope s H C cl fp) (wipeA τ2 vs1) tg1 d1 τ3 vs1 ∧ DE (bX X scope s H C cl fp) τ3 elt (.d (g i j)))
    (ok : BlkOk X.N X.env.scope scope own) (hv : ∀ i ∈ vs1, i ∈ own.map (·.2)) (hc : X.calm = true := by rfl) (hN : X.N.Nodup := by assumption) (hs : ∀ x, foldedSetIterable iter X.env x = pure x := by intro _; rfl) (hs1 : ∀ env x, foldedSetIterable iter1 env x = pure x := by intro _ _; rfl)
    (k : DS X (τ.set i (some (.l true ((List.range ds.length).flatMap fun i => (List.range (es i).length).map (g i))))) sts N R) (hx : X.N[i]? = some x := by rfl) (hl : X.env.scope.names.lookup x = some .local := by rfl)
    (hsw : swapsWith (.ListComp elt [⟨tg, iter, [], 0⟩, ⟨tg1, iter1, [], 0⟩] scope pos) (some (.Name x px)) spos.line X.env = pure true := by rfl) : DS X τ (.Assign [.Name x px] (.ListComp elt [⟨tg, iter, [], 0⟩, ⟨tg1, iter1, [], 0⟩] scope pos) spos :: sts) N R :=
  ⟨fun G D σ H x0 ⟨O, rs, eg, og⟩ n r => XSs.of (pss_cons (ps_setLc2 (own := own) (vs1 := vs1) (wi1 := lcI X scope tg1 iter1) (g := lcG X scope tg) (g1 := lcG X scope tg1) (te := lcE X scope elt) hc hN hx hl hsw (pi_can X tg iter) ok hv (fun s H C cl fp => ⟨fun pins s' σ H' v u Q I r h => h s H C cl fp pins s' u I r⟩) (fun s H C cl fp => pts_nil) (fun s H C cl fp => ⟨fun pins s' σ H' R I h => h s H C cl fp pins s' I⟩) (fun s H C cl fp => ⟨fun pins s' σ H' v u Q I r h => h s H C cl fp pins s' u I r⟩) (fun s H C cl fp => pts_nil)
    (fun s H C cl fp => ⟨fun pins s' σ H' Q I h => h s H C cl fp pins s' I⟩) hs hs1) (pss_can X sts))
    ((lc2_sem own vs1 es g hi hz body).run O H σ (fun v H1 => XSs X D (σ.set i (some v)) H1 sts) rs fun v H2 e2 r2 => by
      obtain ⟨O', rs', ho⟩ := rs.put (i := i) e2 r2 rfl
      exact k.run G D _ H2 x0 ⟨O', rs', eg.trans e2, fun p hp => (ho p hp).elim (og p) fun z => Evl.fresh_back eg z⟩ n r)⟩
end
end BF

set_option Elab.async false
set_option linter.all false
set_option maxRecDepth 100000
set_option maxHeartbeats 1000000
set_option autoImplicit false
/-! max and min of a pair; pairs of lists; calls as statements. -/
namespace BF
open PySem PySem.Spec PyProof.Rows L2

section
variable {X : Cx}
theorem reads_two {s : Shared} {i j : Int} {u1 u2 : Value} (r1 : RelV (.int i) u1) (r2 : RelV (.int j) u2) : ∃ as, ReadsAll s.heap [u1, u2] [.int i, .int j] as := by
  obtain ⟨t, rfl⟩ := r1
  obtain ⟨t', rfl⟩ := r2
  exact ⟨_, .cons (.int i t) (.cons (.int j t') .nil)⟩
theorem alike_two (i j : Int) : PySem.W.AlikeAll [PyData.int i, PyData.int j] := by
  refine ⟨fun x hx y hy => ?_, fun x hx => ?_⟩
  · simp at hx hy
    rcases hx with rfl | rfl <;> rcases hy with rfl | rfl <;> rfl
  · simp at hx
    rcases hx with rfl | rfl <;> simp
theorem call_maxT (hc : X.calm = true) (hu : X.A.units + 64 < cLine) : CallR X (.builtin "max") (fun xs H Q => ∃ a i j, xs = [V.ref a] ∧ SqT X.K H a [.int i, .int j] ∧ Q (.int (if j > i then j else i)) H) := by
  intro pins s σ H xs us Q I r h
  obtain ⟨a, i, j, rfl, hq, q⟩ := h
  obtain ⟨u, rfl, rx⟩ := r.one
  cases rx
  obtain ⟨its, rv, p, _⟩ := I.tuple hq
  obtain ⟨u1, u2, rfl, r1, r2⟩ := rv.two
  obtain ⟨as, ra⟩ := reads_two (s := s) r1 r2
  have t : s.heap.IsTuple a [u1, u2].toArray := p
  refine PySem.W.max_tuple_data (I.ok.hd hc) t ra (alike_two i j) (by simp [PyData.depthAll, PyData.depth]; omega) fun k v h' tk bs _ hr hk => ?_
  have e : PySem.W.maxD (.int i) [.int j] = .int (max i j) := PySem.W.maxD_ints i [j]
  rw [e] at hr
  cases hr with
  | int n t => exact ⟨.int (if j > i then j else i), H, I.kept hk, ⟨t, by rw [show max i j = if j > i then j else i by rw [Int.max_def]; split <;> split <;> omega]⟩, q⟩
theorem call_minT (hc : X.calm = true) (hu : X.A.units + 64 < cLine) : CallR X (.builtin "min") (fun xs H Q => ∃ a i j, xs = [V.ref a] ∧ SqT X.K H a [.int i, .int j] ∧ Q (.int (if j < i then j else i)) H) := by
  intro pins s σ H xs us Q I r h
  obtain ⟨a, i, j, rfl, hq, q⟩ := h
  obtain ⟨u, rfl, rx⟩ := r.one
  cases rx
  obtain ⟨its, rv, p, _⟩ := I.tuple hq
  obtain ⟨u1, u2, rfl, r1, r2⟩ := rv.two
  obtain ⟨as, ra⟩ := reads_two (s := s) r1 r2
  have t : s.heap.IsTuple a [u1, u2].toArray := p
  refine PySem.W.min_tuple_data (I.ok.hd hc) t ra (alike_two i j) (by simp [PyData.depthAll, PyData.depth]; omega) fun k v h' tk bs _ hr hk => ?_
  have e : PySem.W.minD (.int i) [.int j] = .int (min i j) := PySem.W.minD_ints i [j]
  rw [e] at hr
  cases hr with
  | int n t => exact ⟨.int (if j < i then j else i), H, I.kept hk, ⟨t, by rw [show min i j = if j < i then j else i by rw [Int.min_def]; split <;> split <;> omega]⟩, q⟩
theorem td_two {g : Ga} {H : Hp} {vs : List V} {i j : Int} (r : RsL g H vs [.d (.tup [.int i, .int j])]) : ∃ a, vs = [.ref a] ∧ H a = some (.tup [.int i, .int j]) := by
  obtain ⟨v, rfl, h⟩ := rsl1 r
  cases h with
  | tup h1 h2 =>
    cases h2 with
    | cons a1 a2 => cases a2 with
      | cons b1 b2 => cases b2; cases a1; cases b1; exact ⟨_, rfl, h1⟩
theorem bu_maxT {i j : Int} (hu : X.A.units + 64 < cLine) (hc : X.calm = true := by rfl) : BuD X (.builtin "max") [.d (.tup [.int i, .int j])] (.d (.int (if j > i then j else i))) :=
  ⟨_, call_maxT hc hu, fun H vs Q r q => by obtain ⟨a, rfl, h⟩ := td_two r; exact ⟨a, i, j, rfl, SqT.of h, q _ H (exr H) (.int _)⟩⟩
theorem bu_minT {i j : Int} (hu : X.A.units + 64 < cLine) (hc : X.calm = true := by rfl) : BuD X (.builtin "min") [.d (.tup [.int i, .int j])] (.d (.int (if j < i then j else i))) :=
  ⟨_, call_minT hc hu, fun H vs Q r q => by obtain ⟨a, rfl, h⟩ := td_two r; exact ⟨a, i, j, rfl, SqT.of h, q _ H (exr H) (.int _)⟩⟩
end
section
variable {X : Cx} {τ : AE} {st : Stmt} {sts : List Stmt} {N : AE → Prop} {R : AV → Prop} {e k c : Expr} {pos : Pos}
/-- e, for what it does -/
theorem ds_expr {a : AV} (he : DE X τ e a) (k : DS X τ sts N R) (hsw : swapsWith e none pos.line X.env = pure false := by rfl) : DS X τ (.Expr e pos :: sts) N R :=
  ⟨fun G D σ H x0 ⟨O, rs, eg, og⟩ n r => XSs.of (pss_cons (ps_expr (pe_can X e) hsw) (pss_can X sts)) (he.run O H σ _ rs fun v H2 e2 r2 => k.run G D σ H2 x0 ⟨O, rs.mono e2, eg.trans e2, og⟩ n r)⟩
/-- return (xs, e), two lists -/
theorem ds_retLL {x : Str} {xs ys : List D} {pp tp : Pos} {kk : Nat} (i : Nat) (he : DE X τ e (.l true ys)) (h : R (.ll xs ys)) (ht : τ[i]? = some (some (.l true xs)) := by rfl) (hN : X.N[i]? = some x := by rfl)
    (hv : Vis X.env.scope x := by first | exact Or.inl rfl | exact Or.inr (Or.inl rfl) | exact Or.inr (Or.inr rfl)) (hd : (x == ("__debug__" : Str)) = false := by decide) (hc : (x == ("__classdict__" : Str)) = false := by decide)
    (hs : starEach [.Name x pp, e] X.env = (false, eval (.Name x pp) X.env) :: starEach [e] X.env := by rfl) (hs2 : starEach [e] X.env = (false, eval e X.env) :: starEach [] X.env := by rfl) : DS X τ (.Return (some (.Tuple [.Name x pp, e] kk tp)) pos :: sts) N R :=
  ⟨fun G D σ H x0 ⟨O, rs, eg, og⟩ n r => XSs.of (pss_cons (ps_ret (pe_tup (pa_cons (pe_var hN hv hd hc) (pa_cons (pe_can X e) pa_nil hs2) hs))) (pss_can X sts)) (by
    obtain ⟨u, h1, p, vs, rfl, h3, h4, h5⟩ := rs.at_ i _ ht
    refine ⟨.ref p, h1, he.run O H σ _ rs fun v H2 e2 ⟨q, ws, g1, g2, g3, g4⟩ => ⟨by show 2 ≤ sizeLine; decide, fun t ht => ?_⟩⟩
    have e3 := Evl.Ex.new (o := .tup [V.ref p, v]) ht
    refine r _ _ _ h ((eg.trans e2).trans e3) ⟨t, p, q, vs, ws, rfl, by rw [upd_same, g1], ⟨Evl.fresh_back x0 (og p (h3.mpr rfl)), Evl.fresh_back (x0.trans eg) (g2 rfl)⟩, e3 _ _ (e2 _ _ h4), e3 _ _ g3, (h5.up (Ex_kt e2)).up (Ex_kt e3), g4.up (Ex_kt e3)⟩)⟩
/-- a list that is not owned is stored -/
theorem RS.putL {g : Ga} {O : Addr → Prop} {H : Hp} {σ : L2.St} {τ : AE} {i : Nat} {p : Addr} {vs : List V} {xs : List D} (r : RS g O H σ τ) (hO : ¬ O p) (h : H p = some (.lst vs)) (t : TDs H vs xs) : RS g O H (σ.set i (some (.ref p))) (τ.set i (some (.l false xs))) := by
  refine ⟨by rw [List.length_set, List.length_set]; exact r.len, fun j b hj => ?_, fun j k b c u ne hj hk hb hc sj sk => ?_, r.wf⟩
  · rcases set_at hj with ⟨rfl, q, hl⟩ | ⟨ne, q⟩
    · cases q
      exact ⟨.ref p, by rw [List.getElem?_set_self (by rw [r.len]; exact hl)], p, vs, rfl, ⟨fun z => absurd z hO, fun z => by cases z⟩, h, t⟩
    · obtain ⟨u, h1, h2⟩ := r.at_ j b q
      exact ⟨u, by rw [List.getElem?_set_ne (Ne.symm ne)]; exact h1, h2⟩
  · rcases set_at hj with ⟨rfl, q, _⟩ | ⟨n1, q1⟩
    · cases q; cases hb
    · rcases set_at hk with ⟨rfl, q, _⟩ | ⟨n2, q2⟩
      · cases q; cases hc
      · rw [List.getElem?_set_ne (Ne.symm n1)] at sj
        rw [List.getElem?_set_ne (Ne.symm n2)] at sk
        exact r.sep j k b c u ne q1 q2 hb hc sj sk
/-- x, y = e, two lists -/
theorem ds_asgLL {x y : Str} {xs ys : List D} {px py pt : Pos} {kt : Nat} (i j : Nat) (he : DE X τ e (.ll xs ys)) (k : DS X ((τ.set i (some (.l false xs))).set j (some (.l false ys))) sts N R) (hcalm : X.calm = true := by rfl) (hN : X.N.Nodup := by assumption) (hi : X.N[i]? = some x := by rfl) (hj : X.N[j]? = some y := by rfl)
    (hx : Loc X.env.scope x := by first | exact Or.inl rfl | exact Or.inr rfl) (hy : Loc X.env.scope y := by first | exact Or.inl rfl | exact Or.inr rfl)
    (fx : X.fn x = true ∨ X.env.scope.names.lookup x = some .local := by first | exact .inl rfl | exact .inr rfl) (fy : X.fn y = true ∨ X.env.scope.names.lookup y = some .local := by first | exact .inl rfl | exact .inr rfl)
    (hn : (assignEach [.Name x px, .Name y py] X.env).length = [Expr.Name x px, .Name y py].length := by rfl) (hst : (assignEach [.Name x px, .Name y py] X.env).findIdx? (·.1) = none := by rfl)
    (s1 : (assignEach [.Name x px, .Name y py] X.env).map (·.2) = assign (.Name x px) X.env :: (assignEach [.Name y py] X.env).map (·.2) := by rfl) (s2 : (assignEach [.Name y py] X.env).map (·.2) = assign (.Name y py) X.env :: (assignEach [] X.env).map (·.2) := by rfl)
    (hs : swapsWithSole [.Tuple [.Name x px, .Name y py] kt pt] e pos.line X.env = pure false := by rfl) (hw : swappedStores [.Tuple [.Name x px, .Name y py] kt pt] e X.env = pure none := by rfl)
    (h1 : (assignEach [.Tuple [.Name x px, .Name y py] kt pt] X.env).map (·.2) = [assign (.Tuple [.Name x px, .Name y py] kt pt) X.env] := by rfl) : DS X τ (.Assign [.Tuple [.Name x px, .Name y py] kt pt] e pos :: sts) N R :=
  ⟨fun G D σ H x0 ⟨O, rs, eg, og⟩ n r => XSs.of (pss_cons (ps_asg (pe_can X e) (pg_tup hcalm (pgs_cons (pg_name hN hi hx fx) (pgs_cons (pg_name hN hj hy fy) pgs_nil s2) s1) hn hst) hs hw h1) (pss_can X sts)) (he.run O H σ _ rs fun v H2 e2 ⟨t, p, q, vs, ws, g1, g2, g3, g4, g5, g6, g7⟩ => by
    have rs2 := rs.mono e2
    exact ⟨t, _, g1, SqT.of g2, rfl, .ref p, [.ref q], rfl, .ref q, [], rfl, rfl, k.run G D _ H2 x0 ⟨O, (rs2.putL (fun z => rs.there z g3.1) g4 g6).putL (fun z => rs.there z g3.2) g5 g7, eg.trans e2, og⟩ n r⟩)⟩
end
end BF

set_option Elab.async false
set_option linter.all false
set_option maxRecDepth 100000
set_option maxHeartbeats 1000000
set_option autoImplicit false
/-! Profiles in plain numbers. -/
namespace BF

abbrev Pt := Int × Int
abbrev Side := Pt × Pt
def sidesL (cs : List Pt) : List Side := cs.zip cs.tail
structure SV (s : Side) : Prop where
  inc : s.1.1 < s.2.1
  ne : s.1.2 ≠ s.2.2
  b1 : s.1.1.natAbs ≤ 64
  b2 : s.1.2.natAbs ≤ 64
  b3 : s.2.1.natAbs ≤ 64
  b4 : s.2.2.natAbs ≤ 64
structure PV (cs : List Pt) : Prop where
  two : 2 ≤ cs.length
  few : cs.length ≤ 8
  sd : ∀ s ∈ sidesL cs, SV s
def hon (s : Side) (x : Rat) : Rat := (s.1.2 : Rat) + (x - (s.1.1 : Rat)) / ((s.2.1 - s.1.1 : Int) : Rat) * ((s.2.2 - s.1.2 : Int) : Rat)
def pon (s : Side) (h : Rat) : Rat := (s.1.1 : Rat) + (h - (s.1.2 : Rat)) / ((s.2.2 - s.1.2 : Int) : Rat) * ((s.2.1 - s.1.1 : Int) : Rat)
def lo (s : Side) : Int := if s.2.2 < s.1.2 then s.2.2 else s.1.2
def hi (s : Side) : Int := if s.2.2 > s.1.2 then s.2.2 else s.1.2
theorem sides_len (cs : List Pt) : (sidesL cs).length = cs.length - 1 := by simp [sidesL]
theorem sides_get {cs : List Pt} {i : Nat} {s : Side} (h : (sidesL cs)[i]? = some s) : cs[i]? = some s.1 ∧ cs[i + 1]? = some s.2 := by
  unfold sidesL at h
  rw [List.getElem?_zip_eq_some] at h
  obtain ⟨h1, h2⟩ := h
  exact ⟨h1, by simpa [List.getElem?_tail] using h2⟩
theorem sides_at {cs : List Pt} {i : Nat} {a b : Pt} (h1 : cs[i]? = some a) (h2 : cs[i + 1]? = some b) : (sidesL cs)[i]? = some (a, b) := by
  unfold sidesL
  rw [List.getElem?_zip_eq_some]
  exact ⟨h1, by simpa [List.getElem?_tail] using h2⟩
/-- the places of a height, side by side -/
def plStep (h : Int) (acc : List Rat) (s : Side) : List Rat := if lo s ≤ h ∧ h ≤ hi s ∧ (acc = [] ∨ acc.getLast? ≠ some (pon s h)) then acc ++ [pon s h] else acc
def plcs (ss : List Side) (h : Int) : List Rat := ss.foldl (plStep h) []
/-- the height at a place -/
def hgt (cs : List Pt) (x : Rat) : Option Rat := ((sidesL cs).find? fun s => decide (x ≤ (s.2.1 : Rat))).map fun s => hon s x
/-- where the sides go up (down) from a place -/
def gUp (s : Side) : Int := if s.2.2 < s.1.2 then s.1.1 else s.2.1
def gDn (s : Side) : Int := if s.2.2 < s.1.2 then s.2.1 else s.1.1
def goal (up : Bool) (s : Side) : Int := if up then gUp s else gDn s
def onS (s : Side) (x : Rat) : Prop := (s.1.1 : Rat) ≤ x ∧ x ≤ (s.2.1 : Rat)
def leadC (up : Bool) (s : Side) (x : Rat) : Prop := onS s x ∧ x ≠ (goal up s : Rat)
noncomputable instance (up : Bool) (s : Side) (x : Rat) : Decidable (leadC up s x) := Classical.propDecidable _
noncomputable def leadI (cs : List Pt) (x : Rat) (up : Bool) : List Nat := (List.range (sidesL cs).length).filter fun i => match (sidesL cs)[i]? with
  | some s => decide (leadC up s x)
  | none => false
noncomputable def leadS (cs : List Pt) (x : Rat) (up : Bool) : List Side := (sidesL cs).filter fun s => decide (leadC up s x)
def inP (cs : List Pt) (x : Rat) : Prop := ∃ s ∈ sidesL cs, onS s x
end BF

set_option Elab.async false
set_option linter.all false
set_option maxRecDepth 100000
set_option maxHeartbeats 1000000
set_option autoImplicit false
/-! The program's text by places; what its top has left. -/
namespace BF
open PySem PySem.Spec PyProof.Rows L2

def top (i : Nat) : Stmt := PySem.Challenge.pw_bothfeet_k16_whole_ways_lead_back.main.body.getD i (.Pass ⟨0, 0, 0, 0⟩)
/-- the i-th statement of the top is the def x, and it stands -/
structure DefAt (g : Ga) (x : Str) (st : Stmt) : Prop where
  ex : ∃ f fd, g.mg x = some (.ref f) ∧ Fun g.K x x st f fd
def fnsL : List (Str × Nat) := ([("is_integer", 8), ("is_within", 9), ("common", 10), ("is_number", 11), ("parts_of", 19), ("lowest", 20), ("added", 21), ("less_by", 22), ("product", 23), ("part_by", 24), ("below", 25), ("ascending", 26),
    ("is_small", 30), ("is_corner", 31), ("are_corners", 32), ("sides_of", 36), ("height_on", 37), ("place_on", 38), ("has_place", 39), ("height_in", 40), ("places_in", 41), ("leading_from", 42), ("ups_at", 43), ("downs_at", 44),
    ("is_place_in", 46), ("kept", 47), ("is_corner_place", 48), ("is_stand_in", 49), ("stands_by", 50), ("all_stands", 51), ("side_at", 52), ("ends_of", 53), ("pairs_of", 54), ("many_in", 55), ("ways_in", 56), ("need_both", 57),
    ("stands_of", 59), ("many_ways", 60), ("ways_on", 61), ("_law_ferry", 63), ("_law_oar", 64), ("_law_pick", 65), ("_law_low", 66), ("_law_two", 67), ("_law_before", 68), ("_law_corners", 69), ("_law_on", 70), ("_law_sides", 71),
    ("_law_height", 72), ("_law_places", 73), ("_law_in_order", 74), ("_law_stands", 75), ("_law_leading", 76), ("_law_ways", 77), ("_law_is_along", 78), ("_law_refused", 79)] : List (String × Nat)).map fun p => (Str.ofString p.1, p.2)
def bltL : List Str := (["len", "abs", "isinstance", "int", "bool", "list", "tuple", "min", "max", "all", "zip", "enumerate", "range", "repr", "set"] : List String).map Str.ofString
/-- what the top has left -/
structure Wd (g : Ga) : Prop where
  fns : ∀ p ∈ fnsL, DefAt g p.1 (top p.2)
  blt : ∀ x ∈ bltL, g.mg x = none
  pf : PfOk g
  pc : ∃ C, g.mg "Profile" = some (.ref C)
theorem Wd.fn {g : Ga} (W : Wd g) (x : Str) (i : Nat) (h : (x, i) ∈ fnsL := by decide +kernel) : DefAt g x (top i) := W.fns (x, i) h
theorem Wd.bl {g : Ga} (W : Wd g) (x : Str) (h : x ∈ bltL := by decide +kernel) : g.mg x = none := W.blt x h
end BF

set_option Elab.async false
set_option linter.all false
set_option maxRecDepth 100000
set_option maxHeartbeats 1000000
set_option autoImplicit false
namespace BF
open PySem PySem.Spec PyProof.Rows L2

abbrev sIsInteger : Stmt := top 8
theorem sc_is_integer : FnScope ["value"] ["value"] (defScope sIsInteger) := ⟨rfl, rfl, rfl, by decide +kernel, rfl, by decide +kernel, by decide +kernel⟩
def R_is_integer (as : List AV) (r : AV) : Prop := ∃ x : D, as = [.d x] ∧ r = .d (.bl (x.isI && !x.isB))
theorem fn_is_integer {g : Ga} (W : Wd g) (base : Heap) : FnD g base "is_integer" 1 ["value"] [] R_is_integer := by
  obtain ⟨f, fd, hm, F⟩ := (W.fn "is_integer" 8).ex
  refine fnd_of (k := 0) hm F (F.binds fun _ _ _ _ _ _ us hl => match us, hl with | [_], _ => rfl) sc_is_integer (fun as r h => ?_) (fun as r h => ?_) fun cdv A outer s H E as r hr h => ?_
  · obtain ⟨x, rfl, _⟩ := h; rfl
  · obtain ⟨x, rfl, _⟩ := h; simp [AV.own]
  · obtain ⟨x, rfl, rfl⟩ := h
    refine ds_ret (de_and (de_isi (de_vd 0) (kit_int x) (W.bl "isinstance") (W.bl "int") boot_int) fun _ => de_one (de_not (de_isi (de_vd 0) (kit_bool x) (W.bl "isinstance") (W.bl "bool") boot_bool))) rfl
end BF

set_option Elab.async false
set_option linter.all false
set_option maxRecDepth 100000
set_option maxHeartbeats 1000000
set_option autoImplicit false
/-! Calls; the numbers. -/
namespace BF
open PySem PySem.Spec PyProof.Rows L2

structure CallOk (X : Cx) (x : Str) (e : Expr) (es : List Expr) (pos : Pos) : Prop where
  gl : Gl X x
  st : starEach (e :: es) X.env = (false, eval e X.env) :: starEach es X.env
  pl : (backTo pos (starEach es X.env)).any (·.1) = false
structure StarOk (X : Cx) (e : Expr) (es : List Expr) : Prop where
  st : starEach (e :: es) X.env = (false, eval e X.env) :: starEach es X.env
section
variable {X : Cx} {τ : AE} {e e1 e2 e3 e4 : Expr} {p pos : Pos} {j : Nat}
theorem call1 {x : Str} {k : Nat} {ps : List Str} {R : List AV → AV → Prop} {a v : AV} (F : FnD (gaOf X) X.base x k ps [] R) (hr : Room j X.A) (hj : k ≤ j) (h1 : DE X τ e1 a) (hR : R [a.un] v) (c : CallOk X x e1 [] pos) (hd : (x == ("__debug__" : Str)) = false) : DE X τ (.Call (.Name x p) [e1] [] pos) v :=
  de_call F (hr.mono hj) (da_cons h1 da_nil c.st) hR c.gl hd c.st c.pl
theorem call2 {x : Str} {k : Nat} {ps : List Str} {R : List AV → AV → Prop} {a b v : AV} (F : FnD (gaOf X) X.base x k ps [] R) (hr : Room j X.A) (hj : k ≤ j) (h1 : DE X τ e1 a) (h2 : DE X τ e2 b) (hR : R [a.un, b.un] v) (c : CallOk X x e1 [e2] pos) (c2 : StarOk X e2 []) (hd : (x == ("__debug__" : Str)) = false) : DE X τ (.Call (.Name x p) [e1, e2] [] pos) v :=
  de_call F (hr.mono hj) (da_cons h1 (da_cons h2 da_nil c2.st) c.st) hR c.gl hd c.st c.pl
theorem call3 {x : Str} {k : Nat} {ps : List Str} {R : List AV → AV → Prop} {a b d v : AV} (F : FnD (gaOf X) X.base x k ps [] R) (hr : Room j X.A) (hj : k ≤ j) (h1 : DE X τ e1 a) (h2 : DE X τ e2 b) (h3 : DE X τ e3 d) (hR : R [a.un, b.un, d.un] v) (c : CallOk X x e1 [e2, e3] pos) (c2 : StarOk X e2 [e3]) (c3 : StarOk X e3 []) (hd : (x == ("__debug__" : Str)) = false) : DE X τ (.Call (.Name x p) [e1, e2, e3] [] pos) v :=
  de_call F (hr.mono hj) (da_cons h1 (da_cons h2 (da_cons h3 da_nil c3.st) c2.st) c.st) hR c.gl hd c.st c.pl

theorem c_is_integer (W : Wd (gaOf X)) (hr : Room j X.A) {x : D} (h1 : DE X τ e1 (.d x)) (hj : 1 ≤ j := by decide) (c : CallOk X "is_integer" e1 [] pos := by exact ⟨rfl, rfl, rfl⟩) : DE X τ (.Call (.Name "is_integer" p) [e1] [] pos) (.d (.bl (x.isI && !x.isB))) :=
  call1 (fn_is_integer W X.base) hr hj h1 ⟨x, rfl, rfl⟩ c (by decide)
end

/-! ### is_within(value, least or None, None) -/
abbrev sIsWithin : Stmt := top 9
theorem sc_is_within : FnScope ["value", "least", "most"] ["value", "least", "most"] (defScope sIsWithin) := ⟨rfl, rfl, rfl, by decide +kernel, rfl, by decide +kernel, by decide +kernel⟩
def R_is_within (as : List AV) (r : AV) : Prop := ∃ a b : Int, as = [.d (.int a), .d (.int b), .d .non] ∧ r = .d (.bl (decide (b ≤ a)))
theorem fn_is_within {g : Ga} (W : Wd g) (base : Heap) : FnD g base "is_within" 2 ["value", "least", "most"] [] R_is_within := by
  obtain ⟨f, fd, hm, F⟩ := (W.fn "is_within" 9).ex
  refine fnd_of (k := 1) hm F (F.binds fun _ _ _ _ _ _ us hl => match us, hl with | [_, _, _], _ => rfl) sc_is_within (fun as r h => ?_) (fun as r h => ?_) fun cdv A outer s H E as r hr h => ?_
  · obtain ⟨a, b, rfl, _⟩ := h; rfl
  · obtain ⟨a, b, rfl, _⟩ := h; simp [AV.own]
  · obtain ⟨a, b, rfl, rfl⟩ := h
    refine ds_if (dt_not (dt_val (c_is_integer W hr (de_vd 0)))) (fun h => (by simp [D.isI, D.isB] at h)) (fun h => ds_nil ?_)
    refine ds_ret (a := .d (.bl (decide (b ≤ a)))) (de_eq (de_and (de_or (de_cmp od_isN (de_vd 1) de_non) fun h0 => (de_one (de_cmp od_le (de_vd 1) (de_vd 0)))) fun h0 => (de_one (de_or (j := true) (de_cmp od_isN (de_vd 2) de_non) fun h0 => (by simp at h0)))) (by simp)) rfl
/-! ### common -/
abbrev sCommon : Stmt := top 10
theorem sc_common : FnScope ["one", "other"] ["one", "other"] (defScope sCommon) := ⟨rfl, rfl, rfl, by decide +kernel, rfl, by decide +kernel, by decide +kernel⟩
def R_common (as : List AV) (r : AV) : Prop := ∃ a b : Int, as = [.d (.int a), .d (.int b)] ∧ r = .d (.int (Int.gcd a b))
def mSnd : AE → Nat
  | [_, some (.d (.int y))] => y.toNat
  | _ => 0
theorem abs_nat (i : Int) : (if i < 0 then -i else i) = (i.natAbs : Int) := by split <;> omega
theorem fn_common {g : Ga} (W : Wd g) (base : Heap) : FnD g base "common" 1 ["one", "other"] [] R_common := by
  obtain ⟨f, fd, hm, F⟩ := (W.fn "common" 10).ex
  refine fnd_of (k := 0) hm F (F.binds fun _ _ _ _ _ _ us hl => match us, hl with | [_, _], _ => rfl) sc_common (fun as r h => ?_) (fun as r h => ?_) fun cdv A outer s H E as r hr h => ?_
  · obtain ⟨a, b, rfl, _⟩ := h; rfl
  · obtain ⟨a, b, rfl, _⟩ := h; simp [AV.own]
  · obtain ⟨a, b, rfl, rfl⟩ := h
    have nd := sc_common.nd
    refine ds_par 0 1 (dd_cons (de_cb bu_abs (da_d (de_vd 0) da_nil) (W.bl "abs") boot_abs) (dd_cons (de_cb bu_abs (da_d (de_vd 1) da_nil) (W.bl "abs") boot_abs) dd_nil)) ?_
    rw [abs_nat, abs_nat]
    refine ds_while (fun τ' => ∃ x y : Nat, τ' = [some (.d (.int x)), some (.d (.int y))] ∧ Nat.gcd x y = Int.gcd a b) mSnd ⟨_, _, rfl, rfl⟩ fun τ' ⟨x, y, e, hg⟩ => ?_
    subst e
    refine ⟨_, dt_cmp od_gt (de_vd 1) de_int, fun h => ?_, fun h => ?_⟩
    · have hy : 0 < y := by simpa using h
      refine ds_par 0 1 (dd_cons (de_vd 1) (dd_cons (de_bin (od_mod ?_) (de_vd 0) (de_vd 1)) dd_nil)) (ds_nil ⟨⟨y, x % y, rfl, ?_⟩, ?_⟩)
      · exact_mod_cast hy
      · rw [← hg, Nat.gcd_comm x y, Nat.gcd_rec y x, Nat.gcd_comm]
      · show (Int.toNat ((x : Int) % (y : Int))) < y
        rw [← Int.natCast_emod, Int.toNat_natCast]; exact Nat.mod_lt _ hy
    · have hy : y = 0 := by simpa using h
      subst hy
      refine ds_ret (de_vd 0) ?_
      rw [← hg, Nat.gcd_zero_right]
end BF

set_option Elab.async false
set_option linter.all false
set_option maxRecDepth 100000
set_option maxHeartbeats 1000000
set_option autoImplicit false
/-! The numbers. -/
namespace BF
open PySem PySem.Spec PyProof.Rows L2

def numD (q : Rat) : D := if q.den = 1 then .int q.num else .tup [.int q.num, .int (q.den : Int)]
theorem numD_int (i : Int) : numD (i : Rat) = .int i := by simp [numD]
theorem numD_nb (q : Rat) : (numD q).nb = true := by unfold numD; split <;> simp [D.nb, D.nbs]
theorem numD_dep (q : Rat) : (numD q).dep ≤ 1 := by unfold numD; split <;> simp [D.dep, D.deps]
theorem numD_inj {p q : Rat} (h : numD p = numD q) : p = q := by
  unfold numD at h
  split at h <;> split at h <;> simp at h
  · exact Rat.ext h (by omega)
  · exact Rat.ext h.1 (by omega)
theorem numD_iff {p q : Rat} : numD p = numD q ↔ p = q := ⟨numD_inj, fun h => h ▸ rfl⟩
theorem low_num {a b : Int} (hb : b ≠ 0) : (a.fdiv (Int.gcd a b) , b.fdiv (Int.gcd a b)) = if b < 0 then (-(Rat.divInt a b).num, -((Rat.divInt a b).den : Int)) else ((Rat.divInt a b).num, ((Rat.divInt a b).den : Int)) := by
  rw [Rat.num_divInt, Rat.den_divInt, if_neg hb, Int.fdiv_eq_ediv_of_nonneg _ (by omega), Int.fdiv_eq_ediv_of_nonneg _ (by omega), Int.gcd_comm b a]
  have g0 : (Int.gcd a b : Int) ∣ a := Int.gcd_dvd_left a b
  have g1 : (Int.gcd a b : Int) ∣ b := Int.gcd_dvd_right a b
  split
  · rename_i h
    rw [Int.sign_eq_neg_one_of_neg h]
    have e1 : (-1 * a) / (Int.gcd a b : Int) = -(a / (Int.gcd a b : Int)) := by rw [Int.neg_one_mul, Int.neg_ediv_of_dvd g0]
    have e2 : ((b.natAbs / Int.gcd a b : Nat) : Int) = -(b / (Int.gcd a b : Int)) := by
      rw [Int.natCast_ediv, Int.ofNat_natAbs_of_nonpos (by omega), Int.neg_ediv_of_dvd g1]
    rw [e1, e2]; simp
  · rename_i h
    rw [Int.sign_eq_one_of_pos (by omega)]
    have e2 : ((b.natAbs / Int.gcd a b : Nat) : Int) = (b / (Int.gcd a b : Int)) := by
      rw [Int.natCast_ediv, Int.natAbs_of_nonneg (by omega)]
    rw [e2]; simp
/-- the numerator is at most n, the denominator at most d -/
structure Bd (n d : Nat) (q : Rat) : Prop where
  n : q.num.natAbs ≤ n
  d : q.den ≤ d
theorem Bd.mono {n d n' d' : Nat} {q : Rat} (h : Bd n d q) (hn : n ≤ n') (hd : d ≤ d') : Bd n' d' q := ⟨Nat.le_trans h.n hn, Nat.le_trans h.d hd⟩
theorem Bd.int {n : Nat} {i : Int} (h : i.natAbs ≤ n) : Bd n 1 (i : Rat) := ⟨by simpa using h, by simp⟩
theorem Bd.mk' {a b : Int} (hb : b ≠ 0) : Bd a.natAbs b.natAbs (Rat.divInt a b) := by
  refine ⟨?_, ?_⟩
  · rw [Rat.num_divInt]
    have e : (b.sign * a / (Int.gcd b a : Int)).natAbs ≤ (b.sign * a).natAbs := Int.natAbs_ediv_le_natAbs _ _
    rw [Int.natAbs_mul, Int.natAbs_sign_of_ne_zero hb, Nat.one_mul] at e
    exact e
  · rw [Rat.den_divInt, if_neg hb]; exact Nat.div_le_self _ _
theorem Bd.mul {n d n' d' : Nat} {p q : Rat} (h : Bd n d p) (h' : Bd n' d' q) : Bd (n * n') (d * d') (p * q) := by
  rw [Rat.mul_def', ← Rat.divInt_ofNat]
  refine (Bd.mk' (by exact_mod_cast Nat.mul_ne_zero p.den_nz q.den_nz)).mono ?_ ?_
  · rw [Int.natAbs_mul]; exact Nat.mul_le_mul h.n h'.n
  · rw [Int.natAbs_natCast]; exact Nat.mul_le_mul h.d h'.d
theorem Bd.add {n d n' d' : Nat} {p q : Rat} (h : Bd n d p) (h' : Bd n' d' q) : Bd (n * d' + n' * d) (d * d') (p + q) := by
  rw [Rat.add_def', ← Rat.divInt_ofNat]
  refine (Bd.mk' (by exact_mod_cast Nat.mul_ne_zero p.den_nz q.den_nz)).mono ?_ ?_
  · refine Nat.le_trans (Int.natAbs_add_le _ _) ?_
    rw [Int.natAbs_mul, Int.natAbs_mul, Int.natAbs_natCast, Int.natAbs_natCast]
    exact Nat.add_le_add (Nat.mul_le_mul h.n h'.d) (Nat.mul_le_mul h'.n h.d)
  · rw [Int.natAbs_natCast]; exact Nat.mul_le_mul h.d h'.d
theorem Bd.sub {n d n' d' : Nat} {p q : Rat} (h : Bd n d p) (h' : Bd n' d' q) : Bd (n * d' + n' * d) (d * d') (p - q) := by
  rw [Rat.sub_eq_add_neg]
  exact h.add ⟨by simpa using h'.n, by simpa using h'.d⟩
theorem div_eq (p q : Rat) : p / q = Rat.divInt (p.num * q.den) (p.den * q.num) := by
  rw [Rat.div_def, Rat.inv_def]
  conv => lhs; lhs; rw [← Rat.num_divInt_den p]
  rw [Rat.divInt_mul_divInt]
theorem Bd.div {n d n' d' : Nat} {p q : Rat} (h : Bd n d p) (h' : Bd n' d' q) (hq : q ≠ 0) : Bd (n * d') (d * n') (p / q) := by
  have hz : q.num ≠ 0 := by simpa using hq
  rw [div_eq]
  refine (Bd.mk' (by exact Int.mul_ne_zero (by exact_mod_cast p.den_nz) hz)).mono ?_ ?_
  · rw [Int.natAbs_mul, Int.natAbs_natCast]; exact Nat.mul_le_mul h.n h'.d
  · rw [Int.natAbs_mul, Int.natAbs_natCast]; exact Nat.mul_le_mul h.d h'.n
theorem Bd.cm {n d : Nat} {p : Rat} (h : Bd n d p) (j : Int) (hn : n ≤ 2 ^ 40 := by decide) : CMul p.num j := .inl (by have := h.n; omega)
theorem Bd.cd {n d : Nat} {p : Rat} (h : Bd n d p) (j : Int) (hn : d ≤ 2 ^ 40 := by decide) : CMul (p.den : Int) j := .inl (by have := h.d; omega)
end BF

set_option Elab.async false
set_option linter.all false
set_option maxRecDepth 100000
set_option maxHeartbeats 1000000
set_option autoImplicit false
namespace BF
open PySem PySem.Spec PyProof.Rows L2

section
variable {X : Cx} {τ : AE} {e e1 e2 e3 e4 : Expr} {p pos : Pos} {j : Nat}
theorem c_is_within (W : Wd (gaOf X)) (hr : Room j X.A) {a b : Int} (h1 : DE X τ e1 (.d (.int a))) (h2 : DE X τ e2 (.d (.int b))) (h3 : DE X τ e3 (.d .non)) (hj : 2 ≤ j := by decide) (c : CallOk X "is_within" e1 [e2, e3] pos := by exact ⟨rfl, rfl, rfl⟩) (c2 : StarOk X e2 [e3] := by exact ⟨rfl⟩) (c3 : StarOk X e3 [] := by exact ⟨rfl⟩) :
    DE X τ (.Call (.Name "is_within" p) [e1, e2, e3] [] pos) (.d (.bl (decide (b ≤ a)))) := call3 (fn_is_within W X.base) hr hj h1 h2 h3 ⟨a, b, rfl, rfl⟩ c c2 c3 (by decide)
theorem c_common (W : Wd (gaOf X)) (hr : Room j X.A) {a b : Int} (h1 : DE X τ e1 (.d (.int a))) (h2 : DE X τ e2 (.d (.int b))) (hj : 1 ≤ j := by decide) (c : CallOk X "common" e1 [e2] pos := by exact ⟨rfl, rfl, rfl⟩) (c2 : StarOk X e2 [] := by exact ⟨rfl⟩) :
    DE X τ (.Call (.Name "common" p) [e1, e2] [] pos) (.d (.int (Int.gcd a b))) := call2 (fn_common W X.base) hr hj h1 h2 ⟨a, b, rfl, rfl⟩ c c2 (by decide)
end
/-! ### is_number -/
theorem sc_is_number : FnScope ["value"] ["value"] (defScope (top 11)) := ⟨rfl, rfl, rfl, by decide +kernel, rfl, by decide +kernel, by decide +kernel⟩
def R_is_number (as : List AV) (r : AV) : Prop := ∃ q : Rat, as = [.d (numD q)] ∧ r = .d (.bl true)
theorem fn_is_number {g : Ga} (W : Wd g) (base : Heap) : FnD g base "is_number" 3 ["value"] [] R_is_number := by
  obtain ⟨f, fd, hm, F⟩ := (W.fn "is_number" 11).ex
  refine fnd_of (k := 2) hm F (F.binds fun _ _ _ _ _ _ us hl => match us, hl with | [_], _ => rfl) sc_is_number (fun as r h => ?_) (fun as r h => ?_) fun cdv A outer s H E as r hr h => ?_
  · obtain ⟨q, rfl, _⟩ := h; rfl
  · obtain ⟨q, rfl, _⟩ := h; simp [AV.own]
  · obtain ⟨q, rfl, rfl⟩ := h
    by_cases hd : q.den = 1
    · have e : numD q = .int q.num := if_pos hd
      rw [e]
      exact ds_if (dt_val (c_is_integer W hr (de_vd 0))) (fun h => ds_ret de_bl rfl) (fun h => (by cases h))
    · have e : numD q = .tup [.int q.num, .int q.den] := if_neg hd
      rw [e]
      have d0 := q.den_nz
      refine ds_if (dt_val (c_is_integer W hr (de_vd 0))) (fun h => (by cases h)) (fun h => ds_nil ?_)
      refine ds_if (dt_w (dw_or (dt_not (dt_val (de_isLT (de_vd 0) trivial (W.bl "isinstance") (W.bl "list") (W.bl "tuple")))) fun h0 => (dw_or (dt_cmp od_neI (de_cb bu_lenT (da_d (de_vd 0) da_nil) (W.bl "len") boot_len) de_int) fun h1 => (dw_or1 (dt_not (dt_val (c_is_integer W hr (de_ixT (de_vd 0) de_int)))))))) (fun h => (by simp [AV.isLT, D.isI, D.isB] at h)) (fun h => ds_nil ?_)
      have hl : ((Int.gcd q.num (q.den : Int) : Nat) : Int) = 1 := by
        have e := q.reduced
        show ((Nat.gcd q.num.natAbs (q.den : Int).natAbs : Nat) : Int) = 1
        rw [Int.natAbs_natCast, Nat.Coprime.gcd_eq_one e]; rfl
      refine ds_ret (a := .d (.bl true)) (de_eq (de_and (c_is_within W hr (de_ixT (de_vd 0) de_int) de_int de_non) fun h0 => (de_one (de_cmp od_eqI (c_common W hr (de_ixT (de_vd 0) de_int) (de_ixT (de_vd 0) de_int)) de_int))) ?_) rfl
      rw [hl]
      simp; omega
/-! ### parts_of -/
theorem sc_parts_of : FnScope ["number"] ["number"] (defScope (top 19)) := ⟨rfl, rfl, rfl, by decide +kernel, rfl, by decide +kernel, by decide +kernel⟩
def prD (q : Rat) : D := .tup [.int q.num, .int (q.den : Int)]
def R_parts_of (as : List AV) (r : AV) : Prop := ∃ q : Rat, as = [.d (numD q)] ∧ r = .d (prD q)
theorem fn_parts_of {g : Ga} (W : Wd g) (base : Heap) : FnD g base "parts_of" 1 ["number"] [] R_parts_of := by
  obtain ⟨f, fd, hm, F⟩ := (W.fn "parts_of" 19).ex
  refine fnd_of (k := 0) hm F (F.binds fun _ _ _ _ _ _ us hl => match us, hl with | [_], _ => rfl) sc_parts_of (fun as r h => ?_) (fun as r h => ?_) fun cdv A outer s H E as r hr h => ?_
  · obtain ⟨q, rfl, _⟩ := h; rfl
  · obtain ⟨q, rfl, _⟩ := h; simp [AV.own]
  · obtain ⟨q, rfl, rfl⟩ := h
    by_cases hd : q.den = 1
    · have e : numD q = .int q.num := if_pos hd
      rw [e]
      refine ds_ret (a := .d (prD q)) (de_if (k := true) (dt_val (de_isi (de_vd 0) (kit_int _) (W.bl "isinstance") (W.bl "int") boot_int)) (fun h => de_eq (de_tup (dd_cons (de_vd 0) (dd_cons de_int dd_nil))) ?_) (fun h => by cases h)) rfl
      rw [prD, hd]; rfl
    · have e : numD q = .tup [.int q.num, .int q.den] := if_neg hd
      rw [e]
      exact ds_ret (a := .d (prD q)) (de_if (k := false) (dt_val (de_isi (de_vd 0) (kit_int _) (W.bl "isinstance") (W.bl "int") boot_int)) (fun h => by cases h) (fun h => (de_tup (dd_cons (de_ixT (de_vd 0) de_int) (dd_cons (de_ixT (de_vd 0) de_int) dd_nil))))) rfl
section
variable {X : Cx} {τ : AE} {e e1 e2 e3 e4 : Expr} {p pos : Pos} {j : Nat}
theorem c_is_number (W : Wd (gaOf X)) (hr : Room j X.A) {q : Rat} (h1 : DE X τ e1 (.d (numD q))) (hj : 3 ≤ j := by decide) (c : CallOk X "is_number" e1 [] pos := by exact ⟨rfl, rfl, rfl⟩) : DE X τ (.Call (.Name "is_number" p) [e1] [] pos) (.d (.bl true)) :=
  call1 (fn_is_number W X.base) hr hj h1 ⟨q, rfl, rfl⟩ c (by decide)
theorem c_parts_of (W : Wd (gaOf X)) (hr : Room j X.A) {q : Rat} (h1 : DE X τ e1 (.d (numD q))) (hj : 1 ≤ j := by decide) (c : CallOk X "parts_of" e1 [] pos := by exact ⟨rfl, rfl, rfl⟩) : DE X τ (.Call (.Name "parts_of" p) [e1] [] pos) (.d (.tup [.int q.num, .int (q.den : Int)])) :=
  call1 (fn_parts_of W X.base) hr hj h1 ⟨q, rfl, rfl⟩ c (by decide)
end
/-! ### lowest -/
theorem sc_lowest : FnScope ["above", "below", "part"] ["above", "below"] (defScope (top 20)) := ⟨rfl, rfl, rfl, by decide +kernel, rfl, by decide +kernel, by decide +kernel⟩
def R_lowest (as : List AV) (r : AV) : Prop := ∃ a b : Int, b ≠ 0 ∧ b.natAbs < 2 ^ 30 ∧ as = [.d (.int a), .d (.int b)] ∧ r = .d (numD (Rat.divInt a b))
theorem fn_lowest {g : Ga} (W : Wd g) (base : Heap) : FnD g base "lowest" 2 ["above", "below"] [] R_lowest := by
  obtain ⟨f, fd, hm, F⟩ := (W.fn "lowest" 20).ex
  refine fnd_of (k := 1) hm F (F.binds fun _ _ _ _ _ _ us hl => match us, hl with | [_, _], _ => rfl) sc_lowest (fun as r h => ?_) (fun as r h => ?_) fun cdv A outer s H E as r hr h => ?_
  · obtain ⟨a, b, _, _, rfl, _⟩ := h; rfl
  · obtain ⟨a, b, _, _, rfl, _⟩ := h; simp [AV.own]
  · obtain ⟨a, b, hb, hb2, rfl, rfl⟩ := h
    have nd := sc_lowest.nd
    have gz : Int.gcd a b ≠ 0 := fun z => hb (Int.gcd_eq_zero_iff.mp z).2
    have gl : Int.gcd a b ≤ b.natAbs := Nat.le_of_dvd (by omega) (Int.gcd_dvd_natAbs_right a b)
    have cd : ∀ x, CDivN x ((Int.gcd a b : Nat) : Int) := fun x => ⟨by omega, by omega⟩
    have key := low_num (a := a) hb
    refine ds_set 2 (c_common W hr (de_vd 0) (de_vd 1)) <| ds_par 0 1 (dd_cons (de_bin (od_fdiv (cd _)) (de_vd 0) (de_vd 2)) (dd_cons (de_bin (od_fdiv (cd _)) (de_vd 1) (de_vd 2)) dd_nil)) ?_
    have dn := (Rat.divInt a b).den_nz
    have fin : ∀ τ' : AE, τ'[0]? = some (some (.d (.int (Rat.divInt a b).num))) → τ'[1]? = some (some (.d (.int ((Rat.divInt a b).den : Int)))) →
        DS (cxOf CX0 g.P g.w g.K g.mg base ["above", "below", "part"] "lowest" (defScope (top 20)) f cdv A outer s H E).nox τ' [(defBody (top 20)).getD 3 (.Pass ⟨0, 0, 0, 0⟩)] (fun _ => AV.d (numD (Rat.divInt a b)) = .d .non) (fun x => x = AV.d (numD (Rat.divInt a b))) := fun τ' h0 h1 => by
      refine ds_ret (de_ifd (dt_cmp od_eqI (de_vd 1 h1) de_int) (fun h => (de_vd 0 h0)) (fun h => (de_tup (dd_cons (de_vd 0 h0) (dd_cons (de_vd 1 h1) dd_nil))))) ?_
      unfold numD
      by_cases e : (Rat.divInt a b).den = 1
      · simp [e]
      · rw [if_neg e, if_neg (by simp; omega)]
    by_cases hneg : b < 0
    · rw [if_pos hneg] at key
      obtain ⟨k1, k2⟩ := Prod.mk.inj key
      rw [k1, k2]
      refine ds_if (k := true) (dt_eq (dt_cmp od_lt (de_vd 1) de_int) (by simp; omega)) (fun h => ?_) (fun h => by cases h)
      refine ds_par 0 1 (dd_cons (de_neg (de_vd 0)) (dd_cons (de_neg (de_vd 1)) dd_nil)) (ds_nil (fin _ ?_ ?_)) <;> simp only [Int.neg_neg] <;> rfl
    · rw [if_neg hneg] at key
      obtain ⟨k1, k2⟩ := Prod.mk.inj key
      rw [k1, k2]
      refine ds_if (k := false) (dt_eq (dt_cmp od_lt (de_vd 1) de_int) (by simp)) (fun h => by cases h) (fun h => ds_nil (fin _ rfl rfl))
section
variable {X : Cx} {τ : AE} {e e1 e2 e3 e4 : Expr} {p pos : Pos} {j : Nat}
theorem c_lowest (W : Wd (gaOf X)) (hr : Room j X.A) {a b : Int} (h1 : DE X τ e1 (.d (.int a))) (h2 : DE X τ e2 (.d (.int b))) (hb : b ≠ 0) (hb2 : b.natAbs < 2 ^ 30) (hj : 2 ≤ j := by decide) (c : CallOk X "lowest" e1 [e2] pos := by exact ⟨rfl, rfl, rfl⟩) (c2 : StarOk X e2 [] := by exact ⟨rfl⟩) :
    DE X τ (.Call (.Name "lowest" p) [e1, e2] [] pos) (.d (numD (Rat.divInt a b))) := call2 (fn_lowest W X.base) hr hj h1 h2 ⟨a, b, hb, hb2, rfl, rfl⟩ c c2 (by decide)
end
/-! ### added, less_by, product, part_by, below -/
abbrev Bn (q : Rat) : Prop := Bd (2 ^ 26) (2 ^ 14) q
theorem Bn.dd {p q : Rat} (h : Bn p) (h' : Bn q) : ((p.den : Int) * (q.den : Int)) ≠ 0 ∧ ((p.den : Int) * (q.den : Int)).natAbs < 2 ^ 30 := by
  have e : ((p.den : Int) * (q.den : Int)) = ((p.den * q.den : Nat) : Int) := by simp
  rw [e]
  have h1 := Nat.mul_le_mul h.d h'.d
  have h2 : p.den * q.den ≠ 0 := Nat.mul_ne_zero p.den_nz q.den_nz
  refine ⟨by exact_mod_cast h2, ?_⟩
  rw [Int.natAbs_natCast]; omega
def R_num2 (f : Rat → Rat → Rat) (as : List AV) (r : AV) : Prop := ∃ p q : Rat, Bn p ∧ Bn q ∧ as = [.d (numD p), .d (numD q)] ∧ r = .d (numD (f p q))
theorem sc_added : FnScope ["one", "other", "a", "b", "c", "d"] ["one", "other"] (defScope (top 21)) := ⟨rfl, rfl, rfl, by decide +kernel, rfl, by decide +kernel, by decide +kernel⟩
theorem fn_added {g : Ga} (W : Wd g) (base : Heap) : FnD g base "added" 3 ["one", "other"] [] (R_num2 (· + ·)) := by
  obtain ⟨f, fd, hm, F⟩ := (W.fn "added" 21).ex
  refine fnd_of (k := 2) hm F (F.binds fun _ _ _ _ _ _ us hl => match us, hl with | [_, _], _ => rfl) sc_added (fun as r h => ?_) (fun as r h => ?_) fun cdv A outer s H E as r hr h => ?_
  · obtain ⟨a, b, _, _, rfl, _⟩ := h; rfl
  · obtain ⟨a, b, _, _, rfl, _⟩ := h; simp [AV.own]
  · obtain ⟨u, v, hu, hv, rfl, rfl⟩ := h
    have nd := sc_added.nd
    refine ds_asg (de_tup (dd_cons (c_parts_of W hr (de_vd 0)) (dd_cons (c_parts_of W hr (de_vd 1)) dd_nil))) (dg_tup (dgs_cons (dg_tup (dgs_cons (dg_name 2) (dgs_cons (dg_name 3) dgs_nil))) (dgs_cons (dg_tup (dgs_cons (dg_name 4) (dgs_cons (dg_name 5) dgs_nil))) dgs_nil))) ?_
    refine ds_ret (c_lowest W hr (de_bin od_add (de_bin (od_mul (hu.cm _)) (de_vd 2) (de_vd 5)) (de_bin (od_mul (hv.cm _)) (de_vd 4) (de_vd 3))) (de_bin (od_mul (hu.cd _)) (de_vd 3) (de_vd 5)) (hu.dd hv).1 (hu.dd hv).2) ?_
    show _ = AV.d (numD (u + v))
    rw [Rat.add_def', ← Rat.divInt_ofNat, Int.natCast_mul]
theorem sc_less_by : FnScope ["one", "other", "a", "b", "c", "d"] ["one", "other"] (defScope (top 22)) := ⟨rfl, rfl, rfl, by decide +kernel, rfl, by decide +kernel, by decide +kernel⟩
theorem fn_less_by {g : Ga} (W : Wd g) (base : Heap) : FnD g base "less_by" 3 ["one", "other"] [] (R_num2 (· - ·)) := by
  obtain ⟨f, fd, hm, F⟩ := (W.fn "less_by" 22).ex
  refine fnd_of (k := 2) hm F (F.binds fun _ _ _ _ _ _ us hl => match us, hl with | [_, _], _ => rfl) sc_less_by (fun as r h => ?_) (fun as r h => ?_) fun cdv A outer s H E as r hr h => ?_
  · obtain ⟨a, b, _, _, rfl, _⟩ := h; rfl
  · obtain ⟨a, b, _, _, rfl, _⟩ := h; simp [AV.own]
  · obtain ⟨u, v, hu, hv, rfl, rfl⟩ := h
    have nd := sc_less_by.nd
    refine ds_asg (de_tup (dd_cons (c_parts_of W hr (de_vd 0)) (dd_cons (c_parts_of W hr (de_vd 1)) dd_nil))) (dg_tup (dgs_cons (dg_tup (dgs_cons (dg_name 2) (dgs_cons (dg_name 3) dgs_nil))) (dgs_cons (dg_tup (dgs_cons (dg_name 4) (dgs_cons (dg_name 5) dgs_nil))) dgs_nil))) ?_
    refine ds_ret (c_lowest W hr (de_bin od_sub (de_bin (od_mul (hu.cm _)) (de_vd 2) (de_vd 5)) (de_bin (od_mul (hv.cm _)) (de_vd 4) (de_vd 3))) (de_bin (od_mul (hu.cd _)) (de_vd 3) (de_vd 5)) (hu.dd hv).1 (hu.dd hv).2) ?_
    show _ = AV.d (numD (u - v))
    rw [Rat.sub_def', ← Rat.divInt_ofNat, Int.natCast_mul]
theorem sc_product : FnScope ["one", "other", "a", "b", "c", "d"] ["one", "other"] (defScope (top 23)) := ⟨rfl, rfl, rfl, by decide +kernel, rfl, by decide +kernel, by decide +kernel⟩
theorem fn_product {g : Ga} (W : Wd g) (base : Heap) : FnD g base "product" 3 ["one", "other"] [] (R_num2 (· * ·)) := by
  obtain ⟨f, fd, hm, F⟩ := (W.fn "product" 23).ex
  refine fnd_of (k := 2) hm F (F.binds fun _ _ _ _ _ _ us hl => match us, hl with | [_, _], _ => rfl) sc_product (fun as r h => ?_) (fun as r h => ?_) fun cdv A outer s H E as r hr h => ?_
  · obtain ⟨a, b, _, _, rfl, _⟩ := h; rfl
  · obtain ⟨a, b, _, _, rfl, _⟩ := h; simp [AV.own]
  · obtain ⟨u, v, hu, hv, rfl, rfl⟩ := h
    have nd := sc_product.nd
    refine ds_asg (de_tup (dd_cons (c_parts_of W hr (de_vd 0)) (dd_cons (c_parts_of W hr (de_vd 1)) dd_nil))) (dg_tup (dgs_cons (dg_tup (dgs_cons (dg_name 2) (dgs_cons (dg_name 3) dgs_nil))) (dgs_cons (dg_tup (dgs_cons (dg_name 4) (dgs_cons (dg_name 5) dgs_nil))) dgs_nil))) ?_
    refine ds_ret (c_lowest W hr (de_bin (od_mul (hu.cm _)) (de_vd 2) (de_vd 4)) (de_bin (od_mul (hu.cd _)) (de_vd 3) (de_vd 5)) (hu.dd hv).1 (hu.dd hv).2) ?_
    show _ = AV.d (numD (u * v))
    rw [Rat.mul_def', ← Rat.divInt_ofNat, Int.natCast_mul]
theorem sc_part_by : FnScope ["one", "other", "a", "b", "c", "d"] ["one", "other"] (defScope (top 24)) := ⟨rfl, rfl, rfl, by decide +kernel, rfl, by decide +kernel, by decide +kernel⟩
def R_part_by (as : List AV) (r : AV) : Prop := ∃ p q : Rat, Bn p ∧ Bd (2 ^ 14) (2 ^ 14) q ∧ q ≠ 0 ∧ as = [.d (numD p), .d (numD q)] ∧ r = .d (numD (p / q))
theorem fn_part_by {g : Ga} (W : Wd g) (base : Heap) : FnD g base "part_by" 3 ["one", "other"] [] R_part_by := by
  obtain ⟨f, fd, hm, F⟩ := (W.fn "part_by" 24).ex
  refine fnd_of (k := 2) hm F (F.binds fun _ _ _ _ _ _ us hl => match us, hl with | [_, _], _ => rfl) sc_part_by (fun as r h => ?_) (fun as r h => ?_) fun cdv A outer s H E as r hr h => ?_
  · obtain ⟨a, b, _, _, _, rfl, _⟩ := h; rfl
  · obtain ⟨a, b, _, _, _, rfl, _⟩ := h; simp [AV.own]
  · obtain ⟨u, v, hu, hv, hz, rfl, rfl⟩ := h
    have nd := sc_part_by.nd
    have hz' : v.num ≠ 0 := by simpa using hz
    have hy : ((u.den : Int) * v.num) ≠ 0 := Int.mul_ne_zero (by exact_mod_cast u.den_nz) hz'
    have hy2 : ((u.den : Int) * v.num).natAbs < 2 ^ 30 := by
      rw [Int.natAbs_mul, Int.natAbs_natCast]
      have := Nat.mul_le_mul hu.d hv.n
      omega
    refine ds_asg (de_tup (dd_cons (c_parts_of W hr (de_vd 0)) (dd_cons (c_parts_of W hr (de_vd 1)) dd_nil))) (dg_tup (dgs_cons (dg_tup (dgs_cons (dg_name 2) (dgs_cons (dg_name 3) dgs_nil))) (dgs_cons (dg_tup (dgs_cons (dg_name 4) (dgs_cons (dg_name 5) dgs_nil))) dgs_nil))) ?_
    refine ds_ret (c_lowest W hr (de_bin (od_mul (hu.cm _)) (de_vd 2) (de_vd 5)) (de_bin (od_mul (hu.cd _)) (de_vd 3) (de_vd 4)) hy hy2) ?_
    rw [div_eq]
theorem sc_below : FnScope ["one", "other", "a", "b", "c", "d"] ["one", "other"] (defScope (top 25)) := ⟨rfl, rfl, rfl, by decide +kernel, rfl, by decide +kernel, by decide +kernel⟩
def R_below (as : List AV) (r : AV) : Prop := ∃ p q : Rat, Bn p ∧ Bn q ∧ as = [.d (numD p), .d (numD q)] ∧ r = .d (.bl (decide (p < q)))
theorem fn_below {g : Ga} (W : Wd g) (base : Heap) : FnD g base "below" 2 ["one", "other"] [] R_below := by
  obtain ⟨f, fd, hm, F⟩ := (W.fn "below" 25).ex
  refine fnd_of (k := 1) hm F (F.binds fun _ _ _ _ _ _ us hl => match us, hl with | [_, _], _ => rfl) sc_below (fun as r h => ?_) (fun as r h => ?_) fun cdv A outer s H E as r hr h => ?_
  · obtain ⟨a, b, _, _, rfl, _⟩ := h; rfl
  · obtain ⟨a, b, _, _, rfl, _⟩ := h; simp [AV.own]
  · obtain ⟨u, v, hu, hv, rfl, rfl⟩ := h
    have nd := sc_below.nd
    refine ds_asg (de_tup (dd_cons (c_parts_of W hr (de_vd 0)) (dd_cons (c_parts_of W hr (de_vd 1)) dd_nil))) (dg_tup (dgs_cons (dg_tup (dgs_cons (dg_name 2) (dgs_cons (dg_name 3) dgs_nil))) (dgs_cons (dg_tup (dgs_cons (dg_name 4) (dgs_cons (dg_name 5) dgs_nil))) dgs_nil))) ?_
    refine ds_ret (de_cmp od_lt (de_bin (od_mul (hu.cm _)) (de_vd 2) (de_vd 5)) (de_bin (od_mul (hv.cm _)) (de_vd 4) (de_vd 3))) ?_
    congr 3
    exact propext (Rat.lt_iff u v).symm
section
variable {X : Cx} {τ : AE} {e e1 e2 e3 e4 : Expr} {p pos : Pos} {j : Nat}
theorem c_added (W : Wd (gaOf X)) (hr : Room j X.A) {u v : Rat} (h1 : DE X τ e1 (.d (numD u))) (h2 : DE X τ e2 (.d (numD v))) (hu : Bn u) (hv : Bn v) (hj : 3 ≤ j := by decide) (c : CallOk X "added" e1 [e2] pos := by exact ⟨rfl, rfl, rfl⟩) (c2 : StarOk X e2 [] := by exact ⟨rfl⟩) :
    DE X τ (.Call (.Name "added" p) [e1, e2] [] pos) (.d (numD (u + v))) := call2 (fn_added W X.base) hr hj h1 h2 ⟨u, v, hu, hv, rfl, rfl⟩ c c2 (by decide)
theorem c_less_by (W : Wd (gaOf X)) (hr : Room j X.A) {u v : Rat} (h1 : DE X τ e1 (.d (numD u))) (h2 : DE X τ e2 (.d (numD v))) (hu : Bn u) (hv : Bn v) (hj : 3 ≤ j := by decide) (c : CallOk X "less_by" e1 [e2] pos := by exact ⟨rfl, rfl, rfl⟩) (c2 : StarOk X e2 [] := by exact ⟨rfl⟩) :
    DE X τ (.Call (.Name "less_by" p) [e1, e2] [] pos) (.d (numD (u - v))) := call2 (fn_less_by W X.base) hr hj h1 h2 ⟨u, v, hu, hv, rfl, rfl⟩ c c2 (by decide)
theorem c_product (W : Wd (gaOf X)) (hr : Room j X.A) {u v : Rat} (h1 : DE X τ e1 (.d (numD u))) (h2 : DE X τ e2 (.d (numD v))) (hu : Bn u) (hv : Bn v) (hj : 3 ≤ j := by decide) (c : CallOk X "product" e1 [e2] pos := by exact ⟨rfl, rfl, rfl⟩) (c2 : StarOk X e2 [] := by exact ⟨rfl⟩) :
    DE X τ (.Call (.Name "product" p) [e1, e2] [] pos) (.d (numD (u * v))) := call2 (fn_product W X.base) hr hj h1 h2 ⟨u, v, hu, hv, rfl, rfl⟩ c c2 (by decide)
theorem c_part_by (W : Wd (gaOf X)) (hr : Room j X.A) {u v : Rat} (h1 : DE X τ e1 (.d (numD u))) (h2 : DE X τ e2 (.d (numD v))) (hu : Bn u) (hv : Bd (2 ^ 14) (2 ^ 14) v) (hz : v ≠ 0) (hj : 3 ≤ j := by decide) (c : CallOk X "part_by" e1 [e2] pos := by exact ⟨rfl, rfl, rfl⟩) (c2 : StarOk X e2 [] := by exact ⟨rfl⟩) :
    DE X τ (.Call (.Name "part_by" p) [e1, e2] [] pos) (.d (numD (u / v))) := call2 (fn_part_by W X.base) hr hj h1 h2 ⟨u, v, hu, hv, hz, rfl, rfl⟩ c c2 (by decide)
theorem c_below (W : Wd (gaOf X)) (hr : Room j X.A) {u v : Rat} (h1 : DE X τ e1 (.d (numD u))) (h2 : DE X τ e2 (.d (numD v))) (hu : Bn u) (hv : Bn v) (hj : 2 ≤ j := by decide) (c : CallOk X "below" e1 [e2] pos := by exact ⟨rfl, rfl, rfl⟩) (c2 : StarOk X e2 [] := by exact ⟨rfl⟩) :
    DE X τ (.Call (.Name "below" p) [e1, e2] [] pos) (.d (.bl (decide (u < v)))) := call2 (fn_below W X.base) hr hj h1 h2 ⟨u, v, hu, hv, rfl, rfl⟩ c c2 (by decide)
end
end BF

set_option Elab.async false
set_option linter.all false
set_option maxRecDepth 100000
set_option maxHeartbeats 1000000
set_option autoImplicit false
/-! Sides, heights, places. -/
namespace BF
open PySem PySem.Spec PyProof.Rows L2

def sdD (s : Side) : D := .tup [corD s.1, corD s.2]
theorem dn {X : Cx} {τ : AE} {e : Expr} {i : Int} (h : DE X τ e (.d (.int i))) : DE X τ e (.d (numD (i : Rat))) := by rw [numD_int]; exact h
theorem cutD_1 (xs : List D) : cutD xs (some 1) none = xs.drop 1 := by
  unfold cutD
  rw [HT.sIx_none, show (1 : Int) = ((1 : Nat) : Int) from rfl, HT.sIx_nat]
  rcases xs with _ | ⟨a, r⟩
  · rfl
  · simp
theorem zp_sides (cs : List Pt) : zpD (cs.map corD) ((cs.map corD).drop 1) = (sidesL cs).map sdD := by
  unfold zpD sidesL
  rw [List.drop_one, ← List.map_tail, List.zipWith_map, List.zip, List.map_zipWith]
  rfl
theorem Bd.i64 {i : Int} (h : i.natAbs ≤ 64) : Bd (2 ^ 6) 1 (i : Rat) := Bd.int (by simpa using h)
theorem Bd.i128 {i j : Int} (h : i.natAbs ≤ 64) (h' : j.natAbs ≤ 64) : Bd (2 ^ 7) 1 ((i - j : Int) : Rat) := Bd.int (by omega)
theorem Bd.bn {n d : Nat} {q : Rat} (h : Bd n d q) (hn : n ≤ 2 ^ 26 := by decide) (hd : d ≤ 2 ^ 14 := by decide) : Bn q := h.mono hn hd
/-- a number of a stand -/
abbrev Bq (q : Rat) : Prop := Bd (2 ^ 15) (2 ^ 7) q
theorem ne_of_lt_int {i j : Int} (h : i ≠ j) : ((i - j : Int) : Rat) ≠ 0 := by
  intro z
  have : (i - j : Int) = 0 := by exact_mod_cast z
  omega
theorem hon_bd {s : Side} (S : SV s) {x : Rat} (hx : Bq x) : Bn (hon s x) := by
  unfold hon
  have h1 := hx.sub (Bd.i64 S.b1)
  have h2 := h1.div (Bd.i128 S.b3 S.b1) (ne_of_lt_int (by have := S.inc; omega))
  have h3 := h2.mul (Bd.i128 S.b4 S.b2)
  exact ((Bd.i64 S.b2).add h3).bn
theorem pon_bd {s : Side} (S : SV s) {h : Int} (hh : h.natAbs ≤ 64) : Bq (pon s (h : Rat)) := by
  unfold pon
  have h1 : Bd (2 ^ 7) 1 ((h : Rat) - (s.1.2 : Rat)) := by rw [← Rat.intCast_sub]; exact Bd.i128 hh S.b2
  have h2 := h1.div (Bd.i128 S.b4 S.b2) (ne_of_lt_int (fun z => S.ne z.symm))
  have h3 := h2.mul (Bd.i128 S.b3 S.b1)
  exact ((Bd.i64 S.b1).add h3).mono (by decide) (by decide)

/-! ### sides_of -/
theorem sc_sides_of : FnScope ["profile"] ["profile"] (defScope (top 36)) := ⟨rfl, rfl, rfl, by decide +kernel, rfl, by decide +kernel, by decide +kernel⟩
def R_sides_of (as : List AV) (r : AV) : Prop := ∃ cs : List Pt, 2 ≤ cs.length ∧ as = [.pr cs] ∧ r = .l true ((sidesL cs).map sdD)
theorem fn_sides_of {g : Ga} (W : Wd g) (base : Heap) : FnD g base "sides_of" 1 ["profile"] [] R_sides_of := by
  obtain ⟨f, fd, hm, F⟩ := (W.fn "sides_of" 36).ex
  refine fnd_of (k := 0) hm F (F.binds fun _ _ _ _ _ _ us hl => match us, hl with | [_], _ => rfl) sc_sides_of (fun as r h => ?_) (fun as r h => ?_) fun cdv A outer s H E as r hr h => ?_
  · obtain ⟨cs, _, rfl, _⟩ := h; rfl
  · obtain ⟨cs, _, rfl, _⟩ := h; simp [AV.own]
  · obtain ⟨cs, h2, rfl, rfl⟩ := h
    refine ds_ret (a := .l true ((sidesL cs).map sdD)) (de_eq (de_lzT (de_cor W.pf (de_vp 0)) (de_slT (de_cor W.pf (de_vp 0)) (do_some de_int) do_none ?_) (W.bl "list") (W.bl "zip")) ?_) rfl
    · rw [List.length_map, HT.sIx_none, show (1 : Int) = ((1 : Nat) : Int) from rfl, HT.sIx_nat]; omega
    · rw [cutD_1, zp_sides]
/-! ### height_on, place_on -/
theorem sc_height_on : FnScope ["side", "place", "first", "low", "last", "high", "share"] ["side", "place"] (defScope (top 37)) := ⟨rfl, rfl, rfl, by decide +kernel, rfl, by decide +kernel, by decide +kernel⟩
def R_height_on (as : List AV) (r : AV) : Prop := ∃ (s : Side) (x : Rat), SV s ∧ Bq x ∧ as = [.d (sdD s), .d (numD x)] ∧ r = .d (numD (hon s x))
theorem c_sides_of {X : Cx} {τ : AE} {e1 : Expr} {p pos : Pos} {j : Nat} (W : Wd (gaOf X)) (hr : Room j X.A) {cs : List Pt} (h1 : DE X τ e1 (.pr cs)) (h2 : 2 ≤ cs.length) (hj : 1 ≤ j := by decide) (c : CallOk X "sides_of" e1 [] pos := by exact ⟨rfl, rfl, rfl⟩) :
    DE X τ (.Call (.Name "sides_of" p) [e1] [] pos) (.l true ((sidesL cs).map sdD)) := call1 (fn_sides_of W X.base) hr hj h1 ⟨cs, h2, rfl, rfl⟩ c (by decide)
theorem fn_height_on {g : Ga} (W : Wd g) (base : Heap) : FnD g base "height_on" 4 ["side", "place"] [] R_height_on := by
  obtain ⟨f, fd, hm, F⟩ := (W.fn "height_on" 37).ex
  refine fnd_of (k := 3) hm F (F.binds fun _ _ _ _ _ _ us hl => match us, hl with | [_, _], _ => rfl) sc_height_on (fun as r h => ?_) (fun as r h => ?_) fun cdv A outer s H E as r hr h => ?_
  · obtain ⟨s, x, _, _, rfl, _⟩ := h; rfl
  · obtain ⟨s, x, _, _, rfl, _⟩ := h; simp [AV.own]
  · obtain ⟨⟨⟨a, b⟩, c, d⟩, x, S, hx, rfl, rfl⟩ := h
    have nd := sc_height_on.nd
    have h1 := hx.sub (Bd.i64 S.b1)
    have hz : ((c - a : Int) : Rat) ≠ 0 := ne_of_lt_int (by have := S.inc; simp at this; omega)
    have h2 := h1.div (Bd.i128 S.b3 S.b1) hz
    have h3 := h2.mul (Bd.i128 S.b4 S.b2)
    refine ds_asg (de_vd 0) (dg_tup (dgs_cons (dg_tup (dgs_cons (dg_name 2) (dgs_cons (dg_name 3) dgs_nil))) (dgs_cons (dg_tup (dgs_cons (dg_name 4) (dgs_cons (dg_name 5) dgs_nil))) dgs_nil))) ?_
    refine ds_set 6 (c_part_by W hr (c_less_by W hr (de_vd 1) (dn (de_vd 2)) hx.bn (Bd.i64 S.b1).bn) (dn (de_bin od_sub (de_vd 4) (de_vd 2))) h1.bn ((Bd.i128 S.b3 S.b1).mono (by decide) (by decide)) hz) ?_
    exact ds_ret (c_added W hr (dn (de_vd 3)) (c_product W hr (de_vd 6) (dn (de_bin od_sub (de_vd 5) (de_vd 3))) h2.bn (Bd.i128 S.b4 S.b2).bn) (Bd.i64 S.b2).bn h3.bn) rfl
theorem sc_place_on : FnScope ["side", "height", "first", "low", "last", "high", "share"] ["side", "height"] (defScope (top 38)) := ⟨rfl, rfl, rfl, by decide +kernel, rfl, by decide +kernel, by decide +kernel⟩
def R_place_on (as : List AV) (r : AV) : Prop := ∃ (s : Side) (h : Int), SV s ∧ h.natAbs ≤ 64 ∧ as = [.d (sdD s), .d (.int h)] ∧ r = .d (numD (pon s (h : Rat)))
theorem fn_place_on {g : Ga} (W : Wd g) (base : Heap) : FnD g base "place_on" 4 ["side", "height"] [] R_place_on := by
  obtain ⟨f, fd, hm, F⟩ := (W.fn "place_on" 38).ex
  refine fnd_of (k := 3) hm F (F.binds fun _ _ _ _ _ _ us hl => match us, hl with | [_, _], _ => rfl) sc_place_on (fun as r h => ?_) (fun as r h => ?_) fun cdv A outer s H E as r hr h => ?_
  · obtain ⟨s, x, _, _, rfl, _⟩ := h; rfl
  · obtain ⟨s, x, _, _, rfl, _⟩ := h; simp [AV.own]
  · obtain ⟨⟨⟨a, b⟩, c, d⟩, x, S, hx, rfl, rfl⟩ := h
    have nd := sc_place_on.nd
    have hz : ((d - b : Int) : Rat) ≠ 0 := ne_of_lt_int (fun z => S.ne z.symm)
    have h1 : Bd (2 ^ 7) 1 ((x : Rat) - (b : Rat)) := by rw [← Rat.intCast_sub]; exact Bd.i128 hx S.b2
    have h2 := h1.div (Bd.i128 S.b4 S.b2) hz
    have h3 := h2.mul (Bd.i128 S.b3 S.b1)
    refine ds_asg (de_vd 0) (dg_tup (dgs_cons (dg_tup (dgs_cons (dg_name 2) (dgs_cons (dg_name 3) dgs_nil))) (dgs_cons (dg_tup (dgs_cons (dg_name 4) (dgs_cons (dg_name 5) dgs_nil))) dgs_nil))) ?_
    refine ds_set 6 (c_part_by W hr (c_less_by W hr (dn (de_vd 1)) (dn (de_vd 3)) (Bd.i64 hx).bn (Bd.i64 S.b2).bn) (dn (de_bin od_sub (de_vd 5) (de_vd 3))) h1.bn ((Bd.i128 S.b4 S.b2).mono (by decide) (by decide)) hz) ?_
    exact ds_ret (c_added W hr (dn (de_vd 2)) (c_product W hr (de_vd 6) (dn (de_bin od_sub (de_vd 4) (de_vd 2))) h2.bn (Bd.i128 S.b3 S.b1).bn) (Bd.i64 S.b1).bn h3.bn) rfl
section
variable {X : Cx} {τ : AE} {e e1 e2 e3 e4 : Expr} {p pos : Pos} {j : Nat}
theorem c_height_on (W : Wd (gaOf X)) (hr : Room j X.A) {s : Side} {x : Rat} (h1 : DE X τ e1 (.d (sdD s))) (h2 : DE X τ e2 (.d (numD x))) (S : SV s) (hx : Bq x) (hj : 4 ≤ j := by decide) (c : CallOk X "height_on" e1 [e2] pos := by exact ⟨rfl, rfl, rfl⟩) (c2 : StarOk X e2 [] := by exact ⟨rfl⟩) :
    DE X τ (.Call (.Name "height_on" p) [e1, e2] [] pos) (.d (numD (hon s x))) := call2 (fn_height_on W X.base) hr hj h1 h2 ⟨s, x, S, hx, rfl, rfl⟩ c c2 (by decide)
theorem c_place_on (W : Wd (gaOf X)) (hr : Room j X.A) {s : Side} {h : Int} (h1 : DE X τ e1 (.d (sdD s))) (h2 : DE X τ e2 (.d (.int h))) (S : SV s) (hx : h.natAbs ≤ 64) (hj : 4 ≤ j := by decide) (c : CallOk X "place_on" e1 [e2] pos := by exact ⟨rfl, rfl, rfl⟩) (c2 : StarOk X e2 [] := by exact ⟨rfl⟩) :
    DE X τ (.Call (.Name "place_on" p) [e1, e2] [] pos) (.d (numD (pon s (h : Rat)))) := call2 (fn_place_on W X.base) hr hj h1 h2 ⟨s, h, S, hx, rfl, rfl⟩ c c2 (by decide)
end
/-! ### has_place -/
theorem sc_has_place : FnScope ["profile", "place"] ["profile", "place"] (defScope (top 39)) := ⟨rfl, rfl, rfl, by decide +kernel, rfl, by decide +kernel, by decide +kernel⟩
def R_has_place (as : List AV) (r : AV) : Prop := ∃ (cs : List Pt) (a b : Pt) (x : Rat), cs.head? = some a ∧ cs.getLast? = some b ∧ a.1.natAbs ≤ 64 ∧ b.1.natAbs ≤ 64 ∧ Bq x ∧ as = [.pr cs, .d (numD x)] ∧ r = .d (.bl (decide ((a.1 : Rat) ≤ x ∧ x ≤ (b.1 : Rat))))
theorem fn_has_place {g : Ga} (W : Wd g) (base : Heap) : FnD g base "has_place" 3 ["profile", "place"] [] R_has_place := by
  obtain ⟨f, fd, hm, F⟩ := (W.fn "has_place" 39).ex
  refine fnd_of (k := 2) hm F (F.binds fun _ _ _ _ _ _ us hl => match us, hl with | [_, _], _ => rfl) sc_has_place (fun as r h => ?_) (fun as r h => ?_) fun cdv A outer s H E as r hr h => ?_
  · obtain ⟨cs, a, b, x, _, _, _, _, _, rfl, _⟩ := h; rfl
  · obtain ⟨cs, a, b, x, _, _, _, _, _, rfl, _⟩ := h; simp [AV.own]
  · obtain ⟨cs, a, b, x, ha, hb, h64, h64', hx, rfl, rfl⟩ := h
    have g0 : atI (cs.map corD) 0 = some (.tup [.int a.1, .int a.2]) := by
      cases cs with
      | nil => cases ha
      | cons c r => cases ha; exact atI_nat (j := 0) rfl
    have g1 : atI (cs.map corD) (-1) = some (.tup [.int b.1, .int b.2]) := by
      obtain ⟨l, rfl⟩ := List.getLast?_eq_some_iff.mp hb
      rw [List.map_append]; exact atI_last _ _
    refine ds_ret (de_eq (de_and (de_not (c_below W hr (de_vd 1) (dn (de_ixT (de_ixT (de_cor W.pf (de_vp 0)) de_int g0) de_int)) hx.bn (Bd.i64 h64).bn)) fun h0 => (de_one (de_not (c_below W hr (dn (de_ixT (de_ixT (de_cor W.pf (de_vp 0)) (de_neg de_int) g1) de_int)) (de_vd 1) (Bd.i64 h64').bn hx.bn)))) ?_) rfl
    congr 2
    rw [Bool.eq_iff_iff]; simp [Rat.not_lt]
section
variable {X : Cx} {τ : AE} {e e1 e2 e3 e4 : Expr} {p pos : Pos} {j : Nat}
theorem c_has_place (W : Wd (gaOf X)) (hr : Room j X.A) {cs : List Pt} {a b : Pt} {x : Rat} (h1 : DE X τ e1 (.pr cs)) (h2 : DE X τ e2 (.d (numD x))) (ha : cs.head? = some a) (hb : cs.getLast? = some b) (h64 : a.1.natAbs ≤ 64) (h64' : b.1.natAbs ≤ 64) (hx : Bq x) (hj : 3 ≤ j := by decide) (c : CallOk X "has_place" e1 [e2] pos := by exact ⟨rfl, rfl, rfl⟩) (c2 : StarOk X e2 [] := by exact ⟨rfl⟩) :
    DE X τ (.Call (.Name "has_place" p) [e1, e2] [] pos) (.d (.bl (decide ((a.1 : Rat) ≤ x ∧ x ≤ (b.1 : Rat))))) := call2 (fn_has_place W X.base) hr hj h1 h2 ⟨cs, a, b, x, ha, hb, h64, h64', hx, rfl, rfl⟩ c c2 (by decide)
end
/-! ### height_in -/
def optD : Option Rat → D
  | some q => numD q
  | none => .non
theorem sc_height_in : FnScope ["profile", "place", "side"] ["profile", "place"] (defScope (top 40)) := ⟨rfl, rfl, rfl, by decide +kernel, rfl, by decide +kernel, by decide +kernel⟩
def R_height_in (as : List AV) (r : AV) : Prop := ∃ (cs : List Pt) (x : Rat), PV cs ∧ Bq x ∧ as = [.pr cs, .d (numD x)] ∧ r = .d (optD (hgt cs x))
theorem find_take_none {α : Type} {p : α → Bool} {xs : List α} (h : ∀ x ∈ xs, p x = false) : xs.find? p = none := by
  rw [List.find?_eq_none]; intro x hx; rw [h x hx]; exact Bool.false_ne_true
theorem find_at {α : Type} {p : α → Bool} : ∀ {xs : List α} {i : Nat} {a : α}, xs[i]? = some a → p a = true → (∀ x ∈ xs.take i, p x = false) → xs.find? p = some a
  | [], i, a, h, _, _ => by simp at h
  | b :: r, 0, a, h, hp, _ => by simp at h; subst h; exact List.find?_cons_of_pos hp
  | b :: r, i + 1, a, h, hp, hn => by
    rw [List.find?_cons_of_neg (by rw [hn b (by simp)]; exact Bool.false_ne_true)]
    exact find_at (i := i) (by simpa using h) hp fun x hx => hn x (by simp [hx])
theorem take_mem_succ {α : Type} {xs : List α} {i : Nat} {a x : α} (h : xs[i]? = some a) (hx : x ∈ xs.take (i + 1)) : x ∈ xs.take i ∨ x = a := by
  rw [List.take_add_one, h] at hx
  simpa using hx
theorem fn_height_in {g : Ga} (W : Wd g) (base : Heap) : FnD g base "height_in" 5 ["profile", "place"] [] R_height_in := by
  obtain ⟨f, fd, hm, F⟩ := (W.fn "height_in" 40).ex
  refine fnd_of (k := 4) hm F (F.binds fun _ _ _ _ _ _ us hl => match us, hl with | [_, _], _ => rfl) sc_height_in (fun as r h => ?_) (fun as r h => ?_) fun cdv A outer s H E as r hr h => ?_
  · obtain ⟨cs, x, _, _, rfl, _⟩ := h; rfl
  · obtain ⟨cs, x, _, _, rfl, _⟩ := h; simp [AV.own]
  · obtain ⟨cs, x, P, hx, rfl, rfl⟩ := h
    have nd := sc_height_in.nd
    refine ds_for (di_new (c_sides_of W hr (de_vp 0) P.two)) (fun i τ' => (∃ o, τ' = [some (.pr cs), some (.d (numD x)), o]) ∧ ∀ s ∈ (sidesL cs).take i, decide (x ≤ (s.2.1 : Rat)) = false) ⟨⟨_, rfl⟩, fun s hs => by simp at hs⟩ (fun i d τ' hd ⟨⟨o, e⟩, hn⟩ => ?_) fun τ' ⟨⟨o, e⟩, hn⟩ => ?_
    · subst e
      rw [List.getElem?_map] at hd
      obtain ⟨s, hs, rfl⟩ := Option.map_eq_some_iff.mp hd
      have S := P.sd s (List.mem_of_getElem? hs)
      refine ⟨_, dg_name 2, ds_if (dt_not (dt_val (c_below W hr (dn (de_ixT (de_ixT (de_vd 2) de_int) de_int)) (de_vd 1) (Bd.i64 S.b3).bn hx.bn))) (fun h => ?_) (fun h => ds_nil (ds_nil ⟨⟨_, rfl⟩, fun t ht => ?_⟩))⟩
      · refine ds_ret (c_height_on W hr (de_vd 2) (de_vd 1) S hx) ?_
        have : hgt cs x = some (hon s x) := by
          unfold hgt
          rw [find_at hs (by simpa [Rat.not_lt] using h) hn]; rfl
        rw [this]; rfl
      · rcases take_mem_succ hs ht with z | z
        · exact hn t z
        · subst z; simpa [Rat.not_le] using h
    · subst e
      rw [List.length_map, List.take_length] at hn
      refine ds_ret de_non ?_
      have : hgt cs x = none := by unfold hgt; rw [find_take_none hn]; rfl
      rw [this]; rfl
end BF

set_option Elab.async false
set_option linter.all false
set_option maxRecDepth 100000
set_option maxHeartbeats 1000000
set_option autoImplicit false
/-! Places, leading sides. -/
namespace BF
open PySem PySem.Spec PyProof.Rows L2

theorem nbs_num (qs : List Rat) : D.nbs (qs.map numD) = true := by
  induction qs with
  | nil => rfl
  | cons q r ih => simp only [List.map_cons, D.nbs, numD_nb, ih]; rfl
theorem deps_num (qs : List Rat) : D.deps (qs.map numD) ≤ 1 := by
  induction qs with
  | nil => simp [D.deps]
  | cons q r ih =>
    simp only [List.map_cons, D.deps]
    have := numD_dep q
    omega
theorem lo_le {s : Side} (S : SV s) : (lo s).natAbs ≤ 64 ∧ (hi s).natAbs ≤ 64 := by
  have h1 := S.b2; have h2 := S.b4
  unfold lo hi; constructor <;> split <;> omega
/-! ### places_in -/
theorem sc_places_in : FnScope ["profile", "height", "found", "side", "low", "high", "place"] ["profile", "height"] (defScope (top 41)) := ⟨rfl, rfl, rfl, by decide +kernel, rfl, by decide +kernel, by decide +kernel⟩
def R_places_in (as : List AV) (r : AV) : Prop := ∃ (cs : List Pt) (h : Int), PV cs ∧ h.natAbs ≤ 64 ∧ as = [.pr cs, .d (.int h)] ∧ r = .l true ((plcs (sidesL cs) h).map numD)
theorem plcs_len (h : Int) : ∀ (ss : List Side) (acc : List Rat), (ss.foldl (plStep h) acc).length ≤ acc.length + ss.length
  | [], _ => Nat.le_refl _
  | s :: ss, acc => by
    have h1 := plcs_len h ss (plStep h acc s)
    have h2 : (plStep h acc s).length ≤ acc.length + 1 := by unfold plStep; split <;> simp
    show (ss.foldl (plStep h) (plStep h acc s)).length ≤ _
    rw [List.length_cons]; omega
theorem plcs_succ {ss : List Side} {i : Nat} {s : Side} (h : Int) (hs : ss[i]? = some s) : plcs (ss.take (i + 1)) h = plStep h (plcs (ss.take i) h) s := by
  unfold plcs
  rw [List.take_add_one, hs, List.foldl_append]; rfl
theorem fn_places_in {g : Ga} (W : Wd g) (base : Heap) : FnD g base "places_in" 5 ["profile", "height"] [] R_places_in := by
  obtain ⟨f, fd, hm, F⟩ := (W.fn "places_in" 41).ex
  refine fnd_of (k := 4) hm F (F.binds fun _ _ _ _ _ _ us hl => match us, hl with | [_, _], _ => rfl) sc_places_in (fun as r h => ?_) (fun as r h => ?_) fun cdv A outer s H E as r hr h => ?_
  · obtain ⟨cs, x, _, _, rfl, _⟩ := h; rfl
  · obtain ⟨cs, x, _, _, rfl, _⟩ := h; simp [AV.own]
  · obtain ⟨cs, h, P, hh, rfl, rfl⟩ := h
    have nd := sc_places_in.nd
    have hu := hr.units
    have hl := sides_len cs
    have hf := P.few
    refine ds_set 2 (de_lst dd_nil) <| ds_for (di_new (c_sides_of W hr (de_vp 0) P.two)) (fun i τ' => ∃ o1 o2 o3 o4, τ' = [some (.pr cs), some (.d (.int h)), some (.l true ((plcs ((sidesL cs).take i) h).map numD)), o1, o2, o3, o4]) ⟨_, _, _, _, rfl⟩ (fun i d τ' hd ⟨o1, o2, o3, o4, e⟩ => ?_) fun τ' ⟨o1, o2, o3, o4, e⟩ => ?_
    · subst e
      rw [List.getElem?_map] at hd
      obtain ⟨s, hs, rfl⟩ := Option.map_eq_some_iff.mp hd
      have S := P.sd s (List.mem_of_getElem? hs)
      have lb := lo_le S
      have stay : ∀ o1 o2 o3 o4, ¬ (lo s ≤ h ∧ h ≤ hi s ∧ (plcs ((sidesL cs).take i) h = [] ∨ (plcs ((sidesL cs).take i) h).getLast? ≠ some (pon s h))) → ∃ p1 p2 p3 p4, ([some (AV.pr cs), some (AV.d (.int h)), some (AV.l true ((plcs ((sidesL cs).take i) h).map numD)), o1, o2, o3, o4] : AE) = [some (AV.pr cs), some (AV.d (.int h)), some (AV.l true ((plcs ((sidesL cs).take (i + 1)) h).map numD)), p1, p2, p3, p4] := fun o1 o2 o3 o4 hn =>
        ⟨o1, o2, o3, o4, by rw [plcs_succ h hs, plStep, if_neg hn]⟩
      refine ⟨_, dg_name 3, ds_par 4 5 (dd_cons (de_eq (w := .d (.int (lo s))) (de_cb (bu_min2 rfl) (da_d (de_ixT (de_ixT (de_vd 3) de_int) de_int) (da_d (de_ixT (de_ixT (de_vd 3) de_int) de_int) da_nil)) (W.bl "min") boot_min) rfl) (dd_cons (de_eq (w := .d (.int (hi s))) (de_cb (bu_max2 rfl) (da_d (de_ixT (de_ixT (de_vd 3) de_int) de_int) (da_d (de_ixT (de_ixT (de_vd 3) de_int) de_int) da_nil)) (W.bl "max") boot_max) rfl) dd_nil)) ?_⟩
      refine ds_if (dt_w (dw_and (dt_not (dt_val (c_below W hr (dn (de_vd 1)) (dn (de_vd 4)) (Bd.i64 hh).bn (Bd.i64 lb.1).bn))) fun h0 => (dw_and1 (dt_not (dt_val (c_below W hr (dn (de_vd 5)) (dn (de_vd 1)) (Bd.i64 lb.2).bn (Bd.i64 hh).bn)))))) (fun hc => ?_) (fun hc => ds_nil (ds_nil (stay _ _ _ _ fun z => ?_)))
      · have h12 : lo s ≤ h ∧ h ≤ hi s := by simpa [Rat.not_lt, Rat.intCast_le_intCast] using hc
        refine ds_set 6 (c_place_on W hr (de_vd 3) (de_vd 1) S hh) ?_
        refine ds_if (dt_w (dw_or (dt_cmp (od_eqL hu (nbs_num _) rfl (Nat.le_trans (deps_num _) (by decide)) (by simp [D.deps])) (de_vl 2) (de_lst dd_nil)) fun h0 => (dw_or1 (dt_cmp (od_neD hu (x := numD ((plcs ((sidesL cs).take i) h).getLastD 0)) (numD_nb _) (numD_nb _) (Nat.le_trans (numD_dep _) (by decide)) (Nat.le_trans (numD_dep _) (by decide))) (de_ixL (de_vl 2) (de_neg de_int) ?_) (de_vd 6))))) (fun hc2 => ?_) (fun hc2 => ds_nil (ds_nil (ds_nil (stay _ _ _ _ fun z => ?_))))
        · rcases List.eq_nil_or_concat (plcs ((sidesL cs).take i) h) with z | ⟨l, b, z⟩
          · rw [z] at h0; simp at h0
          · rw [z, List.concat_eq_append, List.map_append, List.getLastD_eq_getLast?, List.getLast?_append]; exact atI_last _ _
        · have hne : plcs ((sidesL cs).take i) h = [] ∨ (plcs ((sidesL cs).take i) h).getLast? ≠ some (pon s h) := by
            rcases List.eq_nil_or_concat (plcs ((sidesL cs).take i) h) with z | ⟨l, b, z⟩
            · exact .inl z
            · right
              rw [z] at hc2 ⊢
              simp [List.getLastD_eq_getLast?, numD_iff] at hc2
              simpa using hc2
          refine ds_app 2 (de_vd 6) ?_ (ds_nil (ds_nil (ds_nil ?_)))
          · have := plcs_len h ((sidesL cs).take i) []
            rw [List.length_map]
            have q : ((sidesL cs).take i).length ≤ (sidesL cs).length := by rw [List.length_take]; omega
            have q2 : (plcs ((sidesL cs).take i) h).length ≤ ((sidesL cs).take i).length := by simpa [plcs] using this
            omega
          · rw [plcs_succ h hs, plStep, if_pos ⟨h12.1, h12.2, hne⟩, List.map_append]; exact ⟨_, _, _, _, rfl⟩
        · rcases List.eq_nil_or_concat (plcs ((sidesL cs).take i) h) with w | ⟨l, b, w⟩
          · rw [w] at hc2; simp at hc2
          · rw [w] at hc2 z
            simp [List.getLastD_eq_getLast?, numD_iff] at hc2
            rcases z.2.2 with z | z
            · simp at z
            · apply z; simp [hc2]
      · simp [Rat.not_lt, Rat.intCast_le_intCast, Rat.intCast_lt_intCast] at hc
        have := hc z.1
        omega
    · subst e
      rw [List.length_map, List.take_length]
      exact ds_retL 2 rfl
/-! ### leading_from -/
theorem sc_leading_from : FnScope ["profile", "place", "sign", "found", "at", "first", "low", "last", "high", "rise", "is_on"] ["profile", "place", "sign"] (defScope (top 42)) := ⟨rfl, rfl, rfl, by decide +kernel, rfl, by decide +kernel, by decide +kernel⟩
def sgn (up : Bool) : Int := if up then 1 else -1
def natD (i : Nat) : D := .int (i : Int)
def R_leading_from (as : List AV) (r : AV) : Prop := ∃ (cs : List Pt) (x : Rat) (up : Bool), PV cs ∧ Bq x ∧ as = [.pr cs, .d (numD x), .d (.int (sgn up))] ∧ r = .l true ((leadI cs x up).map natD)
theorem leadI_take (cs : List Pt) (x : Rat) (up : Bool) {i : Nat} {s : Side} (hs : (sidesL cs)[i]? = some s) :
    ((List.range (i + 1)).filter fun i => match (sidesL cs)[i]? with | some s => decide (leadC up s x) | none => false) = ((List.range i).filter fun i => match (sidesL cs)[i]? with | some s => decide (leadC up s x) | none => false) ++ if leadC up s x then [i] else [] := by
  rw [List.range_succ, List.filter_append, List.filter_cons, hs]
  by_cases h : leadC up s x <;> simp [h]
theorem fn_leading_from {g : Ga} (W : Wd g) (base : Heap) : FnD g base "leading_from" 3 ["profile", "place", "sign"] [] R_leading_from := by
  obtain ⟨f, fd, hm, F⟩ := (W.fn "leading_from" 42).ex
  refine fnd_of (k := 2) hm F (F.binds fun _ _ _ _ _ _ us hl => match us, hl with | [_, _, _], _ => rfl) sc_leading_from (fun as r h => ?_) (fun as r h => ?_) fun cdv A outer s H E as r hr h => ?_
  · obtain ⟨cs, x, _, _, _, rfl, _⟩ := h; rfl
  · obtain ⟨cs, x, _, _, _, rfl, _⟩ := h; simp [AV.own]
  · obtain ⟨cs, x, up, P, hx, rfl, rfl⟩ := h
    have nd := sc_leading_from.nd
    have hu := hr.units
    have hl := sides_len cs
    have hf := P.few
    refine ds_set 3 (de_lst dd_nil) <| ds_for (di_enum (ls_new (c_sides_of W hr (de_vp 0) P.two)) (W.bl "enumerate")) (fun i τ' => i ≤ (sidesL cs).length ∧ ∃ o1 o2 o3 o4 o5 o6 o7, τ' = [some (.pr cs), some (.d (numD x)), some (.d (.int (sgn up))), some (.l true (((List.range i).filter fun i => match (sidesL cs)[i]? with | some s => decide (leadC up s x) | none => false).map natD)), o1, o2, o3, o4, o5, o6, o7]) ⟨Nat.zero_le _, _, _, _, _, _, _, _, rfl⟩ (fun i d τ' hd ⟨hi, o1, o2, o3, o4, o5, o6, o7, e⟩ => ?_) fun τ' ⟨hi, o1, o2, o3, o4, o5, o6, o7, e⟩ => ?_
    · subst e
      rw [enD_get, List.getElem?_map, Option.map_map] at hd
      obtain ⟨⟨⟨a, b⟩, c, d2⟩, hs, rfl⟩ := Option.map_eq_some_iff.mp hd
      have S := P.sd _ (List.mem_of_getElem? hs)
      have hlt := (List.getElem?_eq_some_iff.mp hs).1
      have cm : CMul (sgn up) (d2 - b) := .inl (by cases up <;> simp [sgn])
      refine ⟨_, dg_tup (dgs_cons (dg_name 4) (dgs_cons (dg_tup (dgs_cons (dg_tup (dgs_cons (dg_name 5) (dgs_cons (dg_name 6) dgs_nil))) (dgs_cons (dg_tup (dgs_cons (dg_name 7) (dgs_cons (dg_name 8) dgs_nil))) dgs_nil))) dgs_nil)), ?_⟩
      refine ds_set 9 (de_bin (od_mul cm) (de_vd 2) (de_bin od_sub (de_vd 8) (de_vd 6))) <| ds_set 10 (de_and (de_not (c_below W hr (de_vd 1) (dn (de_vd 5)) hx.bn (Bd.i64 S.b1).bn)) fun h0 => (de_one (de_not (c_below W hr (dn (de_vd 7)) (de_vd 1) (Bd.i64 S.b3).bn hx.bn)))) ?_
      have key : leadC up ((a, b), (c, d2)) x ↔ ((a : Rat) ≤ x ∧ x ≤ (c : Rat)) ∧ ((0 < sgn up * (d2 - b) ∧ x ≠ (c : Rat)) ∨ (sgn up * (d2 - b) < 0 ∧ x ≠ (a : Rat))) := by
        have hne : b ≠ d2 := S.ne
        unfold leadC onS goal gUp gDn sgn
        by_cases hbd : d2 < b
        · cases up with
          | true => simp [hbd]; intro _ _; constructor
                    · intro h; right; exact ⟨by omega, h⟩
                    · rintro (h | h); · omega
                      · exact h.2
          | false => simp [hbd]; intro _ _; constructor
                     · intro h; left; exact ⟨by omega, h⟩
                     · rintro (h | h); · exact h.2
                       · omega
        · cases up with
          | true => simp [hbd]; intro _ _; constructor
                    · intro h; left; exact ⟨by omega, h⟩
                    · rintro (h | h); · exact h.2
                      · omega
          | false => simp [hbd]; intro _ _; constructor
                     · intro h; right; exact ⟨by omega, h⟩
                     · rintro (h | h); · omega
                       · exact h.2
      have neN : ∀ {q : Rat}, OpD (cxOf CX0 g.P g.w g.K g.mg base ["profile", "place", "sign", "found", "at", "first", "low", "last", "high", "rise", "is_on"] "leading_from" (defScope (top 42)) f cdv A outer s H E).nox (compareOp .NotEq) (.d (numD x)) (.d (numD q)) (.d (.bl (!decide (numD x = numD q)))) := fun {q} => od_neD hu (numD_nb _) (numD_nb _) (Nat.le_trans (numD_dep _) (by decide)) (Nat.le_trans (numD_dep _) (by decide))
      refine ds_if (dt_w (dw_and (dt_val (de_vd 10)) fun h0 => (dw_and1 (dt_w (dw_or (dt_w (dw_and (dt_cmp od_gt (de_vd 9) de_int) fun h1 => (dw_and1 (dt_cmp neN (de_vd 1) (dn (de_vd 7)))))) fun h1 => (dw_or1 (dt_w (dw_and (dt_cmp od_lt (de_vd 9) de_int) fun h2 => (dw_and1 (dt_cmp neN (de_vd 1) (dn (de_vd 5)))))))))))) (fun hc => ?_) (fun hc => ds_nil (ds_nil ⟨hlt, ?_⟩))
      · have hk : leadC up ((a, b), (c, d2)) x := key.mpr (by simpa [numD_iff, Rat.not_lt] using hc)
        refine ds_app 3 (de_vd 4) ?_ (ds_nil (ds_nil ⟨hlt, ?_⟩))
        · rw [List.length_map]
          have := List.length_filter_le (fun i => match (sidesL cs)[i]? with | some s => decide (leadC up s x) | none => false) (List.range i)
          rw [List.length_range] at this
          omega
        · rw [leadI_take cs x up hs, if_pos hk, List.map_append]; exact ⟨_, _, _, _, _, _, _, rfl⟩
      · have hk : ¬ leadC up ((a, b), (c, d2)) x := fun z => by
          have w := key.mp z
          have : ((!decide (x < (a : Rat)) && !decide ((c : Rat) < x)) && ((decide (0 < sgn up * (d2 - b)) && !decide (numD x = numD (c : Rat))) || (decide (sgn up * (d2 - b) < 0) && !decide (numD x = numD (a : Rat))))) = true := by simpa [numD_iff, Rat.not_lt] using w
          rw [this] at hc; cases hc
        rw [leadI_take cs x up hs, if_neg hk, List.append_nil]; exact ⟨_, _, _, _, _, _, _, rfl⟩
    · subst e
      rw [enD_len, List.length_map]
      exact ds_retL 3 rfl
section
variable {X : Cx} {τ : AE} {e e1 e2 e3 e4 : Expr} {p pos : Pos} {j : Nat}
theorem c_places_in (W : Wd (gaOf X)) (hr : Room j X.A) {cs : List Pt} {h : Int} (h1 : DE X τ e1 (.pr cs)) (h2 : DE X τ e2 (.d (.int h))) (P : PV cs) (hh : h.natAbs ≤ 64) (hj : 5 ≤ j := by decide) (c : CallOk X "places_in" e1 [e2] pos := by exact ⟨rfl, rfl, rfl⟩) (c2 : StarOk X e2 [] := by exact ⟨rfl⟩) :
    DE X τ (.Call (.Name "places_in" p) [e1, e2] [] pos) (.l true ((plcs (sidesL cs) h).map numD)) := call2 (fn_places_in W X.base) hr hj h1 h2 ⟨cs, h, P, hh, rfl, rfl⟩ c c2 (by decide)
theorem c_leading_from (W : Wd (gaOf X)) (hr : Room j X.A) {cs : List Pt} {x : Rat} (up : Bool) (h1 : DE X τ e1 (.pr cs)) (h2 : DE X τ e2 (.d (numD x))) (h3 : DE X τ e3 (.d (.int (sgn up)))) (P : PV cs) (hx : Bq x) (hj : 3 ≤ j := by decide) (c : CallOk X "leading_from" e1 [e2, e3] pos := by exact ⟨rfl, rfl, rfl⟩) (c2 : StarOk X e2 [e3] := by exact ⟨rfl⟩) (c3 : StarOk X e3 [] := by exact ⟨rfl⟩) :
    DE X τ (.Call (.Name "leading_from" p) [e1, e2, e3] [] pos) (.l true ((leadI cs x up).map natD)) := call3 (fn_leading_from W X.base) hr hj h1 h2 h3 ⟨cs, x, up, P, hx, rfl, rfl⟩ c c2 c3 (by decide)
theorem c_height_in (W : Wd (gaOf X)) (hr : Room j X.A) {cs : List Pt} {x : Rat} (h1 : DE X τ e1 (.pr cs)) (h2 : DE X τ e2 (.d (numD x))) (P : PV cs) (hx : Bq x) (hj : 5 ≤ j := by decide) (c : CallOk X "height_in" e1 [e2] pos := by exact ⟨rfl, rfl, rfl⟩) (c2 : StarOk X e2 [] := by exact ⟨rfl⟩) :
    DE X τ (.Call (.Name "height_in" p) [e1, e2] [] pos) (.d (optD (hgt cs x))) := call2 (fn_height_in W X.base) hr hj h1 h2 ⟨cs, x, P, hx, rfl, rfl⟩ c c2 (by decide)
end
/-! ### ups_at, downs_at -/
theorem sc_ups_at : FnScope ["profile", "place"] ["profile", "place"] (defScope (top 43)) := ⟨rfl, rfl, rfl, by decide +kernel, rfl, by decide +kernel, by decide +kernel⟩
theorem sc_downs_at : FnScope ["profile", "place"] ["profile", "place"] (defScope (top 44)) := ⟨rfl, rfl, rfl, by decide +kernel, rfl, by decide +kernel, by decide +kernel⟩
def R_lead_at (up : Bool) (as : List AV) (r : AV) : Prop := ∃ (cs : List Pt) (x : Rat), PV cs ∧ Bq x ∧ as = [.pr cs, .d (numD x)] ∧ r = .l true ((leadI cs x up).map natD)
theorem fn_ups_at {g : Ga} (W : Wd g) (base : Heap) : FnD g base "ups_at" 4 ["profile", "place"] [] (R_lead_at true) := by
  obtain ⟨f, fd, hm, F⟩ := (W.fn "ups_at" 43).ex
  refine fnd_of (k := 3) hm F (F.binds fun _ _ _ _ _ _ us hl => match us, hl with | [_, _], _ => rfl) sc_ups_at (fun as r h => ?_) (fun as r h => ?_) fun cdv A outer s H E as r hr h => ?_
  · obtain ⟨cs, x, _, _, rfl, _⟩ := h; rfl
  · obtain ⟨cs, x, _, _, rfl, _⟩ := h; simp [AV.own]
  · obtain ⟨cs, x, P, hx, rfl, rfl⟩ := h
    exact ds_ret (c_leading_from W hr true (de_vp 0) (de_vd 1) de_int P hx) rfl
theorem fn_downs_at {g : Ga} (W : Wd g) (base : Heap) : FnD g base "downs_at" 4 ["profile", "place"] [] (R_lead_at false) := by
  obtain ⟨f, fd, hm, F⟩ := (W.fn "downs_at" 44).ex
  refine fnd_of (k := 3) hm F (F.binds fun _ _ _ _ _ _ us hl => match us, hl with | [_, _], _ => rfl) sc_downs_at (fun as r h => ?_) (fun as r h => ?_) fun cdv A outer s H E as r hr h => ?_
  · obtain ⟨cs, x, _, _, rfl, _⟩ := h; rfl
  · obtain ⟨cs, x, _, _, rfl, _⟩ := h; simp [AV.own]
  · obtain ⟨cs, x, P, hx, rfl, rfl⟩ := h
    exact ds_ret (c_leading_from W hr false (de_vp 0) (de_vd 1) (de_neg de_int) P hx) rfl
section
variable {X : Cx} {τ : AE} {e e1 e2 e3 e4 : Expr} {p pos : Pos} {j : Nat}
theorem c_ups_at (W : Wd (gaOf X)) (hr : Room j X.A) {cs : List Pt} {x : Rat} (h1 : DE X τ e1 (.pr cs)) (h2 : DE X τ e2 (.d (numD x))) (P : PV cs) (hx : Bq x) (hj : 4 ≤ j := by decide) (c : CallOk X "ups_at" e1 [e2] pos := by exact ⟨rfl, rfl, rfl⟩) (c2 : StarOk X e2 [] := by exact ⟨rfl⟩) :
    DE X τ (.Call (.Name "ups_at" p) [e1, e2] [] pos) (.l true ((leadI cs x true).map natD)) := call2 (fn_ups_at W X.base) hr hj h1 h2 ⟨cs, x, P, hx, rfl, rfl⟩ c c2 (by decide)
theorem c_downs_at (W : Wd (gaOf X)) (hr : Room j X.A) {cs : List Pt} {x : Rat} (h1 : DE X τ e1 (.pr cs)) (h2 : DE X τ e2 (.d (numD x))) (P : PV cs) (hx : Bq x) (hj : 4 ≤ j := by decide) (c : CallOk X "downs_at" e1 [e2] pos := by exact ⟨rfl, rfl, rfl⟩) (c2 : StarOk X e2 [] := by exact ⟨rfl⟩) :
    DE X τ (.Call (.Name "downs_at" p) [e1, e2] [] pos) (.l true ((leadI cs x false).map natD)) := call2 (fn_downs_at W X.base) hr hj h1 h2 ⟨cs, x, P, hx, rfl, rfl⟩ c c2 (by decide)
end
end BF

set_option Elab.async false
set_option linter.all false
set_option maxRecDepth 100000
set_option maxHeartbeats 1000000
set_option autoImplicit false
/-! Stands: tests; sides by number. -/
namespace BF
open PySem PySem.Spec PyProof.Rows L2

theorem u65 {k : Nat} {A : Around} (r : Room k A) : A.units + 65 < cLine := by have := r.un; omega
/-! ### kept, is_place_in -/
theorem sc_kept : FnScope ["number"] ["number"] (defScope (top 47)) := ⟨rfl, rfl, rfl, by decide +kernel, rfl, by decide +kernel, by decide +kernel⟩
def R_kept (as : List AV) (r : AV) : Prop := ∃ q : Rat, as = [.d (numD q)] ∧ r = .d (numD q)
theorem fn_kept {g : Ga} (W : Wd g) (base : Heap) : FnD g base "kept" 1 ["number"] [] R_kept := by
  obtain ⟨f, fd, hm, F⟩ := (W.fn "kept" 47).ex
  refine fnd_of (k := 0) hm F (F.binds fun _ _ _ _ _ _ us hl => match us, hl with | [_], _ => rfl) sc_kept (fun as r h => ?_) (fun as r h => ?_) fun cdv A outer s H E as r hr h => ?_
  · obtain ⟨q, rfl, _⟩ := h; rfl
  · obtain ⟨q, rfl, _⟩ := h; simp [AV.own]
  · obtain ⟨q, rfl, rfl⟩ := h
    by_cases hd : q.den = 1
    · have e : numD q = .int q.num := if_pos hd
      rw [e]
      exact ds_ret (de_if (k := true) (dt_val (de_isi (de_vd 0) (kit_int _) (W.bl "isinstance") (W.bl "int") boot_int)) (fun h => (de_vd 0)) (fun h => by cases h)) rfl
    · have e : numD q = .tup [.int q.num, .int q.den] := if_neg hd
      rw [e]
      exact ds_ret (de_if (k := false) (dt_val (de_isi (de_vd 0) (kit_int _) (W.bl "isinstance") (W.bl "int") boot_int)) (fun h => by cases h) (fun h => (de_tup (dd_cons (de_ixT (de_vd 0) de_int) (dd_cons (de_ixT (de_vd 0) de_int) dd_nil))))) rfl
/-- the profile spans x -/
def hasP (cs : List Pt) (x : Rat) : Prop := ∃ a b, cs.head? = some a ∧ cs.getLast? = some b ∧ (a.1 : Rat) ≤ x ∧ x ≤ (b.1 : Rat)
noncomputable instance (cs : List Pt) (x : Rat) : Decidable (hasP cs x) := Classical.propDecidable _
theorem PV.ends {cs : List Pt} (P : PV cs) : ∃ a b, cs.head? = some a ∧ cs.getLast? = some b ∧ a.1.natAbs ≤ 64 ∧ b.1.natAbs ≤ 64 := by
  have h2 := P.two
  have h0 : cs[0]? = some (cs[0]'(by omega)) := List.getElem?_eq_getElem _
  have h1 : cs[0 + 1]? = some (cs[1]'(by omega)) := List.getElem?_eq_getElem _
  have S := P.sd _ (List.mem_of_getElem? (sides_at h0 h1))
  have l0 : cs[cs.length - 2]? = some (cs[cs.length - 2]'(by omega)) := List.getElem?_eq_getElem _
  have l1 : cs[cs.length - 2 + 1]? = some (cs[cs.length - 2 + 1]'(by omega)) := List.getElem?_eq_getElem _
  have S' := P.sd _ (List.mem_of_getElem? (sides_at l0 l1))
  refine ⟨_, _, by rw [List.head?_eq_getElem?]; exact h0, ?_, S.b1, S'.b3⟩
  rw [List.getLast?_eq_getElem?, show cs.length - 1 = cs.length - 2 + 1 by omega]; exact l1
theorem hasP_iff {cs : List Pt} {a b : Pt} {x : Rat} (ha : cs.head? = some a) (hb : cs.getLast? = some b) : ((a.1 : Rat) ≤ x ∧ x ≤ (b.1 : Rat)) ↔ hasP cs x :=
  ⟨fun h => ⟨a, b, ha, hb, h⟩, fun ⟨a', b', ha', hb', h⟩ => by rw [ha] at ha'; rw [hb] at hb'; cases ha'; cases hb'; exact h⟩
theorem sc_is_place_in : FnScope ["profile", "value"] ["profile", "value"] (defScope (top 46)) := ⟨rfl, rfl, rfl, by decide +kernel, rfl, by decide +kernel, by decide +kernel⟩
def R_is_place_in (as : List AV) (r : AV) : Prop := ∃ (cs : List Pt) (x : Rat), PV cs ∧ Bq x ∧ as = [.pr cs, .d (numD x)] ∧ r = .d (.bl (decide (hasP cs x)))
theorem fn_is_place_in {g : Ga} (W : Wd g) (base : Heap) : FnD g base "is_place_in" 4 ["profile", "value"] [] R_is_place_in := by
  obtain ⟨f, fd, hm, F⟩ := (W.fn "is_place_in" 46).ex
  refine fnd_of (k := 3) hm F (F.binds fun _ _ _ _ _ _ us hl => match us, hl with | [_, _], _ => rfl) sc_is_place_in (fun as r h => ?_) (fun as r h => ?_) fun cdv A outer s H E as r hr h => ?_
  · obtain ⟨q, _, _, _, rfl, _⟩ := h; rfl
  · obtain ⟨q, _, _, _, rfl, _⟩ := h; simp [AV.own]
  · obtain ⟨cs, x, P, hx, rfl, rfl⟩ := h
    obtain ⟨a, b, ha, hb, h1, h2⟩ := P.ends
    refine ds_ret (de_eq (de_and (c_is_number W hr (de_vd 1)) fun h0 => (de_one (c_has_place W hr (de_vp 0) (de_vd 1) ha hb h1 h2 hx))) ?_) rfl
    rw [Bool.true_and, decide_eq_decide.mpr (hasP_iff ha hb)]
section
variable {X : Cx} {τ : AE} {e e1 e2 e3 e4 : Expr} {p pos : Pos} {j : Nat}
theorem c_kept (W : Wd (gaOf X)) (hr : Room j X.A) {q : Rat} (h1 : DE X τ e1 (.d (numD q))) (hj : 1 ≤ j := by decide) (c : CallOk X "kept" e1 [] pos := by exact ⟨rfl, rfl, rfl⟩) : DE X τ (.Call (.Name "kept" p) [e1] [] pos) (.d (numD q)) :=
  call1 (fn_kept W X.base) hr hj h1 ⟨q, rfl, rfl⟩ c (by decide)
theorem c_is_place_in (W : Wd (gaOf X)) (hr : Room j X.A) {cs : List Pt} {x : Rat} (h1 : DE X τ e1 (.pr cs)) (h2 : DE X τ e2 (.d (numD x))) (P : PV cs) (hx : Bq x) (hj : 4 ≤ j := by decide) (c : CallOk X "is_place_in" e1 [e2] pos := by exact ⟨rfl, rfl, rfl⟩) (c2 : StarOk X e2 [] := by exact ⟨rfl⟩) :
    DE X τ (.Call (.Name "is_place_in" p) [e1, e2] [] pos) (.d (.bl (decide (hasP cs x)))) := call2 (fn_is_place_in W X.base) hr hj h1 h2 ⟨cs, x, P, hx, rfl, rfl⟩ c c2 (by decide)
end
/-! ### is_corner_place -/
def crnP (cs : List Pt) (x : Rat) : Prop := ∃ c ∈ cs, x = (c.1 : Rat)
noncomputable instance (cs : List Pt) (x : Rat) : Decidable (crnP cs x) := Classical.propDecidable _
theorem sc_is_corner_place : FnScope ["profile", "place", "spot", "_"] ["profile", "place"] (defScope (top 48)) := ⟨rfl, rfl, rfl, by decide +kernel, rfl, by decide +kernel, by decide +kernel⟩
def R_is_corner_place (as : List AV) (r : AV) : Prop := ∃ (cs : List Pt) (x : Rat), PV cs ∧ as = [.pr cs, .d (numD x)] ∧ r = .d (.bl (decide (crnP cs x)))
theorem range_map {α : Type} (xs : List α) (g : Nat → D) (f : α → D) (h : ∀ i a, xs[i]? = some a → g i = f a) : ((List.range xs.length).filter fun _ => true).map g = xs.map f := by
  rw [List.filter_eq_self.mpr (fun _ _ => rfl)]
  apply List.ext_getElem?
  intro i
  rw [List.getElem?_map, List.getElem?_map]
  by_cases hi : i < xs.length
  · rw [List.getElem?_range hi, List.getElem?_eq_getElem hi]
    simp only [Option.map_some]
    rw [h i _ (List.getElem?_eq_getElem hi)]
  · rw [List.getElem?_eq_none (by simpa using hi), List.getElem?_eq_none (by simpa using hi)]; rfl
theorem fn_is_corner_place {g : Ga} (W : Wd g) (base : Heap) : FnD g base "is_corner_place" 1 ["profile", "place"] [] R_is_corner_place := by
  obtain ⟨f, fd, hm, F⟩ := (W.fn "is_corner_place" 48).ex
  refine fnd_of (k := 0) hm F (F.binds fun _ _ _ _ _ _ us hl => match us, hl with | [_, _], _ => rfl) sc_is_corner_place (fun as r h => ?_) (fun as r h => ?_) fun cdv A outer s H E as r hr h => ?_
  · obtain ⟨cs, x, _, rfl, _⟩ := h; rfl
  · obtain ⟨cs, x, _, rfl, _⟩ := h; simp [AV.own]
  · obtain ⟨cs, x, P, rfl, rfl⟩ := h
    have nd := sc_is_corner_place.nd
    have hf := P.few
    have e1 : cs.map (fun c => D.int c.1) = (cs.map fun c => ((c.1 : Int) : Rat)).map numD := by
      rw [List.map_map]; apply List.map_congr_left; intro c _; exact (numD_int c.1).symm
    refine ds_ret (de_eq (de_cmp (od_inL (o := true) (u65 hr) (numD_nb x) (xs := cs.map fun c => D.int c.1) (by rw [e1]; exact nbs_num _) (Nat.le_trans (numD_dep _) (by decide)) (by rw [e1]; exact Nat.le_trans (deps_num _) (by decide))) (de_vd 1)
      (de_eq (de_lc [("spot", 2), ("_", 3)] (fun _ => true) (fun i => .int ((cs[i]?.getD (0, 0)).1)) (di_tup (de_cor W.pf (de_vp 0))) (by rw [List.length_map]; omega) (fun i d hd => ?_) ?_) ?_)) ?_) rfl
    · rw [List.getElem?_map] at hd
      obtain ⟨c, hc, rfl⟩ := Option.map_eq_some_iff.mp hd
      rw [hc]
      exact ⟨_, fun s H C cl fp => ⟨dw_tup (dsw_cons (dw_name 2) (dsw_cons (dw_name 3) dsw_nil)), dts_nil, fun _ => de_vd 2⟩⟩
    · show BlkOk ["profile", "place", "spot", "_"] (defScope (top 48)) _ _
      exact blkOk_by (by decide +kernel)
    · rw [List.length_map]
      congr 1
      exact range_map cs _ (fun c => D.int c.1) fun i a h => by rw [h]; rfl
    · congr 2
      rw [decide_eq_decide, e1]
      constructor
      · intro h
        obtain ⟨q, h1, h2⟩ := List.mem_map.mp h
        obtain ⟨c, h3, rfl⟩ := List.mem_map.mp h1
        exact ⟨c, h3, (numD_inj h2).symm⟩
      · rintro ⟨c, h1, rfl⟩
        exact List.mem_map.mpr ⟨_, List.mem_map.mpr ⟨c, h1, rfl⟩, rfl⟩
section
variable {X : Cx} {τ : AE} {e e1 e2 e3 e4 : Expr} {p pos : Pos} {j : Nat}
theorem c_is_corner_place (W : Wd (gaOf X)) (hr : Room j X.A) {cs : List Pt} {x : Rat} (h1 : DE X τ e1 (.pr cs)) (h2 : DE X τ e2 (.d (numD x))) (P : PV cs) (hj : 1 ≤ j := by decide) (c : CallOk X "is_corner_place" e1 [e2] pos := by exact ⟨rfl, rfl, rfl⟩) (c2 : StarOk X e2 [] := by exact ⟨rfl⟩) :
    DE X τ (.Call (.Name "is_corner_place" p) [e1, e2] [] pos) (.d (.bl (decide (crnP cs x)))) := call2 (fn_is_corner_place W X.base) hr hj h1 h2 ⟨cs, x, P, rfl, rfl⟩ c c2 (by decide)
end
/-! ### is_stand_in -/
def stnD (p : Rat × Rat) : D := .tup [numD p.1, numD p.2]
def stnP (cs ds : List Pt) (p : Rat × Rat) : Prop := hasP cs p.1 ∧ hasP ds p.2 ∧ (crnP cs p.1 ∨ crnP ds p.2) ∧ hgt cs p.1 = hgt ds p.2
noncomputable instance (cs ds : List Pt) (p : Rat × Rat) : Decidable (stnP cs ds p) := Classical.propDecidable _
theorem optD_inj {a b : Option Rat} (h : optD a = optD b) : a = b := by
  have nn : ∀ q : Rat, numD q ≠ .non := fun q => by unfold numD; split <;> simp
  cases a with
  | none => cases b with
    | none => rfl
    | some y => exact absurd h.symm (nn y)
  | some x => cases b with
    | none => exact absurd h (nn x)
    | some y => rw [numD_inj h]
theorem optD_nb (a : Option Rat) : (optD a).nb = true := by cases a; rfl; exact numD_nb _
theorem optD_dep (a : Option Rat) : (optD a).dep ≤ 64 := by cases a; simp [optD, D.dep]; exact Nat.le_trans (numD_dep _) (by decide)
theorem sc_is_stand_in : FnScope ["one", "other", "value", "x", "y"] ["one", "other", "value"] (defScope (top 49)) := ⟨rfl, rfl, rfl, by decide +kernel, rfl, by decide +kernel, by decide +kernel⟩
def R_is_stand_in (as : List AV) (r : AV) : Prop := ∃ (cs ds : List Pt) (p : Rat × Rat), PV cs ∧ PV ds ∧ Bq p.1 ∧ Bq p.2 ∧ as = [.pr cs, .pr ds, .d (stnD p)] ∧ r = .d (.bl (decide (stnP cs ds p)))
theorem fn_is_stand_in {g : Ga} (W : Wd g) (base : Heap) : FnD g base "is_stand_in" 6 ["one", "other", "value"] [] R_is_stand_in := by
  obtain ⟨f, fd, hm, F⟩ := (W.fn "is_stand_in" 49).ex
  refine fnd_of (k := 5) hm F (F.binds fun _ _ _ _ _ _ us hl => match us, hl with | [_, _, _], _ => rfl) sc_is_stand_in (fun as r h => ?_) (fun as r h => ?_) fun cdv A outer s H E as r hr h => ?_
  · obtain ⟨cs, x, _, _, _, _, _, rfl, _⟩ := h; rfl
  · obtain ⟨cs, x, _, _, _, _, _, rfl, _⟩ := h; simp [AV.own]
  · obtain ⟨cs, ds, ⟨x, y⟩, P, P', hx, hy, rfl, rfl⟩ := h
    have nd := sc_is_stand_in.nd
    refine ds_if (dt_w (dw_or (dt_not (dt_val (de_isLT (de_vd 2) trivial (W.bl "isinstance") (W.bl "list") (W.bl "tuple")))) fun h0 => (dw_or1 (dt_cmp od_neI (de_cb bu_lenT (da_d (de_vd 2) da_nil) (W.bl "len") boot_len) de_int)))) (fun h => (by simp [AV.isLT, stnD] at h)) (fun h => ds_nil ?_)
    refine ds_if (dt_w (dw_or (dt_not (dt_val (c_is_place_in W hr (de_vp 0) (de_ixT (de_vd 2) de_int) P hx))) fun h0 => (dw_or1 (dt_not (dt_val (c_is_place_in W hr (de_vp 1) (de_ixT (de_vd 2) de_int) P' hy)))))) (fun h => ?_) (fun h => ds_nil ?_)
    · refine ds_ret de_bl ?_
      have : ¬ stnP cs ds (x, y) := fun z => by
        have h1 : hasP cs x := z.1
        have h2 : hasP ds y := z.2.1
        simp [h1, h2] at h
      rw [decide_eq_false this]
    have h12 : hasP cs x ∧ hasP ds y := by simpa using h
    refine ds_par 3 4 (dd_cons (c_kept W hr (de_ixT (de_vd 2) de_int)) (dd_cons (c_kept W hr (de_ixT (de_vd 2) de_int)) dd_nil)) ?_
    refine ds_if (dt_w (dw_and (dt_not (dt_val (c_is_corner_place W hr (de_vp 0) (de_vd 3) P))) fun h0 => (dw_and1 (dt_not (dt_val (c_is_corner_place W hr (de_vp 1) (de_vd 4) P')))))) (fun h2 => ?_) (fun h2 => ds_nil ?_)
    · refine ds_ret de_bl ?_
      have : ¬ stnP cs ds (x, y) := fun z => by
        have h3 : crnP cs x ∨ crnP ds y := z.2.2.1
        have h4 : ¬ crnP cs x ∧ ¬ crnP ds y := by simpa using h2
        exact h3.elim h4.1 h4.2
      rw [decide_eq_false this]
    have h3 : crnP cs x ∨ crnP ds y := by
      by_cases q : crnP cs x
      · exact .inl q
      · right; simpa [q] using h2
    refine ds_ret (de_cmp (od_eqD hr.units (optD_nb _) (optD_nb _) (optD_dep _) (optD_dep _)) (c_height_in W hr (de_vp 0) (de_vd 3) P hx) (c_height_in W hr (de_vp 1) (de_vd 4) P' hy)) ?_
    congr 2
    rw [decide_eq_decide]
    exact ⟨fun z => ⟨h12.1, h12.2, h3, optD_inj z⟩, fun z => by rw [show hgt cs x = hgt ds y from z.2.2.2]⟩
/-! ### side_at, ends_of -/
theorem sc_side_at : FnScope ["profile", "at"] ["profile", "at"] (defScope (top 52)) := ⟨rfl, rfl, rfl, by decide +kernel, rfl, by decide +kernel, by decide +kernel⟩
def R_side_at (as : List AV) (r : AV) : Prop := ∃ (cs : List Pt) (i : Nat) (s : Side), (sidesL cs)[i]? = some s ∧ as = [.pr cs, .d (.int (i : Int))] ∧ r = .d (sdD s)
theorem fn_side_at {g : Ga} (W : Wd g) (base : Heap) : FnD g base "side_at" 1 ["profile", "at"] [] R_side_at := by
  obtain ⟨f, fd, hm, F⟩ := (W.fn "side_at" 52).ex
  refine fnd_of (k := 0) hm F (F.binds fun _ _ _ _ _ _ us hl => match us, hl with | [_, _], _ => rfl) sc_side_at (fun as r h => ?_) (fun as r h => ?_) fun cdv A outer s H E as r hr h => ?_
  · obtain ⟨cs, x, _, _, rfl, _⟩ := h; rfl
  · obtain ⟨cs, x, _, _, rfl, _⟩ := h; simp [AV.own]
  · obtain ⟨cs, i, s, hs, rfl, rfl⟩ := h
    obtain ⟨h1, h2⟩ := sides_get hs
    have g1 : atI (cs.map corD) (i : Int) = some (corD s.1) := atI_nat (by rw [List.getElem?_map, h1]; rfl)
    have g2 : atI (cs.map corD) ((i : Int) + 1) = some (corD s.2) := atI_nat (j := i + 1) (by rw [List.getElem?_map, h2]; rfl)
    exact ds_ret (de_tup (dd_cons (de_ixT (de_cor W.pf (de_vp 0)) (de_vd 1) g1) (dd_cons (de_ixT (de_cor W.pf (de_vp 0)) (de_bin od_add (de_vd 1) de_int) g2) dd_nil))) rfl
theorem sc_ends_of : FnScope ["profile", "side"] ["profile", "side"] (defScope (top 53)) := ⟨rfl, rfl, rfl, by decide +kernel, rfl, by decide +kernel, by decide +kernel⟩
def R_ends_of (as : List AV) (r : AV) : Prop := ∃ (cs : List Pt) (i : Nat) (s : Side), (sidesL cs)[i]? = some s ∧ as = [.pr cs, .d (.int (i : Int))] ∧ r = .d (.tup [.int s.1.2, .int s.2.2])
theorem fn_ends_of {g : Ga} (W : Wd g) (base : Heap) : FnD g base "ends_of" 1 ["profile", "side"] [] R_ends_of := by
  obtain ⟨f, fd, hm, F⟩ := (W.fn "ends_of" 53).ex
  refine fnd_of (k := 0) hm F (F.binds fun _ _ _ _ _ _ us hl => match us, hl with | [_, _], _ => rfl) sc_ends_of (fun as r h => ?_) (fun as r h => ?_) fun cdv A outer s H E as r hr h => ?_
  · obtain ⟨cs, x, _, _, rfl, _⟩ := h; rfl
  · obtain ⟨cs, x, _, _, rfl, _⟩ := h; simp [AV.own]
  · obtain ⟨cs, i, s, hs, rfl, rfl⟩ := h
    obtain ⟨h1, h2⟩ := sides_get hs
    have g1 : atI (cs.map corD) (i : Int) = some (.tup [.int s.1.1, .int s.1.2]) := atI_nat (by rw [List.getElem?_map, h1]; rfl)
    have g2 : atI (cs.map corD) ((i : Int) + 1) = some (.tup [.int s.2.1, .int s.2.2]) := atI_nat (j := i + 1) (by rw [List.getElem?_map, h2]; rfl)
    exact ds_ret (de_tup (dd_cons (de_ixT (de_ixT (de_cor W.pf (de_vp 0)) (de_vd 1) g1) de_int) (dd_cons (de_ixT (de_ixT (de_cor W.pf (de_vp 0)) (de_bin od_add (de_vd 1) de_int) g2) de_int) dd_nil))) rfl
section
variable {X : Cx} {τ : AE} {e e1 e2 e3 e4 : Expr} {p pos : Pos} {j : Nat}
theorem c_is_stand_in (W : Wd (gaOf X)) (hr : Room j X.A) {cs ds : List Pt} {q : Rat × Rat} (h1 : DE X τ e1 (.pr cs)) (h2 : DE X τ e2 (.pr ds)) (h3 : DE X τ e3 (.d (stnD q))) (P : PV cs) (P' : PV ds) (hx : Bq q.1) (hy : Bq q.2) (hj : 6 ≤ j := by decide) (c : CallOk X "is_stand_in" e1 [e2, e3] pos := by exact ⟨rfl, rfl, rfl⟩) (c2 : StarOk X e2 [e3] := by exact ⟨rfl⟩) (c3 : StarOk X e3 [] := by exact ⟨rfl⟩) :
    DE X τ (.Call (.Name "is_stand_in" p) [e1, e2, e3] [] pos) (.d (.bl (decide (stnP cs ds q)))) := call3 (fn_is_stand_in W X.base) hr hj h1 h2 h3 ⟨cs, ds, q, P, P', hx, hy, rfl, rfl⟩ c c2 c3 (by decide)
theorem c_side_at (W : Wd (gaOf X)) (hr : Room j X.A) {cs : List Pt} {i : Nat} {s : Side} (h1 : DE X τ e1 (.pr cs)) (h2 : DE X τ e2 (.d (.int (i : Int)))) (hs : (sidesL cs)[i]? = some s) (hj : 1 ≤ j := by decide) (c : CallOk X "side_at" e1 [e2] pos := by exact ⟨rfl, rfl, rfl⟩) (c2 : StarOk X e2 [] := by exact ⟨rfl⟩) :
    DE X τ (.Call (.Name "side_at" p) [e1, e2] [] pos) (.d (sdD s)) := call2 (fn_side_at W X.base) hr hj h1 h2 ⟨cs, i, s, hs, rfl, rfl⟩ c c2 (by decide)
theorem c_ends_of (W : Wd (gaOf X)) (hr : Room j X.A) {cs : List Pt} {i : Nat} {s : Side} (h1 : DE X τ e1 (.pr cs)) (h2 : DE X τ e2 (.d (.int (i : Int)))) (hs : (sidesL cs)[i]? = some s) (hj : 1 ≤ j := by decide) (c : CallOk X "ends_of" e1 [e2] pos := by exact ⟨rfl, rfl, rfl⟩) (c2 : StarOk X e2 [] := by exact ⟨rfl⟩) :
    DE X τ (.Call (.Name "ends_of" p) [e1, e2] [] pos) (.d (.tup [.int s.1.2, .int s.2.2])) := call2 (fn_ends_of W X.base) hr hj h1 h2 ⟨cs, i, s, hs, rfl, rfl⟩ c c2 (by decide)
end
end BF

set_option Elab.async false
set_option linter.all false
set_option maxRecDepth 100000
set_option maxHeartbeats 1000000
set_option autoImplicit false
/-! ascending. -/
namespace BF
open PySem PySem.Spec PyProof.Rows L2

theorem cutD_take {xs : List D} {k : Nat} (h : k ≤ xs.length) : cutD xs none (some (k : Int)) = xs.take k := by
  unfold cutD
  rw [HT.sIx_none, HT.sIx_nat, Nat.min_eq_left h]; simp
theorem cutD_drop {xs : List D} {k : Nat} (h : k ≤ xs.length) : cutD xs (some (k : Int)) none = xs.drop k := by
  unfold cutD
  rw [HT.sIx_none, HT.sIx_nat, Nat.min_eq_left h]
  rw [List.take_of_length_le (by simp)]
def R_asc (n : Nat) (as : List AV) (r : AV) : Prop := ∃ qs rs : List Rat, (∀ q ∈ qs, Bq q) ∧ qs.length ≤ 2 ^ n ∧ n ≤ 10 ∧ rs.Perm qs ∧ rs.Pairwise (· ≤ ·) ∧ as = [.l false (qs.map numD)] ∧ r = .l true (rs.map numD)
theorem sorted_uniq {xs ys : List Rat} (p : xs.Perm ys) (h : xs.Pairwise (· ≤ ·)) (h' : ys.Pairwise (· ≤ ·)) : xs = ys :=
  List.Perm.eq_of_pairwise (le := fun a b => a ≤ b) (fun a b _ _ h1 h2 => Rat.le_antisymm h1 h2) h h' p
theorem c_asc {X : Cx} {τ : AE} {e1 : Expr} {p pos : Pos} {j n m : Nat} (F : FnD (gaOf X) X.base "ascending" m ["numbers"] [] (R_asc n)) (hr : Room j X.A) (hj : m ≤ j) {o : Bool} {qs rs : List Rat} (h1 : DE X τ e1 (.l o (qs.map numD))) (hb : ∀ q ∈ qs, Bq q) (hl : qs.length ≤ 2 ^ n) (hn : n ≤ 10) (hp : rs.Perm qs) (hs : rs.Pairwise (· ≤ ·))
    (c : CallOk X "ascending" e1 [] pos := by exact ⟨rfl, rfl, rfl⟩) : DE X τ (.Call (.Name "ascending" p) [e1] [] pos) (.l true (rs.map numD)) :=
  call1 F hr hj h1 ⟨qs, rs, hb, hl, hn, hp, hs, rfl, rfl⟩ c (by decide)
theorem exists_sorted (qs : List Rat) : ∃ rs : List Rat, rs.Perm qs ∧ rs.Pairwise (· ≤ ·) :=
  ⟨qs.mergeSort (fun a b => decide (a ≤ b)), List.mergeSort_perm _ _, (List.pairwise_mergeSort (le := fun a b => decide (a ≤ b)) (fun a b c h1 h2 => by simp at *; exact Rat.le_trans h1 h2) (fun a b => by simp; exact Rat.le_total) qs).imp fun h => by simpa using h⟩
theorem sc_ascending : FnScope ["numbers", "half", "found", "low", "high", "at", "spot", "is_high"] ["numbers"] (defScope (top 26)) := ⟨rfl, rfl, rfl, by decide +kernel, rfl, by decide +kernel, by decide +kernel⟩
def mAsc (a b : Nat) : AE → Nat
  | [_, _, _, _, _, some (.d (.int x)), some (.d (.int y)), _] => (a - x.toNat) + (b - y.toNat)
  | _ => 0
theorem fn_asc_step {g : Ga} (W : Wd g) (base : Heap) (n : Nat) (ih : ∀ m, n = m + 1 → FnD g base "ascending" (3 + m) ["numbers"] [] (R_asc m)) : FnD g base "ascending" (3 + n) ["numbers"] [] (R_asc n) := by
  obtain ⟨f, fd, hm, F⟩ := (W.fn "ascending" 26).ex
  rw [show 3 + n = (2 + n) + 1 by omega]
  refine fnd_of (k := 2 + n) hm F (F.binds fun _ _ _ _ _ _ us hl => match us, hl with | [_], _ => rfl) sc_ascending (fun as r h => ?_) (fun as r h => ?_) fun cdv A outer s H E as r hr h => ?_
  · obtain ⟨q, _, _, _, _, _, _, rfl, _⟩ := h; rfl
  · obtain ⟨q, _, _, _, _, _, _, rfl, _⟩ := h; simp [AV.own]
  · obtain ⟨qs, rs, hb, hl, hn10, hp, hs, rfl, rfl⟩ := h
    have nd := sc_ascending.nd
    have l10 : qs.length ≤ 1024 := Nat.le_trans hl (Nat.le_trans (Nat.pow_le_pow_right (by decide) hn10) (by decide))
    refine ds_if (dt_cmp od_lt (de_cb bu_lenL (da_l (de_vl 0) da_nil) (W.bl "len") boot_len) de_int) (fun h => ?_) (fun h => ds_nil ?_)
    · have h2 : qs.length < 2 := by
        have q : ((qs.length : Nat) : Int) < 2 := by simpa using h
        omega
      refine ds_ret (de_cty ty_listL (da_l (de_vl 0) da_nil) (W.bl "list") boot_list) ?_
      have : qs.Pairwise (· ≤ ·) := by
        rcases qs with _ | ⟨a, _ | ⟨b, r⟩⟩
        · exact .nil
        · simp
        · simp at h2; omega
      rw [sorted_uniq hp hs this]
    · have h2 : 2 ≤ qs.length := by
        have q : (2 : Int) ≤ ((qs.length : Nat) : Int) := by simpa using h
        omega
      cases n with
      | zero => simp at hl; omega
      | succ m =>
        have fm := ih m rfl
        obtain ⟨L, pL, sL⟩ := exists_sorted (qs.take (qs.length / 2))
        obtain ⟨Hh, pH, sH⟩ := exists_sorted (qs.drop (qs.length / 2))
        have e2 : ((qs.length : Nat) : Int).fdiv 2 = ((qs.length / 2 : Nat) : Int) := by rw [Int.fdiv_eq_ediv_of_nonneg _ (by decide)]; omega
        have hp2 : 2 ^ (m + 1) = 2 * 2 ^ m := by rw [Nat.pow_succ]; omega
        have bL : ∀ q ∈ L, Bq q := fun q hq => hb q (List.mem_of_mem_take (pL.mem_iff.mp hq))
        have bH : ∀ q ∈ Hh, Bq q := fun q hq => hb q (List.mem_of_mem_drop (pH.mem_iff.mp hq))
        have lL : L.length = qs.length / 2 := by rw [pL.length_eq, List.length_take]; omega
        have lH : Hh.length = qs.length - qs.length / 2 := by rw [pH.length_eq, List.length_drop]
        refine ds_par2 1 2 (de_eq (w := .d (.int ((qs.length / 2 : Nat) : Int))) (de_bin (od_fdiv ⟨by decide, by decide⟩) (de_cb bu_lenL (da_l (de_vl 0) da_nil) (W.bl "len") boot_len) de_int) (by rw [List.length_map, e2])) (de_lst dd_nil) ?_
        refine ds_par2 3 4 (c_asc fm hr (by omega) (de_eq (v := .l true (cutD (qs.map numD) none (some ((qs.length / 2 : Nat) : Int)))) (w := .l true ((qs.take (qs.length / 2)).map numD)) (de_slL (de_vl 0) do_none (do_some (de_vd 1))) ?_) ?_ ?_ (by omega) pL sL) (c_asc fm hr (by omega) (de_eq (v := .l true (cutD (qs.map numD) (some ((qs.length / 2 : Nat) : Int)) none)) (w := .l true ((qs.drop (qs.length / 2)).map numD)) (de_slL (de_vl 0) (do_some (de_vd 1)) do_none) ?_) ?_ ?_ (by omega) pH sH) ?_
        · rw [cutD_take (by rw [List.length_map]; omega), List.map_take]
        · exact fun q hq => hb q (List.mem_of_mem_take hq)
        · rw [List.length_take]; omega
        · rw [cutD_drop (by rw [List.length_map]; omega), List.map_drop]
        · exact fun q hq => hb q (List.mem_of_mem_drop hq)
        · rw [List.length_drop]; omega
        refine ds_asg (de_tup (dd_cons de_int (dd_cons de_int dd_nil))) (dg_tup (dgs_cons (dg_name 5) (dgs_cons (dg_name 6) dgs_nil))) ?_
        refine ds_while (fun τ' => ∃ (fo : List Rat) (a b : Nat) (o : Option AV), τ' = [some (.l false (qs.map numD)), some (.d (.int ((qs.length / 2 : Nat) : Int))), some (.l true (fo.map numD)), some (.l true (L.map numD)), some (.l true (Hh.map numD)), some (.d (.int (a : Int))), some (.d (.int (b : Int))), o] ∧
            a ≤ L.length ∧ b ≤ Hh.length ∧ fo.Pairwise (· ≤ ·) ∧ (∀ x ∈ fo, ∀ y ∈ L.drop a ++ Hh.drop b, x ≤ y) ∧ (fo ++ (L.drop a ++ Hh.drop b)).Perm qs) (mAsc L.length Hh.length)
          ⟨[], 0, 0, _, rfl, Nat.zero_le _, Nat.zero_le _, .nil, fun x hx => by simp at hx, ?_⟩ fun τ' ⟨fo, a, b, o, e, ha, hb', sf, hf, pf⟩ => ?_
        · simp only [List.drop_zero, List.nil_append]
          exact (pL.append pH).trans (by rw [List.take_append_drop])
        · subst e
          have lf : fo.length ≤ 1024 := by
            have := pf.length_eq
            rw [List.length_append] at this
            omega
          refine ⟨_, dt_w (dw_and (dt_cmp od_lt (de_vd 5) (de_cb bu_lenL (da_l (de_vl 3) da_nil) (W.bl "len") boot_len)) fun h0 => (dw_and1 (dt_cmp od_lt (de_vd 6) (de_cb bu_lenL (da_l (de_vl 4) da_nil) (W.bl "len") boot_len)))), fun hc => ?_, fun hc => ?_⟩
          · have hab : a < L.length ∧ b < Hh.length := by simpa using hc
            obtain ⟨x, hx⟩ : ∃ x, L[a]? = some x := ⟨_, List.getElem?_eq_getElem hab.1⟩
            obtain ⟨y, hy⟩ : ∃ y, Hh[b]? = some y := ⟨_, List.getElem?_eq_getElem hab.2⟩
            have dL : L.drop a = x :: L.drop (a + 1) := by rw [List.drop_eq_getElem_cons hab.1]; congr 1; rw [List.getElem?_eq_getElem hab.1] at hx; exact Option.some.inj hx
            have dH : Hh.drop b = y :: Hh.drop (b + 1) := by rw [List.drop_eq_getElem_cons hab.2]; congr 1; rw [List.getElem?_eq_getElem hab.2] at hy; exact Option.some.inj hy
            have ix : atI (L.map numD) (a : Int) = some (numD x) := atI_nat (by rw [List.getElem?_map, hx]; rfl)
            have iy : atI (Hh.map numD) (b : Int) = some (numD y) := atI_nat (by rw [List.getElem?_map, hy]; rfl)
            have sLd : (L.drop a).Pairwise (· ≤ ·) := sL.sublist (List.drop_sublist _ _)
            have sHd : (Hh.drop b).Pairwise (· ≤ ·) := sH.sublist (List.drop_sublist _ _)
            rw [dL] at sLd; rw [dH] at sHd
            rw [List.pairwise_cons] at sLd sHd
            refine ds_set 7 (c_below W hr (de_ixL (de_vl 4) (de_vd 6) iy) (de_ixL (de_vl 3) (de_vd 5) ix) (bH y (List.mem_of_getElem? hy)).bn (bL x (List.mem_of_getElem? hx)).bn (by omega)) ?_
            by_cases hlt : y < x
            · rw [decide_eq_true hlt]
              refine ds_app 2 (de_if (k := true) (v := .d (numD y)) (dt_val (de_vd 7)) (fun h => (de_ixL (de_vl 4) (de_vd 6) iy)) (fun h => by cases h)) ?_ ?_
              · rw [List.length_map]; omega
              refine ds_par 5 6 (dd_cons (de_bin od_add (de_vd 5) (de_cty ty_intB (da_d (de_not (de_vd 7)) da_nil) (W.bl "int") boot_int)) (dd_cons (de_bin od_add (de_vd 6) (de_cty ty_intB (da_d (de_vd 7) da_nil) (W.bl "int") boot_int)) dd_nil)) (ds_nil ⟨⟨fo ++ [y], a, b + 1, some (.d (.bl true)), ?_, ha, hab.2, ?_, ?_, ?_⟩, ?_⟩)
              · rw [List.map_append]; simp
              · refine List.pairwise_append.mpr ⟨sf, by simp, fun z hz w hw => ?_⟩
                rw [List.mem_singleton.mp hw]; exact hf z hz y (by rw [dH]; simp)
              · intro z hz w hw
                rcases List.mem_append.mp hz with q | q
                · refine hf z q w ?_
                  rw [dH]
                  rcases List.mem_append.mp hw with q2 | q2
                  · simp [q2]
                  · simp [q2]
                · rw [List.mem_singleton.mp q]
                  rcases List.mem_append.mp hw with q2 | q2
                  · rw [dL] at q2
                    rcases List.mem_cons.mp q2 with q3 | q3
                    · rw [q3]; exact Rat.le_of_lt hlt
                    · exact Rat.le_trans (Rat.le_of_lt hlt) (sLd.1 w q3)
                  · exact sHd.1 w q2
              · refine List.Perm.trans ?_ pf
                rw [dH, List.append_assoc]
                refine List.Perm.append_left _ ?_
                exact (List.perm_middle (l₁ := L.drop a) (a := y) (l₂ := Hh.drop (b + 1))).symm
              · show (L.length - Int.toNat ((a : Int) + 0)) + (Hh.length - Int.toNat ((b : Int) + 1)) < (L.length - Int.toNat (a : Int)) + (Hh.length - Int.toNat (b : Int))
                omega
            · rw [decide_eq_false hlt]
              have hle : x ≤ y := Rat.not_lt.mp hlt
              refine ds_app 2 (de_if (k := false) (v := .d (numD x)) (dt_val (de_vd 7)) (fun h => by cases h) (fun h => (de_ixL (de_vl 3) (de_vd 5) ix))) ?_ ?_
              · rw [List.length_map]; omega
              refine ds_par 5 6 (dd_cons (de_bin od_add (de_vd 5) (de_cty ty_intB (da_d (de_not (de_vd 7)) da_nil) (W.bl "int") boot_int)) (dd_cons (de_bin od_add (de_vd 6) (de_cty ty_intB (da_d (de_vd 7) da_nil) (W.bl "int") boot_int)) dd_nil)) (ds_nil ⟨⟨fo ++ [x], a + 1, b, some (.d (.bl false)), ?_, hab.1, hb', ?_, ?_, ?_⟩, ?_⟩)
              · rw [List.map_append]; simp
              · refine List.pairwise_append.mpr ⟨sf, by simp, fun z hz w hw => ?_⟩
                rw [List.mem_singleton.mp hw]; exact hf z hz x (by rw [dL]; simp)
              · intro z hz w hw
                rcases List.mem_append.mp hz with q | q
                · refine hf z q w ?_
                  rw [dL]
                  rcases List.mem_append.mp hw with q2 | q2
                  · simp [q2]
                  · simp [q2]
                · rw [List.mem_singleton.mp q]
                  rcases List.mem_append.mp hw with q2 | q2
                  · exact sLd.1 w q2
                  · rw [dH] at q2
                    rcases List.mem_cons.mp q2 with q3 | q3
                    · rw [q3]; exact hle
                    · exact Rat.le_trans hle (sHd.1 w q3)
              · refine List.Perm.trans ?_ pf
                rw [dL, List.append_assoc]
                exact List.Perm.append_left _ (by simp)
              · show (L.length - Int.toNat ((a : Int) + 1)) + (Hh.length - Int.toNat ((b : Int) + 0)) < (L.length - Int.toNat (a : Int)) + (Hh.length - Int.toNat (b : Int))
                omega
          · refine ds_ret (a := .l true (rs.map numD)) (de_eq (de_bin (od_cat ?_) (de_bin (od_cat ?_) (de_vl 2) (de_slL (de_vl 3) (do_some (de_vd 5)) do_none)) (de_slL (de_vl 4) (do_some (de_vd 6)) do_none)) ?_) rfl
            · rw [cutD_drop (by rw [List.length_map]; exact ha), cutD_drop (by rw [List.length_map]; exact hb')]
              exact Evl.sz_of (by simp; omega)
            · rw [cutD_drop (by rw [List.length_map]; exact ha)]
              exact Evl.sz_of (by simp; omega)
            · rw [cutD_drop (by rw [List.length_map]; exact ha), cutD_drop (by rw [List.length_map]; exact hb'), ← List.map_drop, ← List.map_drop, ← List.map_append, ← List.map_append]
              have q : a = L.length ∨ b = Hh.length := by
                by_cases w : a < L.length
                · right
                  simp [w] at hc; omega
                · left; omega
              have srt : (fo ++ (L.drop a ++ Hh.drop b)).Pairwise (· ≤ ·) := by
                refine List.pairwise_append.mpr ⟨sf, ?_, hf⟩
                rcases q with q | q
                · rw [q, List.drop_length, List.nil_append]; exact sH.sublist (List.drop_sublist _ _)
                · rw [q, List.drop_length, List.append_nil]; exact sL.sublist (List.drop_sublist _ _)
              rw [List.append_assoc, sorted_uniq (pf.trans hp.symm) srt hs]
theorem fn_ascending {g : Ga} (W : Wd g) (base : Heap) : ∀ n, FnD g base "ascending" (3 + n) ["numbers"] [] (R_asc n)
  | 0 => fn_asc_step W base 0 fun m e => by cases e
  | n + 1 => fn_asc_step W base (n + 1) fun m e => by cases e; exact fn_ascending W base n
end BF

set_option Elab.async false
set_option linter.all false
set_option maxRecDepth 100000
set_option maxHeartbeats 1000000
set_option autoImplicit false
/-! stands_by. -/
namespace BF
open PySem PySem.Spec PyProof.Rows L2

abbrev RR := Rat × Rat
theorem rat_tr {a b c : Rat} (h : a < b) (h' : b < c) : a < c := by grind
theorem rat_ltr {a b c : Rat} (h : a ≤ b) (h' : b < c) : a < c := by grind
def lexLt (p q : RR) : Prop := p.1 < q.1 ∨ (p.1 = q.1 ∧ p.2 < q.2)
abbrev SL (ws : List RR) : Prop := ws.Pairwise lexLt
theorem lexLt_irrefl (p : RR) : ¬ lexLt p p := fun h => by rcases h with h | h; exact Rat.lt_irrefl h; exact Rat.lt_irrefl h.2
theorem lexLt_trans {p q r : RR} (h : lexLt p q) (h' : lexLt q r) : lexLt p r := by
  rcases h with h | ⟨h1, h2⟩ <;> rcases h' with h' | ⟨h1', h2'⟩
  · exact .inl (rat_tr h h')
  · exact .inl (by rw [← h1']; exact h)
  · exact .inl (by rw [h1]; exact h')
  · exact .inr ⟨h1.trans h1', rat_tr h2 h2'⟩
theorem SL.nodup {ws : List RR} (h : SL ws) : ws.Nodup := h.imp fun {a b} hab e => by subst e; exact lexLt_irrefl _ hab
theorem SL.uniq {xs ys : List RR} (h : SL xs) (h' : SL ys) (m : ∀ p, p ∈ xs ↔ p ∈ ys) : xs = ys :=
  List.Perm.eq_of_pairwise (le := lexLt) (fun a b _ _ h1 h2 => absurd (lexLt_trans h1 h2) (lexLt_irrefl _)) h h' ((List.perm_ext_iff_of_nodup h.nodup h'.nodup).mpr m)

/-- without repeats, a sorted list -/
noncomputable def ddI (ys : List Rat) (i : Nat) : Bool := decide (i = 0 ∨ ys[i - 1]? ≠ ys[i]?)
noncomputable def ddL (ys : List Rat) : List Rat := ((List.range ys.length).filter (ddI ys)).map fun i => ys[i]?.getD 0
theorem ddL_mem {ys : List Rat} (y : Rat) : y ∈ ddL ys ↔ y ∈ ys := by
  constructor
  · intro h
    obtain ⟨i, hi, rfl⟩ := List.mem_map.mp h
    have hl := List.mem_range.mp (List.mem_filter.mp hi).1
    rw [List.getElem?_eq_getElem hl]; exact List.getElem_mem hl
  · intro h
    obtain ⟨j, hj⟩ := List.mem_iff_getElem?.mp h
    -- the first place
    have key : ∀ n, ∀ j : Nat, j ≤ n → ys[j]? = some y → y ∈ ddL ys := by
      intro n
      induction n with
      | zero =>
        intro j hj h
        have : j = 0 := by omega
        subst this
        exact List.mem_map.mpr ⟨0, List.mem_filter.mpr ⟨List.mem_range.mpr (List.getElem?_eq_some_iff.mp h).1, by simp [ddI]⟩, by rw [h]; rfl⟩
      | succ n ih =>
        intro j hj h
        by_cases h0 : j = 0 ∨ ys[j - 1]? ≠ ys[j]?
        · exact List.mem_map.mpr ⟨j, List.mem_filter.mpr ⟨List.mem_range.mpr (List.getElem?_eq_some_iff.mp h).1, by unfold ddI; exact decide_eq_true h0⟩, by rw [h]; rfl⟩
        · have h1 : j ≠ 0 := fun z => h0 (.inl z)
          have h2 : ys[j - 1]? = ys[j]? := by
            by_cases q : ys[j - 1]? = ys[j]?
            · exact q
            · exact absurd (.inr q) h0
          exact ih (j - 1) (by omega) (h2.trans h)
    exact key j j (Nat.le_refl _) hj
theorem ddL_sorted {ys : List Rat} (h : ys.Pairwise (· ≤ ·)) : (ddL ys).Pairwise (· < ·) := by
  unfold ddL
  rw [List.pairwise_map]
  refine (List.Pairwise.sublist List.filter_sublist List.pairwise_lt_range).imp_of_mem ?_
  intro i j hi hj hij
  have li := List.mem_range.mp (List.mem_filter.mp hi).1
  have lj := List.mem_range.mp (List.mem_filter.mp hj).1
  have fj := (List.mem_filter.mp hj).2
  unfold ddI at fj
  have fj := of_decide_eq_true fj
  have g : ∀ a b, (ha : a < ys.length) → (hb : b < ys.length) → a ≤ b → ys[a] ≤ ys[b] := fun a b ha hb hab => by
    rcases Nat.lt_or_eq_of_le hab with q | q
    · exact List.pairwise_iff_getElem.mp h a b ha hb q
    · subst q; exact Rat.le_refl
  have l1 : j - 1 < ys.length := by omega
  rw [List.getElem?_eq_getElem li, List.getElem?_eq_getElem lj]
  rw [List.getElem?_eq_getElem lj, List.getElem?_eq_getElem l1] at fj
  have h1 := g i (j - 1) li l1 (by omega)
  have h2 := g (j - 1) j l1 lj (by omega)
  have h3 : ys[j - 1] ≠ ys[j] := by
    rcases fj with q | q
    · omega
    · exact fun z => q (by rw [z])
  show ys[i] < ys[j]
  exact rat_ltr h1 (Rat.lt_of_le_of_ne h2 h3)
theorem ddL_len (ys : List Rat) : (ddL ys).length ≤ ys.length := by
  unfold ddL
  rw [List.length_map]
  have := List.length_filter_le (ddI ys) (List.range ys.length)
  rw [List.length_range] at this; exact this

/-! ### what a dict of lists holds -/
abbrev FF := List (Rat × List Rat)
def fD (f : FF) : Kvs := f.map fun p => (numD p.1, .inr (p.2.map numD))
def InF (f : FF) (p : RR) : Prop := ∃ ys, (p.1, ys) ∈ f ∧ p.2 ∈ ys
structure FOk (f : FF) : Prop where
  nd : (f.map (·.1)).Nodup
  bk : ∀ p ∈ f, Bq p.1
  bv : ∀ p ∈ f, ∀ y ∈ p.2, Bq y
  few : f.length ≤ 256
  sml : ∀ p ∈ f, p.2.length ≤ 256
theorem fD_keys (f : FF) : (fD f).map (·.1) = (f.map (·.1)).map numD := by simp [fD, List.map_map]
theorem keyAt_fD {f : FF} (nd : (f.map (·.1)).Nodup) {x : Rat} {ys : List Rat} (h : (x, ys) ∈ f) : keyAt (fD f) (numD x) = some (.inr (ys.map numD)) := by
  induction f with
  | nil => cases h
  | cons a r ih =>
    rw [List.map_cons, List.nodup_cons] at nd
    unfold keyAt fD
    rw [List.map_cons, List.find?_cons]
    by_cases e : a.1 = x
    · have : a = (x, ys) := by
        rcases List.mem_cons.mp h with q | q
        · exact q.symm
        · exact absurd (List.mem_map.mpr ⟨_, q, rfl⟩) (by rw [← e] ; exact nd.1)
      subst this
      simp
    · have h' : (x, ys) ∈ r := by
        rcases List.mem_cons.mp h with q | q
        · rw [← q] at e; exact absurd rfl e
        · exact q
      have hn : decide (numD a.1 = numD x) = false := decide_eq_false fun z => e (numD_inj z)
      simp only [hn]
      exact ih nd.2 h'
theorem keyAt_fD_none {f : FF} {x : Rat} (h : x ∉ f.map (·.1)) : keyAt (fD f) (numD x) = none := by
  rw [keyAt_none, fD_keys]
  intro hm
  obtain ⟨y, h1, h2⟩ := List.mem_map.mp hm
  rw [numD_inj h2] at h1; exact h h1

theorem sc_stands_by : FnScope ["found", "stands", "x", "some", "at", "y"] ["found"] (defScope (top 50)) := ⟨rfl, rfl, rfl, by decide +kernel, rfl, by decide +kernel, by decide +kernel⟩
def R_stands_by (as : List AV) (r : AV) : Prop := ∃ (f : FF) (ws : List RR), FOk f ∧ SL ws ∧ (∀ p, p ∈ ws ↔ InF f p) ∧ as = [.m false (fD f)] ∧ r = .l true (ws.map stnD)
theorem stn_nb (p : RR) : (stnD p).nb = true := by simp [stnD, D.nb, D.nbs, numD_nb]
theorem stn_dep (p : RR) : (stnD p).dep ≤ 2 := by
  have h1 := numD_dep p.1; have h2 := numD_dep p.2
  simp only [stnD, D.dep, D.deps]; omega
theorem fn_stands_by {g : Ga} (W : Wd g) (base : Heap) : FnD g base "stands_by" 12 ["found"] [] R_stands_by := by
  obtain ⟨f, fd, hm, F⟩ := (W.fn "stands_by" 50).ex
  refine fnd_of (k := 11) hm F (F.binds fun _ _ _ _ _ _ us hl => match us, hl with | [_], _ => rfl) sc_stands_by (fun as r h => ?_) (fun as r h => ?_) fun cdv A outer s H E as r hr h => ?_
  · obtain ⟨q, _, _, _, _, rfl, _⟩ := h; rfl
  · obtain ⟨q, _, _, _, _, rfl, _⟩ := h; simp [AV.own]
  · obtain ⟨ff, ws, K, sw, mw, rfl, rfl⟩ := h
    have nd := sc_stands_by.nd
    have hu := hr.units
    have lff : List.length (fD ff) = ff.length := by simp [fD]
    have few := K.few
    obtain ⟨xs, px, sx⟩ := exists_sorted (ff.map (·.1))
    have lx : xs.length = ff.length := by rw [px.length_eq, List.length_map]
    have ndx : xs.Nodup := px.nodup_iff.mpr K.nd
    have sxs : xs.Pairwise (· < ·) := by
      refine (List.pairwise_and_iff.mpr ⟨sx, ndx⟩).imp fun {a b} h => Rat.lt_of_le_of_ne h.1 h.2
    refine ds_set 1 (de_lst dd_nil) <| ds_for (di_new (c_asc (fn_ascending W base 8) hr (by decide) (o := true) (qs := ff.map (·.1)) (rs := xs) (de_eq (de_cty (ty_listM (kvs := fD ff) rfl (by omega)) (da_m (de_vm 0) da_nil) (W.bl "list") boot_list) (by rw [fD_keys])) (fun q hq => ?_) (by rw [List.length_map]; omega) (by decide) px sx))
      (fun i τ' => ∃ (us : List RR) (o2 o3 o4 o5 : Option AV), τ' = [some (.m false (fD ff)), some (.l true (us.map stnD)), o2, o3, o4, o5] ∧ SL us ∧ (∀ p, p ∈ us ↔ p.1 ∈ xs.take i ∧ InF ff p) ∧ us.length ≤ 256 * i) ⟨[], _, _, _, _, rfl, .nil, fun p => by simp, Nat.zero_le _⟩ (fun i d τ' hd ⟨us, o2, o3, o4, o5, e, su, mu, lu⟩ => ?_) fun τ' ⟨us, o2, o3, o4, o5, e, su, mu, lu⟩ => ?_
    · obtain ⟨p, h1, rfl⟩ := List.mem_map.mp hq
      exact K.bk p h1
    · subst e
      rw [List.getElem?_map] at hd
      obtain ⟨x, hx, rfl⟩ := Option.map_eq_some_iff.mp hd
      have hil : i < ff.length := by rw [← lx]; exact (List.getElem?_eq_some_iff.mp hx).1
      obtain ⟨⟨x', ys⟩, hm', rfl⟩ := List.mem_map.mp (px.mem_iff.mp (List.mem_of_getElem? hx))
      obtain ⟨zs, pz, sz⟩ := exists_sorted ys
      have ly : ys.length ≤ 256 := K.sml _ hm'
      have lz : zs.length = ys.length := pz.length_eq
      refine ⟨_, dg_name 2, ds_set 3 (c_asc (fn_ascending W base 8) hr (by decide) (qs := ys) (rs := zs) (de_mixL 0 (de_vd 2) (numD_nb _) (Nat.le_trans (numD_dep _) (by decide)) hu (keyAt_fD K.nd hm')) (K.bv _ hm') (by omega) (by decide) pz sz) (ds_seal 3 (ds_ext 1 (ys := (ddL zs).map fun y => stnD (x', y)) (o := true) ?_ ?_ (ds_nil ⟨us ++ (ddL zs).map fun y => (x', y), some (.d (numD x')), some (.l false (zs.map numD)), o4, o5, ?_, ?_, ?_, ?_⟩)))⟩
      · refine de_eq (de_lc [("at", 4), ("y", 5)] (ddI zs) (fun i => stnD (x', zs[i]?.getD 0)) (di_enum (ls_var 3) (W.bl "enumerate")) (by rw [enD_len, List.length_map]; omega) (fun i d hd => ?_) ?_) ?_
        · rw [enD_get, List.getElem?_map, Option.map_map] at hd
          obtain ⟨y, hy, rfl⟩ := Option.map_eq_some_iff.mp hd
          refine ⟨_, fun s H C cl fp => ⟨dw_tup (dsw_cons (dw_name 4) (dsw_cons (dw_name 5) dsw_nil)), dts_one (dt_eq (dt_w (dw_or (dt_cmp od_eqI (de_vd 4) de_int) fun h0 => (dw_or1 (dt_cmp (od_neD hu (x := numD (zs[i - 1]?.getD 0)) (numD_nb _) (numD_nb _) (Nat.le_trans (numD_dep _) (by decide)) (Nat.le_trans (numD_dep _) (by decide))) (de_ixL (de_vl 3) (de_bin od_sub (de_vd 4) de_int) ?_) (de_vd 5))))) ?_), fun _ => de_eq (de_tup (dd_cons (de_vd 2) (dd_cons (de_vd 5) dd_nil))) (by rw [hy]; rfl)⟩⟩
          · have hi0 : i ≠ 0 := by
              intro z; subst z; simp at h0
            have hl1 : i - 1 < zs.length := by have := (List.getElem?_eq_some_iff.mp hy).1; omega
            have e1 : ((i : Int) - 1) = ((i - 1 : Nat) : Int) := by omega
            rw [e1]
            exact atI_nat (by rw [List.getElem?_map, List.getElem?_eq_getElem hl1]; rfl)
          · unfold ddI
            rw [Bool.eq_iff_iff]
            by_cases hi0 : i = 0
            · subst hi0; simp
            · have hl1 : i - 1 < zs.length := by have := (List.getElem?_eq_some_iff.mp hy).1; omega
              have hi1 : ¬ ((i : Int) = 0) := by omega
              rw [hy, List.getElem?_eq_getElem hl1]
              simp [hi0, hi1, numD_iff]
        · show BlkOk ["found", "stands", "x", "some", "at", "y"] (defScope (top 50)) _ _
          exact blkOk_by (by decide +kernel)
        · congr 1
          rw [enD_len, List.length_map]
          unfold ddL
          rw [List.map_map]; rfl
      · have := ddL_len zs
        simp; omega
      · rw [List.map_append, List.map_map]; rfl
      · refine List.pairwise_append.mpr ⟨su, ?_, fun p hp q hq => ?_⟩
        · rw [List.pairwise_map]
          exact (ddL_sorted sz).imp fun {a b} h => .inr ⟨rfl, h⟩
        · obtain ⟨y, hy, rfl⟩ := List.mem_map.mp hq
          obtain ⟨h1, _⟩ := (mu p).mp hp
          left
          obtain ⟨j, hj⟩ := List.mem_iff_getElem?.mp h1
          have hji : j < i := by
            have := (List.getElem?_eq_some_iff.mp hj).1
            rw [List.length_take] at this; omega
          rw [List.getElem?_take_of_lt hji] at hj
          obtain ⟨a1, a2⟩ := List.getElem?_eq_some_iff.mp hj
          obtain ⟨b1, b2⟩ := List.getElem?_eq_some_iff.mp hx
          have := List.pairwise_iff_getElem.mp sxs j i a1 b1 hji
          rw [a2, b2] at this; exact this
      · intro p
        rw [List.mem_append, mu p, List.take_add_one, hx]
        constructor
        · rintro (⟨h1, h2⟩ | h)
          · exact ⟨by simp [h1], h2⟩
          · obtain ⟨y, hy, rfl⟩ := List.mem_map.mp h
            exact ⟨by simp, ys, hm', pz.mem_iff.mp ((ddL_mem y).mp hy)⟩
        · rintro ⟨h1, h2⟩
          rcases List.mem_append.mp h1 with q | q
          · exact .inl ⟨q, h2⟩
          · right
            have q' : p.1 = x' := by simpa using q
            obtain ⟨ys', g1, g2⟩ := h2
            have : ys' = ys := by
              have w1 := keyAt_fD K.nd g1
              rw [q', keyAt_fD K.nd hm'] at w1
              have w2 : ys'.map numD = ys.map numD := (Sum.inr.inj (Option.some.inj w1)).symm
              exact (List.map_inj_right (fun a b h => numD_inj h)).mp w2
            subst this
            refine List.mem_map.mpr ⟨p.2, (ddL_mem _).mpr (pz.mem_iff.mpr g2), by rw [← q']⟩
      · have := ddL_len zs
        rw [List.length_append, List.length_map]; omega
    · subst e
      rw [List.length_map, List.take_length] at mu
      refine ds_retL 1 ?_
      congr 2
      refine SL.uniq su sw fun p => ?_
      rw [mu p, mw p]
      exact ⟨fun h => h.2, fun h => ⟨px.mem_iff.mpr (by obtain ⟨ys, h1, _⟩ := h; exact List.mem_map.mpr ⟨_, h1, rfl⟩), h⟩⟩
theorem c_stands_by {X : Cx} {τ : AE} {e1 : Expr} {p pos : Pos} {j : Nat} (W : Wd (gaOf X)) (hr : Room j X.A) {f : FF} {ws : List RR} (h1 : DE X τ e1 (.m false (fD f))) (K : FOk f) (sw : SL ws) (mw : ∀ p, p ∈ ws ↔ InF f p) (hj : 12 ≤ j := by decide) (c : CallOk X "stands_by" e1 [] pos := by exact ⟨rfl, rfl, rfl⟩) :
    DE X τ (.Call (.Name "stands_by" p) [e1] [] pos) (.l true (ws.map stnD)) := call1 (fn_stands_by W X.base) hr hj h1 ⟨f, ws, K, sw, mw, rfl, rfl⟩ c (by decide)
end BF

set_option Elab.async false
set_option linter.all false
set_option maxRecDepth 100000
set_option maxHeartbeats 1000000
set_option autoImplicit false
/-! all_stands. -/
namespace BF
open PySem PySem.Spec PyProof.Rows L2

/-! ### a dict of lists grows -/
noncomputable def putF (f : FF) (x : Rat) (ys : List Rat) : FF := if x ∈ f.map (·.1) then f.map (fun p => if p.1 = x then (x, ys) else p) else f ++ [(x, ys)]
theorem putF_D (f : FF) (x : Rat) (ys : List Rat) : putA (fD f) (numD x) (.inr (ys.map numD)) = fD (putF f x ys) := by
  have hk : numD x ∈ (fD f).map (·.1) ↔ x ∈ f.map (·.1) := by
    rw [fD_keys]
    exact ⟨fun h => by obtain ⟨y, h1, h2⟩ := List.mem_map.mp h; rw [← numD_inj h2]; exact h1, fun h => List.mem_map_of_mem h⟩
  unfold putA putF
  by_cases h : x ∈ f.map (·.1)
  · rw [if_pos h, if_pos (hk.mpr h)]
    unfold fD
    rw [List.map_map, List.map_map]
    apply List.map_congr_left
    intro p _
    show (if numD p.1 = numD x then _ else _) = _
    by_cases e : p.1 = x
    · rw [if_pos (by rw [e])]
      simp [Function.comp, e]
    · rw [if_neg (fun z => e (numD_inj z))]
      simp [Function.comp, e]
  · rw [if_neg h, if_neg (fun z => h (hk.mp z))]
    simp [fD]
theorem putF_keys (f : FF) (x : Rat) (ys : List Rat) : (putF f x ys).map (·.1) = if x ∈ f.map (·.1) then f.map (·.1) else f.map (·.1) ++ [x] := by
  unfold putF
  split
  · rw [List.map_map]
    apply List.map_congr_left
    intro a _
    show (if a.1 = x then (x, ys) else a).1 = a.1
    split
    · rename_i h; exact h.symm
    · rfl
  · simp
theorem putF_mem {f : FF} {x : Rat} {ys : List Rat} {p : Rat × List Rat} (h : p ∈ putF f x ys) : p = (x, ys) ∨ (p ∈ f ∧ p.1 ≠ x) := by
  unfold putF at h
  split at h
  · obtain ⟨q, h1, h2⟩ := List.mem_map.mp h
    by_cases e : q.1 = x
    · rw [if_pos e] at h2; exact .inl h2.symm
    · rw [if_neg e] at h2; subst h2; exact .inr ⟨h1, e⟩
  · rename_i hn
    rcases List.mem_append.mp h with q | q
    · exact .inr ⟨q, fun e => hn (List.mem_map.mpr ⟨p, q, e⟩)⟩
    · exact .inl (List.mem_singleton.mp q)
theorem putF_in {f : FF} {x : Rat} {ys : List Rat} (p : RR) : InF (putF f x ys) p ↔ (p.1 ≠ x ∧ InF f p) ∨ (p.1 = x ∧ p.2 ∈ ys) := by
  constructor
  · rintro ⟨zs, h1, h2⟩
    rcases putF_mem h1 with e | ⟨h3, h4⟩
    · right; cases e; exact ⟨rfl, h2⟩
    · left; exact ⟨h4, zs, h3, h2⟩
  · rintro (⟨h1, zs, h2, h3⟩ | ⟨h1, h2⟩)
    · refine ⟨zs, ?_, h3⟩
      unfold putF
      split
      · exact List.mem_map.mpr ⟨_, h2, by rw [if_neg h1]⟩
      · exact List.mem_append_left _ h2
    · refine ⟨ys, ?_, h2⟩
      rw [h1]
      unfold putF
      split
      · rename_i hm
        obtain ⟨q, q1, q2⟩ := List.mem_map.mp hm
        exact List.mem_map.mpr ⟨q, q1, by rw [if_pos q2]⟩
      · exact List.mem_append_right _ (by simp)
/-- sizes -/
structure FB (f : FF) (n : Nat) : Prop where
  nd : (f.map (·.1)).Nodup
  bk : ∀ p ∈ f, Bq p.1
  bv : ∀ p ∈ f, ∀ y ∈ p.2, Bq y
  few : f.length ≤ n
  sml : ∀ p ∈ f, p.2.length ≤ n
theorem FB.ok {f : FF} {n : Nat} (h : FB f n) (hn : n ≤ 256) : FOk f := ⟨h.nd, h.bk, h.bv, Nat.le_trans h.few hn, fun p hp => Nat.le_trans (h.sml p hp) hn⟩
theorem FB.put {f : FF} {n : Nat} (h : FB f n) {x : Rat} {ys : List Rat} (hx : Bq x) (hy : ∀ y ∈ ys, Bq y) (hl : ys.length ≤ n + 1) : FB (putF f x ys) (n + 1) := by
  refine ⟨?_, fun p hp => ?_, fun p hp => ?_, ?_, fun p hp => ?_⟩
  · rw [putF_keys]
    split
    · exact h.nd
    · rename_i hn
      exact List.nodup_append.mpr ⟨h.nd, by simp, fun a ha b hb => by rw [List.mem_singleton.mp hb]; exact fun z => hn (z ▸ ha)⟩
  · rcases putF_mem hp with e | e
    · rw [e]; exact hx
    · exact h.bk p e.1
  · rcases putF_mem hp with e | e
    · rw [e]; exact hy
    · exact h.bv p e.1
  · have := h.few
    unfold putF
    split
    · rw [List.length_map]; omega
    · rw [List.length_append, List.length_singleton]; omega
  · rcases putF_mem hp with e | e
    · rw [e]; exact hl
    · have := h.sml p e.1; omega
noncomputable def lookF (f : FF) (x : Rat) : List Rat := ((f.find? fun p => decide (p.1 = x)).map (·.2)).getD []
theorem lookF_or (f : FF) (x : Rat) : (∃ ys, (x, ys) ∈ f ∧ lookF f x = ys) ∨ (x ∉ f.map (·.1) ∧ lookF f x = []) := by
  unfold lookF
  cases h : f.find? fun p => decide (p.1 = x) with
  | none =>
    right
    refine ⟨fun hm => ?_, rfl⟩
    obtain ⟨p, h1, h2⟩ := List.mem_map.mp hm
    exact List.find?_eq_none.mp h p h1 (by simpa using h2)
  | some p =>
    left
    have h1 := List.find?_some h
    have h2 := List.mem_of_find?_eq_some h
    have e : p.1 = x := by simpa using h1
    exact ⟨p.2, by rw [← e]; exact h2, rfl⟩
theorem look_hr {f : FF} (nd : (f.map (·.1)).Nodup) (x : Rat) : keyAt (fD f) (numD x) = some (.inr ((lookF f x).map numD)) ∨ (keyAt (fD f) (numD x) = none ∧ (lookF f x).map numD = []) := by
  rcases lookF_or f x with ⟨ys, h1, h2⟩ | ⟨h1, h2⟩
  · left; rw [h2]; exact keyAt_fD nd h1
  · right; exact ⟨keyAt_fD_none h1, by rw [h2]; rfl⟩
theorem look_in {f : FF} (nd : (f.map (·.1)).Nodup) (x y : Rat) : y ∈ lookF f x ↔ InF f (x, y) := by
  rcases lookF_or f x with ⟨ys, h1, h2⟩ | ⟨h1, h2⟩
  · rw [h2]
    refine ⟨fun h => ⟨ys, h1, h⟩, fun ⟨zs, h3, h4⟩ => ?_⟩
    have : zs = ys := by
      have w1 := keyAt_fD nd h3
      rw [keyAt_fD nd h1] at w1
      exact (List.map_inj_right (fun a b h => numD_inj h)).mp (Sum.inr.inj (Option.some.inj w1)).symm
    rw [← this]; exact h4
  · rw [h2]
    refine ⟨fun h => by simp at h, fun ⟨zs, h3, h4⟩ => absurd (List.mem_map.mpr ⟨_, h3, rfl⟩) h1⟩
theorem add_in {f : FF} (nd : (f.map (·.1)).Nodup) (x y : Rat) (p : RR) : InF (putF f x (lookF f x ++ [y])) p ↔ InF f p ∨ p = (x, y) := by
  obtain ⟨a, b⟩ := p
  rw [putF_in]
  simp only [List.mem_append, List.mem_singleton, Prod.mk.injEq]
  rw [look_in nd]
  constructor
  · rintro (⟨h1, h2⟩ | ⟨h1, h2 | h2⟩)
    · exact .inl h2
    · exact .inl (by rw [h1]; exact h2)
    · exact .inr ⟨h1, h2⟩
  · rintro (h | ⟨h1, h2⟩)
    · by_cases e : a = x
      · exact .inr ⟨e, .inl (e ▸ h)⟩
      · exact .inl ⟨e, h⟩
    · exact .inr ⟨h1, .inr h2⟩
theorem FB.add {f : FF} {n : Nat} (h : FB f n) {x y : Rat} (hx : Bq x) (hy : Bq y) : FB (putF f x (lookF f x ++ [y])) (n + 1) := by
  refine h.put hx (fun z hz => ?_) ?_
  · rcases List.mem_append.mp hz with q | q
    · rcases lookF_or f x with ⟨ys, h1, h2⟩ | ⟨h1, h2⟩
      · rw [h2] at q; exact h.bv _ h1 z q
      · rw [h2] at q; cases q
    · rw [List.mem_singleton.mp q]; exact hy
  · rw [List.length_append, List.length_singleton]
    rcases lookF_or f x with ⟨ys, h1, h2⟩ | ⟨h1, h2⟩
    · rw [h2]; have q : ys.length ≤ n := h.sml _ h1
      omega
    · rw [h2]; simp
/-! ### places along a profile -/
theorem PV.lt {cs : List Pt} (P : PV cs) {i j : Nat} {a b : Pt} (hi : cs[i]? = some a) (hj : cs[j]? = some b) (h : i < j) : a.1 < b.1 := by
  induction j generalizing b with
  | zero => omega
  | succ j ih =>
    have lj := (List.getElem?_eq_some_iff.mp hj).1
    have hj' : cs[j]? = some (cs[j]'(by omega)) := List.getElem?_eq_getElem _
    have S := (P.sd _ (List.mem_of_getElem? (sides_at hj' hj))).inc
    by_cases e : i = j
    · subst e; rw [hi] at hj'; cases hj'; exact S
    · exact Int.lt_trans (ih hj' (by omega)) S
theorem PV.bd {cs : List Pt} (P : PV cs) {c : Pt} (h : c ∈ cs) : c.1.natAbs ≤ 64 ∧ c.2.natAbs ≤ 64 := by
  obtain ⟨i, hi⟩ := List.mem_iff_getElem?.mp h
  have l := (List.getElem?_eq_some_iff.mp hi).1
  have h2 := P.two
  by_cases e : i + 1 < cs.length
  · have S := P.sd _ (List.mem_of_getElem? (sides_at hi (List.getElem?_eq_getElem e)))
    exact ⟨S.b1, S.b2⟩
  · obtain ⟨j, rfl⟩ : ∃ j, i = j + 1 := ⟨i - 1, by omega⟩
    have S := P.sd _ (List.mem_of_getElem? (sides_at (List.getElem?_eq_getElem (by omega)) hi))
    exact ⟨S.b3, S.b4⟩
theorem plcs_bd {ss : List Side} (hs : ∀ s ∈ ss, SV s) {h : Int} (hh : h.natAbs ≤ 64) : ∀ q ∈ plcs ss h, Bq q := by
  have key : ∀ (ss : List Side) (acc : List Rat), (∀ s ∈ ss, SV s) → (∀ q ∈ acc, Bq q) → ∀ q ∈ ss.foldl (plStep h) acc, Bq q := by
    intro ss
    induction ss with
    | nil => intro acc _ h; exact h
    | cons s r ih =>
      intro acc h1 h2
      refine ih _ (fun t ht => h1 t (List.mem_cons_of_mem _ ht)) fun q hq => ?_
      unfold plStep at hq
      split at hq
      · rcases List.mem_append.mp hq with z | z
        · exact h2 q z
        · rw [List.mem_singleton.mp z]; exact pon_bd (h1 s List.mem_cons_self) hh
      · exact h2 q hq
  exact key ss [] hs (fun q hq => by cases hq)
theorem plcs_len8 {cs : List Pt} (P : PV cs) (h : Int) : (plcs (sidesL cs) h).length ≤ 7 := by
  have h1 := plcs_len h (sidesL cs) []
  have h2 := sides_len cs
  have h3 := P.few
  have : (plcs (sidesL cs) h).length ≤ 0 + (sidesL cs).length := h1
  omega
/-- the program's stands -/
def stA (cs ds : List Pt) (p : RR) : Prop := ∃ c ∈ cs, p.1 = (c.1 : Rat) ∧ p.2 ∈ plcs (sidesL ds) c.2
def stB (cs ds : List Pt) (p : RR) : Prop := ∃ c ∈ ds, p.2 = (c.1 : Rat) ∧ p.1 ∈ plcs (sidesL cs) c.2
theorem sc_all_stands : FnScope ["one", "other", "found", "place", "height", "x"] ["one", "other"] (defScope (top 51)) := ⟨rfl, rfl, rfl, by decide +kernel, rfl, by decide +kernel, by decide +kernel⟩
def R_all_stands (as : List AV) (r : AV) : Prop := ∃ (cs ds : List Pt) (ws : List RR), PV cs ∧ PV ds ∧ SL ws ∧ (∀ p, p ∈ ws ↔ stA cs ds p ∨ stB cs ds p) ∧ as = [.pr cs, .pr ds] ∧ r = .l true (ws.map stnD)
theorem fn_all_stands {g : Ga} (W : Wd g) (base : Heap) : FnD g base "all_stands" 13 ["one", "other"] [] R_all_stands := by
  obtain ⟨f, fd, hm, F⟩ := (W.fn "all_stands" 51).ex
  refine fnd_of (k := 12) hm F (F.binds fun _ _ _ _ _ _ us hl => match us, hl with | [_, _], _ => rfl) sc_all_stands (fun as r h => ?_) (fun as r h => ?_) fun cdv A outer s H E as r hr h => ?_
  · obtain ⟨_, _, _, _, _, _, _, rfl, _⟩ := h; rfl
  · obtain ⟨_, _, _, _, _, _, _, rfl, _⟩ := h; simp [AV.own]
  · obtain ⟨cs, ds, ws, P, P', sw, mw, rfl, rfl⟩ := h
    have nd := sc_all_stands.nd
    have hu := hr.units
    have c8 := P.few
    have d8 := P'.few
    refine ds_dnew 2 <| ds_for (ds := cs.map corD) (di_tup (de_cor W.pf (de_vp 0))) (fun i τ' => i ≤ cs.length ∧ ∃ (ff : FF) (o3 o4 : Option AV), τ' = [some (.pr cs), some (.pr ds), some (.m true (fD ff)), o3, o4, none] ∧ FB ff (7 + i) ∧ ∀ p, InF ff p ↔ stA (cs.take i) ds p)
      ⟨Nat.zero_le _, [], none, none, rfl, ⟨List.nodup_nil, fun _ h => (by cases h), fun _ h => (by cases h), by simp, fun _ h => (by cases h)⟩, fun p => ⟨fun ⟨_, h, _⟩ => (by cases h), fun ⟨_, h, _⟩ => (by simp at h)⟩⟩
      (fun i d τ' hd ⟨hi, ff, o3, o4, e, K, m⟩ => ?_) fun τ' ⟨hi, ff, o3, o4, e, K, m⟩ => ?_
    · subst e
      rw [List.getElem?_map] at hd
      obtain ⟨⟨pl, ht⟩, hc, rfl⟩ := Option.map_eq_some_iff.mp hd
      have hil := (List.getElem?_eq_some_iff.mp hc).1
      have bc := P.bd (List.mem_of_getElem? hc)
      have hK := K.few
      refine ⟨_, dg_tup (dgs_cons (dg_name 3) (dgs_cons (dg_name 4) dgs_nil)), ds_mput 2 (.inr ((plcs (sidesL ds) ht).map numD)) (de_cty ty_listL (da_l (c_places_in W hr (de_vp 1) (de_vd 4) P' bc.2) da_nil) (W.bl "list") boot_list) (dn (de_vd 3)) ⟨rfl, rfl⟩ (numD_nb _) (Nat.le_trans (numD_dep _) (by decide)) (by show (fD ff).length < 100000; unfold fD; rw [List.length_map]; omega) hu
        (ds_nil ⟨hil, putF ff (pl : Rat) (plcs (sidesL ds) ht), some (.d (.int pl)), some (.d (.int ht)), by rw [putF_D]; rfl, ?_, fun p => ?_⟩)⟩
      · exact K.put ((Bd.i64 bc.1).mono (by decide) (by decide)) (plcs_bd P'.sd bc.2) (by have := plcs_len8 P' ht; omega)
      · rw [putF_in, m p]
        constructor
        · rintro (⟨h1, c, h2, h3⟩ | ⟨h1, h2⟩)
          · exact ⟨c, by rw [List.take_add_one]; exact List.mem_append_left _ h2, h3⟩
          · exact ⟨(pl, ht), by rw [List.take_add_one, hc]; simp, h1, h2⟩
        · rintro ⟨c, h2, h3, h4⟩
          rcases take_mem_succ hc h2 with q | q
          · left
            refine ⟨fun z => ?_, c, q, h3, h4⟩
            obtain ⟨j, hj⟩ := List.mem_iff_getElem?.mp q
            have hji : j < i := by
              have := (List.getElem?_eq_some_iff.mp hj).1
              rw [List.length_take] at this; omega
            rw [List.getElem?_take_of_lt hji] at hj
            have := P.lt hj hc hji
            rw [h3] at z
            have z' : c.1 = pl := by exact_mod_cast z
            simp at this; omega
          · right; subst q; exact ⟨h3, h4⟩
    · subst e
      rw [List.length_map, List.take_length] at m
      rw [List.length_map] at K
      refine ds_for (ds := ds.map corD) (di_tup (de_cor W.pf (de_vp 1))) (fun i τ' => i ≤ ds.length ∧ ∃ (ff : FF) (o3 o4 o5 : Option AV), τ' = [some (.pr cs), some (.pr ds), some (.m true (fD ff)), o3, o4, o5] ∧ FB ff (15 + 8 * i) ∧ ∀ p, InF ff p ↔ stA cs ds p ∨ stB cs (ds.take i) p)
        ⟨Nat.zero_le _, ff, o3, o4, none, rfl, ⟨K.nd, K.bk, K.bv, by have := K.few; omega, fun p hp => by have := K.sml p hp; omega⟩, fun p => by rw [m p]; exact ⟨.inl, fun h => h.elim id fun ⟨_, h, _⟩ => by simp at h⟩⟩
        (fun i d τ' hd ⟨hi, ff, o3, o4, o5, e, K, m⟩ => ?_) fun τ' ⟨hi, ff, o3, o4, o5, e, K, m⟩ => ?_
      · subst e
        rw [List.getElem?_map] at hd
        obtain ⟨⟨pl, ht⟩, hc, rfl⟩ := Option.map_eq_some_iff.mp hd
        have hil := (List.getElem?_eq_some_iff.mp hc).1
        have bc := P'.bd (List.mem_of_getElem? hc)
        have l7 := plcs_len8 P ht
        refine ⟨_, dg_tup (dgs_cons (dg_name 3) (dgs_cons (dg_name 4) dgs_nil)), ds_for (di_new (c_places_in W hr (de_vp 0) (de_vd 4) P bc.2))
          (fun j τ' => ∃ (ff : FF) (o5 : Option AV), τ' = [some (.pr cs), some (.pr ds), some (.m true (fD ff)), some (.d (.int pl)), some (.d (.int ht)), o5] ∧ j ≤ (plcs (sidesL cs) ht).length ∧ FB ff (15 + 8 * i + j) ∧ ∀ p, InF ff p ↔ (stA cs ds p ∨ stB cs (ds.take i) p) ∨ (p.2 = (pl : Rat) ∧ p.1 ∈ (plcs (sidesL cs) ht).take j))
          ⟨ff, o5, rfl, Nat.zero_le _, K, fun p => by rw [m p]; simp⟩ (fun j d τ' hd ⟨ff, o5, e, hj, K, m⟩ => ?_) fun τ' ⟨ff, o5, e, hj, K, m⟩ => ?_⟩
        · subst e
          rw [List.getElem?_map] at hd
          obtain ⟨x, hx, rfl⟩ := Option.map_eq_some_iff.mp hd
          have hjl := (List.getElem?_eq_some_iff.mp hx).1
          have bx := plcs_bd P.sd bc.2 x (List.mem_of_getElem? hx)
          have hK := K.few
          refine ⟨_, dg_name 5, ds_mput 2 (.inr ((lookF ff x ++ [(pl : Rat)]).map numD)) (de_eq (w := .l true ((lookF ff x ++ [(pl : Rat)]).map numD)) (de_lst (dd_star (de_mget2 2 (de_vd 5) (numD_nb _) (Nat.le_trans (numD_dep _) (by decide)) hu (look_hr K.nd x)) (dd_cons (dn (de_vd 3)) dd_nil)) ?_) ?_) (de_vd 5) ⟨rfl, rfl⟩ (numD_nb _) (Nat.le_trans (numD_dep _) (by decide)) (by show (fD ff).length < 100000; unfold fD; rw [List.length_map]; omega) hu
            (ds_nil ⟨putF ff x (lookF ff x ++ [(pl : Rat)]), some (.d (numD x)), by rw [putF_D]; rfl, hjl, K.add bx ((Bd.i64 bc.1).mono (by decide) (by decide)), fun p => ?_⟩)⟩
          · rcases lookF_or ff x with ⟨ys, h1, h2⟩ | ⟨h1, h2⟩
            · have := K.sml _ h1
              rw [h2]; simp; simp at this; omega
            · rw [h2]; simp
          · rw [List.map_append]; rfl
          · rw [add_in K.nd, m p, List.take_add_one, hx]
            constructor
            · rintro ((h | ⟨h1, h2⟩) | h)
              · exact .inl h
              · exact .inr ⟨h1, List.mem_append_left _ h2⟩
              · rw [h]; exact .inr ⟨rfl, by simp⟩
            · rintro (h | ⟨h1, h2⟩)
              · exact .inl (.inl h)
              · rcases List.mem_append.mp h2 with q | q
                · exact .inl (.inr ⟨h1, q⟩)
                · right
                  have q' : p.1 = x := by simpa using q
                  rw [← q', ← h1]
        · subst e
          rw [List.length_map, List.take_length] at m
          rw [List.length_map] at K
          have K : FB ff (15 + 8 * i + (plcs (sidesL cs) ht).length) := K
          refine ds_nil ⟨hil, ff, _, _, _, rfl, ⟨K.nd, K.bk, K.bv, by have := K.few; omega, fun p hp => by have := K.sml p hp; omega⟩, fun p => ?_⟩
          rw [m p]
          constructor
          · rintro ((h | ⟨c, h1, h2⟩) | ⟨h1, h2⟩)
            · exact .inl h
            · exact .inr ⟨c, by rw [List.take_add_one]; exact List.mem_append_left _ h1, h2⟩
            · exact .inr ⟨(pl, ht), by rw [List.take_add_one, hc]; simp, h1, h2⟩
          · rintro (h | ⟨c, h1, h2, h3⟩)
            · exact .inl (.inl h)
            · rcases take_mem_succ hc h1 with q | q
              · exact .inl (.inr ⟨c, q, h2, h3⟩)
              · subst q; exact .inr ⟨h2, h3⟩
      · subst e
        rw [List.length_map, List.take_length] at m
        rw [List.length_map] at K
        exact ds_ret (c_stands_by W hr (de_vm 2) (K.ok (by omega)) sw (fun p => by rw [mw p, m p])) rfl
theorem c_all_stands {X : Cx} {τ : AE} {e1 e2 : Expr} {p pos : Pos} {j : Nat} (W : Wd (gaOf X)) (hr : Room j X.A) {cs ds : List Pt} {ws : List RR} (h1 : DE X τ e1 (.pr cs)) (h2 : DE X τ e2 (.pr ds)) (P : PV cs) (P' : PV ds) (sw : SL ws) (mw : ∀ p, p ∈ ws ↔ stA cs ds p ∨ stB cs ds p) (hj : 13 ≤ j := by decide) (c : CallOk X "all_stands" e1 [e2] pos := by exact ⟨rfl, rfl, rfl⟩) (c2 : StarOk X e2 [] := by exact ⟨rfl⟩) :
    DE X τ (.Call (.Name "all_stands" p) [e1, e2] [] pos) (.l true (ws.map stnD)) := call2 (fn_all_stands W X.base) hr hj h1 h2 ⟨cs, ds, ws, P, P', sw, mw, rfl, rfl⟩ c c2 (by decide)
end BF

set_option Elab.async false
set_option linter.all false
set_option maxRecDepth 100000
set_option maxHeartbeats 1000000
set_option autoImplicit false
/-! Ways. -/
namespace BF
open PySem PySem.Spec PyProof.Rows L2

noncomputable def prs (cs ds : List Pt) (q : RR) (up : Bool) : List (Nat × Nat) := (leadI cs q.1 up).flatMap fun i => (leadI ds q.2 up).map fun j => (i, j)
def ppD (p : Nat × Nat) : D := .tup [natD p.1, natD p.2]
theorem leadI_mem {cs : List Pt} {x : Rat} {up : Bool} {i : Nat} : i ∈ leadI cs x up ↔ ∃ s, (sidesL cs)[i]? = some s ∧ leadC up s x := by
  unfold leadI
  rw [List.mem_filter, List.mem_range]
  constructor
  · rintro ⟨h1, h2⟩
    rw [List.getElem?_eq_getElem h1] at h2 ⊢
    exact ⟨_, rfl, by simpa using h2⟩
  · rintro ⟨s, h1, h2⟩
    refine ⟨(List.getElem?_eq_some_iff.mp h1).1, ?_⟩
    rw [h1]; simpa using h2
theorem leadI_len {cs : List Pt} (P : PV cs) (x : Rat) (up : Bool) : (leadI cs x up).length ≤ 7 := by
  have h1 := sides_len cs
  have h2 := P.few
  exact Nat.le_trans (List.length_filter_le _ _) (by rw [List.length_range]; omega)
theorem flat_len {α β : Type} (n : Nat) : ∀ (l : List α) (f : α → List β), (∀ a, (f a).length ≤ n) → (l.flatMap f).length ≤ n * l.length
  | [], f, _ => by simp
  | a :: l, f, h => by
    rw [List.flatMap_cons, List.length_append, List.length_cons]
    have h1 := h a
    have h2 := flat_len n l f h
    rw [Nat.mul_add]; omega
theorem prs_len {cs ds : List Pt} (P : PV cs) (P' : PV ds) (q : RR) (up : Bool) : (prs cs ds q up).length ≤ 49 := by
  have h1 := flat_len 7 (leadI cs q.1 up) (fun i => (leadI ds q.2 up).map fun j => (i, j)) fun a => by rw [List.length_map]; exact leadI_len P' _ _
  have h2 := leadI_len P q.1 up
  unfold prs; omega
theorem prs_mem {cs ds : List Pt} {q : RR} {up : Bool} {p : Nat × Nat} : p ∈ prs cs ds q up ↔ p.1 ∈ leadI cs q.1 up ∧ p.2 ∈ leadI ds q.2 up := by
  unfold prs
  rw [List.mem_flatMap]
  constructor
  · rintro ⟨i, h1, h2⟩
    obtain ⟨j, h3, rfl⟩ := List.mem_map.mp h2
    exact ⟨h1, h3⟩
  · rintro ⟨h1, h2⟩
    exact ⟨_, h1, List.mem_map.mpr ⟨_, h2, rfl⟩⟩
theorem flat_range {α β : Type} : ∀ (xs : List α) (f : Nat → List β) (g : α → List β), (∀ i a, xs[i]? = some a → f i = g a) → (List.range xs.length).flatMap f = xs.flatMap g
  | [], f, g, h => rfl
  | x :: xs, f, g, h => by
    rw [List.length_cons, List.range_succ_eq_map, List.flatMap_cons, List.flatMap_cons, List.flatMap_map]
    rw [h 0 x rfl, flat_range xs (fun i => f (i + 1)) g fun i a e => h (i + 1) a (by simpa using e)]
theorem map_range {α β : Type} (xs : List α) (f : Nat → β) (g : α → β) (h : ∀ i a, xs[i]? = some a → f i = g a) : (List.range xs.length).map f = xs.map g := by
  apply List.ext_getElem?
  intro i
  rw [List.getElem?_map, List.getElem?_map]
  by_cases hi : i < xs.length
  · rw [List.getElem?_range hi, List.getElem?_eq_getElem hi]
    simp only [Option.map_some]
    rw [h i _ (List.getElem?_eq_getElem hi)]
  · rw [List.getElem?_eq_none (by simpa using hi), List.getElem?_eq_none (by simpa using hi)]; rfl
/-! ### pairs_of -/
theorem sc_pairs_of : FnScope ["one", "other", "stand", "x", "y", "ups", "mine", "its"] ["one", "other", "stand"] (defScope (top 54)) := ⟨rfl, rfl, rfl, by decide +kernel, rfl, by decide +kernel, by decide +kernel⟩
def R_pairs_of (as : List AV) (r : AV) : Prop := ∃ (cs ds : List Pt) (q : RR), PV cs ∧ PV ds ∧ Bq q.1 ∧ Bq q.2 ∧ as = [.pr cs, .pr ds, .d (stnD q)] ∧ r = .ll ((prs cs ds q true).map ppD) ((prs cs ds q false).map ppD)
theorem prs_flat (cs ds : List Pt) (q : RR) (up : Bool) : ((List.range ((leadI cs q.1 up).map natD).length).flatMap fun i => (List.range ((leadI ds q.2 up).map natD).length).map fun j => ppD ((leadI cs q.1 up)[i]?.getD 0, (leadI ds q.2 up)[j]?.getD 0)) = (prs cs ds q up).map ppD := by
  rw [List.length_map, List.length_map]
  unfold prs
  rw [List.map_flatMap]
  refine flat_range _ _ _ fun i a h => ?_
  rw [h, List.map_map]
  exact map_range _ _ _ fun j b h' => by rw [h']; rfl
theorem fn_pairs_of {g : Ga} (W : Wd g) (base : Heap) : FnD g base "pairs_of" 5 ["one", "other", "stand"] [] R_pairs_of := by
  obtain ⟨f, fd, hm, F⟩ := (W.fn "pairs_of" 54).ex
  refine fnd_of (k := 4) hm F (F.binds fun _ _ _ _ _ _ us hl => match us, hl with | [_, _, _], _ => rfl) sc_pairs_of (fun as r h => ?_) (fun as r h => ?_) fun cdv A outer s H E as r hr h => ?_
  · obtain ⟨_, _, _, _, _, _, _, rfl, _⟩ := h; rfl
  · obtain ⟨_, _, _, _, _, _, _, rfl, _⟩ := h; simp [AV.own]
  · obtain ⟨cs, ds, ⟨x, y⟩, P, P', hx, hy, rfl, rfl⟩ := h
    have nd := sc_pairs_of.nd
    have sz : ∀ (up : Bool) i j, i < ((leadI cs x up).map natD).length → j ≤ ((leadI ds y up).map natD).length → ((List.range i).flatMap fun i => (List.range ((leadI ds y up).map natD).length).map fun j => ppD ((leadI cs x up)[i]?.getD 0, (leadI ds y up)[j]?.getD 0)).length + j ≤ 100000 := fun up i j hi hj => by
      have h1 := flat_len 7 (List.range i) (fun i => (List.range ((leadI ds y up).map natD).length).map fun j => ppD ((leadI cs x up)[i]?.getD 0, (leadI ds y up)[j]?.getD 0)) fun a => by rw [List.length_map, List.length_range, List.length_map]; exact leadI_len P' _ _
      rw [List.length_map] at hi hj
      have h2 := leadI_len P x up
      have h3 := leadI_len P' y up
      rw [List.length_range] at h1
      omega
    refine ds_asg (de_vd 2) (dg_tup (dgs_cons (dg_name 3) (dgs_cons (dg_name 4) dgs_nil))) ?_
    refine ds_setLc2 5 [("mine", 6), ("its", 7)] [7] (fun _ => (leadI ds y true).map natD) (fun i j => ppD ((leadI cs x true)[i]?.getD 0, (leadI ds y true)[j]?.getD 0)) (di_new (c_ups_at W hr (de_vp 0) (de_vd 3) P hx)) (sz true) (fun i d hd => ?_) ?_ (by decide) (k := ?_)
    · rw [List.getElem?_map] at hd
      obtain ⟨a, ha, rfl⟩ := Option.map_eq_some_iff.mp hd
      refine ⟨_, ?_, fun s H C cl fp => ⟨dw_name 6, di_new (c_ups_at W hr (de_vp 1) (de_vd 4) P' hy)⟩, fun j d1 hd1 => ?_⟩
      · intro k a hk ha
        rcases k with _ | _ | _ | _ | _ | _ | _ | _ | k <;> first | (cases hk; cases ha) | cases hk
      · rw [List.getElem?_map] at hd1
        obtain ⟨b, hb, rfl⟩ := Option.map_eq_some_iff.mp hd1
        rw [ha, hb]
        exact ⟨_, fun s H C cl fp => ⟨dw_name 7, de_tup (dd_cons (de_vd 6) (dd_cons (de_vd 7) dd_nil))⟩⟩
    · show BlkOk ["one", "other", "stand", "x", "y", "ups", "mine", "its"] (defScope (top 54)) _ _
      exact blkOk_by (by decide +kernel)
    rw [prs_flat cs ds (x, y) true]
    refine ds_retLL 5 (de_eq (w := .l true ((prs cs ds (x, y) false).map ppD)) (de_lc2 [("mine", 6), ("its", 7)] [7] (fun _ => (leadI ds y false).map natD) (fun i j => ppD ((leadI cs x false)[i]?.getD 0, (leadI ds y false)[j]?.getD 0)) (di_new (c_downs_at W hr (de_vp 0) (de_vd 3) P hx)) (sz false) (fun i d hd => ?_) ?_ (by decide)) ?_) rfl
    · rw [List.getElem?_map] at hd
      obtain ⟨a, ha, rfl⟩ := Option.map_eq_some_iff.mp hd
      refine ⟨_, ?_, fun s H C cl fp => ⟨dw_name 6, di_new (c_downs_at W hr (de_vp 1) (de_vd 4) P' hy)⟩, fun j d1 hd1 => ?_⟩
      · intro k a hk ha
        rcases k with _ | _ | _ | _ | _ | _ | _ | _ | k <;> first | (cases hk; cases ha) | cases hk | skip
        exact ⟨by decide, rfl⟩
      · rw [List.getElem?_map] at hd1
        obtain ⟨b, hb, rfl⟩ := Option.map_eq_some_iff.mp hd1
        rw [ha, hb]
        exact ⟨_, fun s H C cl fp => ⟨dw_name 7, de_tup (dd_cons (de_vd 6) (dd_cons (de_vd 7) dd_nil))⟩⟩
    · show BlkOk ["one", "other", "stand", "x", "y", "ups", "mine", "its"] (defScope (top 54)) _ _
      exact blkOk_by (by decide +kernel)
    · congr 1; exact prs_flat cs ds (x, y) false
/-! ### many_in -/
theorem c_pairs_of {X : Cx} {τ : AE} {e1 e2 e3 : Expr} {p pos : Pos} {j : Nat} (W : Wd (gaOf X)) (hr : Room j X.A) {cs ds : List Pt} {q : RR} (h1 : DE X τ e1 (.pr cs)) (h2 : DE X τ e2 (.pr ds)) (h3 : DE X τ e3 (.d (stnD q))) (P : PV cs) (P' : PV ds) (hx : Bq q.1) (hy : Bq q.2) (hj : 5 ≤ j := by decide) (c : CallOk X "pairs_of" e1 [e2, e3] pos := by exact ⟨rfl, rfl, rfl⟩) (c2 : StarOk X e2 [e3] := by exact ⟨rfl⟩) (c3 : StarOk X e3 [] := by exact ⟨rfl⟩) :
    DE X τ (.Call (.Name "pairs_of" p) [e1, e2, e3] [] pos) (.ll ((prs cs ds q true).map ppD) ((prs cs ds q false).map ppD)) := call3 (fn_pairs_of W X.base) hr hj h1 h2 h3 ⟨cs, ds, q, P, P', hx, hy, rfl, rfl⟩ c c2 c3 (by decide)
theorem sc_many_in : FnScope ["one", "other", "stand", "ups", "downs"] ["one", "other", "stand"] (defScope (top 55)) := ⟨rfl, rfl, rfl, by decide +kernel, rfl, by decide +kernel, by decide +kernel⟩
def R_many_in (as : List AV) (r : AV) : Prop := ∃ (cs ds : List Pt) (q : RR), PV cs ∧ PV ds ∧ Bq q.1 ∧ Bq q.2 ∧ as = [.pr cs, .pr ds, .d (stnD q)] ∧ r = .d (.int (((prs cs ds q true).length + (prs cs ds q false).length : Nat) : Int))
theorem fn_many_in {g : Ga} (W : Wd g) (base : Heap) : FnD g base "many_in" 6 ["one", "other", "stand"] [] R_many_in := by
  obtain ⟨f, fd, hm, F⟩ := (W.fn "many_in" 55).ex
  refine fnd_of (k := 5) hm F (F.binds fun _ _ _ _ _ _ us hl => match us, hl with | [_, _, _], _ => rfl) sc_many_in (fun as r h => ?_) (fun as r h => ?_) fun cdv A outer s H E as r hr h => ?_
  · obtain ⟨_, _, _, _, _, _, _, rfl, _⟩ := h; rfl
  · obtain ⟨_, _, _, _, _, _, _, rfl, _⟩ := h; simp [AV.own]
  · obtain ⟨cs, ds, q, P, P', hx, hy, rfl, rfl⟩ := h
    have nd := sc_many_in.nd
    refine ds_asgLL 3 4 (c_pairs_of W hr (de_vp 0) (de_vp 1) (de_vd 2) P P' hx hy) ?_
    refine ds_ret (de_bin od_add (de_cb bu_lenL (da_l (de_vl 3) da_nil) (W.bl "len") boot_len) (de_cb bu_lenL (da_l (de_vl 4) da_nil) (W.bl "len") boot_len)) ?_
    rw [List.length_map, List.length_map, Int.natCast_add]
/-! ### ways_in -/
def mn2 (a b : Int) : Int := if b < a then b else a
def mx2 (a b : Int) : Int := if b > a then b else a
/-- the height that a pair of sides lead to -/
def wayS (up : Bool) (s t : Side) : Int := if up then mn2 (hi s) (hi t) else mx2 (lo s) (lo t)
def sdAt (cs : List Pt) (i : Nat) : Side := (sidesL cs)[i]?.getD ((0, 0), (0, 0))
def wayI (cs ds : List Pt) (up : Bool) (p : Nat × Nat) : Int := wayS up (sdAt cs p.1) (sdAt ds p.2)
def ptD (cs ds : List Pt) (up : Bool) (p : Nat × Nat) : D := .tup [natD p.1, natD p.2, .int (wayI cs ds up p)]
def goalI (cs ds : List Pt) (up : Bool) (p : Nat × Nat) : RR := (pon (sdAt cs p.1) (wayI cs ds up p : Rat), pon (sdAt ds p.2) (wayI cs ds up p : Rat))
noncomputable def goalsL (cs ds : List Pt) (q : RR) : List RR := (prs cs ds q true).map (goalI cs ds true) ++ (prs cs ds q false).map (goalI cs ds false)
theorem sdAt_of {cs : List Pt} {i : Nat} {s : Side} (h : (sidesL cs)[i]? = some s) : sdAt cs i = s := by unfold sdAt; rw [h]; rfl
theorem lead_sd {cs : List Pt} {x : Rat} {up : Bool} {i : Nat} (h : i ∈ leadI cs x up) : (sidesL cs)[i]? = some (sdAt cs i) := by
  obtain ⟨s, h1, _⟩ := leadI_mem.mp h
  rw [sdAt_of h1]; exact h1
theorem wayS_le {s t : Side} (S : SV s) (T : SV t) (up : Bool) : (wayS up s t).natAbs ≤ 64 := by
  have h1 := lo_le S; have h2 := lo_le T
  cases up
  · show (mx2 (lo s) (lo t)).natAbs ≤ 64
    unfold mx2; split <;> omega
  · show (mn2 (hi s) (hi t)).natAbs ≤ 64
    unfold mn2; split <;> omega
theorem sc_ways_in : FnScope ["one", "other", "stand", "ups", "downs", "tops", "dips", "found", "mine", "its", "height", "x"] ["one", "other", "stand"] (defScope (top 56)) := ⟨rfl, rfl, rfl, by decide +kernel, rfl, by decide +kernel, by decide +kernel⟩
def R_ways_in (as : List AV) (r : AV) : Prop := ∃ (cs ds : List Pt) (q : RR) (ws : List RR), PV cs ∧ PV ds ∧ Bq q.1 ∧ Bq q.2 ∧ SL ws ∧ (∀ p, p ∈ ws ↔ p ∈ goalsL cs ds q) ∧ as = [.pr cs, .pr ds, .d (stnD q)] ∧ r = .l true (ws.map stnD)
theorem fn_ways_in {g : Ga} (W : Wd g) (base : Heap) : FnD g base "ways_in" 13 ["one", "other", "stand"] [] R_ways_in := by
  obtain ⟨f, fd, hm, F⟩ := (W.fn "ways_in" 56).ex
  refine fnd_of (k := 12) hm F (F.binds fun _ _ _ _ _ _ us hl => match us, hl with | [_, _, _], _ => rfl) sc_ways_in (fun as r h => ?_) (fun as r h => ?_) fun cdv A outer s H E as r hr h => ?_
  · obtain ⟨_, _, _, _, _, _, _, _, _, _, rfl, _⟩ := h; rfl
  · obtain ⟨_, _, _, _, _, _, _, _, _, _, rfl, _⟩ := h; simp [AV.own]
  · obtain ⟨cs, ds, q, ws, P, P', hx, hy, sw, mw, rfl, rfl⟩ := h
    have nd := sc_ways_in.nd
    have hu := hr.units
    have l1 := prs_len P P' q true
    have l2 := prs_len P P' q false
    refine ds_asgLL 3 4 (c_pairs_of W hr (de_vp 0) (de_vp 1) (de_vd 2) P P' hx hy) ?_
    refine ds_setLc 5 [("mine", 8), ("its", 9)] (fun _ => true) (fun i => ptD cs ds true ((prs cs ds q true)[i]?.getD (0, 0))) (di_var 3) (by rw [List.length_map]; omega) (fun i d hd => ?_) ?_ (k := ?_)
    · rw [List.getElem?_map] at hd
      obtain ⟨⟨a, b⟩, ha, rfl⟩ := Option.map_eq_some_iff.mp hd
      obtain ⟨m1, m2⟩ := prs_mem.mp (List.mem_of_getElem? ha)
      rw [ha]
      exact ⟨_, fun s H C cl fp => ⟨dw_tup (dsw_cons (dw_name 8) (dsw_cons (dw_name 9) dsw_nil)), dts_nil, fun _ => de_tup (dd_cons (de_vd 8) (dd_cons (de_vd 9) (dd_cons (de_cb (bu_min2 rfl) (da_d (de_cb (bu_maxT hu) (da_d (c_ends_of W hr (de_vp 0) (de_vd 8) (lead_sd m1)) da_nil) (W.bl "max") boot_max) (da_d (de_cb (bu_maxT hu) (da_d (c_ends_of W hr (de_vp 1) (de_vd 9) (lead_sd m2)) da_nil) (W.bl "max") boot_max) da_nil)) (W.bl "min") boot_min) dd_nil)))⟩⟩
    · show BlkOk ["one", "other", "stand", "ups", "downs", "tops", "dips", "found", "mine", "its", "height", "x"] (defScope (top 56)) _ _
      exact blkOk_by (by decide +kernel)
    rw [List.length_map, range_map (prs cs ds q true) _ (ptD cs ds true) fun i a h => by rw [h]; rfl]
    refine ds_setLc 6 [("mine", 8), ("its", 9)] (fun _ => true) (fun i => ptD cs ds false ((prs cs ds q false)[i]?.getD (0, 0))) (di_var 4) (by rw [List.length_map]; omega) (fun i d hd => ?_) ?_ (k := ?_)
    · rw [List.getElem?_map] at hd
      obtain ⟨⟨a, b⟩, ha, rfl⟩ := Option.map_eq_some_iff.mp hd
      obtain ⟨m1, m2⟩ := prs_mem.mp (List.mem_of_getElem? ha)
      rw [ha]
      exact ⟨_, fun s H C cl fp => ⟨dw_tup (dsw_cons (dw_name 8) (dsw_cons (dw_name 9) dsw_nil)), dts_nil, fun _ => de_tup (dd_cons (de_vd 8) (dd_cons (de_vd 9) (dd_cons (de_cb (bu_max2 rfl) (da_d (de_cb (bu_minT hu) (da_d (c_ends_of W hr (de_vp 0) (de_vd 8) (lead_sd m1)) da_nil) (W.bl "min") boot_min) (da_d (de_cb (bu_minT hu) (da_d (c_ends_of W hr (de_vp 1) (de_vd 9) (lead_sd m2)) da_nil) (W.bl "min") boot_min) da_nil)) (W.bl "max") boot_max) dd_nil)))⟩⟩
    · show BlkOk ["one", "other", "stand", "ups", "downs", "tops", "dips", "found", "mine", "its", "height", "x"] (defScope (top 56)) _ _
      exact blkOk_by (by decide +kernel)
    rw [List.length_map, range_map (prs cs ds q false) _ (ptD cs ds false) fun i a h => by rw [h]; rfl]
    -- all pairs, with their heights
    obtain ⟨all, hall⟩ : ∃ all : List (Bool × (Nat × Nat)), all = (prs cs ds q true).map (fun p => (true, p)) ++ (prs cs ds q false).map (fun p => (false, p)) := ⟨_, rfl⟩
    have eall : (prs cs ds q true).map (ptD cs ds true) ++ (prs cs ds q false).map (ptD cs ds false) = all.map fun p => ptD cs ds p.1 p.2 := by rw [hall, List.map_append, List.map_map, List.map_map]; rfl
    have gall : goalsL cs ds q = all.map fun p => goalI cs ds p.1 p.2 := by rw [hall, List.map_append, List.map_map, List.map_map]; rfl
    have mall : ∀ p ∈ all, p.2 ∈ prs cs ds q p.1 := fun p hp => by
      rw [hall] at hp
      rcases List.mem_append.mp hp with h | h <;> (obtain ⟨r, h1, rfl⟩ := List.mem_map.mp h; exact h1)
    have lall : all.length ≤ 98 := by rw [hall]; simp; omega
    refine ds_dnew 7 <| ds_for (ds := all.map fun p => ptD cs ds p.1 p.2) (di_new (de_eq (de_bin (od_cat ?_) (de_vl 5) (de_vl 6)) (by rw [eall])))
      (fun i τ' => i ≤ all.length ∧ ∃ (ff : FF) (o8 o9 o10 o11 : Option AV), τ' = [some (.pr cs), some (.pr ds), some (.d (stnD q)), some (.l false ((prs cs ds q true).map ppD)), some (.l false ((prs cs ds q false).map ppD)), some (.l true ((prs cs ds q true).map (ptD cs ds true))), some (.l true ((prs cs ds q false).map (ptD cs ds false))), some (.m true (fD ff)), o8, o9, o10, o11] ∧ FB ff i ∧ ∀ p, InF ff p ↔ p ∈ (all.take i).map fun p => goalI cs ds p.1 p.2)
      ⟨Nat.zero_le _, [], none, none, none, none, rfl, ⟨List.nodup_nil, fun _ h => (by cases h), fun _ h => (by cases h), by simp, fun _ h => (by cases h)⟩, fun p => ⟨fun ⟨_, h, _⟩ => (by cases h), fun h => (by simp at h)⟩⟩
      (fun i d τ' hd ⟨hi, ff, o8, o9, o10, o11, e, K, m⟩ => ?_) fun τ' ⟨hi, ff, o8, o9, o10, o11, e, K, m⟩ => ?_
    · exact Evl.sz_of (by simp; omega)
    · subst e
      rw [List.getElem?_map] at hd
      obtain ⟨⟨up, a, b⟩, ha, rfl⟩ := Option.map_eq_some_iff.mp hd
      have hil := (List.getElem?_eq_some_iff.mp ha).1
      obtain ⟨m1, m2⟩ := prs_mem.mp (mall _ (List.mem_of_getElem? ha))
      have s1 := lead_sd m1
      have s2 := lead_sd m2
      have S1 := P.sd _ (List.mem_of_getElem? s1)
      have S2 := P'.sd _ (List.mem_of_getElem? s2)
      have hw : (wayI cs ds up (a, b)).natAbs ≤ 64 := wayS_le S1 S2 up
      have b1 := pon_bd S1 hw
      have b2 := pon_bd S2 hw
      have hK := K.few
      refine ⟨_, dg_tup (dgs_cons (dg_name 8) (dgs_cons (dg_name 9) (dgs_cons (dg_name 10) dgs_nil))), ds_set 11 (c_place_on W hr (c_side_at W hr (de_vp 0) (de_vd 8) s1) (de_vd 10) S1 hw) (ds_mput 7 (.inr ((lookF ff (pon (sdAt cs a) (wayI cs ds up (a, b) : Rat)) ++ [pon (sdAt ds b) (wayI cs ds up (a, b) : Rat)]).map numD)) (de_eq (w := .l true ((lookF ff (pon (sdAt cs a) (wayI cs ds up (a, b) : Rat)) ++ [pon (sdAt ds b) (wayI cs ds up (a, b) : Rat)]).map numD))
        (de_lst (dd_star (de_mget2 7 (de_vd 11) (numD_nb _) (Nat.le_trans (numD_dep _) (by decide)) hu (look_hr K.nd _)) (dd_cons (c_place_on W hr (c_side_at W hr (de_vp 1) (de_vd 9) s2) (de_vd 10) S2 hw) dd_nil)) ?_) ?_) (de_vd 11) ⟨rfl, rfl⟩ (numD_nb _) (Nat.le_trans (numD_dep _) (by decide)) (by show (fD ff).length < 100000; unfold fD; rw [List.length_map]; omega) hu
        (ds_nil ⟨hil, putF ff (pon (sdAt cs a) (wayI cs ds up (a, b) : Rat)) (lookF ff (pon (sdAt cs a) (wayI cs ds up (a, b) : Rat)) ++ [pon (sdAt ds b) (wayI cs ds up (a, b) : Rat)]), some (.d (natD a)), some (.d (natD b)), some (.d (.int (wayI cs ds up (a, b)))), some (.d (numD (pon (sdAt cs a) (wayI cs ds up (a, b) : Rat)))), by rw [putF_D]; rfl, K.add b1 b2, fun p => ?_⟩))⟩
      · rcases lookF_or ff (pon (sdAt cs a) (wayI cs ds up (a, b) : Rat)) with ⟨ys, h1, h2⟩ | ⟨h1, h2⟩
        · have q : ys.length ≤ i := K.sml _ h1
          rw [h2]; simp; omega
        · rw [h2]; simp
      · rw [List.map_append]; rfl
      · rw [add_in K.nd, m p, List.take_add_one, ha, List.map_append, List.mem_append]
        simp only [Option.toList_some, List.map_cons, List.map_nil, List.mem_singleton]
        rfl
    · subst e
      rw [List.length_map] at K
      rw [List.length_map, List.take_length] at m
      exact ds_ret (c_stands_by W hr (de_vm 7) (K.ok (by omega)) sw (fun p => by rw [mw p, m p, gall])) rfl
section
variable {X : Cx} {τ : AE} {e e1 e2 e3 e4 : Expr} {p pos : Pos} {j : Nat}
theorem c_many_in (W : Wd (gaOf X)) (hr : Room j X.A) {cs ds : List Pt} {q : RR} (h1 : DE X τ e1 (.pr cs)) (h2 : DE X τ e2 (.pr ds)) (h3 : DE X τ e3 (.d (stnD q))) (P : PV cs) (P' : PV ds) (hx : Bq q.1) (hy : Bq q.2) (hj : 6 ≤ j := by decide) (c : CallOk X "many_in" e1 [e2, e3] pos := by exact ⟨rfl, rfl, rfl⟩) (c2 : StarOk X e2 [e3] := by exact ⟨rfl⟩) (c3 : StarOk X e3 [] := by exact ⟨rfl⟩) :
    DE X τ (.Call (.Name "many_in" p) [e1, e2, e3] [] pos) (.d (.int (((prs cs ds q true).length + (prs cs ds q false).length : Nat) : Int))) := call3 (fn_many_in W X.base) hr hj h1 h2 h3 ⟨cs, ds, q, P, P', hx, hy, rfl, rfl⟩ c c2 c3 (by decide)
theorem c_ways_in (W : Wd (gaOf X)) (hr : Room j X.A) {cs ds : List Pt} {q : RR} {ws : List RR} (h1 : DE X τ e1 (.pr cs)) (h2 : DE X τ e2 (.pr ds)) (h3 : DE X τ e3 (.d (stnD q))) (P : PV cs) (P' : PV ds) (hx : Bq q.1) (hy : Bq q.2) (sw : SL ws) (mw : ∀ p, p ∈ ws ↔ p ∈ goalsL cs ds q) (hj : 13 ≤ j := by decide) (c : CallOk X "ways_in" e1 [e2, e3] pos := by exact ⟨rfl, rfl, rfl⟩) (c2 : StarOk X e2 [e3] := by exact ⟨rfl⟩) (c3 : StarOk X e3 [] := by exact ⟨rfl⟩) :
    DE X τ (.Call (.Name "ways_in" p) [e1, e2, e3] [] pos) (.l true (ws.map stnD)) := call3 (fn_ways_in W X.base) hr hj h1 h2 h3 ⟨cs, ds, q, ws, P, P', hx, hy, sw, mw, rfl, rfl⟩ c c2 c3 (by decide)
end
end BF

set_option Elab.async false
set_option linter.all false
set_option maxRecDepth 100000
set_option maxHeartbeats 1000000
set_option autoImplicit false
/-! The law's own numbers. -/
namespace BF
open PySem PySem.Spec PyProof.Rows L2

section
variable {X : Cx} {τ : AE} {st : Stmt} {sts : List Stmt} {N : AE → Prop} {R : AV → Prop} {e k c a : Expr} {pos : Pos}
/-- x = (a if c else x), c false -/
theorem ds_keep {x : Str} {v : AV} {p1 p2 p3 : Pos} (i : Nat) (hc : DT X τ c false) (k : DS X τ sts N R) (hN : X.N.Nodup := by assumption) (hi : X.N[i]? = some x := by rfl) (ht : τ[i]? = some (some v) := by rfl) (hx : Loc X.env.scope x := by first | exact Or.inl rfl | exact Or.inr rfl)
    (hv : Vis X.env.scope x := by first | exact Or.inl rfl | exact Or.inr (Or.inl rfl) | exact Or.inr (Or.inr rfl)) (hd : (x == ("__debug__" : Str)) = false := by decide) (hcd : (x == ("__classdict__" : Str)) = false := by decide)
    (hsw : swapsWith (.IfExp c a (.Name x p1) p2) (some (.Name x p3)) pos.line X.env = pure false := by rfl) (hf : X.fn x = true ∨ X.env.scope.names.lookup x = some .local := by first | exact .inl rfl | exact .inr rfl) :
    DS X τ (.Assign [.Name x p3] (.IfExp c a (.Name x p1) p2) pos :: sts) N R :=
  ⟨fun G D σ H x0 ⟨O, rs, eg, og⟩ n r => XSs.of (pss_cons (ps_set hN hi hx (pe_ifExp (pt_can X c) (pe_can X a) (pe_var hi hv hd hcd)) hsw hf) (pss_can X sts)) (hc.run O H σ _ rs fun H2 e2 => iteF (by
    obtain ⟨u, h1, h2⟩ := rs.at_ i v ht
    refine ⟨u, h1, ?_⟩
    have e : σ.set i (some u) = σ := by
      apply List.ext_getElem?
      intro j
      by_cases hj : i = j
      · subst hj; rw [List.getElem?_set_self (List.getElem?_eq_some_iff.mp h1).1, h1]
      · rw [List.getElem?_set_ne hj]
    show XSs X D (σ.set i (some u)) H2 sts
    rw [e]
    exact k.run G D σ H2 x0 ⟨O, rs.mono e2, eg.trans e2, og⟩ n r))⟩
end
/-! ### _law_low -/
theorem sc_law_low : FnScope ["_law_above", "_law_under", "_law_one", "_law_other", "_law_part"] ["_law_above", "_law_under"] (defScope (top 66)) := ⟨rfl, rfl, rfl, by decide +kernel, rfl, by decide +kernel, by decide +kernel⟩
theorem low_part {a b : Int} (hb : b ≠ 0) : (a.fdiv (if 0 < b then (Int.gcd a b : Int) else -(Int.gcd a b : Int)), b.fdiv (if 0 < b then (Int.gcd a b : Int) else -(Int.gcd a b : Int))) = ((Rat.divInt a b).num, ((Rat.divInt a b).den : Int)) := by
  have key := low_num (a := a) hb
  have g0 : (Int.gcd a b : Int) ∣ a := Int.gcd_dvd_left a b
  have g1 : (Int.gcd a b : Int) ∣ b := Int.gcd_dvd_right a b
  by_cases h : 0 < b
  · rw [if_neg (by omega)] at key
    rw [if_pos h]; exact key
  · rw [if_pos (by omega)] at key
    obtain ⟨k1, k2⟩ := Prod.mk.inj key
    rw [if_neg h, Int.fdiv_eq_ediv_of_dvd (Int.neg_dvd.mpr g0), Int.fdiv_eq_ediv_of_dvd (Int.neg_dvd.mpr g1), Int.ediv_neg, Int.ediv_neg]
    rw [Int.fdiv_eq_ediv_of_dvd g0] at k1
    rw [Int.fdiv_eq_ediv_of_dvd g1] at k2
    rw [k1, k2]; simp
def mFour : AE → Nat
  | [_, _, _, some (.d (.int y)), _] => y.toNat
  | _ => 0
theorem fn_law_low {g : Ga} (W : Wd g) (base : Heap) : FnD g base "_law_low" 1 ["_law_above", "_law_under"] [] R_lowest := by
  obtain ⟨f, fd, hm, F⟩ := (W.fn "_law_low" 66).ex
  refine fnd_of (k := 0) hm F (F.binds fun _ _ _ _ _ _ us hl => match us, hl with | [_, _], _ => rfl) sc_law_low (fun as r h => ?_) (fun as r h => ?_) fun cdv A outer s H E as r hr h => ?_
  · obtain ⟨_, _, _, _, rfl, _⟩ := h; rfl
  · obtain ⟨_, _, _, _, rfl, _⟩ := h; simp [AV.own]
  · obtain ⟨a, b, hb, hb2, rfl, rfl⟩ := h
    have nd := sc_law_low.nd
    have gz : Int.gcd a b ≠ 0 := fun z => hb (Int.gcd_eq_zero_iff.mp z).2
    have gl : Int.gcd a b ≤ b.natAbs := Nat.le_of_dvd (by omega) (Int.gcd_dvd_natAbs_right a b)
    have dn0 := (Rat.divInt a b).den_nz
    refine ds_par 2 3 (dd_cons (de_cb bu_abs (da_d (de_vd 0) da_nil) (W.bl "abs") boot_abs) (dd_cons (de_cb bu_abs (da_d (de_vd 1) da_nil) (W.bl "abs") boot_abs) dd_nil)) ?_
    rw [abs_nat, abs_nat]
    refine ds_while (fun τ' => ∃ x y : Nat, τ' = [some (.d (.int a)), some (.d (.int b)), some (.d (.int x)), some (.d (.int y)), none] ∧ Nat.gcd x y = Int.gcd a b) mFour ⟨_, _, rfl, rfl⟩ fun τ' ⟨x, y, e, hg⟩ => ?_
    subst e
    refine ⟨_, dt_cmp od_gt (de_vd 3) de_int, fun h => ?_, fun h => ?_⟩
    · have hy : 0 < y := by simpa using h
      refine ds_par 2 3 (dd_cons (de_vd 3) (dd_cons (de_bin (od_mod ?_) (de_cty ty_intI (da_d (de_vd 2) da_nil) (W.bl "int") boot_int) (de_vd 3)) dd_nil)) (ds_nil ⟨⟨y, x % y, rfl, ?_⟩, ?_⟩)
      · exact_mod_cast hy
      · rw [← hg, Nat.gcd_comm x y, Nat.gcd_rec y x, Nat.gcd_comm]
      · show (Int.toNat ((x : Int) % (y : Int))) < y
        rw [← Int.natCast_emod, Int.toNat_natCast]; exact Nat.mod_lt _ hy
    · have hy : y = 0 := by simpa using h
      subst hy
      rw [Nat.gcd_zero_right] at hg
      subst hg
      have cd : ∀ x, CDivN x (if 0 < b then (Int.gcd a b : Int) else -(Int.gcd a b : Int)) := fun x => ⟨by split <;> omega, by split <;> omega⟩
      have key := low_part (a := a) hb
      obtain ⟨k1, k2⟩ := Prod.mk.inj key
      refine ds_set 4 (a := .d (.int (if 0 < b then (Int.gcd a b : Int) else -(Int.gcd a b : Int)))) (de_if (k := decide (0 < b)) (dt_cmp od_gt (de_vd 1) de_int) (fun h => de_eq (de_vd 2) ?_) (fun h => de_eq (de_neg (de_vd 2)) ?_)) ?_
      · rw [if_pos (by simpa using h)]
      · rw [if_neg (by simpa using h)]
      refine ds_par 0 1 (dd_cons (de_bin (od_fdiv (cd _)) (de_vd 0) (de_vd 4)) (dd_cons (de_bin (od_fdiv (cd _)) (de_vd 1) (de_vd 4)) dd_nil)) ?_
      rw [k1, k2]
      refine ds_ret (de_ifd (dt_cmp od_eqI (de_vd 1) de_int) (fun h => (de_vd 0)) (fun h => (de_tup (dd_cons (de_vd 0) (dd_cons (de_vd 1) dd_nil))))) ?_
      unfold numD
      by_cases e : (Rat.divInt a b).den = 1
      · simp [e]
      · rw [if_neg e, if_neg (by simp; omega)]
/-! ### _law_two, _law_before -/
theorem sc_law_two : FnScope ["_law_number"] ["_law_number"] (defScope (top 67)) := ⟨rfl, rfl, rfl, by decide +kernel, rfl, by decide +kernel, by decide +kernel⟩
theorem fn_law_two {g : Ga} (W : Wd g) (base : Heap) : FnD g base "_law_two" 1 ["_law_number"] [] R_parts_of := by
  obtain ⟨f, fd, hm, F⟩ := (W.fn "_law_two" 67).ex
  refine fnd_of (k := 0) hm F (F.binds fun _ _ _ _ _ _ us hl => match us, hl with | [_], _ => rfl) sc_law_two (fun as r h => ?_) (fun as r h => ?_) fun cdv A outer s H E as r hr h => ?_
  · obtain ⟨q, rfl, _⟩ := h; rfl
  · obtain ⟨q, rfl, _⟩ := h; simp [AV.own]
  · obtain ⟨q, rfl, rfl⟩ := h
    by_cases hd : q.den = 1
    · have e : numD q = .int q.num := if_pos hd
      rw [e]
      refine ds_ret (a := .d (prD q)) (de_if (k := true) (dt_val (de_isi (de_vd 0) (kit_int _) (W.bl "isinstance") (W.bl "int") boot_int)) (fun h => de_eq (de_tup (dd_cons (de_vd 0) (dd_cons de_int dd_nil))) ?_) (fun h => by cases h)) rfl
      rw [prD, hd]; rfl
    · have e : numD q = .tup [.int q.num, .int q.den] := if_neg hd
      rw [e]
      exact ds_ret (a := .d (prD q)) (de_if (k := false) (dt_val (de_isi (de_vd 0) (kit_int _) (W.bl "isinstance") (W.bl "int") boot_int)) (fun h => by cases h) (fun h => (de_tup (dd_cons (de_ixT (de_vd 0) de_int) (dd_cons (de_ixT (de_vd 0) de_int) dd_nil))))) rfl
section
variable {X : Cx} {τ : AE} {e e1 e2 e3 e4 : Expr} {p pos : Pos} {j : Nat}
theorem c_law_low (W : Wd (gaOf X)) (hr : Room j X.A) {a b : Int} (h1 : DE X τ e1 (.d (.int a))) (h2 : DE X τ e2 (.d (.int b))) (hb : b ≠ 0) (hb2 : b.natAbs < 2 ^ 30) (hj : 1 ≤ j := by decide) (c : CallOk X "_law_low" e1 [e2] pos := by exact ⟨rfl, rfl, rfl⟩) (c2 : StarOk X e2 [] := by exact ⟨rfl⟩) :
    DE X τ (.Call (.Name "_law_low" p) [e1, e2] [] pos) (.d (numD (Rat.divInt a b))) := call2 (fn_law_low W X.base) hr hj h1 h2 ⟨a, b, hb, hb2, rfl, rfl⟩ c c2 (by decide)
theorem c_law_two (W : Wd (gaOf X)) (hr : Room j X.A) {q : Rat} (h1 : DE X τ e1 (.d (numD q))) (hj : 1 ≤ j := by decide) (c : CallOk X "_law_two" e1 [] pos := by exact ⟨rfl, rfl, rfl⟩) : DE X τ (.Call (.Name "_law_two" p) [e1] [] pos) (.d (.tup [.int q.num, .int (q.den : Int)])) :=
  call1 (fn_law_two W X.base) hr hj h1 ⟨q, rfl, rfl⟩ c (by decide)
end
theorem sc_law_before : FnScope ["_law_one", "_law_other", "_law_a", "_law_b", "_law_c", "_law_d"] ["_law_one", "_law_other"] (defScope (top 68)) := ⟨rfl, rfl, rfl, by decide +kernel, rfl, by decide +kernel, by decide +kernel⟩
theorem fn_law_before {g : Ga} (W : Wd g) (base : Heap) : FnD g base "_law_before" 2 ["_law_one", "_law_other"] [] R_below := by
  obtain ⟨f, fd, hm, F⟩ := (W.fn "_law_before" 68).ex
  refine fnd_of (k := 1) hm F (F.binds fun _ _ _ _ _ _ us hl => match us, hl with | [_, _], _ => rfl) sc_law_before (fun as r h => ?_) (fun as r h => ?_) fun cdv A outer s H E as r hr h => ?_
  · obtain ⟨a, b, _, _, rfl, _⟩ := h; rfl
  · obtain ⟨a, b, _, _, rfl, _⟩ := h; simp [AV.own]
  · obtain ⟨u, v, hu, hv, rfl, rfl⟩ := h
    have nd := sc_law_before.nd
    refine ds_asg (de_tup (dd_cons (c_law_two W hr (de_vd 0)) (dd_cons (c_law_two W hr (de_vd 1)) dd_nil))) (dg_tup (dgs_cons (dg_tup (dgs_cons (dg_name 2) (dgs_cons (dg_name 3) dgs_nil))) (dgs_cons (dg_tup (dgs_cons (dg_name 4) (dgs_cons (dg_name 5) dgs_nil))) dgs_nil))) ?_
    refine ds_ret (de_cmp od_lt (de_bin (od_mul (hu.cm _)) (de_vd 2) (de_vd 5)) (de_bin (od_mul (hv.cm _)) (de_vd 4) (de_vd 3))) ?_
    congr 3
    exact propext (Rat.lt_iff u v).symm
section
variable {X : Cx} {τ : AE} {e e1 e2 e3 e4 : Expr} {p pos : Pos} {j : Nat}
theorem c_law_before (W : Wd (gaOf X)) (hr : Room j X.A) {u v : Rat} (h1 : DE X τ e1 (.d (numD u))) (h2 : DE X τ e2 (.d (numD v))) (hu : Bn u) (hv : Bn v) (hj : 2 ≤ j := by decide) (c : CallOk X "_law_before" e1 [e2] pos := by exact ⟨rfl, rfl, rfl⟩) (c2 : StarOk X e2 [] := by exact ⟨rfl⟩) :
    DE X τ (.Call (.Name "_law_before" p) [e1, e2] [] pos) (.d (.bl (decide (u < v)))) := call2 (fn_law_before W X.base) hr hj h1 h2 ⟨u, v, hu, hv, rfl, rfl⟩ c c2 (by decide)
end
/-! ### _law_on, _law_sides, _law_height -/
theorem int_ne {i : Int} (h : i ≠ 0) : ((i : Int) : Rat) ≠ 0 := fun z => h (by exact_mod_cast z)
theorem pon_div {s : Side} (S : SV s) (h : Int) : Rat.divInt (s.1.1 * (s.2.2 - s.1.2) + (h - s.1.2) * (s.2.1 - s.1.1)) (s.2.2 - s.1.2) = pon s (h : Rat) := by
  have hz : ((s.2.2 - s.1.2 : Int) : Rat) ≠ 0 := int_ne (by have := S.ne; omega)
  rw [Rat.divInt_eq_div]
  unfold pon
  rw [Rat.intCast_add, Rat.intCast_mul, Rat.intCast_mul, Rat.intCast_sub h]
  generalize ((s.2.2 - s.1.2 : Int) : Rat) = d at *
  grind
theorem hon_div {s : Side} (S : SV s) (x : Rat) : Rat.divInt (s.1.2 * (s.2.1 - s.1.1) * (x.den : Int) + (x.num - s.1.1 * (x.den : Int)) * (s.2.2 - s.1.2)) ((s.2.1 - s.1.1) * (x.den : Int)) = hon s x := by
  have hz : ((s.2.1 - s.1.1 : Int) : Rat) ≠ 0 := int_ne (by have := S.inc; omega)
  have hx : (((x.den : Nat) : Int) : Rat) ≠ 0 := int_ne (by exact_mod_cast x.den_nz)
  have ex : x = ((x.num : Int) : Rat) / (((x.den : Nat) : Int) : Rat) := by rw [← Rat.divInt_eq_div, Rat.num_divInt_den]
  rw [Rat.divInt_eq_div]
  unfold hon
  rw [Rat.intCast_add, Rat.intCast_mul, Rat.intCast_mul, Rat.intCast_mul, Rat.intCast_mul, Rat.intCast_sub x.num, Rat.intCast_mul]
  generalize ((s.2.1 - s.1.1 : Int) : Rat) = d at *
  generalize (((x.den : Nat) : Int) : Rat) = q at *
  generalize ((x.num : Int) : Rat) = n at *
  subst ex
  grind
theorem sc_law_on : FnScope ["_law_side", "_law_height_here", "_law_first", "_law_low_here", "_law_last", "_law_high"] ["_law_side", "_law_height_here"] (defScope (top 70)) := ⟨rfl, rfl, rfl, by decide +kernel, rfl, by decide +kernel, by decide +kernel⟩
theorem cmi {i j : Int} (h : i.natAbs ≤ 2 ^ 20) : CMul i j := .inl (by omega)
theorem cmj {i j : Int} (h : j.natAbs ≤ 2 ^ 20) : CMul i j := .inr (by omega)
theorem fn_law_on {g : Ga} (W : Wd g) (base : Heap) : FnD g base "_law_on" 2 ["_law_side", "_law_height_here"] [] R_place_on := by
  obtain ⟨f, fd, hm, F⟩ := (W.fn "_law_on" 70).ex
  refine fnd_of (k := 1) hm F (F.binds fun _ _ _ _ _ _ us hl => match us, hl with | [_, _], _ => rfl) sc_law_on (fun as r h => ?_) (fun as r h => ?_) fun cdv A outer s H E as r hr h => ?_
  · obtain ⟨s, x, _, _, rfl, _⟩ := h; rfl
  · obtain ⟨s, x, _, _, rfl, _⟩ := h; simp [AV.own]
  · obtain ⟨⟨⟨a, b⟩, c, d⟩, h, S, hh, rfl, rfl⟩ := h
    have nd := sc_law_on.nd
    have b1 : a.natAbs ≤ 64 := S.b1
    have b2 : b.natAbs ≤ 64 := S.b2
    have b3 : c.natAbs ≤ 64 := S.b3
    have b4 : d.natAbs ≤ 64 := S.b4
    have hz : d - b ≠ 0 := by have : b ≠ d := S.ne; omega
    have ca : a.natAbs ≤ 2 ^ 20 := by omega
    have chb : (h - b).natAbs ≤ 2 ^ 20 := by omega
    refine ds_asg (de_vd 0) (dg_tup (dgs_cons (dg_tup (dgs_cons (dg_name 2) (dgs_cons (dg_name 3) dgs_nil))) (dgs_cons (dg_tup (dgs_cons (dg_name 4) (dgs_cons (dg_name 5) dgs_nil))) dgs_nil))) ?_
    refine ds_ret (c_law_low W hr (de_bin od_add (de_bin (od_mul (cmi ca)) (de_vd 2) (de_bin od_sub (de_vd 5) (de_vd 3))) (de_bin (od_mul (cmi chb)) (de_bin od_sub (de_vd 1) (de_vd 3)) (de_bin od_sub (de_vd 4) (de_vd 2)))) (de_bin od_sub (de_vd 5) (de_vd 3)) hz (by omega)) ?_
    rw [← pon_div S h]
theorem sc_law_sides : FnScope ["_law_corners_here"] ["_law_corners_here"] (defScope (top 71)) := ⟨rfl, rfl, rfl, by decide +kernel, rfl, by decide +kernel, by decide +kernel⟩
def R_law_sides (as : List AV) (r : AV) : Prop := ∃ cs : List Pt, as = [.l false (cs.map corD)] ∧ r = .l true ((sidesL cs).map sdD)
theorem fn_law_sides {g : Ga} (W : Wd g) (base : Heap) : FnD g base "_law_sides" 1 ["_law_corners_here"] [] R_law_sides := by
  obtain ⟨f, fd, hm, F⟩ := (W.fn "_law_sides" 71).ex
  refine fnd_of (k := 0) hm F (F.binds fun _ _ _ _ _ _ us hl => match us, hl with | [_], _ => rfl) sc_law_sides (fun as r h => ?_) (fun as r h => ?_) fun cdv A outer s H E as r hr h => ?_
  · obtain ⟨cs, rfl, _⟩ := h; rfl
  · obtain ⟨cs, rfl, _⟩ := h; simp [AV.own]
  · obtain ⟨cs, rfl, rfl⟩ := h
    refine ds_ret (a := .l true ((sidesL cs).map sdD)) (de_eq (de_lzL (ls_var 0) (ls_new (de_slL (de_vl 0) (do_some de_int) do_none)) (W.bl "list") (W.bl "zip")) ?_) rfl
    rw [cutD_1, zp_sides]
section
variable {X : Cx} {τ : AE} {e e1 e2 e3 e4 : Expr} {p pos : Pos} {j : Nat}
theorem c_law_on (W : Wd (gaOf X)) (hr : Room j X.A) {s : Side} {h : Int} (h1 : DE X τ e1 (.d (sdD s))) (h2 : DE X τ e2 (.d (.int h))) (S : SV s) (hx : h.natAbs ≤ 64) (hj : 2 ≤ j := by decide) (c : CallOk X "_law_on" e1 [e2] pos := by exact ⟨rfl, rfl, rfl⟩) (c2 : StarOk X e2 [] := by exact ⟨rfl⟩) :
    DE X τ (.Call (.Name "_law_on" p) [e1, e2] [] pos) (.d (numD (pon s (h : Rat)))) := call2 (fn_law_on W X.base) hr hj h1 h2 ⟨s, h, S, hx, rfl, rfl⟩ c c2 (by decide)
theorem c_law_sides (W : Wd (gaOf X)) (hr : Room j X.A) {o : Bool} {cs : List Pt} (h1 : DE X τ e1 (.l o (cs.map corD))) (hj : 1 ≤ j := by decide) (c : CallOk X "_law_sides" e1 [] pos := by exact ⟨rfl, rfl, rfl⟩) :
    DE X τ (.Call (.Name "_law_sides" p) [e1] [] pos) (.l true ((sidesL cs).map sdD)) := call1 (fn_law_sides W X.base) hr hj h1 ⟨cs, rfl, rfl⟩ c (by decide)
end
theorem sc_law_height : FnScope ["_law_corners_here", "_law_place", "_law_above", "_law_under", "_law_first", "_law_low_here", "_law_last", "_law_high"] ["_law_corners_here", "_law_place"] (defScope (top 72)) := ⟨rfl, rfl, rfl, by decide +kernel, rfl, by decide +kernel, by decide +kernel⟩
noncomputable instance (s : Side) (x : Rat) : Decidable (onS s x) := Classical.propDecidable _
noncomputable def hgtL (cs : List Pt) (x : Rat) : Option Rat := ((sidesL cs).find? fun s => decide (onS s x)).map fun s => hon s x
def R_law_height (as : List AV) (r : AV) : Prop := ∃ (cs : List Pt) (x : Rat), PV cs ∧ Bq x ∧ as = [.l false (cs.map corD), .d (numD x)] ∧ r = .d (optD (hgtL cs x))
theorem onS_iff (a c : Int) (x : Rat) : (a * (x.den : Int) ≤ x.num ∧ x.num ≤ c * (x.den : Int)) ↔ ((a : Rat) ≤ x ∧ x ≤ (c : Rat)) := by
  rw [Rat.le_iff, Rat.le_iff]; simp
theorem fn_law_height {g : Ga} (W : Wd g) (base : Heap) : FnD g base "_law_height" 2 ["_law_corners_here", "_law_place"] [] R_law_height := by
  obtain ⟨f, fd, hm, F⟩ := (W.fn "_law_height" 72).ex
  refine fnd_of (k := 1) hm F (F.binds fun _ _ _ _ _ _ us hl => match us, hl with | [_, _], _ => rfl) sc_law_height (fun as r h => ?_) (fun as r h => ?_) fun cdv A outer s H E as r hr h => ?_
  · obtain ⟨cs, x, _, _, rfl, _⟩ := h; rfl
  · obtain ⟨cs, x, _, _, rfl, _⟩ := h; simp [AV.own]
  · obtain ⟨cs, x, P, hx, rfl, rfl⟩ := h
    have nd := sc_law_height.nd
    have xn := hx.n
    have xd := hx.d
    refine ds_asg (c_law_two W hr (de_vd 1)) (dg_tup (dgs_cons (dg_name 2) (dgs_cons (dg_name 3) dgs_nil))) ?_
    refine ds_for (ds := (sidesL cs).map sdD) (di_new (c_law_sides W hr (de_vl 0))) (fun i τ' => (∃ o1 o2 o3 o4, τ' = [some (.l false (cs.map corD)), some (.d (numD x)), some (.d (.int x.num)), some (.d (.int (x.den : Int))), o1, o2, o3, o4]) ∧ ∀ s ∈ (sidesL cs).take i, decide (onS s x) = false) ⟨⟨_, _, _, _, rfl⟩, fun s hs => by simp at hs⟩ (fun i d τ' hd ⟨⟨o1, o2, o3, o4, e⟩, hn⟩ => ?_) fun τ' ⟨⟨o1, o2, o3, o4, e⟩, hn⟩ => ?_
    · subst e
      rw [List.getElem?_map] at hd
      obtain ⟨⟨⟨a, b⟩, c, d⟩, hs, rfl⟩ := Option.map_eq_some_iff.mp hd
      have S := P.sd _ (List.mem_of_getElem? hs)
      have b1 : a.natAbs ≤ 64 := S.b1
      have b2 : b.natAbs ≤ 64 := S.b2
      have b3 : c.natAbs ≤ 64 := S.b3
      have b4 : d.natAbs ≤ 64 := S.b4
      have hinc : a < c := S.inc
      have ca : a.natAbs ≤ 2 ^ 20 := by omega
      have cb : b.natAbs ≤ 2 ^ 20 := by omega
      have cc : c.natAbs ≤ 2 ^ 20 := by omega
      have cu : (x.den : Int).natAbs ≤ 2 ^ 20 := by omega
      have cdb : (d - b).natAbs ≤ 2 ^ 20 := by omega
      have cca : (c - a).natAbs ≤ 2 ^ 20 := by omega
      have hz : (c - a) * (x.den : Int) ≠ 0 := Int.mul_ne_zero (by omega) (by exact_mod_cast x.den_nz)
      have hz2 : ((c - a) * (x.den : Int)).natAbs < 2 ^ 30 := by
        rw [Int.natAbs_mul, Int.natAbs_natCast]
        have := Nat.mul_le_mul (show (c - a).natAbs ≤ 2 ^ 7 by omega) xd
        omega
      have iff := onS_iff a c x
      refine ⟨_, dg_tup (dgs_cons (dg_tup (dgs_cons (dg_name 4) (dgs_cons (dg_name 5) dgs_nil))) (dgs_cons (dg_tup (dgs_cons (dg_name 6) (dgs_cons (dg_name 7) dgs_nil))) dgs_nil)), ds_if (dt_chain od_le od_le (de_bin (od_mul (cmi ca)) (de_vd 4) (de_vd 3)) (de_vd 2) (de_bin (od_mul (cmi cc)) (de_vd 6) (de_vd 3))) (fun h => ?_) (fun h => ds_nil (ds_nil ⟨⟨_, _, _, _, rfl⟩, fun t ht => ?_⟩))⟩
      · have ho : onS ((a, b), (c, d)) x := iff.mp (by simpa using h)
        refine ds_ret (c_law_low W hr (de_bin od_add (de_bin (od_mul (cmj cu)) (de_bin (od_mul (cmi cb)) (de_vd 5) (de_bin od_sub (de_vd 6) (de_vd 4))) (de_vd 3)) (de_bin (od_mul (cmj cdb)) (de_bin od_sub (de_vd 2) (de_bin (od_mul (cmi ca)) (de_vd 4) (de_vd 3))) (de_bin od_sub (de_vd 7) (de_vd 5)))) (de_bin (od_mul (cmi cca)) (de_bin od_sub (de_vd 6) (de_vd 4)) (de_vd 3)) hz hz2) ?_
        have : hgtL cs x = some (hon ((a, b), (c, d)) x) := by
          unfold hgtL
          rw [find_at hs (decide_eq_true ho) hn]; rfl
        rw [this, ← hon_div S x]; rfl
      · rcases take_mem_succ hs ht with z | z
        · exact hn t z
        · subst z
          refine decide_eq_false fun ho => ?_
          have := iff.mpr ho
          simp [this.1, this.2] at h
    · subst e
      rw [List.length_map, List.take_length] at hn
      refine ds_ret de_non ?_
      have : hgtL cs x = none := by unfold hgtL; rw [find_take_none hn]; rfl
      rw [this]; rfl
section
variable {X : Cx} {τ : AE} {e e1 e2 e3 e4 : Expr} {p pos : Pos} {j : Nat}
theorem c_law_height (W : Wd (gaOf X)) (hr : Room j X.A) {o : Bool} {cs : List Pt} {x : Rat} (h1 : DE X τ e1 (.l o (cs.map corD))) (h2 : DE X τ e2 (.d (numD x))) (P : PV cs) (hx : Bq x) (hj : 2 ≤ j := by decide) (c : CallOk X "_law_height" e1 [e2] pos := by exact ⟨rfl, rfl, rfl⟩) (c2 : StarOk X e2 [] := by exact ⟨rfl⟩) :
    DE X τ (.Call (.Name "_law_height" p) [e1, e2] [] pos) (.d (optD (hgtL cs x))) := call2 (fn_law_height W X.base) hr hj h1 h2 ⟨cs, x, P, hx, rfl, rfl⟩ c c2 (by decide)
end
end BF

set_option Elab.async false
set_option linter.all false
set_option maxRecDepth 100000
set_option maxHeartbeats 1000000
set_option autoImplicit false
/-! The law's own places, stands, ways. -/
namespace BF
open PySem PySem.Spec PyProof.Rows L2

/-! ### _law_places -/
theorem sc_law_places : FnScope ["_law_corners_here", "_law_height_here", "_law_found", "_law_side", "_law_place"] ["_law_corners_here", "_law_height_here"] (defScope (top 73)) := ⟨rfl, rfl, rfl, by decide +kernel, rfl, by decide +kernel, by decide +kernel⟩
noncomputable def plStepL (h : Int) (acc : List Rat) (s : Side) : List Rat := if lo s ≤ h ∧ h ≤ hi s ∧ pon s h ∉ acc then acc ++ [pon s h] else acc
noncomputable def plcL (ss : List Side) (h : Int) : List Rat := ss.foldl (plStepL h) []
theorem plcL_len (h : Int) : ∀ (ss : List Side) (acc : List Rat), (ss.foldl (plStepL h) acc).length ≤ acc.length + ss.length
  | [], _ => Nat.le_refl _
  | s :: ss, acc => by
    have h1 := plcL_len h ss (plStepL h acc s)
    have h2 : (plStepL h acc s).length ≤ acc.length + 1 := by unfold plStepL; split <;> simp
    show (ss.foldl (plStepL h) (plStepL h acc s)).length ≤ _
    rw [List.length_cons]; omega
theorem plcL_succ {ss : List Side} {i : Nat} {s : Side} (h : Int) (hs : ss[i]? = some s) : plcL (ss.take (i + 1)) h = plStepL h (plcL (ss.take i) h) s := by
  unfold plcL
  rw [List.take_add_one, hs, List.foldl_append]; rfl
theorem plcL_len8 {cs : List Pt} (P : PV cs) (h : Int) : (plcL (sidesL cs) h).length ≤ 7 := by
  have h1 := plcL_len h (sidesL cs) []
  have h2 := sides_len cs
  have h3 := P.few
  have : (plcL (sidesL cs) h).length ≤ 0 + (sidesL cs).length := h1
  omega
theorem plcL_bd {ss : List Side} (hs : ∀ s ∈ ss, SV s) {h : Int} (hh : h.natAbs ≤ 64) : ∀ q ∈ plcL ss h, Bq q := by
  have key : ∀ (ss : List Side) (acc : List Rat), (∀ s ∈ ss, SV s) → (∀ q ∈ acc, Bq q) → ∀ q ∈ ss.foldl (plStepL h) acc, Bq q := by
    intro ss
    induction ss with
    | nil => intro acc _ h; exact h
    | cons s r ih =>
      intro acc h1 h2
      refine ih _ (fun t ht => h1 t (List.mem_cons_of_mem _ ht)) fun q hq => ?_
      unfold plStepL at hq
      split at hq
      · rcases List.mem_append.mp hq with z | z
        · exact h2 q z
        · rw [List.mem_singleton.mp z]; exact pon_bd (h1 s List.mem_cons_self) hh
      · exact h2 q hq
  exact key ss [] hs (fun q hq => by cases hq)
theorem mem_num {q : Rat} {qs : List Rat} : numD q ∈ qs.map numD ↔ q ∈ qs :=
  ⟨fun h => by obtain ⟨y, h1, h2⟩ := List.mem_map.mp h; rw [← numD_inj h2]; exact h1, fun h => List.mem_map_of_mem h⟩
def R_law_places (as : List AV) (r : AV) : Prop := ∃ (cs : List Pt) (h : Int), PV cs ∧ h.natAbs ≤ 64 ∧ as = [.l false (cs.map corD), .d (.int h)] ∧ r = .l true ((plcL (sidesL cs) h).map numD)
theorem fn_law_places {g : Ga} (W : Wd g) (base : Heap) : FnD g base "_law_places" 3 ["_law_corners_here", "_law_height_here"] [] R_law_places := by
  obtain ⟨f, fd, hm, F⟩ := (W.fn "_law_places" 73).ex
  refine fnd_of (k := 2) hm F (F.binds fun _ _ _ _ _ _ us hl => match us, hl with | [_, _], _ => rfl) sc_law_places (fun as r h => ?_) (fun as r h => ?_) fun cdv A outer s H E as r hr h => ?_
  · obtain ⟨cs, x, _, _, rfl, _⟩ := h; rfl
  · obtain ⟨cs, x, _, _, rfl, _⟩ := h; simp [AV.own]
  · obtain ⟨cs, h, P, hh, rfl, rfl⟩ := h
    have nd := sc_law_places.nd
    have hl := sides_len cs
    have hf := P.few
    refine ds_set 2 (de_lst dd_nil) <| ds_for (ds := (sidesL cs).map sdD) (di_new (c_law_sides W hr (de_vl 0))) (fun i τ' => ∃ o3 o4 : Option AV, τ' = [some (.l false (cs.map corD)), some (.d (.int h)), some (.l true ((plcL ((sidesL cs).take i) h).map numD)), o3, o4]) ⟨_, _, rfl⟩ (fun i d τ' hd ⟨o3, o4, e⟩ => ?_) fun τ' ⟨o3, o4, e⟩ => ?_
    · subst e
      rw [List.getElem?_map] at hd
      obtain ⟨s, hs, rfl⟩ := Option.map_eq_some_iff.mp hd
      have S := P.sd s (List.mem_of_getElem? hs)
      have sz : ((plcL ((sidesL cs).take i) h).map numD).length + 1 ≤ 100000 := by
        have := plcL_len h ((sidesL cs).take i) []
        rw [List.length_map]
        have q : ((sidesL cs).take i).length ≤ (sidesL cs).length := by rw [List.length_take]; omega
        have q2 : (plcL ((sidesL cs).take i) h).length ≤ ((sidesL cs).take i).length := by simpa [plcL] using this
        omega
      refine ⟨_, dg_name 3, ds_if (dt_chain od_le od_le (de_eq (w := .d (.int (lo s))) (de_cb (bu_min2 rfl) (da_d (de_ixT (de_ixT (de_vd 3) de_int) de_int) (da_d (de_ixT (de_ixT (de_vd 3) de_int) de_int) da_nil)) (W.bl "min") boot_min) rfl) (de_vd 1) (de_eq (w := .d (.int (hi s))) (de_cb (bu_max2 rfl) (da_d (de_ixT (de_ixT (de_vd 3) de_int) de_int) (da_d (de_ixT (de_ixT (de_vd 3) de_int) de_int) da_nil)) (W.bl "max") boot_max) rfl)) (fun hc => ?_) (fun hc => ds_nil (ds_nil ⟨some (.d (sdD s)), o4, ?_⟩))⟩
      · have h12 : lo s ≤ h ∧ h ≤ hi s := by simpa using hc
        refine ds_set 4 (c_law_on W hr (de_vd 3) (de_vd 1) S hh) ?_
        by_cases hm : pon s h ∈ plcL ((sidesL cs).take i) h
        · refine ds_keep 2 (dt_eq (dt_cmp (od_niL (o := false) (u65 hr) (numD_nb _) (nbs_num _) (Nat.le_trans (numD_dep _) (by decide)) (Nat.le_trans (deps_num _) (by decide))) (de_vd 4) (de_vl 2)) ?_) (ds_nil (ds_nil ⟨some (.d (sdD s)), some (.d (numD (pon s h))), ?_⟩))
          · rw [decide_eq_true (mem_num.mpr hm)]; rfl
          · rw [plcL_succ h hs, plStepL, if_neg (fun z => z.2.2 hm)]; rfl
        · refine ds_set 2 (a := .l true ((plcL ((sidesL cs).take i) h).map numD ++ [numD (pon s h)])) (de_if (k := true) (dt_eq (dt_cmp (od_niL (o := false) (u65 hr) (numD_nb _) (nbs_num _) (Nat.le_trans (numD_dep _) (by decide)) (Nat.le_trans (deps_num _) (by decide))) (de_vd 4) (de_vl 2)) ?_) (fun _ => de_bin (od_cat (Evl.sz_of sz)) (de_vl 2) (de_lst (dd_cons (de_vd 4) dd_nil))) (fun z => by cases z)) (ds_nil (ds_nil ⟨some (.d (sdD s)), some (.d (numD (pon s h))), ?_⟩))
          · rw [decide_eq_false (fun z => hm (mem_num.mp z))]; rfl
          · rw [plcL_succ h hs, plStepL, if_pos ⟨h12.1, h12.2, hm⟩, List.map_append]; rfl
      · rw [plcL_succ h hs, plStepL, if_neg (fun z => by simp [z.1, z.2.1] at hc)]; rfl
    · subst e
      rw [List.length_map, List.take_length]
      exact ds_retL 2 rfl
/-! ### _law_in_order -/
theorem sc_law_in_order : FnScope ["_law_stands_here", "_law_found", "_law_x", "_law_y", "_law_at"] ["_law_stands_here"] (defScope (top 74)) := ⟨rfl, rfl, rfl, by decide +kernel, rfl, by decide +kernel, by decide +kernel⟩
theorem lexLt_total {p q : RR} (h : p ≠ q) (hn : ¬ lexLt p q) : lexLt q p := by
  obtain ⟨a, b⟩ := p
  obtain ⟨c, d⟩ := q
  unfold lexLt at *
  simp only [Prod.mk.injEq, ne_eq] at *
  by_cases h1 : a < c
  · exact absurd (.inl h1) hn
  · by_cases h2 : c < a
    · exact .inl h2
    · have e : a = c := Rat.le_antisymm (Rat.not_lt.mp h2) (Rat.not_lt.mp h1)
      subst e
      right
      refine ⟨rfl, ?_⟩
      by_cases h3 : b < d
      · exact absurd (.inr ⟨rfl, h3⟩) hn
      · have : b ≠ d := fun z => h ⟨rfl, z⟩
        exact Rat.lt_of_le_of_ne (Rat.not_lt.mp h3) (Ne.symm this)
theorem stnD_inj {p q : RR} (h : stnD p = stnD q) : p = q := by
  unfold stnD at h
  simp at h
  exact Prod.ext (numD_inj h.1) (numD_inj h.2)
noncomputable instance (p q : RR) : Decidable (lexLt p q) := Classical.propDecidable _
def mAt (n : Nat) : AE → Nat
  | [_, _, _, _, some (.d (.int x))] => n - x.toNat
  | _ => 0
def R_law_in_order (as : List AV) (r : AV) : Prop := ∃ ps ws : List RR, (∀ p ∈ ps, Bq p.1 ∧ Bq p.2) ∧ ps.Nodup ∧ ps.length ≤ 1000 ∧ SL ws ∧ (∀ p, p ∈ ws ↔ p ∈ ps) ∧ as = [.l false (ps.map stnD)] ∧ r = .l true (ws.map stnD)
theorem fn_law_in_order {g : Ga} (W : Wd g) (base : Heap) : FnD g base "_law_in_order" 3 ["_law_stands_here"] [] R_law_in_order := by
  obtain ⟨f, fd, hm, F⟩ := (W.fn "_law_in_order" 74).ex
  refine fnd_of (k := 2) hm F (F.binds fun _ _ _ _ _ _ us hl => match us, hl with | [_], _ => rfl) sc_law_in_order (fun as r h => ?_) (fun as r h => ?_) fun cdv A outer s H E as r hr h => ?_
  · obtain ⟨_, _, _, _, _, _, _, rfl, _⟩ := h; rfl
  · obtain ⟨_, _, _, _, _, _, _, rfl, _⟩ := h; simp [AV.own]
  · obtain ⟨ps, ws, hb, hnd, hlen, sw, mw, rfl, rfl⟩ := h
    have nd := sc_law_in_order.nd
    have hu := hr.units
    refine ds_set 1 (de_lst dd_nil) <| ds_for (ds := ps.map stnD) (di_var 0) (fun i τ' => i ≤ ps.length ∧ ∃ (us : List RR) (o2 o3 o4 : Option AV), τ' = [some (.l false (ps.map stnD)), some (.l true (us.map stnD)), o2, o3, o4] ∧ SL us ∧ (∀ p, p ∈ us ↔ p ∈ ps.take i) ∧ us.length = i) ⟨Nat.zero_le _, [], _, _, _, rfl, .nil, fun p => by simp, rfl⟩ (fun i d τ' hd ⟨hi, us, o2, o3, o4, e, su, mu, lu⟩ => ?_) fun τ' ⟨hi, us, o2, o3, o4, e, su, mu, lu⟩ => ?_
    · subst e
      rw [List.getElem?_map] at hd
      obtain ⟨⟨x, y⟩, hp, rfl⟩ := Option.map_eq_some_iff.mp hd
      have hil := (List.getElem?_eq_some_iff.mp hp).1
      obtain ⟨bx, bY⟩ := hb _ (List.mem_of_getElem? hp)
      have hnot : (x, y) ∉ us := fun z => by
        have := (mu _).mp z
        obtain ⟨j, hj⟩ := List.mem_iff_getElem?.mp this
        have hji : j < i := by
          have := (List.getElem?_eq_some_iff.mp hj).1
          rw [List.length_take] at this; omega
        rw [List.getElem?_take_of_lt hji] at hj
        have := (List.getElem?_inj (by omega) hnd).mp (hj.trans hp.symm)
        omega
      refine ⟨_, dg_tup (dgs_cons (dg_name 2) (dgs_cons (dg_name 3) dgs_nil)), ds_set 4 de_int ?_⟩
      refine ds_while (fun τ' => ∃ a : Nat, τ' = [some (.l false (ps.map stnD)), some (.l true (us.map stnD)), some (.d (numD x)), some (.d (numD y)), some (.d (.int (a : Int)))] ∧ a ≤ us.length ∧ ∀ j w, j < a → us[j]? = some w → lexLt w (x, y)) (mAt us.length) ⟨0, rfl, Nat.zero_le _, fun j w h => by omega⟩ fun τ' ⟨a, e, ha, hlt⟩ => ?_
      subst e
      by_cases hal : a < us.length
      · obtain ⟨⟨wx, wy⟩, hw⟩ : ∃ w, us[a]? = some w := ⟨_, List.getElem?_eq_getElem hal⟩
        have hwb : Bq wx ∧ Bq wy := by
          have := (mu (wx, wy)).mp (List.mem_of_getElem? hw)
          exact hb _ (List.mem_of_mem_take this)
        have ix : atI (us.map stnD) (a : Int) = some (.tup [numD wx, numD wy]) := atI_nat (by rw [List.getElem?_map, hw]; rfl)
        refine ⟨decide (lexLt (wx, wy) (x, y)), dt_eq (dt_w (dw_and (dt_cmp od_lt (de_vd 4) (de_cb bu_lenL (da_l (de_vl 1) da_nil) (W.bl "len") boot_len)) fun h0 => (dw_and1 (dt_w (dw_or (dt_val (c_law_before W hr (de_ixT (de_ixL (de_vl 1) (de_vd 4) ix) de_int) (de_vd 2) hwb.1.bn bx.bn)) fun h0 => (dw_or1 (dt_w (dw_and (dt_cmp (od_eqD hu (numD_nb wx) (numD_nb x) (Nat.le_trans (numD_dep _) (by decide)) (Nat.le_trans (numD_dep _) (by decide))) (de_ixT (de_ixL (de_vl 1) (de_vd 4) ix) de_int) (de_vd 2)) fun h0 => (dw_and1 (dt_val (c_law_before W hr (de_ixT (de_ixL (de_vl 1) (de_vd 4) ix) de_int) (de_vd 3) hwb.2.bn bY.bn))))))))))) ?_, fun hc => ?_, fun hc => ?_⟩
        · have key : ((decide ((a : Int) < ((us.map stnD).length : Int)) && (decide (wx < x) || (decide (numD wx = numD x) && decide (wy < y)))) = true) ↔ lexLt (wx, wy) (x, y) := by
            unfold lexLt
            simp [hal, numD_iff]
          exact Bool.eq_iff_iff.mpr ⟨fun h => decide_eq_true (key.mp h), fun h => key.mpr (of_decide_eq_true h)⟩
        · have hlx : lexLt (wx, wy) (x, y) := of_decide_eq_true hc
          refine ds_set 4 (de_bin od_add (de_vd 4) de_int) (ds_nil ⟨⟨a + 1, rfl, hal, fun j w hj hw' => ?_⟩, ?_⟩)
          · by_cases e : j = a
            · subst e; rw [hw] at hw'; cases hw'; exact hlx
            · exact hlt j w (by omega) hw'
          · show us.length - Int.toNat ((a : Int) + 1) < us.length - Int.toNat (a : Int)
            omega
        · have hnl : ¬ lexLt (wx, wy) (x, y) := of_decide_eq_false hc
          have hgt : lexLt (x, y) (wx, wy) := lexLt_total (fun z => hnot (z ▸ List.mem_of_getElem? hw)) hnl
          refine ds_ins 1 (de_vd 4) (de_tup (dd_cons (de_vd 2) (dd_cons (de_vd 3) dd_nil))) ?_ ?_ (ds_nil ⟨hil, us.take a ++ [(x, y)] ++ us.drop a, some (.d (numD x)), some (.d (numD y)), some (.d (.int (a : Int))), ?_, ?_, ?_, ?_⟩)
          · rw [List.length_map]; omega
          · rw [List.length_map]; exact ha
          · rw [List.map_append, List.map_append, List.map_take, List.map_drop]; rfl
          · have sd : (us.drop a).Pairwise lexLt := su.sublist (List.drop_sublist _ _)
            have dd : us.drop a = (wx, wy) :: us.drop (a + 1) := by rw [List.drop_eq_getElem_cons hal]; congr 1; rw [List.getElem?_eq_getElem hal] at hw; exact Option.some.inj hw
            have low : ∀ w ∈ us.take a, lexLt w (x, y) := fun w hw' => by
              obtain ⟨j, hj⟩ := List.mem_iff_getElem?.mp hw'
              have hja : j < a := by have := (List.getElem?_eq_some_iff.mp hj).1; rw [List.length_take] at this; omega
              rw [List.getElem?_take_of_lt hja] at hj
              exact hlt j w hja hj
            have high : ∀ w ∈ us.drop a, lexLt (x, y) w := fun w hw' => by
              rw [dd] at hw' sd
              rcases List.mem_cons.mp hw' with q | q
              · rw [q]; exact hgt
              · exact lexLt_trans hgt ((List.pairwise_cons.mp sd).1 w q)
            refine List.pairwise_append.mpr ⟨List.pairwise_append.mpr ⟨su.sublist (List.take_sublist _ _), by simp, fun w hw' q hq => ?_⟩, sd, fun w hw' q hq => ?_⟩
            · rw [List.mem_singleton.mp hq]; exact low w hw'
            · rcases List.mem_append.mp hw' with z | z
              · exact lexLt_trans (low w z) (high q hq)
              · rw [List.mem_singleton.mp z]; exact high q hq
          · intro p
            rw [List.take_add_one, hp, List.mem_append, List.mem_append, List.mem_append, ← mu p, List.mem_singleton]
            conv => rhs; lhs; rw [← List.take_append_drop a us, List.mem_append]
            simp only [Option.toList_some, List.mem_singleton]
            constructor
            · rintro ((h | h) | h)
              · exact .inl (.inl h)
              · exact .inr h
              · exact .inl (.inr h)
            · rintro ((h | h) | h)
              · exact .inl (.inl h)
              · exact .inr h
              · exact .inl (.inr h)
          · simp; omega
      · have e : a = us.length := by omega
        refine ⟨false, dt_eq (dt_w (dw_and (j := false) (dt_cmp od_lt (de_vd 4) (de_cb bu_lenL (da_l (de_vl 1) da_nil) (W.bl "len") boot_len)) fun h0 => (by simp at h0; omega))) (by simp), fun hc => (by cases hc), fun hc => ?_⟩
        refine ds_ins 1 (de_vd 4) (de_tup (dd_cons (de_vd 2) (dd_cons (de_vd 3) dd_nil))) ?_ ?_ (ds_nil ⟨hil, us ++ [(x, y)], some (.d (numD x)), some (.d (numD y)), some (.d (.int (a : Int))), ?_, ?_, ?_, ?_⟩)
        · rw [List.length_map]; omega
        · rw [List.length_map]; exact ha
        · subst e
          rw [List.take_of_length_le (by simp), List.drop_of_length_le (by simp), List.append_nil, List.map_append]; rfl
        · refine List.pairwise_append.mpr ⟨su, by simp, fun w hw' q hq => ?_⟩
          rw [List.mem_singleton.mp hq]
          obtain ⟨j, hj⟩ := List.mem_iff_getElem?.mp hw'
          exact hlt j w (by rw [e]; exact (List.getElem?_eq_some_iff.mp hj).1) hj
        · intro p
          rw [List.take_add_one, hp, List.mem_append, List.mem_append, ← mu p]
          simp
        · simp; omega
    · subst e
      rw [List.length_map, List.take_length] at mu
      refine ds_retL 1 ?_
      congr 2
      exact SL.uniq su sw fun p => by rw [mu p, mw p]
section
variable {X : Cx} {τ : AE} {e e1 e2 e3 e4 : Expr} {p pos : Pos} {j : Nat}
theorem c_law_places (W : Wd (gaOf X)) (hr : Room j X.A) {o : Bool} {cs : List Pt} {h : Int} (h1 : DE X τ e1 (.l o (cs.map corD))) (h2 : DE X τ e2 (.d (.int h))) (P : PV cs) (hh : h.natAbs ≤ 64) (hj : 3 ≤ j := by decide) (c : CallOk X "_law_places" e1 [e2] pos := by exact ⟨rfl, rfl, rfl⟩) (c2 : StarOk X e2 [] := by exact ⟨rfl⟩) :
    DE X τ (.Call (.Name "_law_places" p) [e1, e2] [] pos) (.l true ((plcL (sidesL cs) h).map numD)) := call2 (fn_law_places W X.base) hr hj h1 h2 ⟨cs, h, P, hh, rfl, rfl⟩ c c2 (by decide)
theorem c_law_in_order (W : Wd (gaOf X)) (hr : Room j X.A) {o : Bool} {ps ws : List RR} (h1 : DE X τ e1 (.l o (ps.map stnD))) (hb : ∀ p ∈ ps, Bq p.1 ∧ Bq p.2) (hn : ps.Nodup) (hl : ps.length ≤ 1000) (sw : SL ws) (mw : ∀ p, p ∈ ws ↔ p ∈ ps) (hj : 3 ≤ j := by decide) (c : CallOk X "_law_in_order" e1 [] pos := by exact ⟨rfl, rfl, rfl⟩) :
    DE X τ (.Call (.Name "_law_in_order" p) [e1] [] pos) (.l true (ws.map stnD)) := call1 (fn_law_in_order W X.base) hr hj h1 ⟨ps, ws, hb, hn, hl, sw, mw, rfl, rfl⟩ c (by decide)
end
end BF

set_option Elab.async false
set_option linter.all false
set_option maxRecDepth 100000
set_option maxHeartbeats 1000000
set_option autoImplicit false
namespace BF
open PySem PySem.Spec PyProof.Rows L2

/-! ### _law_stands -/
theorem putAll_keys : ∀ (ps : List RR) {kvs : Kvs} {L : List RR}, kvs.map (·.1) = L.map stnD → L.Nodup → ∃ L' : List RR, (putAll kvs (ps.map stnD)).map (·.1) = L'.map stnD ∧ L'.Nodup ∧ ∀ p, p ∈ L' ↔ p ∈ L ∨ p ∈ ps
  | [], kvs, L, h, hn => ⟨L, h, hn, fun p => by simp⟩
  | q :: ps, kvs, L, h, hn => by
    have hk : (putA kvs (stnD q) (.inl (.bl true))).map (·.1) = (if q ∈ L then L else L ++ [q]).map stnD := by
      rw [putA_keys, h]
      by_cases hq : q ∈ L
      · rw [if_pos (List.mem_map_of_mem hq), if_pos hq]
      · rw [if_neg (fun z => by obtain ⟨y, h1, h2⟩ := List.mem_map.mp z; rw [stnD_inj h2] at h1; exact hq h1), if_neg hq]; simp
    have hn' : (if q ∈ L then L else L ++ [q]).Nodup := by
      split
      · exact hn
      · rename_i hq
        exact List.nodup_append.mpr ⟨hn, by simp, fun a ha b hb => by rw [List.mem_singleton.mp hb]; exact fun z => hq (z ▸ ha)⟩
    obtain ⟨L', h1, h2, h3⟩ := putAll_keys ps hk hn'
    refine ⟨L', h1, h2, fun p => ?_⟩
    rw [h3 p]
    by_cases hq : q ∈ L
    · rw [if_pos hq, List.mem_cons]
      exact ⟨fun h => h.imp id .inr, fun h => h.elim .inl fun h => h.elim (fun e => .inl (e ▸ hq)) .inr⟩
    · rw [if_neg hq, List.mem_append, List.mem_singleton, List.mem_cons]
      exact ⟨fun h => h.elim (fun h => h.imp id .inl) fun h => .inr (.inr h), fun h => h.elim (fun h => .inl (.inl h)) fun h => h.elim (fun e => .inl (.inr e)) .inr⟩
def stA' (cs ds : List Pt) (p : RR) : Prop := ∃ c ∈ cs, p.1 = (c.1 : Rat) ∧ p.2 ∈ plcL (sidesL ds) c.2
def stB' (cs ds : List Pt) (p : RR) : Prop := ∃ c ∈ ds, p.2 = (c.1 : Rat) ∧ p.1 ∈ plcL (sidesL cs) c.2
theorem sc_law_stands : FnScope ["_law_one", "_law_other", "_law_found", "_law_place", "_law_height_here", "_law_y", "_law_x"] ["_law_one", "_law_other"] (defScope (top 75)) := ⟨rfl, rfl, rfl, by decide +kernel, rfl, by decide +kernel, by decide +kernel⟩
def R_law_stands (as : List AV) (r : AV) : Prop := ∃ (cs ds : List Pt) (ws : List RR), PV cs ∧ PV ds ∧ SL ws ∧ (∀ p, p ∈ ws ↔ stA' cs ds p ∨ stB' cs ds p) ∧ as = [.l false (cs.map corD), .l false (ds.map corD)] ∧ r = .l true (ws.map stnD)
theorem bq_int {i : Int} (h : i.natAbs ≤ 64) : Bq (i : Rat) := (Bd.i64 h).mono (by decide) (by decide)
theorem fn_law_stands {g : Ga} (W : Wd g) (base : Heap) : FnD g base "_law_stands" 4 ["_law_one", "_law_other"] [] R_law_stands := by
  obtain ⟨f, fd, hm, F⟩ := (W.fn "_law_stands" 75).ex
  refine fnd_of (k := 3) hm F (F.binds fun _ _ _ _ _ _ us hl => match us, hl with | [_, _], _ => rfl) sc_law_stands (fun as r h => ?_) (fun as r h => ?_) fun cdv A outer s H E as r hr h => ?_
  · obtain ⟨_, _, _, _, _, _, _, rfl, _⟩ := h; rfl
  · obtain ⟨_, _, _, _, _, _, _, rfl, _⟩ := h; simp [AV.own]
  · obtain ⟨cs, ds, ws, P, P', sw, mw, rfl, rfl⟩ := h
    have nd := sc_law_stands.nd
    have hu := hr.units
    have c8 := P.few
    have d8 := P'.few
    refine ds_dnew 2 <| ds_for (ds := cs.map corD) (di_var 0) (fun i τ' => i ≤ cs.length ∧ ∃ (kvs : Kvs) (L : List RR) (o3 o4 : Option AV), τ' = [some (.l false (cs.map corD)), some (.l false (ds.map corD)), some (.m true kvs), o3, o4, none, none] ∧ kvs.map (·.1) = L.map stnD ∧ L.Nodup ∧ List.length kvs ≤ 7 * i ∧ (∀ p ∈ L, Bq p.1 ∧ Bq p.2) ∧ ∀ p, p ∈ L ↔ stA' (cs.take i) ds p)
      ⟨Nat.zero_le _, [], [], none, none, rfl, rfl, List.nodup_nil, Nat.zero_le _, fun p h => (by cases h), fun p => ⟨fun h => (by cases h), fun ⟨_, h, _⟩ => (by simp at h)⟩⟩
      (fun i d τ' hd ⟨hi, kvs, L, o3, o4, e, hk, hn, hz, hB, m⟩ => ?_) fun τ' ⟨hi, kvs, L, o3, o4, e, hk, hn, hz, hB, m⟩ => ?_
    · subst e
      rw [List.getElem?_map] at hd
      obtain ⟨⟨pl, ht⟩, hc, rfl⟩ := Option.map_eq_some_iff.mp hd
      have hil := (List.getElem?_eq_some_iff.mp hc).1
      have bc := P.bd (List.mem_of_getElem? hc)
      have l7 := plcL_len8 P' ht
      have bp := plcL_bd P'.sd bc.2
      obtain ⟨L', k1, k2, k3⟩ := putAll_keys ((plcL (sidesL ds) ht).map fun y => ((pl : Rat), y)) hk hn
      refine ⟨_, dg_tup (dgs_cons (dg_name 3) (dgs_cons (dg_name 4) dgs_nil)), ds_mupd 2 (ks := ((plcL (sidesL ds) ht).map fun y => ((pl : Rat), y)).map stnD) (o := true) (de_eq (de_lc (ds := (plcL (sidesL ds) ht).map numD) [("_law_y", 5)] (fun _ => true) (fun i => .tup [stnD ((pl : Rat), (plcL (sidesL ds) ht)[i]?.getD 0), .bl true]) (di_new (c_law_places W hr (de_vl 1) (de_vd 4) P' bc.2)) (by rw [List.length_map]; omega) (fun i d hd => ?_) ?_) ?_) (fun k hk => ?_) ?_ hu (ds_nil ⟨hil, _, L', some (.d (.int pl)), some (.d (.int ht)), rfl, k1, k2, ?_, fun p hp => ?_, fun p => ?_⟩)⟩
      · rw [List.getElem?_map] at hd
        obtain ⟨y, hy, rfl⟩ := Option.map_eq_some_iff.mp hd
        rw [hy]
        exact ⟨_, fun s H C cl fp => ⟨dw_name 5, dts_nil, fun _ => de_eq (de_tup (dd_cons (de_tup (dd_cons (dn (de_vd 3)) (dd_cons (de_vd 5) dd_nil))) (dd_cons de_bl dd_nil))) rfl⟩⟩
      · show BlkOk ["_law_one", "_law_other", "_law_found", "_law_place", "_law_height_here", "_law_y", "_law_x"] (defScope (top 75)) _ _
        exact blkOk_by (by decide +kernel)
      · rw [List.length_map]
        congr 1
        rw [List.map_map, List.map_map]
        exact range_map (plcL (sidesL ds) ht) _ _ fun i a h => by rw [h]; rfl
      · obtain ⟨p, _, rfl⟩ := List.mem_map.mp hk
        exact ⟨stn_nb p, Nat.le_trans (stn_dep p) (by decide)⟩
      · rw [List.length_map, List.length_map]; omega
      · have := putAll_len (((plcL (sidesL ds) ht).map fun y => ((pl : Rat), y)).map stnD) kvs
        rw [List.length_map, List.length_map] at this
        omega
      · rcases (k3 p).mp hp with h | h
        · exact hB p h
        · obtain ⟨y, hy, rfl⟩ := List.mem_map.mp h
          exact ⟨bq_int bc.1, bp y hy⟩
      · rw [k3 p, m p]
        constructor
        · rintro (⟨c, h2, h3⟩ | h)
          · exact ⟨c, by rw [List.take_add_one]; exact List.mem_append_left _ h2, h3⟩
          · obtain ⟨y, hy, rfl⟩ := List.mem_map.mp h
            exact ⟨(pl, ht), by rw [List.take_add_one, hc]; simp, rfl, hy⟩
        · rintro ⟨c, h2, h3, h4⟩
          rcases take_mem_succ hc h2 with q | q
          · exact .inl ⟨c, q, h3, h4⟩
          · subst q; right; exact List.mem_map.mpr ⟨p.2, h4, by rw [← h3]⟩
    · subst e
      rw [List.length_map, List.take_length] at m
      rw [List.length_map] at hz
      refine ds_for (ds := ds.map corD) (di_var 1) (fun i τ' => i ≤ ds.length ∧ ∃ (kvs : Kvs) (L : List RR) (o3 o4 : Option AV), τ' = [some (.l false (cs.map corD)), some (.l false (ds.map corD)), some (.m true kvs), o3, o4, none, none] ∧ kvs.map (·.1) = L.map stnD ∧ L.Nodup ∧ List.length kvs ≤ 56 + 7 * i ∧ (∀ p ∈ L, Bq p.1 ∧ Bq p.2) ∧ ∀ p, p ∈ L ↔ stA' cs ds p ∨ stB' cs (ds.take i) p)
        ⟨Nat.zero_le _, kvs, L, o3, o4, rfl, hk, hn, by omega, hB, fun p => by rw [m p]; exact ⟨.inl, fun h => h.elim id fun ⟨_, h, _⟩ => (by simp at h)⟩⟩
        (fun i d τ' hd ⟨hi, kvs, L, o3, o4, e, hk, hn, hz, hB, m⟩ => ?_) fun τ' ⟨hi, kvs, L, o3, o4, e, hk, hn, hz, hB, m⟩ => ?_
      · subst e
        rw [List.getElem?_map] at hd
        obtain ⟨⟨pl, ht⟩, hc, rfl⟩ := Option.map_eq_some_iff.mp hd
        have hil := (List.getElem?_eq_some_iff.mp hc).1
        have bc := P'.bd (List.mem_of_getElem? hc)
        have l7 := plcL_len8 P ht
        have bp := plcL_bd P.sd bc.2
        obtain ⟨L', k1, k2, k3⟩ := putAll_keys ((plcL (sidesL cs) ht).map fun y => (y, (pl : Rat))) hk hn
        refine ⟨_, dg_tup (dgs_cons (dg_name 3) (dgs_cons (dg_name 4) dgs_nil)), ds_mupd 2 (ks := ((plcL (sidesL cs) ht).map fun y => (y, (pl : Rat))).map stnD) (o := true) (de_eq (de_lc (ds := (plcL (sidesL cs) ht).map numD) [("_law_x", 6)] (fun _ => true) (fun i => .tup [stnD ((plcL (sidesL cs) ht)[i]?.getD 0, (pl : Rat)), .bl true]) (di_new (c_law_places W hr (de_vl 0) (de_vd 4) P bc.2)) (by rw [List.length_map]; omega) (fun i d hd => ?_) ?_) ?_) (fun k hk => ?_) ?_ hu (ds_nil ⟨hil, _, L', some (.d (.int pl)), some (.d (.int ht)), rfl, k1, k2, ?_, fun p hp => ?_, fun p => ?_⟩)⟩
        · rw [List.getElem?_map] at hd
          obtain ⟨y, hy, rfl⟩ := Option.map_eq_some_iff.mp hd
          rw [hy]
          exact ⟨_, fun s H C cl fp => ⟨dw_name 6, dts_nil, fun _ => de_eq (de_tup (dd_cons (de_tup (dd_cons (de_vd 6) (dd_cons (dn (de_vd 3)) dd_nil))) (dd_cons de_bl dd_nil))) rfl⟩⟩
        · show BlkOk ["_law_one", "_law_other", "_law_found", "_law_place", "_law_height_here", "_law_y", "_law_x"] (defScope (top 75)) _ _
          exact blkOk_by (by decide +kernel)
        · rw [List.length_map]
          congr 1
          rw [List.map_map, List.map_map]
          exact range_map (plcL (sidesL cs) ht) _ _ fun i a h => by rw [h]; rfl
        · obtain ⟨p, _, rfl⟩ := List.mem_map.mp hk
          exact ⟨stn_nb p, Nat.le_trans (stn_dep p) (by decide)⟩
        · rw [List.length_map, List.length_map]; omega
        · have := putAll_len (((plcL (sidesL cs) ht).map fun y => (y, (pl : Rat))).map stnD) kvs
          rw [List.length_map, List.length_map] at this
          omega
        · rcases (k3 p).mp hp with h | h
          · exact hB p h
          · obtain ⟨y, hy, rfl⟩ := List.mem_map.mp h
            exact ⟨bp y hy, bq_int bc.1⟩
        · rw [k3 p, m p]
          constructor
          · rintro ((h | ⟨c, h2, h3⟩) | h)
            · exact .inl h
            · exact .inr ⟨c, by rw [List.take_add_one]; exact List.mem_append_left _ h2, h3⟩
            · obtain ⟨y, hy, rfl⟩ := List.mem_map.mp h
              exact .inr ⟨(pl, ht), by rw [List.take_add_one, hc]; simp, rfl, hy⟩
          · rintro (h | ⟨c, h2, h3, h4⟩)
            · exact .inl (.inl h)
            · rcases take_mem_succ hc h2 with q | q
              · exact .inl (.inr ⟨c, q, h3, h4⟩)
              · subst q; right; exact List.mem_map.mpr ⟨p.1, h4, by rw [← h3]⟩
      · subst e
        rw [List.length_map, List.take_length] at m
        rw [List.length_map] at hz
        have hL : L.length ≤ 112 := by
          have := congrArg List.length hk
          rw [List.length_map, List.length_map] at this
          have h2 : List.length kvs = L.length := this
          omega
        refine ds_ret (c_law_in_order W hr (o := true) (ps := L) (ws := ws) (de_eq (de_cty (ty_listM (kvs := kvs) rfl (by omega)) (da_m (de_vm 2) da_nil) (W.bl "list") boot_list) (by rw [hk])) hB hn (by omega) sw (fun p => by rw [mw p, m p])) rfl
/-! ### _law_leading -/
theorem sc_law_leading : FnScope ["_law_corners_here", "_law_place", "_law_is_up", "_law_found", "_law_side", "_law_goal"] ["_law_corners_here", "_law_place", "_law_is_up"] (defScope (top 76)) := ⟨rfl, rfl, rfl, by decide +kernel, rfl, by decide +kernel, by decide +kernel⟩
def R_law_leading (as : List AV) (r : AV) : Prop := ∃ (cs : List Pt) (x : Rat) (up : Bool), PV cs ∧ Bq x ∧ as = [.l false (cs.map corD), .d (numD x), .d (.bl up)] ∧ r = .l true ((leadS cs x up).map sdD)
theorem leadS_take (cs : List Pt) (x : Rat) (up : Bool) {i : Nat} {s : Side} (hs : (sidesL cs)[i]? = some s) : ((sidesL cs).take (i + 1)).filter (fun s => decide (leadC up s x)) = ((sidesL cs).take i).filter (fun s => decide (leadC up s x)) ++ if leadC up s x then [s] else [] := by
  rw [List.take_add_one, hs, List.filter_append]
  by_cases h : leadC up s x <;> simp [h]
theorem fn_law_leading {g : Ga} (W : Wd g) (base : Heap) : FnD g base "_law_leading" 3 ["_law_corners_here", "_law_place", "_law_is_up"] [] R_law_leading := by
  obtain ⟨f, fd, hm, F⟩ := (W.fn "_law_leading" 76).ex
  refine fnd_of (k := 2) hm F (F.binds fun _ _ _ _ _ _ us hl => match us, hl with | [_, _, _], _ => rfl) sc_law_leading (fun as r h => ?_) (fun as r h => ?_) fun cdv A outer s H E as r hr h => ?_
  · obtain ⟨_, _, _, _, _, rfl, _⟩ := h; rfl
  · obtain ⟨_, _, _, _, _, rfl, _⟩ := h; simp [AV.own]
  · obtain ⟨cs, x, up, P, hx, rfl, rfl⟩ := h
    have nd := sc_law_leading.nd
    have hu := hr.units
    have hl := sides_len cs
    have hf := P.few
    refine ds_set 3 (de_lst dd_nil) <| ds_for (ds := (sidesL cs).map sdD) (di_new (c_law_sides W hr (de_vl 0))) (fun i τ' => ∃ o4 o5 : Option AV, τ' = [some (.l false (cs.map corD)), some (.d (numD x)), some (.d (.bl up)), some (.l true ((((sidesL cs).take i).filter fun s => decide (leadC up s x)).map sdD)), o4, o5]) ⟨_, _, rfl⟩ (fun i d τ' hd ⟨o4, o5, e⟩ => ?_) fun τ' ⟨o4, o5, e⟩ => ?_
    · subst e
      rw [List.getElem?_map] at hd
      obtain ⟨⟨⟨a, b⟩, c, d2⟩, hs, rfl⟩ := Option.map_eq_some_iff.mp hd
      have S := P.sd _ (List.mem_of_getElem? hs)
      have key : leadC up ((a, b), (c, d2)) x ↔ ((a : Rat) ≤ x ∧ x ≤ (c : Rat)) ∧ x ≠ ((if decide (d2 < b) = up then a else c : Int) : Rat) := by
        unfold leadC onS goal gUp gDn
        by_cases hbd : d2 < b <;> cases up <;> simp [hbd]
      refine ⟨_, dg_name 4, ds_set 5 (a := .d (corD (if decide (d2 < b) = up then (a, b) else (c, d2)))) (de_if (k := decide (decide (d2 < b) = up)) (dt_cmp od_eqB (de_cmp od_gt (de_ixT (de_ixT (de_vd 4) de_int) de_int) (de_ixT (de_ixT (de_vd 4) de_int) de_int)) (de_vd 2)) (fun h => de_eq (de_ixT (de_vd 4) de_int) ?_) (fun h => de_eq (de_ixT (de_vd 4) de_int) ?_)) ?_⟩
      · rw [if_pos (of_decide_eq_true h)]
      · rw [if_neg (of_decide_eq_false h)]
      have hg : (AV.d (corD (if decide (d2 < b) = up then (a, b) else (c, d2)))) = .d (.tup [.int (if decide (d2 < b) = up then a else c), .int (if decide (d2 < b) = up then b else d2)]) := by
        by_cases q : decide (d2 < b) = up
        · rw [if_pos q, if_pos q, if_pos q]; rfl
        · rw [if_neg q, if_neg q, if_neg q]; rfl
      rw [hg]
      have neN : ∀ {q : Rat}, OpD (cxOf CX0 g.P g.w g.K g.mg base ["_law_corners_here", "_law_place", "_law_is_up", "_law_found", "_law_side", "_law_goal"] "_law_leading" (defScope (top 76)) f cdv A outer s H E).nox (compareOp .NotEq) (.d (numD x)) (.d (numD q)) (.d (.bl (!decide (numD x = numD q)))) := fun {q} => od_neD hu (numD_nb _) (numD_nb _) (Nat.le_trans (numD_dep _) (by decide)) (Nat.le_trans (numD_dep _) (by decide))
      refine ds_if (dt_w (dw_and (dt_not (dt_val (c_law_before W hr (de_vd 1) (dn (de_ixT (de_ixT (de_vd 4) de_int) de_int)) hx.bn (Bd.i64 S.b1).bn))) fun h0 => (dw_and (dt_not (dt_val (c_law_before W hr (dn (de_ixT (de_ixT (de_vd 4) de_int) de_int)) (de_vd 1) (Bd.i64 S.b3).bn hx.bn))) fun h1 => (dw_and1 (dt_cmp neN (de_vd 1) (dn (de_ixT (de_vd 5) de_int))))))) (fun hc => ?_) (fun hc => ds_nil (ds_nil ?_))
      · have hk : leadC up ((a, b), (c, d2)) x := key.mpr (by
          have := hc
          simp [numD_iff, Rat.not_lt] at this
          exact ⟨⟨this.1, this.2.1⟩, this.2.2⟩)
        refine ds_app 3 (de_vd 4) ?_ (ds_nil (ds_nil ?_))
        · rw [List.length_map]
          have := List.length_filter_le (fun s => decide (leadC up s x)) ((sidesL cs).take i)
          rw [List.length_take] at this
          omega
        · rw [leadS_take cs x up hs, if_pos hk, List.map_append]
          exact ⟨_, _, rfl⟩
      · have hk : ¬ leadC up ((a, b), (c, d2)) x := fun z => by
          have w := key.mp z
          have : ((!decide (x < (a : Rat))) && ((!decide ((c : Rat) < x)) && (!decide (numD x = numD ((if decide (d2 < b) = up then a else c : Int) : Rat))))) = true := by
            simp only [Bool.and_eq_true, Bool.not_eq_true', decide_eq_false_iff_not, Rat.not_lt, numD_iff]
            exact ⟨w.1.1, w.1.2, w.2⟩
          rw [this] at hc; cases hc
        rw [leadS_take cs x up hs, if_neg hk, List.append_nil]
        exact ⟨_, _, rfl⟩
    · subst e
      rw [List.length_map, List.take_length]
      exact ds_retL 3 rfl
section
variable {X : Cx} {τ : AE} {e e1 e2 e3 e4 : Expr} {p pos : Pos} {j : Nat}
theorem c_law_stands (W : Wd (gaOf X)) (hr : Room j X.A) {o o' : Bool} {cs ds : List Pt} {ws : List RR} (h1 : DE X τ e1 (.l o (cs.map corD))) (h2 : DE X τ e2 (.l o' (ds.map corD))) (P : PV cs) (P' : PV ds) (sw : SL ws) (mw : ∀ p, p ∈ ws ↔ stA' cs ds p ∨ stB' cs ds p) (hj : 4 ≤ j := by decide) (c : CallOk X "_law_stands" e1 [e2] pos := by exact ⟨rfl, rfl, rfl⟩) (c2 : StarOk X e2 [] := by exact ⟨rfl⟩) :
    DE X τ (.Call (.Name "_law_stands" p) [e1, e2] [] pos) (.l true (ws.map stnD)) := call2 (fn_law_stands W X.base) hr hj h1 h2 ⟨cs, ds, ws, P, P', sw, mw, rfl, rfl⟩ c c2 (by decide)
theorem c_law_leading (W : Wd (gaOf X)) (hr : Room j X.A) {o : Bool} {cs : List Pt} {x : Rat} {up : Bool} (h1 : DE X τ e1 (.l o (cs.map corD))) (h2 : DE X τ e2 (.d (numD x))) (h3 : DE X τ e3 (.d (.bl up))) (P : PV cs) (hx : Bq x) (hj : 3 ≤ j := by decide) (c : CallOk X "_law_leading" e1 [e2, e3] pos := by exact ⟨rfl, rfl, rfl⟩) (c2 : StarOk X e2 [e3] := by exact ⟨rfl⟩) (c3 : StarOk X e3 [] := by exact ⟨rfl⟩) :
    DE X τ (.Call (.Name "_law_leading" p) [e1, e2, e3] [] pos) (.l true ((leadS cs x up).map sdD)) := call3 (fn_law_leading W X.base) hr hj h1 h2 h3 ⟨cs, x, up, P, hx, rfl, rfl⟩ c c2 c3 (by decide)
end
end BF

set_option Elab.async false
set_option linter.all false
set_option maxRecDepth 100000
set_option maxHeartbeats 1000000
set_option autoImplicit false
namespace BF
open PySem PySem.Spec PyProof.Rows L2

/-! ### _law_ways -/
def goalP (up : Bool) (s t : Side) : RR := (pon s (wayS up s t : Rat), pon t (wayS up s t : Rat))
noncomputable def goalU (cs ds : List Pt) (q : RR) (up : Bool) : List RR := (leadS cs q.1 up).flatMap fun s => (leadS ds q.2 up).map fun t => goalP up s t
noncomputable def goalsS (cs ds : List Pt) (q : RR) : List RR := [true, false].flatMap (goalU cs ds q)
theorem leadS_sv {cs : List Pt} (P : PV cs) {x : Rat} {up : Bool} {s : Side} (h : s ∈ leadS cs x up) : SV s := P.sd s (List.mem_filter.mp h).1
theorem leadS_len {cs : List Pt} (P : PV cs) (x : Rat) (up : Bool) : (leadS cs x up).length ≤ 7 := by
  have h1 := sides_len cs
  have h2 := P.few
  exact Nat.le_trans (List.length_filter_le _ _) (by omega)
theorem goalU_len {cs ds : List Pt} (P : PV cs) (P' : PV ds) (q : RR) (up : Bool) : (goalU cs ds q up).length ≤ 49 := by
  have h1 := flat_len 7 (leadS cs q.1 up) (fun s => (leadS ds q.2 up).map fun t => goalP up s t) fun a => by rw [List.length_map]; exact leadS_len P' _ _
  have h2 := leadS_len P q.1 up
  unfold goalU; omega
theorem goalU_bd {cs ds : List Pt} (P : PV cs) (P' : PV ds) (q : RR) (up : Bool) : ∀ p ∈ goalU cs ds q up, Bq p.1 ∧ Bq p.2 := fun p hp => by
  obtain ⟨s, hs, h2⟩ := List.mem_flatMap.mp hp
  obtain ⟨t, ht, rfl⟩ := List.mem_map.mp h2
  have S := leadS_sv P hs
  have T := leadS_sv P' ht
  exact ⟨pon_bd S (wayS_le S T up), pon_bd T (wayS_le S T up)⟩
theorem goalsS_bd {cs ds : List Pt} (P : PV cs) (P' : PV ds) (q : RR) : ∀ p ∈ goalsS cs ds q, Bq p.1 ∧ Bq p.2 := fun p hp => by
  obtain ⟨up, _, h⟩ := List.mem_flatMap.mp hp
  exact goalU_bd P P' q up p h
theorem goalsS_len {cs ds : List Pt} (P : PV cs) (P' : PV ds) (q : RR) : (goalsS cs ds q).length ≤ 98 := by
  have h1 := goalU_len P P' q true
  have h2 := goalU_len P P' q false
  simp [goalsS]; omega
theorem flat_take {α β : Type} (f : α → List β) {xs : List α} {i : Nat} {a : α} (h : xs[i]? = some a) : (xs.take (i + 1)).flatMap f = (xs.take i).flatMap f ++ f a := by
  rw [List.take_add_one, h, List.flatMap_append]; simp
theorem sc_law_ways : FnScope ["_law_one", "_law_other", "_law_stand", "_law_found", "_law_is_up", "_law_mine", "_law_its", "_law_ends", "_law_height_here", "_law_side"] ["_law_one", "_law_other", "_law_stand"] (defScope (top 77)) := ⟨rfl, rfl, rfl, by decide +kernel, rfl, by decide +kernel, by decide +kernel⟩
def R_law_ways (as : List AV) (r : AV) : Prop := ∃ (cs ds : List Pt) (q : RR) (ws : List RR), PV cs ∧ PV ds ∧ Bq q.1 ∧ Bq q.2 ∧ (goalsS cs ds q).Nodup ∧ SL ws ∧ (∀ p, p ∈ ws ↔ p ∈ goalsS cs ds q) ∧ as = [.l false (cs.map corD), .l false (ds.map corD), .d (stnD q)] ∧ r = .l true (ws.map stnD)
theorem fn_law_ways {g : Ga} (W : Wd g) (base : Heap) : FnD g base "_law_ways" 4 ["_law_one", "_law_other", "_law_stand"] [] R_law_ways := by
  obtain ⟨f, fd, hm, F⟩ := (W.fn "_law_ways" 77).ex
  refine fnd_of (k := 3) hm F (F.binds fun _ _ _ _ _ _ us hl => match us, hl with | [_, _, _], _ => rfl) sc_law_ways (fun as r h => ?_) (fun as r h => ?_) fun cdv A outer s H E as r hr h => ?_
  · obtain ⟨_, _, _, _, _, _, _, _, _, _, _, rfl, _⟩ := h; rfl
  · obtain ⟨_, _, _, _, _, _, _, _, _, _, _, rfl, _⟩ := h; simp [AV.own]
  · obtain ⟨cs, ds, ⟨x, y⟩, ws, P, P', hx, hy, hnd, sw, mw, rfl, rfl⟩ := h
    have nd := sc_law_ways.nd
    let St (fo : List RR) (o4 o5 o6 o7 o8 : Option AV) : AE := [some (.l false (cs.map corD)), some (.l false (ds.map corD)), some (.d (stnD (x, y))), some (.l true (fo.map stnD)), o4, o5, o6, o7, o8, none]
    refine ds_set 3 (de_lst dd_nil) <| ds_for (ds := [D.bl true, D.bl false]) (di_tup (de_tup (dd_cons de_bl (dd_cons de_bl dd_nil)))) (fun i τ' => ∃ o4 o5 o6 o7 o8, τ' = St (([true, false].take i).flatMap (goalU cs ds (x, y))) o4 o5 o6 o7 o8) ⟨_, _, _, _, _, rfl⟩ (fun i d τ' hd ⟨o4, o5, o6, o7, o8, e⟩ => ?_) fun τ' ⟨o4, o5, o6, o7, o8, e⟩ => ?_
    · subst e
      obtain ⟨up, hup, rfl⟩ : ∃ up, [true, false][i]? = some up ∧ d = .bl up := by
        rcases i with _ | _ | i
        · cases hd; exact ⟨_, rfl, rfl⟩
        · cases hd; exact ⟨_, rfl, rfl⟩
        · simp at hd
      have l0 : (([true, false].take i).flatMap (goalU cs ds (x, y))).length ≤ 98 := by
        have h1 := flat_len 49 ([true, false].take i) (goalU cs ds (x, y)) fun a => goalU_len P P' _ a
        have h2 : ([true, false].take i).length ≤ 2 := by rw [List.length_take]; simp; omega
        omega
      refine ⟨_, dg_name 4, ds_for (ds := (leadS cs x up).map sdD) (di_new (c_law_leading W hr (de_vl 0) (de_ixT (de_vd 2) de_int) (de_vd 4) P hx)) (fun i2 τ' => ∃ o5 o6 o7 o8, τ' = St (([true, false].take i).flatMap (goalU cs ds (x, y)) ++ ((leadS cs x up).take i2).flatMap fun s => (leadS ds y up).map fun t => goalP up s t) (some (.d (.bl up))) o5 o6 o7 o8) ⟨o5, o6, o7, o8, by show _ = St _ _ _ _ _ _; simp [St]⟩ (fun i2 d τ' hd ⟨o5, o6, o7, o8, e⟩ => ?_) fun τ' ⟨o5, o6, o7, o8, e⟩ => ?_⟩
      · subst e
        rw [List.getElem?_map] at hd
        obtain ⟨s1, hs1, rfl⟩ := Option.map_eq_some_iff.mp hd
        have S1 := leadS_sv P (List.mem_of_getElem? hs1)
        have l1 : (((leadS cs x up).take i2).flatMap fun s => (leadS ds y up).map fun t => goalP up s t).length ≤ 49 := by
          have h1 := flat_len 7 ((leadS cs x up).take i2) (fun s => (leadS ds y up).map fun t => goalP up s t) fun a => by rw [List.length_map]; exact leadS_len P' _ _
          have h2 := leadS_len P x up
          rw [List.length_take] at h1
          omega
        refine ⟨_, dg_name 5, ds_for (ds := (leadS ds y up).map sdD) (di_new (c_law_leading W hr (de_vl 1) (de_ixT (de_vd 2) de_int) (de_vd 4) P' hy)) (fun i3 τ' => ∃ o6 o7 o8, τ' = St (([true, false].take i).flatMap (goalU cs ds (x, y)) ++ ((leadS cs x up).take i2).flatMap (fun s => (leadS ds y up).map fun t => goalP up s t) ++ ((leadS ds y up).take i3).map (goalP up s1)) (some (.d (.bl up))) (some (.d (sdD s1))) o6 o7 o8) ⟨o6, o7, o8, by show _ = St _ _ _ _ _ _; simp [St]⟩ (fun i3 d τ' hd ⟨o6, o7, o8, e⟩ => ?_) fun τ' ⟨o6, o7, o8, e⟩ => ?_⟩
        · subst e
          rw [List.getElem?_map] at hd
          obtain ⟨s2, hs2, rfl⟩ := Option.map_eq_some_iff.mp hd
          have S2 := leadS_sv P' (List.mem_of_getElem? hs2)
          have hw := wayS_le S1 S2 up
          have l2 : (((leadS ds y up).take i3).map (goalP up s1)).length ≤ 7 := by
            have h2 := leadS_len P' y up
            rw [List.length_map, List.length_take]; omega
          let ev : Side → Int := fun s => if up then hi s else lo s
          refine ⟨_, dg_name 6, ds_setLc 7 [("_law_side", 9)] (fun _ => true) (fun i => .int (ev (if i = 0 then s1 else s2))) (di_tup (de_tup (dd_cons (de_vd 5) (dd_cons (de_vd 6) dd_nil)))) (by simp) (fun k d hd => ?_) ?_ (k := ?_)⟩
          · obtain ⟨sk, hsk, rfl⟩ : ∃ sk, (if k = 0 then s1 else s2) = sk ∧ d = sdD sk := by
              rcases k with _ | _ | k
              · cases hd; exact ⟨_, rfl, rfl⟩
              · cases hd; exact ⟨_, rfl, rfl⟩
              · simp at hd
            rw [hsk]
            refine ⟨_, fun s H C cl fp => ⟨dw_name 9, dts_nil, fun _ => de_if (k := up) (dt_val (de_vd 4)) (fun h => ?_) (fun h => ?_)⟩⟩
            · subst h; exact de_eq (de_cb (bu_max2 rfl) (da_d (de_ixT (de_ixT (de_vd 9) de_int) de_int) (da_d (de_ixT (de_ixT (de_vd 9) de_int) de_int) da_nil)) (W.bl "max") boot_max) rfl
            · subst h; exact de_eq (de_cb (bu_min2 rfl) (da_d (de_ixT (de_ixT (de_vd 9) de_int) de_int) (da_d (de_ixT (de_ixT (de_vd 9) de_int) de_int) da_nil)) (W.bl "min") boot_min) rfl
          · show BlkOk ["_law_one", "_law_other", "_law_stand", "_law_found", "_law_is_up", "_law_mine", "_law_its", "_law_ends", "_law_height_here", "_law_side"] (defScope (top 77)) _ _
            exact blkOk_by (by decide +kernel)
          have eL : (((List.range [sdD s1, sdD s2].length).filter fun _ => true).map fun i => D.int (ev (if i = 0 then s1 else s2))) = [ev s1, ev s2].map D.int := rfl
          rw [eL]
          refine ds_set 8 (a := .d (.int (wayS up s1 s2))) (de_if (k := up) (dt_val (de_vd 4)) (fun h => ?_) (fun h => ?_)) (ds_app 3 (de_tup (dd_cons (c_law_on W hr (de_vd 5) (de_vd 8) S1 hw) (dd_cons (c_law_on W hr (de_vd 6) (de_vd 8) S2 hw) dd_nil))) ?_ (ds_nil ⟨some (.d (sdD s2)), some (.l true ([ev s1, ev s2].map D.int)), some (.d (.int (wayS up s1 s2))), ?_⟩))
          · subst h
            refine de_cb (bu_minL (ns := [ev s1, ev s2]) rfl ?_ fun y hy => ?_) (da_l (de_vl 7) da_nil) (W.bl "min") boot_min
            · show mn2 (hi s1) (hi s2) ∈ [hi s1, hi s2]
              unfold mn2; split <;> simp
            · show mn2 (hi s1) (hi s2) ≤ y
              have : y = hi s1 ∨ y = hi s2 := by simpa [ev] using hy
              unfold mn2; split <;> omega
          · subst h
            refine de_cb (bu_maxL (ns := [ev s1, ev s2]) rfl ?_ fun y hy => ?_) (da_l (de_vl 7) da_nil) (W.bl "max") boot_max
            · show mx2 (lo s1) (lo s2) ∈ [lo s1, lo s2]
              unfold mx2; split <;> simp
            · show y ≤ mx2 (lo s1) (lo s2)
              have : y = lo s1 ∨ y = lo s2 := by simpa [ev] using hy
              unfold mx2; split <;> omega
          · rw [List.length_map, List.length_append, List.length_append]; omega
          · rw [List.take_add_one, hs2]
            simp [St, goalP, stnD]
        · subst e
          rw [List.length_map, List.take_length]
          refine ds_nil ⟨some (.d (sdD s1)), o6, o7, o8, ?_⟩
          rw [flat_take _ hs1, List.append_assoc]
      · subst e
        rw [List.length_map, List.take_length]
        refine ds_nil ⟨some (.d (.bl up)), o5, o6, o7, o8, ?_⟩
        rw [flat_take _ hup]; rfl
    · subst e
      exact ds_ret (c_law_in_order W hr (ps := goalsS cs ds (x, y)) (de_vl 3) (goalsS_bd P P' _) hnd (Nat.le_trans (goalsS_len P P' _) (by decide)) sw mw) rfl
/-! ### _law_is_along -/
theorem sc_law_is_along : FnScope ["_law_corners_here", "_law_place", "_law_later", "_law_side", "_law_spot"] ["_law_corners_here", "_law_place", "_law_later"] (defScope (top 78)) := ⟨rfl, rfl, rfl, by decide +kernel, rfl, by decide +kernel, by decide +kernel⟩
def alongP (cs : List Pt) (x y : Rat) : Prop := (∃ s ∈ sidesL cs, onS s x ∧ onS s y) ∧ x ≠ y
noncomputable instance (cs : List Pt) (x y : Rat) : Decidable (alongP cs x y) := Classical.propDecidable _
def R_law_is_along (as : List AV) (r : AV) : Prop := ∃ (cs : List Pt) (x y : Rat), PV cs ∧ Bq x ∧ Bq y ∧ as = [.l false (cs.map corD), .d (numD x), .d (numD y)] ∧ r = .d (.bl (decide (alongP cs x y)))
theorem fn_law_is_along {g : Ga} (W : Wd g) (base : Heap) : FnD g base "_law_is_along" 3 ["_law_corners_here", "_law_place", "_law_later"] [] R_law_is_along := by
  obtain ⟨f, fd, hm, F⟩ := (W.fn "_law_is_along" 78).ex
  refine fnd_of (k := 2) hm F (F.binds fun _ _ _ _ _ _ us hl => match us, hl with | [_, _, _], _ => rfl) sc_law_is_along (fun as r h => ?_) (fun as r h => ?_) fun cdv A outer s H E as r hr h => ?_
  · obtain ⟨_, _, _, _, _, _, rfl, _⟩ := h; rfl
  · obtain ⟨_, _, _, _, _, _, rfl, _⟩ := h; simp [AV.own]
  · obtain ⟨cs, x, y, P, hx, hy, rfl, rfl⟩ := h
    have nd := sc_law_is_along.nd
    have hu := hr.units
    refine ds_for (ds := (sidesL cs).map sdD) (di_new (c_law_sides W hr (de_vl 0))) (fun i τ' => (∃ o3 : Option AV, τ' = [some (.l false (cs.map corD)), some (.d (numD x)), some (.d (numD y)), o3, none]) ∧ ∀ s ∈ (sidesL cs).take i, ¬ (onS s x ∧ onS s y)) ⟨⟨_, rfl⟩, fun s hs => by simp at hs⟩ (fun i d τ' hd ⟨⟨o3, e⟩, hn⟩ => ?_) fun τ' ⟨⟨o3, e⟩, hn⟩ => ?_
    · subst e
      rw [List.getElem?_map] at hd
      obtain ⟨s1, hs1, rfl⟩ := Option.map_eq_some_iff.mp hd
      have S := P.sd _ (List.mem_of_getElem? hs1)
      let sp : Nat → Rat := fun i => if i = 0 then x else y
      let ff : Nat → Bool := fun i => decide (sp i < (s1.1.1 : Rat)) || decide ((s1.2.1 : Rat) < sp i)
      have bsp : ∀ k, Bq (sp k) := fun k => by show Bq (if k = 0 then x else y); split <;> assumption
      have fo : ∀ k, ff k = false ↔ onS s1 (sp k) := fun k => by
        show (decide (sp k < (s1.1.1 : Rat)) || decide ((s1.2.1 : Rat) < sp k)) = false ↔ _
        unfold onS; simp [Rat.not_lt]
      have eN : (((List.range 2).filter ff).map fun i => numD (sp i)) = (((List.range 2).filter ff).map sp).map numD := by rw [List.map_map]; rfl
      have iff : (((List.range 2).filter ff).map fun i => numD (sp i)) = [] ↔ onS s1 x ∧ onS s1 y := by
        rw [List.map_eq_nil_iff, List.filter_eq_nil_iff]
        constructor
        · intro h
          exact ⟨(fo 0).mp (by simpa using h 0 (by simp)), (fo 1).mp (by simpa using h 1 (by simp))⟩
        · rintro ⟨h1, h2⟩ k hk
          have : k = 0 ∨ k = 1 := by have := List.mem_range.mp hk; omega
          rcases this with rfl | rfl
          · rw [(fo 0).mpr h1]; exact Bool.false_ne_true
          · rw [(fo 1).mpr h2]; exact Bool.false_ne_true
      refine ⟨_, dg_name 3, ds_if (dt_cmp (od_eqL (o := true) (o' := true) (xs := ((List.range 2).filter ff).map fun i => numD (sp i)) hu (by rw [eN]; exact nbs_num _) rfl (by rw [eN]; exact Nat.le_trans (deps_num _) (by decide)) (by simp [D.deps])) (de_lc [("_law_spot", 4)] ff (fun i => numD (sp i)) (di_tup (de_tup (dd_cons (de_vd 1) (dd_cons (de_vd 2) dd_nil)))) (by simp) (fun k d hd => ?_) ?_) (de_lst dd_nil)) (fun h => ?_) (fun h => ds_nil (ds_nil ⟨⟨_, rfl⟩, fun t ht => ?_⟩))⟩
      · obtain ⟨q, hq, bq, rfl⟩ : ∃ q, sp k = q ∧ Bq q ∧ d = numD q := by
          rcases k with _ | _ | k
          · cases hd; exact ⟨_, rfl, hx, rfl⟩
          · cases hd; exact ⟨_, rfl, hy, rfl⟩
          · simp at hd
        refine ⟨_, fun s H C cl fp => ⟨dw_name 4, dts_one (dt_eq (dt_w (dw_or (dt_val (c_law_before W hr (de_vd 4) (dn (de_ixT (de_ixT (de_vd 3) de_int) de_int)) bq.bn (Bd.i64 S.b1).bn)) fun h0 => (dw_or1 (dt_val (c_law_before W hr (dn (de_ixT (de_ixT (de_vd 3) de_int) de_int)) (de_vd 4) (Bd.i64 S.b3).bn bq.bn))))) ?_), fun _ => de_eq (de_vd 4) (by rw [hq])⟩⟩
        show _ = (decide (sp k < (s1.1.1 : Rat)) || decide ((s1.2.1 : Rat) < sp k))
        rw [hq]
      · show BlkOk ["_law_corners_here", "_law_place", "_law_later", "_law_side", "_law_spot"] (defScope (top 78)) _ _
        exact blkOk_by (by decide +kernel)
      · have h' := iff.mp (of_decide_eq_true h)
        refine ds_ret (de_cmp (od_neD hu (numD_nb _) (numD_nb _) (Nat.le_trans (numD_dep _) (by decide)) (Nat.le_trans (numD_dep _) (by decide))) (de_vd 1) (de_vd 2)) ?_
        congr 2
        rw [Bool.eq_iff_iff]
        simp only [Bool.not_eq_true', decide_eq_false_iff_not, decide_eq_true_eq, numD_iff]
        exact ⟨fun z => ⟨⟨s1, List.mem_of_getElem? hs1, h'⟩, z⟩, fun z => z.2⟩
      · rcases take_mem_succ hs1 ht with z | z
        · exact hn t z
        · subst z
          exact fun w => of_decide_eq_false h (iff.mpr w)
    · subst e
      rw [List.length_map, List.take_length] at hn
      refine ds_ret de_bl ?_
      congr 2
      exact (decide_eq_false fun ⟨⟨s, h1, h2⟩, _⟩ => hn s h1 h2).symm
section
variable {X : Cx} {τ : AE} {e e1 e2 e3 e4 : Expr} {p pos : Pos} {j : Nat}
theorem c_law_ways (W : Wd (gaOf X)) (hr : Room j X.A) {o o' : Bool} {cs ds : List Pt} {q : RR} {ws : List RR} (h1 : DE X τ e1 (.l o (cs.map corD))) (h2 : DE X τ e2 (.l o' (ds.map corD))) (h3 : DE X τ e3 (.d (stnD q))) (P : PV cs) (P' : PV ds) (hx : Bq q.1) (hy : Bq q.2) (hn : (goalsS cs ds q).Nodup) (sw : SL ws) (mw : ∀ p, p ∈ ws ↔ p ∈ goalsS cs ds q) (hj : 4 ≤ j := by decide) (c : CallOk X "_law_ways" e1 [e2, e3] pos := by exact ⟨rfl, rfl, rfl⟩) (c2 : StarOk X e2 [e3] := by exact ⟨rfl⟩) (c3 : StarOk X e3 [] := by exact ⟨rfl⟩) :
    DE X τ (.Call (.Name "_law_ways" p) [e1, e2, e3] [] pos) (.l true (ws.map stnD)) := call3 (fn_law_ways W X.base) hr hj h1 h2 h3 ⟨cs, ds, q, ws, P, P', hx, hy, hn, sw, mw, rfl, rfl⟩ c c2 c3 (by decide)
theorem c_law_is_along (W : Wd (gaOf X)) (hr : Room j X.A) {o : Bool} {cs : List Pt} {x y : Rat} (h1 : DE X τ e1 (.l o (cs.map corD))) (h2 : DE X τ e2 (.d (numD x))) (h3 : DE X τ e3 (.d (numD y))) (P : PV cs) (hx : Bq x) (hy : Bq y) (hj : 3 ≤ j := by decide) (c : CallOk X "_law_is_along" e1 [e2, e3] pos := by exact ⟨rfl, rfl, rfl⟩) (c2 : StarOk X e2 [e3] := by exact ⟨rfl⟩) (c3 : StarOk X e3 [] := by exact ⟨rfl⟩) :
    DE X τ (.Call (.Name "_law_is_along" p) [e1, e2, e3] [] pos) (.d (.bl (decide (alongP cs x y)))) := call3 (fn_law_is_along W X.base) hr hj h1 h2 h3 ⟨cs, x, y, P, hx, hy, rfl, rfl⟩ c c2 c3 (by decide)
end
end BF

set_option Elab.async false
set_option linter.all false
set_option maxRecDepth 100000
set_option maxHeartbeats 1000000
set_option autoImplicit false
/-! A side: places and heights. -/
namespace BF
/-- x and h belong together on the line of s -/
def Rel (s : Side) (x h : Rat) : Prop := (h - (s.1.2 : Rat)) * ((s.2.1 : Rat) - (s.1.1 : Rat)) = (x - (s.1.1 : Rat)) * ((s.2.2 : Rat) - (s.1.2 : Rat))
theorem ltq {a b : Int} : ((a : Rat) < (b : Rat)) ↔ a < b := Rat.intCast_lt_intCast
theorem leq {a b : Int} : ((a : Rat) ≤ (b : Rat)) ↔ a ≤ b := Rat.intCast_le_intCast
theorem eqq {a b : Int} : ((a : Rat) = (b : Rat)) ↔ a = b := Rat.intCast_inj
theorem rel_hon {s : Side} (S : SV s) (x h : Rat) : hon s x = h ↔ Rel s x h := by
  have h1 := ltq.mpr S.inc
  unfold hon Rel
  rw [Rat.intCast_sub, Rat.intCast_sub]
  generalize (s.1.1 : Rat) = x1 at *
  generalize (s.2.1 : Rat) = x2 at *
  generalize (s.1.2 : Rat) = y1 at *
  generalize (s.2.2 : Rat) = y2 at *
  have h2 : x2 - x1 ≠ 0 := by grind
  grind
theorem rel_pon {s : Side} (S : SV s) (x h : Rat) : pon s h = x ↔ Rel s x h := by
  have h1 : (s.1.2 : Rat) ≠ (s.2.2 : Rat) := fun z => S.ne (eqq.mp z)
  unfold pon Rel
  rw [Rat.intCast_sub, Rat.intCast_sub]
  generalize (s.1.1 : Rat) = x1 at *
  generalize (s.2.1 : Rat) = x2 at *
  generalize (s.1.2 : Rat) = y1 at *
  generalize (s.2.2 : Rat) = y2 at *
  have h2 : y2 - y1 ≠ 0 := by grind
  grind
theorem sgn_eq {a b p q : Rat} (e : a * p = b * q) (hp : 0 < p) (hq : 0 < q) : (0 ≤ a ↔ 0 ≤ b) ∧ (a = 0 ↔ b = 0) := by
  have k : ∀ {a b p q : Rat}, a * p = b * q → 0 < p → 0 < q → 0 ≤ a → 0 ≤ b := fun {a b p q} e hp hq h => by
    have h1 : 0 ≤ a * p := Rat.mul_nonneg h (Rat.le_of_lt hp)
    rw [e] at h1
    rcases Rat.le_total (a := 0) (b := b) with z | z
    · exact z
    · have h2 : 0 ≤ (-b) * q := Rat.mul_nonneg (by grind) (Rat.le_of_lt hq)
      have h3 : b * q = 0 := by grind
      rcases Rat.mul_eq_zero.mp h3 with w | w
      · grind
      · grind
  refine ⟨⟨k e hp hq, k e.symm hq hp⟩, fun z => ?_, fun z => ?_⟩
  · subst z
    rcases Rat.mul_eq_zero.mp (show b * q = 0 by grind) with w | w
    · exact w
    · grind
  · subst z
    rcases Rat.mul_eq_zero.mp (show a * p = 0 by grind) with w | w
    · exact w
    · grind
structure SR (s : Side) (x h : Rat) : Prop where
  on : onS s x ↔ ((lo s : Rat) ≤ h ∧ h ≤ (hi s : Rat))
  top : x = (goal true s : Rat) ↔ h = (hi s : Rat)
  bot : x = (goal false s : Rat) ↔ h = (lo s : Rat)
  fst : x = (s.1.1 : Rat) ↔ h = (s.1.2 : Rat)
  snd : x = (s.2.1 : Rat) ↔ h = (s.2.2 : Rat)
theorem side_rel {s : Side} (S : SV s) {x h : Rat} (r : Rel s x h) : SR s x h := by
  have h1 := ltq.mpr S.inc
  unfold Rel at r
  by_cases hc : s.2.2 < s.1.2
  · have h2 := ltq.mpr hc
    have e1 : (lo s) = s.2.2 := if_pos hc
    have e2 : (hi s) = s.1.2 := if_neg (by omega)
    have e3 : goal true s = s.1.1 := by simp [goal, gUp, hc]
    have e4 : goal false s = s.2.1 := by simp [goal, gDn, hc]
    have A := sgn_eq (a := x - (s.1.1 : Rat)) (b := (s.1.2 : Rat) - h) (p := (s.1.2 : Rat) - (s.2.2 : Rat)) (q := (s.2.1 : Rat) - (s.1.1 : Rat)) (by grind) (by grind) (by grind)
    have B := sgn_eq (a := (s.2.1 : Rat) - x) (b := h - (s.2.2 : Rat)) (p := (s.1.2 : Rat) - (s.2.2 : Rat)) (q := (s.2.1 : Rat) - (s.1.1 : Rat)) (by grind) (by grind) (by grind)
    have f1 : x = (s.1.1 : Rat) ↔ h = (s.1.2 : Rat) := by have := A.2; grind
    have f2 : x = (s.2.1 : Rat) ↔ h = (s.2.2 : Rat) := by have := B.2; grind
    refine ⟨?_, by rw [e2, e3]; exact f1, by rw [e1, e4]; exact f2, f1, f2⟩
    rw [e1, e2]
    unfold onS
    have a1 := A.1
    have b1 := B.1
    grind
  · have hc' : s.1.2 < s.2.2 := by have := S.ne; omega
    have h2 := ltq.mpr hc'
    have e1 : (lo s) = s.1.2 := if_neg hc
    have e2 : (hi s) = s.2.2 := if_pos hc'
    have e3 : goal true s = s.2.1 := by simp [goal, gUp, hc]
    have e4 : goal false s = s.1.1 := by simp [goal, gDn, hc]
    have A := sgn_eq (a := x - (s.1.1 : Rat)) (b := h - (s.1.2 : Rat)) (p := (s.2.2 : Rat) - (s.1.2 : Rat)) (q := (s.2.1 : Rat) - (s.1.1 : Rat)) (by grind) (by grind) (by grind)
    have B := sgn_eq (a := (s.2.1 : Rat) - x) (b := (s.2.2 : Rat) - h) (p := (s.2.2 : Rat) - (s.1.2 : Rat)) (q := (s.2.1 : Rat) - (s.1.1 : Rat)) (by grind) (by grind) (by grind)
    have f1 : x = (s.1.1 : Rat) ↔ h = (s.1.2 : Rat) := by have := A.2; grind
    have f2 : x = (s.2.1 : Rat) ↔ h = (s.2.2 : Rat) := by have := B.2; grind
    refine ⟨?_, by rw [e2, e3]; exact f2, by rw [e1, e4]; exact f1, f1, f2⟩
    rw [e1, e2]
    unfold onS
    have a1 := A.1
    have b1 := B.1
    grind
theorem sr_x {s : Side} (S : SV s) (x : Rat) : SR s x (hon s x) := side_rel S ((rel_hon S x _).mp rfl)
theorem sr_h {s : Side} (S : SV s) (h : Rat) : SR s (pon s h) h := side_rel S ((rel_pon S _ h).mp rfl)
theorem hon_pon {s : Side} (S : SV s) (x h : Rat) : hon s x = h ↔ x = pon s h := by
  rw [rel_hon S, ← rel_pon S]; exact eq_comm
end BF

set_option Elab.async false
set_option linter.all false
set_option maxRecDepth 100000
set_option maxHeartbeats 1000000
set_option autoImplicit false
/-! A profile: places, heights, stands. -/
namespace BF
/-- a place with its height -/
def HtP (cs : List Pt) (x h : Rat) : Prop := ∃ s ∈ sidesL cs, onS s x ∧ hon s x = h
theorem side_ix {cs : List Pt} {s : Side} (h : s ∈ sidesL cs) : ∃ i, cs[i]? = some s.1 ∧ cs[i + 1]? = some s.2 ∧ (sidesL cs)[i]? = some s := by
  obtain ⟨i, hi⟩ := List.getElem?_of_mem h
  exact ⟨i, (sides_get hi).1, (sides_get hi).2, hi⟩
theorem PV.le {cs : List Pt} (P : PV cs) {i j : Nat} {a b : Pt} (hi : cs[i]? = some a) (hj : cs[j]? = some b) (h : i ≤ j) : a.1 ≤ b.1 := by
  rcases Nat.lt_or_ge i j with z | z
  · exact Int.le_of_lt (P.lt hi hj z)
  · have : i = j := by omega
    subst this
    rw [hi] at hj; cases hj; exact Int.le_refl _
/-- two sides at one place -/
theorem two_sides {cs : List Pt} (P : PV cs) {s t : Side} (hs : s ∈ sidesL cs) (ht : t ∈ sidesL cs) {x : Rat} (h1 : onS s x) (h2 : onS t x) : s = t ∨ (s.2 = t.1 ∧ x = (s.2.1 : Rat)) ∨ (t.2 = s.1 ∧ x = (t.2.1 : Rat)) := by
  obtain ⟨i, a1, a2, a3⟩ := side_ix hs
  obtain ⟨j, b1, b2, b3⟩ := side_ix ht
  have key : ∀ {s t : Side} {i j : Nat}, cs[i + 1]? = some s.2 → cs[j]? = some t.1 → onS s x → onS t x → i < j → s.2 = t.1 ∧ x = (s.2.1 : Rat) := fun {s t i j} a2 b1 h1 h2 hij => by
    rcases Nat.lt_or_ge (i + 1) j with z | z
    · have := ltq.mpr (P.lt a2 b1 z)
      have := h1.2
      have := h2.1
      grind
    · have : j = i + 1 := by omega
      subst this
      rw [a2] at b1
      have e : s.2 = t.1 := Option.some.inj b1
      refine ⟨e, ?_⟩
      have := h1.2
      have h3 := h2.1
      rw [← e] at h3
      grind
  rcases Nat.lt_trichotomy i j with z | z | z
  · exact .inr (.inl (key a2 b1 h1 h2 z))
  · subst z; rw [a3] at b3; exact .inl (Option.some.inj b3)
  · exact .inr (.inr (key b2 a1 h2 h1 z))
theorem hon_fst {s : Side} (S : SV s) : hon s (s.1.1 : Rat) = (s.1.2 : Rat) := (sr_x S _).fst.mp rfl
theorem hon_snd {s : Side} (S : SV s) : hon s (s.2.1 : Rat) = (s.2.2 : Rat) := (sr_x S _).snd.mp rfl
theorem hon_eq {cs : List Pt} (P : PV cs) {s t : Side} (hs : s ∈ sidesL cs) (ht : t ∈ sidesL cs) {x : Rat} (h1 : onS s x) (h2 : onS t x) : hon s x = hon t x := by
  rcases two_sides P hs ht h1 h2 with rfl | ⟨e, z⟩ | ⟨e, z⟩
  · rfl
  · rw [z, hon_snd (P.sd s hs), e, hon_fst (P.sd t ht)]
  · rw [z, hon_snd (P.sd t ht), e, hon_fst (P.sd s hs)]
theorem HtP.uniq {cs : List Pt} (P : PV cs) {x h h' : Rat} (a : HtP cs x h) (b : HtP cs x h') : h = h' := by
  obtain ⟨s, hs, o, rfl⟩ := a
  obtain ⟨t, ht, o', rfl⟩ := b
  exact hon_eq P hs ht o o'
/-- a corner stands on a side, as its end -/
theorem corner_side {cs : List Pt} (P : PV cs) {c : Pt} (h : c ∈ cs) : ∃ s ∈ sidesL cs, s.1 = c ∨ s.2 = c := by
  obtain ⟨i, hi⟩ := List.getElem?_of_mem h
  have h2 := P.two
  have hl : i < cs.length := (List.getElem?_eq_some_iff.mp hi).1
  rcases Nat.lt_or_ge (i + 1) cs.length with z | z
  · have h1 : cs[i + 1]? = some (cs[i + 1]'z) := List.getElem?_eq_getElem _
    exact ⟨_, List.mem_of_getElem? (sides_at hi h1), .inl rfl⟩
  · obtain ⟨k, rfl⟩ : ∃ k, i = k + 1 := ⟨i - 1, by omega⟩
    have h1 : cs[k]? = some (cs[k]'(by omega)) := List.getElem?_eq_getElem _
    exact ⟨_, List.mem_of_getElem? (sides_at h1 hi), .inr rfl⟩
theorem ends_on {s : Side} (S : SV s) : onS s (s.1.1 : Rat) ∧ onS s (s.2.1 : Rat) := by
  have := ltq.mpr S.inc
  unfold onS
  grind
theorem corner_ht {cs : List Pt} (P : PV cs) {c : Pt} (h : c ∈ cs) : HtP cs (c.1 : Rat) (c.2 : Rat) := by
  obtain ⟨s, hs, rfl | rfl⟩ := corner_side P h
  · exact ⟨s, hs, (ends_on (P.sd s hs)).1, hon_fst (P.sd s hs)⟩
  · exact ⟨s, hs, (ends_on (P.sd s hs)).2, hon_snd (P.sd s hs)⟩
/-- a corner on a side is one of its ends -/
theorem corner_on {cs : List Pt} (P : PV cs) {c : Pt} (h : c ∈ cs) {s : Side} (hs : s ∈ sidesL cs) (o : onS s (c.1 : Rat)) : (c.1 : Rat) = (s.1.1 : Rat) ∨ (c.1 : Rat) = (s.2.1 : Rat) := by
  obtain ⟨t, ht, rfl | rfl⟩ := corner_side P h
  · rcases two_sides P ht hs (ends_on (P.sd t ht)).1 o with rfl | ⟨e, z⟩ | ⟨e, z⟩
    · exact .inl rfl
    · exact .inl (by rw [z, e])
    · exact .inr z
  · rcases two_sides P ht hs (ends_on (P.sd t ht)).2 o with rfl | ⟨e, z⟩ | ⟨e, z⟩
    · exact .inr rfl
    · exact .inl (by rw [e])
    · exact .inr z
theorem side_corners {cs : List Pt} {s : Side} (hs : s ∈ sidesL cs) : s.1 ∈ cs ∧ s.2 ∈ cs := by
  obtain ⟨i, a1, a2, _⟩ := side_ix hs
  exact ⟨List.mem_of_getElem? a1, List.mem_of_getElem? a2⟩
/-! ### the profile spans x -/
theorem hasP_on {cs : List Pt} (P : PV cs) {x : Rat} (h : hasP cs x) : ∃ (i : Nat) (s : Side), (sidesL cs)[i]? = some s ∧ onS s x ∧ (sidesL cs).find? (fun s => decide (x ≤ (s.2.1 : Rat))) = some s := by
  obtain ⟨a, b, ha, hb, h1, h2⟩ := h
  have l2 := P.two
  have hx : ∃ s ∈ sidesL cs, x ≤ (s.2.1 : Rat) := by
    have l0 : cs[cs.length - 2]? = some (cs[cs.length - 2]'(by omega)) := List.getElem?_eq_getElem _
    have l1 : cs[cs.length - 2 + 1]? = some b := by rw [List.getLast?_eq_getElem?] at hb; rw [show cs.length - 2 + 1 = cs.length - 1 by omega]; exact hb
    exact ⟨_, List.mem_of_getElem? (sides_at l0 l1), h2⟩
  obtain ⟨s, hs⟩ : ∃ s, (sidesL cs).find? (fun s => decide (x ≤ (s.2.1 : Rat))) = some s := by
    cases q : (sidesL cs).find? (fun s => decide (x ≤ (s.2.1 : Rat))) with
    | some s => exact ⟨s, rfl⟩
    | none =>
      obtain ⟨s, hs, h⟩ := hx
      have := List.find?_eq_none.mp q s hs
      simp [h] at this
  obtain ⟨hp, as, bs, e, hn⟩ := List.find?_eq_some_iff_append.mp hs
  have hi : (sidesL cs)[as.length]? = some s := by rw [e, List.getElem?_append_right (Nat.le_refl _)]; simp
  refine ⟨as.length, s, hi, ⟨?_, of_decide_eq_true hp⟩, hs⟩
  obtain ⟨g1, g2⟩ := sides_get hi
  rcases Nat.eq_zero_or_pos as.length with z | z
  · rw [z, ← List.head?_eq_getElem?, ha] at g1
    cases g1; exact h1
  · obtain ⟨k, hk⟩ : ∃ k, as.length = k + 1 := ⟨as.length - 1, by omega⟩
    have hk' : (sidesL cs)[k]? = some (as[k]'(by omega)) := by rw [e, List.getElem?_append_left (by omega)]; exact List.getElem?_eq_getElem _
    have := hn _ (List.getElem_mem (show k < as.length by omega))
    obtain ⟨k1, k2⟩ := sides_get hk'
    rw [hk, k2] at g1
    have e2 := Option.some.inj g1
    rw [e2] at this
    have : ¬ (x ≤ (s.1.1 : Rat)) := by simpa using this
    grind
theorem hasP_of {cs : List Pt} (P : PV cs) {s : Side} (hs : s ∈ sidesL cs) {x : Rat} (o : onS s x) : hasP cs x := by
  obtain ⟨i, a1, a2, _⟩ := side_ix hs
  obtain ⟨a, b, ha, hb, _, _⟩ := P.ends
  refine ⟨a, b, ha, hb, ?_, ?_⟩
  · rw [List.head?_eq_getElem?] at ha
    have := leq.mpr (P.le ha a1 (Nat.zero_le _))
    have := o.1
    grind
  · have hl : i + 1 < cs.length := (List.getElem?_eq_some_iff.mp a2).1
    rw [List.getLast?_eq_getElem?] at hb
    have := leq.mpr (P.le a2 hb (by omega))
    have := o.2
    grind
theorem hgt_iff {cs : List Pt} (P : PV cs) {x h : Rat} (hp : hasP cs x) : hgt cs x = some h ↔ HtP cs x h := by
  obtain ⟨i, s, hi, o, e⟩ := hasP_on P hp
  have hs := List.mem_of_getElem? hi
  unfold hgt
  rw [e]
  simp only [Option.map_some, Option.some.injEq]
  exact ⟨fun z => ⟨s, hs, o, z⟩, fun z => HtP.uniq P ⟨s, hs, o, rfl⟩ z⟩
theorem hgtL_of {cs : List Pt} (P : PV cs) {x h : Rat} (z : HtP cs x h) : hgtL cs x = some h := by
  obtain ⟨s, hs, o, e⟩ := z
  unfold hgtL
  cases q : (sidesL cs).find? (fun s => decide (onS s x)) with
  | some t =>
    have ht := List.mem_of_find?_eq_some q
    have o' : onS t x := by have w := List.find?_some q; exact of_decide_eq_true w
    simp only [Option.map_some, Option.some.injEq]
    rw [← e]; exact hon_eq P ht hs o' o
  | none =>
    have := List.find?_eq_none.mp q s hs
    simp [o] at this
/-! ### places of a height -/
theorem plcs_mem (ss : List Side) (h : Int) (x : Rat) : x ∈ plcs ss h ↔ ∃ s ∈ ss, lo s ≤ h ∧ h ≤ hi s ∧ x = pon s h := by
  have key : ∀ (ss : List Side) (acc : List Rat), x ∈ ss.foldl (plStep h) acc ↔ x ∈ acc ∨ ∃ s ∈ ss, lo s ≤ h ∧ h ≤ hi s ∧ x = pon s h := fun ss => by
    induction ss with
    | nil => intro acc; simp
    | cons s ss ih =>
      intro acc
      rw [List.foldl_cons, ih]
      have st : x ∈ plStep h acc s ↔ x ∈ acc ∨ (lo s ≤ h ∧ h ≤ hi s ∧ x = pon s h) := by
        unfold plStep
        split
        · rename_i c
          simp [c.1, c.2.1]
        · rename_i c
          refine ⟨.inl, fun z => ?_⟩
          rcases z with z | ⟨z1, z2, z3⟩
          · exact z
          · have : ¬ (acc = [] ∨ acc.getLast? ≠ some (pon s h)) := fun w => c ⟨z1, z2, w⟩
            rw [not_or] at this
            have e := Classical.not_not.mp this.2
            rw [z3]; exact List.mem_of_getLast? e
      rw [st]; simp only [List.mem_cons, exists_eq_or_imp, or_assoc]
  have := key ss []
  simpa [plcs] using this
theorem plcL_mem (ss : List Side) (h : Int) (x : Rat) : x ∈ plcL ss h ↔ ∃ s ∈ ss, lo s ≤ h ∧ h ≤ hi s ∧ x = pon s h := by
  have key : ∀ (ss : List Side) (acc : List Rat), x ∈ ss.foldl (plStepL h) acc ↔ x ∈ acc ∨ ∃ s ∈ ss, lo s ≤ h ∧ h ≤ hi s ∧ x = pon s h := fun ss => by
    induction ss with
    | nil => intro acc; simp
    | cons s ss ih =>
      intro acc
      rw [List.foldl_cons, ih]
      have st : x ∈ plStepL h acc s ↔ x ∈ acc ∨ (lo s ≤ h ∧ h ≤ hi s ∧ x = pon s h) := by
        unfold plStepL
        split
        · rename_i c
          simp [c.1, c.2.1]
        · rename_i c
          refine ⟨.inl, fun z => ?_⟩
          rcases z with z | ⟨z1, z2, z3⟩
          · exact z
          · rw [z3]
            exact Classical.not_not.mp fun w => c ⟨z1, z2, w⟩
      rw [st]; simp only [List.mem_cons, exists_eq_or_imp, or_assoc]
  have := key ss []
  simpa [plcL] using this
theorem plcs_ht {cs : List Pt} (P : PV cs) {h : Int} {x : Rat} : x ∈ plcs (sidesL cs) h ↔ HtP cs x (h : Rat) := by
  rw [plcs_mem]
  constructor
  · rintro ⟨s, hs, h1, h2, rfl⟩
    have S := P.sd s hs
    exact ⟨s, hs, (sr_h S h).on.mpr ⟨leq.mpr h1, leq.mpr h2⟩, (hon_pon S _ _).mpr rfl⟩
  · rintro ⟨s, hs, o, e⟩
    have S := P.sd s hs
    have hx := (hon_pon S _ _).mp e
    subst hx
    have := (sr_h S h).on.mp o
    exact ⟨s, hs, leq.mp this.1, leq.mp this.2, rfl⟩
theorem stA_eq (cs ds : List Pt) (p : RR) : stA' cs ds p ↔ stA cs ds p := by simp [stA, stA', plcs_mem, plcL_mem]
theorem stB_eq (cs ds : List Pt) (p : RR) : stB' cs ds p ↔ stB cs ds p := by simp [stB, stB', plcs_mem, plcL_mem]
/-- one height on both -/
def Same (cs ds : List Pt) (p : RR) (h : Rat) : Prop := HtP cs p.1 h ∧ HtP ds p.2 h
theorem stn_same {cs ds : List Pt} (P : PV cs) (P' : PV ds) (p : RR) : (stA cs ds p ∨ stB cs ds p) ↔ ((crnP cs p.1 ∨ crnP ds p.2) ∧ ∃ h, Same cs ds p h) := by
  constructor
  · rintro (⟨c, hc, e, m⟩ | ⟨c, hc, e, m⟩)
    · exact ⟨.inl ⟨c, hc, e⟩, (c.2 : Rat), by rw [e]; exact corner_ht P hc, (plcs_ht P').mp m⟩
    · exact ⟨.inr ⟨c, hc, e⟩, (c.2 : Rat), (plcs_ht P).mp m, by rw [e]; exact corner_ht P' hc⟩
  · rintro ⟨⟨c, hc, e⟩ | ⟨c, hc, e⟩, h, h1, h2⟩
    · have := HtP.uniq P (by rw [e] at h1; exact h1) (corner_ht P hc)
      subst this
      exact .inl ⟨c, hc, e, (plcs_ht P').mpr h2⟩
    · have := HtP.uniq P' (by rw [e] at h2; exact h2) (corner_ht P' hc)
      subst this
      exact .inr ⟨c, hc, e, (plcs_ht P).mpr h1⟩
theorem stn_iff {cs ds : List Pt} (P : PV cs) (P' : PV ds) (p : RR) : stnP cs ds p ↔ (stA cs ds p ∨ stB cs ds p) := by
  rw [stn_same P P']
  constructor
  · rintro ⟨h1, h2, hc, he⟩
    obtain ⟨i, s, hi, o, e⟩ := hasP_on P h1
    have k : HtP cs p.1 (hon s p.1) := ⟨s, List.mem_of_getElem? hi, o, rfl⟩
    have q := (hgt_iff P h1).mpr k
    rw [q] at he
    exact ⟨hc, _, k, (hgt_iff P' h2).mp he.symm⟩
  · rintro ⟨hc, h, k1, k2⟩
    have p1 : hasP cs p.1 := by obtain ⟨s, hs, o, _⟩ := k1; exact hasP_of P hs o
    have p2 : hasP ds p.2 := by obtain ⟨s, hs, o, _⟩ := k2; exact hasP_of P' hs o
    exact ⟨p1, p2, hc, by rw [(hgt_iff P p1).mpr k1, (hgt_iff P' p2).mpr k2]⟩
end BF

set_option Elab.async false
set_option linter.all false
set_option maxRecDepth 100000
set_option maxHeartbeats 1000000
set_option autoImplicit false
/-! Ways: goals, and the way back. -/
namespace BF
theorem filter_ix {α : Type} (p : α → Bool) : ∀ (xs : List α) (f : Nat → Bool) (g : Nat → α), (∀ i a, xs[i]? = some a → f i = p a) → (∀ i a, xs[i]? = some a → g i = a) → ((List.range xs.length).filter f).map g = xs.filter p
  | [], _, _, _, _ => rfl
  | x :: xs, f, g, hf, hg => by
    have ih := filter_ix p xs (f ∘ Nat.succ) (g ∘ Nat.succ) (fun i a h => hf (i + 1) a (by simpa using h)) (fun i a h => hg (i + 1) a (by simpa using h))
    rw [List.length_cons, List.range_succ_eq_map, List.filter_cons, List.filter_map, List.filter_cons, hf 0 x rfl]
    cases p x
    · simp only [Bool.false_eq_true, if_false]
      rw [List.map_map, ih]
    · simp only [if_true]
      rw [List.map_cons, List.map_map, ih, hg 0 x rfl]
theorem leadS_ix (cs : List Pt) (x : Rat) (up : Bool) : leadS cs x up = (leadI cs x up).map (sdAt cs) := by
  refine (filter_ix (fun s => decide (leadC up s x)) (sidesL cs) _ (sdAt cs) (fun i a h => ?_) fun i a h => sdAt_of h).symm
  rw [h]
theorem goalU_ix (cs ds : List Pt) (q : RR) (up : Bool) : goalU cs ds q up = (prs cs ds q up).map (goalI cs ds up) := by
  unfold goalU prs
  rw [leadS_ix, leadS_ix, List.flatMap_map, List.map_flatMap]
  congr 1
  funext i
  rw [List.map_map, List.map_map]
  rfl
theorem goalsS_two (cs ds : List Pt) (q : RR) : goalsS cs ds q = goalU cs ds q true ++ goalU cs ds q false := by simp [goalsS]
theorem goals_eq (cs ds : List Pt) (q : RR) : goalsL cs ds q = goalsS cs ds q := by
  rw [goalsS_two, goalU_ix, goalU_ix]; rfl
theorem goals_len (cs ds : List Pt) (q : RR) : (goalsS cs ds q).length = (prs cs ds q true).length + (prs cs ds q false).length := by
  rw [← goals_eq]; simp [goalsL]
/-! ### a sorted list of what there is -/
theorem sl_put (p : RR) : ∀ ws : List RR, SL ws → ∃ ws', SL ws' ∧ ∀ r, r ∈ ws' ↔ r = p ∨ r ∈ ws
  | [], _ => ⟨[p], by simp, by simp⟩
  | a :: ws, h => by
    rw [SL, List.pairwise_cons] at h
    by_cases e : p = a
    · exact ⟨a :: ws, List.pairwise_cons.mpr h, fun r => by subst e; simp⟩
    by_cases c : lexLt p a
    · refine ⟨p :: a :: ws, List.pairwise_cons.mpr ⟨fun r hr => ?_, List.pairwise_cons.mpr h⟩, fun r => by simp⟩
      rcases List.mem_cons.mp hr with rfl | hr
      · exact c
      · exact lexLt_trans c (h.1 r hr)
    · obtain ⟨ws', s', m'⟩ := sl_put p ws h.2
      refine ⟨a :: ws', List.pairwise_cons.mpr ⟨fun r hr => ?_, s'⟩, fun r => ?_⟩
      · rcases (m' r).mp hr with rfl | hr
        · exact lexLt_total e c
        · exact h.1 r hr
      · simp only [List.mem_cons, m' r]
        exact or_left_comm
theorem sl_ex : ∀ L : List RR, ∃ ws, SL ws ∧ ∀ p, p ∈ ws ↔ p ∈ L
  | [] => ⟨[], List.Pairwise.nil, by simp⟩
  | p :: L => by
    obtain ⟨ws, s, m⟩ := sl_ex L
    obtain ⟨ws', s', m'⟩ := sl_put p ws s
    exact ⟨ws', s', fun r => by rw [m' r, m r, List.mem_cons]⟩
theorem nd_len {xs ys : List RR} (h1 : xs.Nodup) (h2 : ys.Nodup) (m : ∀ p, p ∈ xs ↔ p ∈ ys) : xs.length = ys.length :=
  ((List.perm_ext_iff_of_nodup h1 h2).mpr fun p => m p).length_eq
/-- all stands, as a list -/
noncomputable def stnL (cs ds : List Pt) : List RR :=
  (cs.flatMap fun c => (plcs (sidesL ds) c.2).map fun y => ((c.1 : Rat), y)) ++ (ds.flatMap fun c => (plcs (sidesL cs) c.2).map fun x => (x, (c.1 : Rat)))
theorem stnL_mem (cs ds : List Pt) (p : RR) : p ∈ stnL cs ds ↔ stA cs ds p ∨ stB cs ds p := by
  unfold stnL stA stB
  rw [List.mem_append, List.mem_flatMap, List.mem_flatMap]
  constructor
  · rintro (⟨c, hc, h⟩ | ⟨c, hc, h⟩)
    · obtain ⟨y, hy, rfl⟩ := List.mem_map.mp h
      exact .inl ⟨c, hc, rfl, hy⟩
    · obtain ⟨y, hy, rfl⟩ := List.mem_map.mp h
      exact .inr ⟨c, hc, rfl, hy⟩
  · obtain ⟨x, y⟩ := p
    rintro (⟨c, hc, e, m⟩ | ⟨c, hc, e, m⟩)
    · exact .inl ⟨c, hc, List.mem_map.mpr ⟨y, m, by simp at e; rw [e]⟩⟩
    · exact .inr ⟨c, hc, List.mem_map.mpr ⟨x, m, by simp at e; rw [e]⟩⟩
theorem stn_bd {cs ds : List Pt} (P : PV cs) (P' : PV ds) {p : RR} (h : stA cs ds p ∨ stB cs ds p) : Bq p.1 ∧ Bq p.2 := by
  rcases h with ⟨c, hc, e, m⟩ | ⟨c, hc, e, m⟩
  · exact ⟨by rw [e]; exact bq_int (P.bd hc).1, plcs_bd P'.sd (P.bd hc).2 _ m⟩
  · exact ⟨plcs_bd P.sd (P'.bd hc).2 _ m, by rw [e]; exact bq_int (P'.bd hc).1⟩
theorem stnL_len {cs ds : List Pt} (P : PV cs) (P' : PV ds) : (stnL cs ds).length ≤ 112 := by
  have h1 := flat_len 7 cs (fun c => (plcs (sidesL ds) c.2).map fun y => ((c.1 : Rat), y)) fun c => by rw [List.length_map]; exact plcs_len8 P' _
  have h2 := flat_len 7 ds (fun c => (plcs (sidesL cs) c.2).map fun x => (x, (c.1 : Rat))) fun c => by rw [List.length_map]; exact plcs_len8 P _
  have := P.few
  have := P'.few
  unfold stnL
  rw [List.length_append]
  omega
theorem sub_len {xs ys : List RR} (h : xs.Nodup) (m : ∀ p ∈ xs, p ∈ ys) : xs.length ≤ ys.length := by
  induction xs generalizing ys with
  | nil => exact Nat.zero_le _
  | cons a xs ih =>
    rw [List.nodup_cons] at h
    have ha := m a (List.mem_cons_self ..)
    have := ih (ys := ys.erase a) h.2 fun p hp => by
      have hne : p ≠ a := fun e => h.1 (e ▸ hp)
      exact (List.mem_erase_of_ne hne).mpr (m p (List.mem_cons_of_mem _ hp))
    rw [List.length_erase_of_mem ha] at this
    have : 0 < ys.length := List.length_pos_of_mem ha
    simp only [List.length_cons]; omega
/-! ### leading sides at a height -/
structure Ld (cs : List Pt) (x h : Rat) (up : Bool) (s : Side) : Prop where
  sd : s ∈ sidesL cs
  sv : SV s
  on : onS s x
  ht : hon s x = h
  lo : (lo s : Rat) ≤ h
  hi : h ≤ (hi s : Rat)
  ur : up = true → h < (BF.hi s : Rat)
  dr : up = false → (BF.lo s : Rat) < h
theorem lead_of {cs : List Pt} (P : PV cs) {x h : Rat} {up : Bool} {s : Side} (z : HtP cs x h) (m : s ∈ leadS cs x up) : Ld cs x h up s := by
  obtain ⟨hs, c⟩ := List.mem_filter.mp m
  obtain ⟨o, ne⟩ : leadC up s x := of_decide_eq_true c
  have S := P.sd s hs
  have e : hon s x = h := HtP.uniq P ⟨s, hs, o, rfl⟩ z
  have R := sr_x S x
  rw [e] at R
  obtain ⟨l, u⟩ := R.on.mp o
  refine ⟨hs, S, o, e, l, u, fun hu => ?_, fun hu => ?_⟩
  · subst hu
    have : h ≠ (hi s : Rat) := fun w => ne (R.top.mpr w)
    grind
  · subst hu
    have : h ≠ (lo s : Rat) := fun w => ne (R.bot.mpr w)
    grind
theorem lead_iff {cs : List Pt} {x : Rat} {up : Bool} {s : Side} : s ∈ leadS cs x up ↔ s ∈ sidesL cs ∧ onS s x ∧ x ≠ (goal up s : Rat) := by
  unfold leadS
  rw [List.mem_filter, decide_eq_true_iff]; rfl
/-- the height of the goal -/
structure Wy (s t : Side) (up : Bool) (h w : Rat) : Prop where
  ne : w ≠ h
  ls : (lo s : Rat) ≤ w
  hs : w ≤ (hi s : Rat)
  lt : (lo t : Rat) ≤ w
  ht : w ≤ (hi t : Rat)
  ur : up = true → h < w ∧ (w = (BF.hi s : Rat) ∨ w = (BF.hi t : Rat))
  dr : up = false → w < h ∧ (w = (BF.lo s : Rat) ∨ w = (BF.lo t : Rat))
theorem mn2_or (a b : Int) : (mn2 a b = a ∨ mn2 a b = b) ∧ mn2 a b ≤ a ∧ mn2 a b ≤ b := by unfold mn2; split <;> omega
theorem mx2_or (a b : Int) : (mx2 a b = a ∨ mx2 a b = b) ∧ a ≤ mx2 a b ∧ b ≤ mx2 a b := by unfold mx2; split <;> omega
theorem way_of {cs ds : List Pt} {x y h : Rat} {up : Bool} {s t : Side} (a : Ld cs x h up s) (b : Ld ds y h up t) : Wy s t up h (wayS up s t : Rat) := by
  have a1 := a.lo
  have a2 := a.hi
  have b1 := b.lo
  have b2 := b.hi
  cases up with
  | true =>
    have a3 := a.ur rfl
    have b3 := b.ur rfl
    obtain ⟨e, l1, l2⟩ := mn2_or (hi s) (hi t)
    have l1 := leq.mpr l1
    have l2 := leq.mpr l2
    have ew : wayS true s t = mn2 (hi s) (hi t) := rfl
    rw [ew]
    have e' : ((mn2 (hi s) (hi t) : Int) : Rat) = (hi s : Rat) ∨ ((mn2 (hi s) (hi t) : Int) : Rat) = (hi t : Rat) := e.imp eqq.mpr eqq.mpr
    have up : h < ((mn2 (hi s) (hi t) : Int) : Rat) := by rcases e' with z | z <;> rw [z] <;> assumption
    exact ⟨by grind, by grind, l1, by grind, l2, fun _ => ⟨up, e'⟩, fun z => by cases z⟩
  | false =>
    have a3 := a.dr rfl
    have b3 := b.dr rfl
    obtain ⟨e, l1, l2⟩ := mx2_or (lo s) (lo t)
    have l1 := leq.mpr l1
    have l2 := leq.mpr l2
    have ew : wayS false s t = mx2 (lo s) (lo t) := rfl
    rw [ew]
    have e' : ((mx2 (lo s) (lo t) : Int) : Rat) = (lo s : Rat) ∨ ((mx2 (lo s) (lo t) : Int) : Rat) = (lo t : Rat) := e.imp eqq.mpr eqq.mpr
    have dn : ((mx2 (lo s) (lo t) : Int) : Rat) < h := by rcases e' with z | z <;> rw [z] <;> assumption
    exact ⟨by grind, l1, by grind, l2, by grind, fun z => (by cases z), fun _ => ⟨dn, e'⟩⟩
/-- the ends of a side are corners -/
theorem goal_crn {cs : List Pt} {s : Side} (h : s ∈ sidesL cs) (up : Bool) : crnP cs (goal up s : Rat) := by
  obtain ⟨h1, h2⟩ := side_corners h
  cases up
  · by_cases c : s.2.2 < s.1.2
    · exact ⟨s.2, h2, by simp [goal, gDn, c]⟩
    · exact ⟨s.1, h1, by simp [goal, gDn, c]⟩
  · by_cases c : s.2.2 < s.1.2
    · exact ⟨s.1, h1, by simp [goal, gUp, c]⟩
    · exact ⟨s.2, h2, by simp [goal, gUp, c]⟩
/-- a corner's place on a side: its top or its bottom -/
theorem crn_end {cs : List Pt} (P : PV cs) {x : Rat} (c : crnP cs x) {s : Side} (hs : s ∈ sidesL cs) (o : onS s x) : x = (goal true s : Rat) ∨ x = (goal false s : Rat) := by
  obtain ⟨a, ha, rfl⟩ := c
  have := corner_on P ha hs o
  by_cases c : s.2.2 < s.1.2
  · simp only [goal, gUp, gDn, c, if_true, if_false, Bool.false_eq_true]; exact this
  · simp only [goal, gUp, gDn, c, if_true, if_false, Bool.false_eq_true]; exact this.symm
structure Gl' (cs ds : List Pt) (q p : RR) (h w : Rat) : Prop where
  same : Same cs ds p w
  crn : crnP cs p.1 ∨ crnP ds p.2
  ne : w ≠ h
  al : alongP cs q.1 p.1
  al' : alongP ds q.2 p.2
  back : q ∈ goalsS cs ds p
theorem goal_ok {cs ds : List Pt} (P : PV cs) (P' : PV ds) {q p : RR} {h : Rat} (hc : crnP cs q.1 ∨ crnP ds q.2) (hs : Same cs ds q h) (hp : p ∈ goalsS cs ds q) : ∃ w, Gl' cs ds q p h w := by
  obtain ⟨up, _, h1⟩ := List.mem_flatMap.mp hp
  obtain ⟨s, ms, h2⟩ := List.mem_flatMap.mp h1
  obtain ⟨t, mt, rfl⟩ := List.mem_map.mp h2
  have A := lead_of P hs.1 ms
  have B := lead_of P' hs.2 mt
  have W := way_of A B
  have Rs := sr_h A.sv (wayS up s t : Rat)
  have Rt := sr_h B.sv (wayS up s t : Rat)
  have os := Rs.on.mpr ⟨W.ls, W.hs⟩
  have ot := Rt.on.mpr ⟨W.lt, W.ht⟩
  have hs' : hon s (pon s (wayS up s t : Rat)) = (wayS up s t : Rat) := (hon_pon A.sv _ _).mpr rfl
  have ht' : hon t (pon t (wayS up s t : Rat)) = (wayS up s t : Rat) := (hon_pon B.sv _ _).mpr rfl
  refine ⟨(wayS up s t : Rat), ⟨⟨s, A.sd, os, hs'⟩, ⟨t, B.sd, ot, ht'⟩⟩, ?_, W.ne, ⟨⟨s, A.sd, A.on, os⟩, fun e => ?_⟩, ⟨⟨t, B.sd, B.on, ot⟩, fun e => ?_⟩, ?_⟩
  · show crnP cs (pon s (wayS up s t : Rat)) ∨ crnP ds (pon t (wayS up s t : Rat))
    cases up with
    | true =>
      rcases (W.ur rfl).2 with z | z
      · left; rw [Rs.top.mpr z]; exact goal_crn A.sd true
      · right; rw [Rt.top.mpr z]; exact goal_crn B.sd true
    | false =>
      rcases (W.dr rfl).2 with z | z
      · left; rw [Rs.bot.mpr z]; exact goal_crn A.sd false
      · right; rw [Rt.bot.mpr z]; exact goal_crn B.sd false
  · have : hon s q.1 = (wayS up s t : Rat) := by rw [show q.1 = pon s (wayS up s t : Rat) from e]; exact hs'
    exact W.ne (this.symm.trans A.ht)
  · have : hon t q.2 = (wayS up s t : Rat) := by rw [show q.2 = pon t (wayS up s t : Rat) from e]; exact ht'
    exact W.ne (this.symm.trans B.ht)
  · refine List.mem_flatMap.mpr ⟨!up, by cases up <;> simp, List.mem_flatMap.mpr ⟨s, lead_iff.mpr ⟨A.sd, os, fun e => ?_⟩, List.mem_map.mpr ⟨t, lead_iff.mpr ⟨B.sd, ot, fun e => ?_⟩, ?_⟩⟩⟩
    · cases up with
      | true =>
        have z := Rs.bot.mp e
        have := (W.ur rfl).1
        have := A.lo
        grind
      | false =>
        have z := Rs.top.mp e
        have := (W.dr rfl).1
        have := A.hi
        grind
    · cases up with
      | true =>
        have z := Rt.bot.mp e
        have := (W.ur rfl).1
        have := B.lo
        grind
      | false =>
        have z := Rt.top.mp e
        have := (W.dr rfl).1
        have := B.hi
        grind
    · have qs := (hon_pon A.sv _ _).mp A.ht
      have qt := (hon_pon B.sv _ _).mp B.ht
      have key : (wayS (!up) s t : Rat) = h := by
        have Xs := sr_x A.sv q.1
        rw [A.ht] at Xs
        have Xt := sr_x B.sv q.2
        rw [B.ht] at Xt
        have a1 := A.lo
        have a2 := A.hi
        have b1 := B.lo
        have b2 := B.hi
        cases up with
        | true =>
          have a3 := A.ur rfl
          have b3 := B.ur rfl
          have ew : wayS (!true) s t = mx2 (lo s) (lo t) := rfl
          obtain ⟨e, l1, l2⟩ := mx2_or (lo s) (lo t)
          have l1 := leq.mpr l1
          have l2 := leq.mpr l2
          have e' : ((mx2 (lo s) (lo t) : Int) : Rat) = (lo s : Rat) ∨ ((mx2 (lo s) (lo t) : Int) : Rat) = (lo t : Rat) := e.imp eqq.mpr eqq.mpr
          rw [ew]
          rcases hc with c | c
          · rcases crn_end P c A.sd A.on with z | z
            · have := Xs.top.mp z; grind
            · have := Xs.bot.mp z; grind
          · rcases crn_end P' c B.sd B.on with z | z
            · have := Xt.top.mp z; grind
            · have := Xt.bot.mp z; grind
        | false =>
          have a3 := A.dr rfl
          have b3 := B.dr rfl
          have ew : wayS (!false) s t = mn2 (hi s) (hi t) := rfl
          obtain ⟨e, l1, l2⟩ := mn2_or (hi s) (hi t)
          have l1 := leq.mpr l1
          have l2 := leq.mpr l2
          have e' : ((mn2 (hi s) (hi t) : Int) : Rat) = (hi s : Rat) ∨ ((mn2 (hi s) (hi t) : Int) : Rat) = (hi t : Rat) := e.imp eqq.mpr eqq.mpr
          rw [ew]
          rcases hc with c | c
          · rcases crn_end P c A.sd A.on with z | z
            · have := Xs.top.mp z; grind
            · have := Xs.bot.mp z; grind
          · rcases crn_end P' c B.sd B.on with z | z
            · have := Xt.top.mp z; grind
            · have := Xt.bot.mp z; grind
      show (pon s (wayS (!up) s t : Rat), pon t (wayS (!up) s t : Rat)) = q
      rw [key, ← qs, ← qt]
/-! ### the goals are different ones -/
theorem sides_pw {cs : List Pt} (P : PV cs) : (sidesL cs).Pairwise fun s t => s.2.1 ≤ t.1.1 := by
  rw [List.pairwise_iff_getElem]
  intro i j hi hj hij
  have a := sides_get (List.getElem?_eq_getElem hi)
  have b := sides_get (List.getElem?_eq_getElem hj)
  exact P.le a.2 b.1 hij
theorem sep {s t : Side} {x p p' : Rat} (hle : s.2.1 ≤ t.1.1) (o : onS s x) (o' : onS t x) (q : onS s p) (q' : onS t p') (n : p ≠ x) (n' : p' ≠ x) : p ≠ p' := by
  have := leq.mpr hle
  obtain ⟨a1, a2⟩ := o
  obtain ⟨b1, b2⟩ := o'
  obtain ⟨c1, c2⟩ := q
  obtain ⟨d1, d2⟩ := q'
  grind
theorem goal_on {s t : Side} {up : Bool} {cs ds : List Pt} {x y h : Rat} (A : Ld cs x h up s) (B : Ld ds y h up t) : (onS s (goalP up s t).1 ∧ (goalP up s t).1 ≠ x) ∧ (onS t (goalP up s t).2 ∧ (goalP up s t).2 ≠ y) ∧ hon s (goalP up s t).1 = (wayS up s t : Rat) := by
  have W := way_of A B
  have hs' : hon s (pon s (wayS up s t : Rat)) = (wayS up s t : Rat) := (hon_pon A.sv _ _).mpr rfl
  have ht' : hon t (pon t (wayS up s t : Rat)) = (wayS up s t : Rat) := (hon_pon B.sv _ _).mpr rfl
  refine ⟨⟨(sr_h A.sv _).on.mpr ⟨W.ls, W.hs⟩, fun e => ?_⟩, ⟨(sr_h B.sv _).on.mpr ⟨W.lt, W.ht⟩, fun e => ?_⟩, hs'⟩
  · have : hon s x = (wayS up s t : Rat) := by rw [← e]; exact hs'
    exact W.ne (this.symm.trans A.ht)
  · have : hon t y = (wayS up s t : Rat) := by rw [← e]; exact ht'
    exact W.ne (this.symm.trans B.ht)
theorem goalU_nd {cs ds : List Pt} (P : PV cs) (P' : PV ds) {q : RR} {h : Rat} (hs : Same cs ds q h) (up : Bool) : (goalU cs ds q up).Nodup := by
  unfold goalU List.Nodup
  have pw : (leadS cs q.1 up).Pairwise fun s t => s.2.1 ≤ t.1.1 := (sides_pw P).sublist (List.filter_sublist ..)
  have pw' : (leadS ds q.2 up).Pairwise fun s t => s.2.1 ≤ t.1.1 := (sides_pw P').sublist (List.filter_sublist ..)
  rw [List.pairwise_flatMap]
  refine ⟨fun s ms => ?_, pw.imp_of_mem fun {s s'} ms ms' hle p hp p' hp' e => ?_⟩
  · rw [List.pairwise_map]
    refine pw'.imp_of_mem fun {t t'} mt mt' hle e => ?_
    have A := lead_of P hs.1 ms
    have B := lead_of P' hs.2 mt
    have B' := lead_of P' hs.2 mt'
    have g := (goal_on A B).2.1
    have g' := (goal_on A B').2.1
    exact sep hle B.on B'.on g.1 g'.1 g.2 g'.2 (congrArg Prod.snd e)
  · obtain ⟨t, mt, rfl⟩ := List.mem_map.mp hp
    obtain ⟨t', mt', rfl⟩ := List.mem_map.mp hp'
    have A := lead_of P hs.1 ms
    have A' := lead_of P hs.1 ms'
    have B := lead_of P' hs.2 mt
    have B' := lead_of P' hs.2 mt'
    have g := (goal_on A B).1
    have g' := (goal_on A' B').1
    exact sep hle A.on A'.on g.1 g'.1 g.2 g'.2 (congrArg Prod.fst e)
theorem goalsS_nd {cs ds : List Pt} (P : PV cs) (P' : PV ds) {q : RR} {h : Rat} (hs : Same cs ds q h) : (goalsS cs ds q).Nodup := by
  rw [goalsS_two, List.nodup_append]
  refine ⟨goalU_nd P P' hs true, goalU_nd P P' hs false, fun p hp p' hp' e => ?_⟩
  subst e
  obtain ⟨s, ms, h2⟩ := List.mem_flatMap.mp hp
  obtain ⟨t, mt, e1⟩ := List.mem_map.mp h2
  obtain ⟨s', ms', h2'⟩ := List.mem_flatMap.mp hp'
  obtain ⟨t', mt', e2⟩ := List.mem_map.mp h2'
  have A := lead_of P hs.1 ms
  have A' := lead_of P hs.1 ms'
  have B := lead_of P' hs.2 mt
  have B' := lead_of P' hs.2 mt'
  obtain ⟨g1, _, g3⟩ := goal_on A B
  obtain ⟨g1', _, g3'⟩ := goal_on A' B'
  rw [e1] at g1 g3
  rw [e2] at g1' g3'
  have w := ((way_of A B).ur rfl).1
  have w' := ((way_of A' B').dr rfl).1
  have := hon_eq P A.sd A'.sd g1.1 g1'.1
  rw [g3, g3'] at this
  grind
end BF

set_option Elab.async false
set_option linter.all false
set_option maxRecDepth 100000
set_option maxHeartbeats 1000000
set_option autoImplicit false
/-! What may be asked of two profiles, where the stand is one. -/
namespace BF
open PySem PySem.Spec PyProof.Rows L2

structure DefAtD (g : Ga) (x : Str) (st : Stmt) (dvs : List V) : Prop where
  ex : ∃ f fd, g.mg x = some (.ref f) ∧ FunD g.K x x (defArgs st) (defBody st) (defScope st) dvs [] f fd
structure Wn (g : Ga) : Prop extends Wd g where
  np : DefAtD g "need_profile" (top 35) [.str "profile"]
  ns : DefAtD g "need_stand" (top 58) [.str "stand"]
section
variable {g : Ga} {base : Heap}
theorem fnd_ofD {x qual : Str} {st : Stmt} {f : Addr} {fd : FuncData} {N ps : List Str} {k : Nat} {R : List AV → AV → Prop} {dv0 dvs : List V} {ds : List Value} (hm : g.mg x = some (.ref f)) (F : FunD g.K x qual (defArgs st) (defBody st) (defScope st) dv0 [] f fd) (hd : Vals dvs ds) (hb : Binds g.K fd ps ds) (S : FnScope N ps (defScope st))
    (len : ∀ as r, R as r → as.length = ps.length) (own : ∀ as r, R as r → ∀ a ∈ as, a.own = false)
    (body : ∀ (cdv : Value) (A : Around) (outer : List Env) (s : Shared) (H : Hp) (E : XK) (as : List AV) (r : AV), Room k (A.deeper (envOfC qual (defScope st) s.heap.objs.size f cdv)) → R as r →
      DS (cxOf CX0 g.P g.w g.K g.mg base N qual (defScope st) f cdv A outer s H E).nox (startA N as) (defBody st) (fun _ => r = .d .non) (fun a => a = r)) : FnD g base x (k + 1) ps dvs R := by
  refine ⟨f, fd, ds, hm, F.kp, hb, hd, F.ok S (fun vs H Q E h => ?_) fun cdv A outer s H vs Q E hr h => ?_⟩
  · obtain ⟨as, r, h1, h2, _⟩ := h
    rw [rsl_len h2]; exact len as r h1
  · obtain ⟨as, r, h1, h2, h3⟩ := h
    refine ⟨_, (pss_can _ _).nox, (body cdv A outer s H E as r hr h1).run H _ _ H (exr H) ⟨fun _ => False, start_rs h2 (own as r h1), exr H, fun p hp => hp.elim⟩ (fun τ' σ' H' hn ⟨O, _, eg, _⟩ => ?_) fun a v H' ha e ra => ?_⟩
    · exact h3 _ H' eg (by rw [hn]; exact .non)
    · subst ha
      exact h3 v H' e ra
end
section
variable {X : Cx} {τ : AE} {e : Expr} {es : List Expr} {pos : Pos}
/-- a call that leaves the last one out, a text -/
theorem de_callD {x z : Str} {k : Nat} {ps : List Str} {R : List AV → AV → Prop} {as : List AV} {v : AV} {p : Pos} (F : FnD (gaOf X) X.base x k ps [.str z] R) (hr : Room k X.A) (ha : DA X τ (e :: es) as) (hR : R (as ++ [.d (.str z)]) v) (hg : Gl X x := by rfl) (hdb : (x == ("__debug__" : Str)) = false := by decide)
    (he : starEach (e :: es) X.env = (false, eval e X.env) :: starEach es X.env := by rfl) (hpl : (backTo pos (starEach es X.env)).any (·.1) = false := by rfl) : DE X τ (.Call (.Name x p) (e :: es) [] pos) v := by
  obtain ⟨f, fd, ds, h1, h2, h3, h4, h5⟩ := F.ex
  exact ⟨fun O H σ Q r q => XE.of (pe_call (E := E0) h5 hr hg h1 h2 h3 h4 pass0 (pa_can X (e :: es)) hdb he hpl) (ha.run O H σ _ r fun vs H1 e1 r1 => by
    show spR (gaOf X) R (vs ++ [.str z]) H1 Q E0
    exact ⟨_, v, hR, Paired.snoc r1 (show Sl (gaOf X) (fun _ => False) H1 (.str z) (.d (.str z)) from .str z), fun u H2 e2 r2 => q u H2 (e1.trans e2) (r2.back e1)⟩)⟩
end
/-! ### need_profile, need_both -/
theorem sc_need_profile : FnScope ["value", "part"] ["value", "part"] (defScope (top 35)) := ⟨rfl, rfl, rfl, by decide +kernel, rfl, by decide +kernel, by decide +kernel⟩
def R_need_profile (as : List AV) (r : AV) : Prop := ∃ (cs : List Pt) (z : Str), as = [.pr cs, .d (.str z)] ∧ r = .d .non
theorem fn_need_profile {g : Ga} (W : Wn g) (base : Heap) : FnD g base "need_profile" 1 ["value", "part"] [] R_need_profile := by
  obtain ⟨f, fd, hm, F⟩ := W.np.ex
  obtain ⟨ds, hd, hb⟩ := F.binds1 (ps := ["value", "part"]) 2 1 (by simp) rfl fun T kV doc pm an cdv ct us its hl hl2 => match us, its, hl, hl2 with
    | [_, _], [_], _, _ => ⟨_, rfl, rfl⟩
  refine fnd_ofD (k := 0) hm F hd hb sc_need_profile (fun as r h => ?_) (fun as r h => ?_) fun cdv A outer s H E as r hr h => ?_
  · obtain ⟨_, _, rfl, _⟩ := h; rfl
  · obtain ⟨_, _, rfl, _⟩ := h; simp [AV.own]
  · obtain ⟨cs, z, rfl, rfl⟩ := h
    obtain ⟨C, hC⟩ := W.pc
    exact ds_if (dt_not (dt_val (de_isP W.pf hC (de_vp 0) (W.bl "isinstance")))) (fun h => by cases h) (fun h => ds_nil (ds_nil rfl))
section
variable {X : Cx} {τ : AE} {e e1 e2 e3 e4 : Expr} {p pos : Pos} {j : Nat}
theorem c_need_profile (W : Wn (gaOf X)) (hr : Room j X.A) {cs : List Pt} {z : Str} (h1 : DE X τ e1 (.pr cs)) (h2 : DE X τ e2 (.d (.str z))) (hj : 1 ≤ j := by decide) (c : CallOk X "need_profile" e1 [e2] pos := by exact ⟨rfl, rfl, rfl⟩) (c2 : StarOk X e2 [] := by exact ⟨rfl⟩) :
    DE X τ (.Call (.Name "need_profile" p) [e1, e2] [] pos) (.d .non) := call2 (fn_need_profile W X.base) hr hj h1 h2 ⟨cs, z, rfl, rfl⟩ c c2 (by decide)
end
theorem sc_need_both : FnScope ["one", "other"] ["one", "other"] (defScope (top 57)) := ⟨rfl, rfl, rfl, by decide +kernel, rfl, by decide +kernel, by decide +kernel⟩
def R_need_both (as : List AV) (r : AV) : Prop := ∃ (cs ds : List Pt), as = [.pr cs, .pr ds] ∧ r = .d .non
theorem fn_need_both {g : Ga} (W : Wn g) (base : Heap) : FnD g base "need_both" 2 ["one", "other"] [] R_need_both := by
  obtain ⟨f, fd, hm, F⟩ := (W.fn "need_both" 57).ex
  refine fnd_of (k := 1) hm F (F.binds fun _ _ _ _ _ _ us hl => match us, hl with | [_, _], _ => rfl) sc_need_both (fun as r h => ?_) (fun as r h => ?_) fun cdv A outer s H E as r hr h => ?_
  · obtain ⟨_, _, rfl, _⟩ := h; rfl
  · obtain ⟨_, _, rfl, _⟩ := h; simp [AV.own]
  · obtain ⟨cs, ds, rfl, rfl⟩ := h
    exact ds_expr (c_need_profile W hr (de_vp 0) de_str) (ds_expr (c_need_profile W hr (de_vp 1) de_str) (ds_nil rfl))
section
variable {X : Cx} {τ : AE} {e e1 e2 e3 e4 : Expr} {p pos : Pos} {j : Nat}
theorem c_need_both (W : Wn (gaOf X)) (hr : Room j X.A) {cs ds : List Pt} (h1 : DE X τ e1 (.pr cs)) (h2 : DE X τ e2 (.pr ds)) (hj : 2 ≤ j := by decide) (c : CallOk X "need_both" e1 [e2] pos := by exact ⟨rfl, rfl, rfl⟩) (c2 : StarOk X e2 [] := by exact ⟨rfl⟩) :
    DE X τ (.Call (.Name "need_both" p) [e1, e2] [] pos) (.d .non) := call2 (fn_need_both W X.base) hr hj h1 h2 ⟨cs, ds, rfl, rfl⟩ c c2 (by decide)
end
/-! ### need_stand, at a stand -/
theorem sc_need_stand : FnScope ["one", "other", "value", "part"] ["one", "other", "value", "part"] (defScope (top 58)) := ⟨rfl, rfl, rfl, by decide +kernel, rfl, by decide +kernel, by decide +kernel⟩
def R_need_stand (as : List AV) (r : AV) : Prop := ∃ (cs ds : List Pt) (q : RR) (z : Str), PV cs ∧ PV ds ∧ Bq q.1 ∧ Bq q.2 ∧ stnP cs ds q ∧ as = [.pr cs, .pr ds, .d (stnD q), .d (.str z)] ∧ r = .d (stnD q)
theorem fn_need_stand {g : Ga} (W : Wn g) (base : Heap) : FnD g base "need_stand" 7 ["one", "other", "value", "part"] [.str "stand"] R_need_stand := by
  obtain ⟨f, fd, hm, F⟩ := W.ns.ex
  obtain ⟨ds, hd, hb⟩ := F.binds1 (ps := ["one", "other", "value", "part"]) 3 0 (by simp) rfl fun T kV doc pm an cdv ct us its hl hl2 => match us, its, hl, hl2 with
    | [_, _, _], [_], _, _ => ⟨_, rfl, rfl⟩
  refine fnd_ofD (k := 6) hm F hd hb sc_need_stand (fun as r h => ?_) (fun as r h => ?_) fun cdv A outer s H E as r hr h => ?_
  · obtain ⟨_, _, _, _, _, _, _, _, _, rfl, _⟩ := h; rfl
  · obtain ⟨_, _, _, _, _, _, _, _, _, rfl, _⟩ := h; simp [AV.own]
  · obtain ⟨cs, ds, q, z, P, P', hx, hy, hs, rfl, rfl⟩ := h
    refine ds_if (dt_not (dt_val (c_is_stand_in W.toWd hr (de_vp 0) (de_vp 1) (de_vd 2) P P' hx hy))) (fun h => by simp [hs] at h) (fun h => ds_nil ?_)
    exact ds_ret (de_tup (dd_cons (c_kept W.toWd hr (de_ixT (de_vd 2) de_int)) (dd_cons (c_kept W.toWd hr (de_ixT (de_vd 2) de_int)) dd_nil))) rfl
section
variable {X : Cx} {τ : AE} {e e1 e2 e3 e4 : Expr} {p pos : Pos} {j : Nat}
theorem c_need_stand (W : Wn (gaOf X)) (hr : Room j X.A) {cs ds : List Pt} {q : RR} (h1 : DE X τ e1 (.pr cs)) (h2 : DE X τ e2 (.pr ds)) (h3 : DE X τ e3 (.d (stnD q))) (P : PV cs) (P' : PV ds) (hx : Bq q.1) (hy : Bq q.2) (hs : stnP cs ds q) (hj : 7 ≤ j := by decide) (c : CallOk X "need_stand" e1 [e2, e3] pos := by exact ⟨rfl, rfl, rfl⟩) (c2 : StarOk X e2 [e3] := by exact ⟨rfl⟩) (c3 : StarOk X e3 [] := by exact ⟨rfl⟩) :
    DE X τ (.Call (.Name "need_stand" p) [e1, e2, e3] [] pos) (.d (stnD q)) :=
  de_callD (fn_need_stand W X.base) (hr.mono hj) (da_cons h1 (da_cons h2 (da_cons h3 da_nil c3.st) c2.st) c.st) ⟨cs, ds, q, "stand", P, P', hx, hy, hs, rfl, rfl⟩ c.gl (by decide) c.st c.pl
end
/-! ### stands_of, many_ways, ways_on -/
theorem sc_stands_of : FnScope ["one", "other"] ["one", "other"] (defScope (top 59)) := ⟨rfl, rfl, rfl, by decide +kernel, rfl, by decide +kernel, by decide +kernel⟩
def R_stands_of (as : List AV) (r : AV) : Prop := ∃ (cs ds : List Pt) (ws : List RR), PV cs ∧ PV ds ∧ SL ws ∧ (∀ p, p ∈ ws ↔ stA cs ds p ∨ stB cs ds p) ∧ as = [.pr cs, .pr ds] ∧ r = .d (.tup (ws.map stnD))
theorem fn_stands_of {g : Ga} (W : Wn g) (base : Heap) : FnD g base "stands_of" 14 ["one", "other"] [] R_stands_of := by
  obtain ⟨f, fd, hm, F⟩ := (W.fn "stands_of" 59).ex
  refine fnd_of (k := 13) hm F (F.binds fun _ _ _ _ _ _ us hl => match us, hl with | [_, _], _ => rfl) sc_stands_of (fun as r h => ?_) (fun as r h => ?_) fun cdv A outer s H E as r hr h => ?_
  · obtain ⟨_, _, _, _, _, _, _, rfl, _⟩ := h; rfl
  · obtain ⟨_, _, _, _, _, _, _, rfl, _⟩ := h; simp [AV.own]
  · obtain ⟨cs, ds, ws, P, P', sw, mw, rfl, rfl⟩ := h
    exact ds_expr (c_need_both W hr (de_vp 0) (de_vp 1)) (ds_ret (de_cty ty_tupL (da_l (c_all_stands W.toWd hr (de_vp 0) (de_vp 1) P P' sw mw) da_nil) (W.bl "tuple") boot_tuple) rfl)
theorem sc_many_ways : FnScope ["one", "other", "stand"] ["one", "other", "stand"] (defScope (top 60)) := ⟨rfl, rfl, rfl, by decide +kernel, rfl, by decide +kernel, by decide +kernel⟩
def R_many_ways (as : List AV) (r : AV) : Prop := ∃ (cs ds : List Pt) (q : RR), PV cs ∧ PV ds ∧ Bq q.1 ∧ Bq q.2 ∧ stnP cs ds q ∧ as = [.pr cs, .pr ds, .d (stnD q)] ∧ r = .d (.int ((goalsS cs ds q).length : Int))
theorem fn_many_ways {g : Ga} (W : Wn g) (base : Heap) : FnD g base "many_ways" 8 ["one", "other", "stand"] [] R_many_ways := by
  obtain ⟨f, fd, hm, F⟩ := (W.fn "many_ways" 60).ex
  refine fnd_of (k := 7) hm F (F.binds fun _ _ _ _ _ _ us hl => match us, hl with | [_, _, _], _ => rfl) sc_many_ways (fun as r h => ?_) (fun as r h => ?_) fun cdv A outer s H E as r hr h => ?_
  · obtain ⟨_, _, _, _, _, _, _, _, rfl, _⟩ := h; rfl
  · obtain ⟨_, _, _, _, _, _, _, _, rfl, _⟩ := h; simp [AV.own]
  · obtain ⟨cs, ds, q, P, P', hx, hy, hs, rfl, rfl⟩ := h
    exact ds_expr (c_need_both W hr (de_vp 0) (de_vp 1)) (ds_ret (c_many_in W.toWd hr (de_vp 0) (de_vp 1) (c_need_stand W hr (de_vp 0) (de_vp 1) (de_vd 2) P P' hx hy hs) P P' hx hy) (by rw [goals_len]))
theorem sc_ways_on : FnScope ["one", "other", "stand"] ["one", "other", "stand"] (defScope (top 61)) := ⟨rfl, rfl, rfl, by decide +kernel, rfl, by decide +kernel, by decide +kernel⟩
def R_ways_on (as : List AV) (r : AV) : Prop := ∃ (cs ds : List Pt) (q : RR) (ws : List RR), PV cs ∧ PV ds ∧ Bq q.1 ∧ Bq q.2 ∧ stnP cs ds q ∧ SL ws ∧ (∀ p, p ∈ ws ↔ p ∈ goalsS cs ds q) ∧ as = [.pr cs, .pr ds, .d (stnD q)] ∧ r = .d (.tup (ws.map stnD))
theorem fn_ways_on {g : Ga} (W : Wn g) (base : Heap) : FnD g base "ways_on" 14 ["one", "other", "stand"] [] R_ways_on := by
  obtain ⟨f, fd, hm, F⟩ := (W.fn "ways_on" 61).ex
  refine fnd_of (k := 13) hm F (F.binds fun _ _ _ _ _ _ us hl => match us, hl with | [_, _, _], _ => rfl) sc_ways_on (fun as r h => ?_) (fun as r h => ?_) fun cdv A outer s H E as r hr h => ?_
  · obtain ⟨_, _, _, _, _, _, _, _, _, _, _, rfl, _⟩ := h; rfl
  · obtain ⟨_, _, _, _, _, _, _, _, _, _, _, rfl, _⟩ := h; simp [AV.own]
  · obtain ⟨cs, ds, q, ws, P, P', hx, hy, hs, sw, mw, rfl, rfl⟩ := h
    exact ds_expr (c_need_both W hr (de_vp 0) (de_vp 1)) (ds_ret (de_cty ty_tupL (da_l (c_ways_in W.toWd hr (de_vp 0) (de_vp 1) (c_need_stand W hr (de_vp 0) (de_vp 1) (de_vd 2) P P' hx hy hs) P P' hx hy sw (fun p => by rw [mw p, goals_eq])) da_nil) (W.bl "tuple") boot_tuple) rfl)
section
variable {X : Cx} {τ : AE} {e e1 e2 e3 e4 : Expr} {p pos : Pos} {j : Nat}
theorem c_stands_of (W : Wn (gaOf X)) (hr : Room j X.A) {cs ds : List Pt} {ws : List RR} (h1 : DE X τ e1 (.pr cs)) (h2 : DE X τ e2 (.pr ds)) (P : PV cs) (P' : PV ds) (sw : SL ws) (mw : ∀ p, p ∈ ws ↔ stA cs ds p ∨ stB cs ds p) (hj : 14 ≤ j := by decide) (c : CallOk X "stands_of" e1 [e2] pos := by exact ⟨rfl, rfl, rfl⟩) (c2 : StarOk X e2 [] := by exact ⟨rfl⟩) :
    DE X τ (.Call (.Name "stands_of" p) [e1, e2] [] pos) (.d (.tup (ws.map stnD))) := call2 (fn_stands_of W X.base) hr hj h1 h2 ⟨cs, ds, ws, P, P', sw, mw, rfl, rfl⟩ c c2 (by decide)
theorem c_many_ways (W : Wn (gaOf X)) (hr : Room j X.A) {cs ds : List Pt} {q : RR} (h1 : DE X τ e1 (.pr cs)) (h2 : DE X τ e2 (.pr ds)) (h3 : DE X τ e3 (.d (stnD q))) (P : PV cs) (P' : PV ds) (hx : Bq q.1) (hy : Bq q.2) (hs : stnP cs ds q) (hj : 8 ≤ j := by decide) (c : CallOk X "many_ways" e1 [e2, e3] pos := by exact ⟨rfl, rfl, rfl⟩) (c2 : StarOk X e2 [e3] := by exact ⟨rfl⟩) (c3 : StarOk X e3 [] := by exact ⟨rfl⟩) :
    DE X τ (.Call (.Name "many_ways" p) [e1, e2, e3] [] pos) (.d (.int ((goalsS cs ds q).length : Int))) := call3 (fn_many_ways W X.base) hr hj h1 h2 h3 ⟨cs, ds, q, P, P', hx, hy, hs, rfl, rfl⟩ c c2 c3 (by decide)
theorem c_ways_on (W : Wn (gaOf X)) (hr : Room j X.A) {cs ds : List Pt} {q : RR} {ws : List RR} (h1 : DE X τ e1 (.pr cs)) (h2 : DE X τ e2 (.pr ds)) (h3 : DE X τ e3 (.d (stnD q))) (P : PV cs) (P' : PV ds) (hx : Bq q.1) (hy : Bq q.2) (hs : stnP cs ds q) (sw : SL ws) (mw : ∀ p, p ∈ ws ↔ p ∈ goalsS cs ds q) (hj : 14 ≤ j := by decide) (c : CallOk X "ways_on" e1 [e2, e3] pos := by exact ⟨rfl, rfl, rfl⟩) (c2 : StarOk X e2 [e3] := by exact ⟨rfl⟩) (c3 : StarOk X e3 [] := by exact ⟨rfl⟩) :
    DE X τ (.Call (.Name "ways_on" p) [e1, e2, e3] [] pos) (.d (.tup (ws.map stnD))) := call3 (fn_ways_on W X.base) hr hj h1 h2 h3 ⟨cs, ds, q, ws, P, P', hx, hy, hs, sw, mw, rfl, rfl⟩ c c2 c3 (by decide)
end
end BF

set_option Elab.async false
set_option linter.all false
set_option maxRecDepth 100000
set_option maxHeartbeats 1000000
set_option autoImplicit false
/-! The ferry: a list [cells, at, rest] that is changed by every oar. -/
namespace BF
open PySem PySem.Spec PyProof.Rows L2

abbrev ferV (q : Addr) (a b : Int) : List V := [.ref q, .int a, .int b]
/-- the ferry, known by its bounds -/
def ferO (p q : Addr) (n : Nat) : HO := .ext fun h => ∃ (a b : Int) (its : List Value) (k : Nat), 0 ≤ a ∧ a ≤ n ∧ 0 ≤ b ∧ Vals (ferV q a b) its ∧ h.get? p = some { cls := .type "list", data := .seq its.toArray k }
def ExB (p : Addr) (H H2 : Hp) : Prop := ∀ b o, b ≠ p → H b = some o → H2 b = some o
theorem ExB.refl {p : Addr} {H : Hp} : ExB p H H := fun _ _ _ h => h
theorem ExB.ex {p : Addr} {H H1 H2 : Hp} (h : ExB p H H1) (e : Ex H1 H2) : ExB p H H2 := fun b o n z => e b o (h b o n z)
theorem ExB.trans {p : Addr} {H H1 H2 : Hp} (h : ExB p H H1) (e : ExB p H1 H2) : ExB p H H2 := fun b o n z => e b o n (h b o n z)
theorem ExB.upd {p : Addr} {H H1 : Hp} {o : HO} (h : ExB p H H1) : ExB p H (upd H1 p o) := fun b u n z => by rw [upd_ne n]; exact h b u n z
theorem ferO_ok {P : Program} {w : World} {H : Hp} {h : Heap} {p q : Addr} {n : Nat} {a b : Int} {its : List Value} {k : Nat} (h1 : 0 ≤ a) (h2 : a ≤ n) (h3 : 0 ≤ b) (hv : Vals (ferV q a b) its) (hg : h.get? p = some { cls := .type "list", data := .seq its.toArray k }) : ObjOk P w H h p (ferO p q n) :=
  ⟨⟨a, b, its, k, h1, h2, h3, hv, hg⟩, ⟨_, hg⟩, fun g1 g2 ⟨a, b, its, k, z1, z2, z3, zv, zg⟩ kk => ⟨a, b, its, k, z1, z2, z3, zv, kk _ zg⟩⟩
section
variable {X : Cx} {Dn : Ends} {σ : L2.St} {H : Hp} {sts : List Stmt} {p q : Addr} {n : Nat} {e : Expr} {Q : VK}
theorem fer_open {pins : List (Addr × Obj)} {s : Shared} (I : Inv X pins σ H s) (hp : H p = some (ferO p q n)) : ∃ a b : Int, 0 ≤ a ∧ a ≤ n ∧ 0 ≤ b ∧ Inv X pins σ (upd H p (.lst (ferV q a b))) s := by
  have x : ObjOk X.prog X.w H s.heap p (.ext fun h => ∃ (a b : Int) (its : List Value) (k : Nat), 0 ≤ a ∧ a ≤ n ∧ 0 ≤ b ∧ Vals (ferV q a b) its ∧ h.get? p = some { cls := .type "list", data := .seq its.toArray k }) := I.hok p _ hp
  obtain ⟨⟨a, b, its, k, h1, h2, h3, hv, hg⟩, _, _⟩ := x
  exact ⟨a, b, h1, h2, h3, I.write (t' := s.toks) (x := p) (e := p) (o := .lst (ferV q a b)) (by rw [hp]; exact True.intro) (.inl rfl) (fun b u _ z => z) ⟨_, hg⟩ ⟨by show 3 ≤ sizeLine; decide, its, k, hv, hg⟩⟩
theorem fer_close {pins : List (Addr × Obj)} {s : Shared} {a b : Int} (I : Inv X pins σ H s) (hp : H p = some (.lst (ferV q a b))) (h1 : 0 ≤ a) (h2 : a ≤ n) (h3 : 0 ≤ b) : Inv X pins σ (upd H p (ferO p q n)) s := by
  have x : ObjOk X.prog X.w H s.heap p (.lst (ferV q a b)) := I.hok p _ hp
  obtain ⟨_, its, k, hv, hg⟩ := x
  exact I.write (t' := s.toks) (x := p) (e := p) (o := ferO p q n) (by rw [hp]; exact True.intro) (.inl rfl) (fun b u _ z => z) ⟨_, hg⟩ (ferO_ok h1 h2 h3 hv hg)
theorem XSs.reveal (hp : H p = some (ferO p q n)) (h : ∀ a b : Int, 0 ≤ a → a ≤ n → 0 ≤ b → XSs X Dn σ (upd H p (.lst (ferV q a b))) sts) : XSs X Dn σ H sts := fun pins s I => by
  obtain ⟨a, b, h1, h2, h3, J⟩ := fer_open I hp
  exact h a b h1 h2 h3 pins s J
theorem XSs.hide {a b : Int} (hp : H p = some (.lst (ferV q a b))) (h1 : 0 ≤ a) (h2 : a ≤ n) (h3 : 0 ≤ b) (h : XSs X Dn σ (upd H p (ferO p q n)) sts) : XSs X Dn σ H sts := fun pins s I => h pins s (fer_close I hp h1 h2 h3)
theorem XE.hide (h : XE X σ H e fun v H' => ∃ a b : Int, H' p = some (.lst (ferV q a b)) ∧ 0 ≤ a ∧ a ≤ n ∧ 0 ≤ b ∧ Q v (upd H' p (ferO p q n))) : XE X σ H e Q := fun pins s I =>
  wpAny_mono (h pins s I) (fun _ _ ⟨v, H', I', r, a, b, hp, h1, h2, h3, z⟩ => ⟨v, _, fer_close I' hp h1 h2 h3, r, z⟩) fun _ _ z => z
end

/-! ### inside the oar -/
def plainB (τ : AE) : Bool := τ.all fun o => match o with
  | some (.d _) => true
  | some (.kp _) => true
  | some _ => false
  | none => true
theorem RS.plain {g : Ga} {H H2 : Hp} {σ : L2.St} {τ : AE} (r : RS g (fun _ => False) H σ τ) (hp : plainB τ = true) (k : KT H H2) : RS g (fun _ => False) H2 σ τ :=
  ⟨r.len, (fun i a h => by
    obtain ⟨v, h1, h2⟩ := r.at_ i a h
    have := List.all_eq_true.mp hp _ (List.mem_of_getElem? h)
    cases a with
    | d x => exact ⟨v, h1, TD.up h2 k⟩
    | kp x => exact ⟨v, h1, h2⟩
    | l o x => cases this
    | m o x => cases this
    | pr x => cases this
    | ll x y => cases this), r.sep, fun p z => z.elim⟩
theorem td_ints {H : Hp} : ∀ xs : List Int, TDs H (xs.map V.int) (xs.map D.int)
  | [] => .nil
  | x :: xs => .cons (.int x) (td_ints xs)
theorem nbs_ints : ∀ xs : List Int, D.nbs (xs.map D.int) = true
  | [] => rfl
  | x :: xs => by simp [D.nbs, D.nb, nbs_ints xs]
theorem deps_ints : ∀ xs : List Int, D.deps (xs.map D.int) = 0
  | [] => rfl
  | x :: xs => by simp [D.deps, D.dep, deps_ints xs]
structure OS (g : Ga) (H0 : Hp) (p q : Addr) (xs : List Int) (σ : L2.St) (H : Hp) (τ : AE) (a b : Int) : Prop where
  rs : RS g (fun _ => False) H σ τ
  at0 : σ[0]? = some (some (.ref p))
  hp : H p = some (.lst (ferV q a b))
  hq : H q = some (.lst (xs.map V.int))
  ne : q ≠ p
  ex : ExB p H0 H
theorem OS.mono {g : Ga} {H0 H H2 : Hp} {p q : Addr} {xs : List Int} {σ : L2.St} {τ : AE} {a b : Int} (o : OS g H0 p q xs σ H τ a b) (e : Ex H H2) : OS g H0 p q xs σ H2 τ a b :=
  ⟨o.rs.mono e, o.at0, e _ _ o.hp, e _ _ o.hq, o.ne, o.ex.ex e⟩
theorem OS.set {g : Ga} {H0 H : Hp} {p q : Addr} {xs : List Int} {σ : L2.St} {τ : AE} {a b : Int} {i : Nat} {v : V} {d : D} (o : OS g H0 p q xs σ H τ a b) (hi : i ≠ 0) (t : TD H v d) : OS g H0 p q xs (σ.set i (some v)) H (τ.set i (some (.d d))) a b :=
  ⟨o.rs.putD t, by rw [List.getElem?_set_ne hi]; exact o.at0, o.hp, o.hq, o.ne, o.ex⟩
def OJ (X : Cx) (H0 : Hp) (p q : Addr) (xs : List Int) (Dn : Ends) (τ : AE) (a b : Int) (sts : List Stmt) : Prop := ∀ σ H, OS (gaOf X) H0 p q xs σ H τ a b → XSs X Dn σ H sts
section
variable {X : Cx} {H0 : Hp} {p q : Addr} {xs : List Int} {Dn : Ends} {τ : AE} {a b : Int} {sts A : List Stmt} {e c : Expr} {pos : Pos}
theorem oj_nil (h : ∀ σ H, OS (gaOf X) H0 p q xs σ H τ a b → Dn.nx σ H) : OJ X H0 p q xs Dn τ a b [] := fun σ H o => XSs.of pss_nil (h σ H o)
theorem oj_set {x : Str} {p' : Pos} {d : D} (i : Nat) (he : DE X τ e (.d d)) (k : OJ X H0 p q xs Dn (τ.set i (some (.d d))) a b sts) (h0 : i ≠ 0 := by decide) (hN : X.N.Nodup := by assumption) (hi : X.N[i]? = some x := by rfl) (hx : Loc X.env.scope x := by first | exact Or.inl rfl | exact Or.inr rfl)
    (hsw : swapsWith e (some (.Name x p')) pos.line X.env = pure false := by rfl) (hf : X.fn x = true ∨ X.env.scope.names.lookup x = some .local := by first | exact .inl rfl | exact .inr rfl) : OJ X H0 p q xs Dn τ a b (.Assign [.Name x p'] e pos :: sts) := fun σ H o =>
  XSs.of (pss_cons (ps_set hN hi hx (pe_can X e) hsw hf) (pss_can X sts)) (he.run _ H σ _ o.rs fun v H2 e2 r2 => k _ H2 ((o.mono e2).set h0 r2))
/-- e comes to d, there -/
def OE (X : Cx) (H0 : Hp) (p q : Addr) (xs : List Int) (τ : AE) (a b : Int) (e : Expr) (d : D) : Prop := ∀ σ H (Q : VK), OS (gaOf X) H0 p q xs σ H τ a b → (∀ v H2, Ex H H2 → TD H2 v d → Q v H2) → XE X σ H e Q
theorem oe_de {d : D} (he : DE X τ e (.d d)) : OE X H0 p q xs τ a b e d := fun σ H Q o k => he.run _ H σ Q o.rs fun v H2 e2 r2 => k v H2 e2 r2
theorem oj_setE {x : Str} {p' : Pos} {d : D} (i : Nat) (he : OE X H0 p q xs τ a b e d) (k : OJ X H0 p q xs Dn (τ.set i (some (.d d))) a b sts) (h0 : i ≠ 0 := by decide) (hN : X.N.Nodup := by assumption) (hi : X.N[i]? = some x := by rfl) (hx : Loc X.env.scope x := by first | exact Or.inl rfl | exact Or.inr rfl)
    (hsw : swapsWith e (some (.Name x p')) pos.line X.env = pure false := by rfl) (hf : X.fn x = true ∨ X.env.scope.names.lookup x = some .local := by first | exact .inl rfl | exact .inr rfl) : OJ X H0 p q xs Dn τ a b (.Assign [.Name x p'] e pos :: sts) := fun σ H o =>
  XSs.of (pss_cons (ps_set hN hi hx (pe_can X e) hsw hf) (pss_can X sts)) (he σ H _ o fun v H2 e2 r2 => k _ H2 ((o.mono e2).set h0 r2))
/-- f[c], a number -/
theorem oe_get {x : Str} {c z : Int} {j : Nat} {p1 p2 p3 : Pos} (hv : atI (ferV q a b) c = some (.int z)) (hN : X.N[0]? = some x := by rfl)
    (hvis : Vis X.env.scope x := by first | exact Or.inl rfl | exact Or.inr (Or.inl rfl) | exact Or.inr (Or.inr rfl)) (hd : (x == ("__debug__" : Str)) = false := by decide) (hc : (x == ("__classdict__" : Str)) = false := by decide) (hs : PlainIx (.Constant (.int c) j p2) := by intro _ _; rfl) :
    OE X H0 p q xs τ a b (.Subscript (.Name x p1) (.Constant (.int c) j p2) p3) (.int z) := fun σ H Q o k =>
  XE.of (pe_ix ix_list (pe_var hN hvis hd hc) pe_int hs) ⟨_, o.at0, p, _, c, _, rfl, rfl, SqL.of o.hp, hv, k _ H (exr H) (.int z)⟩
/-- f[0], the cells -/
theorem xe_f0 {x : Str} {j : Nat} {p1 p2 p3 : Pos} {σ : L2.St} {H : Hp} {Q : VK} (o : OS (gaOf X) H0 p q xs σ H τ a b) (k : Q (.ref q) H) (hN : X.N[0]? = some x := by rfl)
    (hvis : Vis X.env.scope x := by first | exact Or.inl rfl | exact Or.inr (Or.inl rfl) | exact Or.inr (Or.inr rfl)) (hd : (x == ("__debug__" : Str)) = false := by decide) (hc : (x == ("__classdict__" : Str)) = false := by decide) (hs : PlainIx (.Constant (.int 0) j p2) := by intro _ _; rfl) :
    XE X σ H (.Subscript (.Name x p1) (.Constant (.int 0) j p2) p3) Q :=
  XE.of (pe_ix ix_list (pe_var hN hvis hd hc) pe_int hs) ⟨_, o.at0, p, _, 0, _, rfl, rfl, SqL.of o.hp, rfl, k⟩
/-- len(f[0]) -/
theorem oe_len {x : Str} {j : Nat} {p1 p2 p3 p4 pos : Pos} (hm : X.mg "len" = none) (hg : Gl X "len" := by rfl) (hN : X.N[0]? = some x := by rfl)
    (hvis : Vis X.env.scope x := by first | exact Or.inl rfl | exact Or.inr (Or.inl rfl) | exact Or.inr (Or.inr rfl)) (hd : (x == ("__debug__" : Str)) = false := by decide) (hc : (x == ("__classdict__" : Str)) = false := by decide) (hs : PlainIx (.Constant (.int 0) j p2) := by intro _ _; rfl)
    (he : starEach [.Subscript (.Name x p1) (.Constant (.int 0) j p2) p3] X.env = (false, eval (.Subscript (.Name x p1) (.Constant (.int 0) j p2) p3) X.env) :: starEach [] X.env := by rfl) (hpl : (backTo pos (starEach [] X.env)).any (·.1) = false := by rfl) :
    OE X H0 p q xs τ a b (.Call (.Name "len" p4) [.Subscript (.Name x p1) (.Constant (.int 0) j p2) p3] [] pos) (.int (xs.length : Int)) := fun σ H Q o k =>
  XE.of (pe_callB call_len_seq hg hm boot_len (pa_cons (pe_can X _) pa_nil he) (by decide) (by decide) he hpl) (xe_f0 o (by
    refine ⟨q, _, rfl, .inl (SqL.of o.hq), ?_⟩
    rw [List.length_map]; exact k _ H (exr H) (.int _)) hN hvis hd hc hs)
theorem oe_bin {op : Operator} {e1 e2 : Expr} {x y z : D} (ho : OpD X (binaryOp op) (.d x) (.d y) (.d z)) (ha : OE X H0 p q xs τ a b e1 x) (hb : OE X H0 p q xs τ a b e2 y) : OE X H0 p q xs τ a b (.BinOp e1 op e2 pos) z := by
  obtain ⟨r, h1, h2⟩ := ho
  exact fun σ H Q o k => XE.of (pe_op h1 (pe_can X e1) (pe_can X e2)) (ha σ H _ o fun v H1 e1 r1 => hb σ H1 _ (o.mono e1) fun u H2 e2 r2 =>
    h2 H H2 v u Q (TD.up r1 (Ex_kt e2)) r2 fun z H3 e3 r3 => k z H3 ((e1.trans e2).trans e3) r3)
/-- f[0][e] -/
theorem oe_cell {x : Str} {j : Nat} {p1 p2 p3 pos : Pos} {i : Nat} {z : Int} (he : OE X H0 p q xs τ a b e (.int (i : Int))) (hz : xs[i]? = some z) (hpi : PlainIx e := by intro _ _; rfl) (hN : X.N[0]? = some x := by rfl)
    (hvis : Vis X.env.scope x := by first | exact Or.inl rfl | exact Or.inr (Or.inl rfl) | exact Or.inr (Or.inr rfl)) (hd : (x == ("__debug__" : Str)) = false := by decide) (hc : (x == ("__classdict__" : Str)) = false := by decide) (hs : PlainIx (.Constant (.int 0) j p2) := by intro _ _; rfl) :
    OE X H0 p q xs τ a b (.Subscript (.Subscript (.Name x p1) (.Constant (.int 0) j p2) p3) e pos) (.int z) := fun σ H Q o k =>
  XE.of (pe_ix ix_list (pe_can X _) (pe_can X e) hpi) (xe_f0 o (he σ H _ o fun v H2 e2 r2 => by
    cases r2
    refine ⟨q, _, _, .int z, rfl, rfl, SqL.of (e2 _ _ o.hq), ?_, k _ H2 e2 (.int z)⟩
    have hl : i < xs.length := (List.getElem?_eq_some_iff.mp hz).1
    have e1 : ixN (xs.map V.int).length (i : Int) = some i := by unfold ixN; rw [if_pos (Int.natCast_nonneg _), List.length_map, if_pos (by omega), Int.toNat_natCast]
    unfold atI
    rw [e1]
    show (xs.map V.int)[i]? = _
    rw [List.getElem?_map, hz]; rfl) hN hvis hd hc hs)
/-- f[c] = e -/
theorem oj_put {x : Str} {c : Int} {j k' : Nat} {p1 p2 p3 : Pos} {z a' b' : Int} (he : DE X τ e (.d (.int z))) (k : OJ X H0 p q xs Dn τ a' b' sts) (hi : ixN 3 c = some k') (hset : (ferV q a b).set k' (.int z) = ferV q a' b') (hpl : plainB τ = true := by rfl) (hN : X.N[0]? = some x := by rfl)
    (hvis : Vis X.env.scope x := by first | exact Or.inl rfl | exact Or.inr (Or.inl rfl) | exact Or.inr (Or.inr rfl)) (hd : (x == ("__debug__" : Str)) = false := by decide) (hc : (x == ("__classdict__" : Str)) = false := by decide)
    (hs : swapsWithSole [.Subscript (.Name x p1) (.Constant (.int c) j p2) p3] e pos.line X.env = pure false := by rfl) (hw : swappedStores [.Subscript (.Name x p1) (.Constant (.int c) j p2) p3] e X.env = pure none := by rfl)
    (h1 : (assignEach [.Subscript (.Name x p1) (.Constant (.int c) j p2) p3] X.env).map (·.2) = [assign (.Subscript (.Name x p1) (.Constant (.int c) j p2) p3) X.env] := by rfl) :
    OJ X H0 p q xs Dn τ a b (.Assign [.Subscript (.Name x p1) (.Constant (.int c) j p2) p3] e pos :: sts) := fun σ H o =>
  XSs.of (pss_cons (ps_asg (pe_can X e) (pg_sub (pe_var hN hvis hd hc) pe_int set_list) hs hw h1) (pss_can X sts)) (he.run _ H σ _ o.rs fun v H2 e2 r2 => by
    cases r2
    refine ⟨_, o.at0, p, _, c, k', rfl, rfl, e2 _ _ o.hp, hi, ?_⟩
    rw [hset]
    have kt : KT H2 (upd H2 p (.lst (ferV q a' b'))) := (KT.refl H2).put (e2 _ _ o.hp) fun _ z => by cases z
    exact k σ _ ⟨(o.rs.mono e2).plain hpl kt, o.at0, upd_same, by rw [upd_ne o.ne]; exact e2 _ _ o.hq, o.ne, (o.ex.ex e2).upd⟩)
/-- a test, there -/
def OT (X : Cx) (H0 : Hp) (p q : Addr) (xs : List Int) (τ : AE) (a b : Int) (c : Expr) (k : Bool) : Prop := ∀ σ H (Q : Bool → Hp → Prop), OS (gaOf X) H0 p q xs σ H τ a b → (∀ H2, Ex H H2 → Q k H2) → XT X σ H c Q
theorem ot_cmp {op : CmpOp} {e1 e2 : Expr} {x y : D} {k : Bool} (ho : OpD X (compareOp op) (.d x) (.d y) (.d (.bl k))) (ha : OE X H0 p q xs τ a b e1 x) (hb : OE X H0 p q xs τ a b e2 y) (hm : behindInMarks op e2 = false := by first | exact nomark _ | rfl) : OT X H0 p q xs τ a b (.Compare e1 [op] [e2] pos) k := by
  obtain ⟨r, h1, h2⟩ := ho
  exact fun σ H Q o kk => XT.of (pt_cmpR h1 (pe_can X e1) (pe_can X e2) hm) (ha σ H _ o fun v H1 e1 r1 => hb σ H1 _ (o.mono e1) fun u H2 e2 r2 =>
    h2 H H2 v u _ (TD.up r1 (Ex_kt e2)) r2 fun z H3 e3 r3 => ⟨k, (by cases r3; rfl), kk H3 ((e1.trans e2).trans e3)⟩)
/-- f[0] != [] -/
theorem ot_ne {x : Str} {j : Nat} {p1 p2 p3 p4 : Pos} (hu : X.A.units + 64 < cLine) (hN : X.N[0]? = some x := by rfl)
    (hvis : Vis X.env.scope x := by first | exact Or.inl rfl | exact Or.inr (Or.inl rfl) | exact Or.inr (Or.inr rfl)) (hd : (x == ("__debug__" : Str)) = false := by decide) (hc : (x == ("__classdict__" : Str)) = false := by decide) (hs : PlainIx (.Constant (.int 0) j p2) := by intro _ _; rfl)
    (hm : behindInMarks CmpOp.NotEq (Expr.List [] p4) = false := by first | exact nomark _ | rfl) :
    OT X H0 p q xs τ a b (.Compare (.Subscript (.Name x p1) (.Constant (.int 0) j p2) p3) [.NotEq] [.List [] p4] pos) (!decide (xs = [])) := by
  obtain ⟨r, h1, h2⟩ := od_neL (X := X) (o := false) (o' := true) (xs := xs.map D.int) (ys := []) hu (nbs_ints xs) rfl (by rw [deps_ints]; omega) (by simp [D.deps])
  exact fun σ H Q o kk => XT.of (pt_cmpR h1 (pe_can X _) (pe_can X _) hm) (xe_f0 o ((de_lst dd_nil).run _ H σ _ o.rs fun u H2 e2 r2 => by
    refine h2 H H2 _ u _ ⟨q, _, rfl, (fun z => by cases z), e2 _ _ o.hq, ?_⟩ r2 fun z H3 e3 r3 => ⟨!decide (xs = []), ?_, kk H3 (e2.trans e3)⟩
    · exact td_ints xs
    · cases r3
      simp) hN hvis hd hc hs)
end
end BF

set_option Elab.async false
set_option linter.all false
set_option maxRecDepth 100000
set_option maxHeartbeats 1000000
set_option autoImplicit false
/-! The oar. -/
namespace BF
open PySem PySem.Spec PyProof.Rows L2
section
variable {X : Cx} {H0 : Hp} {p q : Addr} {xs : List Int} {Dn : Ends} {τ : AE} {a b : Int} {sts A : List Stmt} {e c e1 e2 : Expr} {pos : Pos} {n : Nat}
theorem oj_ret {r : Int} (he : OE X H0 p q xs τ a b e (.int r)) (h1 : 0 ≤ a) (h2 : a ≤ n) (h3 : 0 ≤ b) (h : ∀ H', ExB p H0 H' → H' p = some (ferO p q n) → Dn.rt (.int r) H') : OJ X H0 p q xs Dn τ a b (.Return (some e) pos :: sts) := fun σ H o =>
  XSs.of (pss_cons (ps_ret (pe_can X e)) (pss_can X sts)) (XE.hide (n := n) (p := p) (q := q) (he σ H _ o fun v H2 e2 r2 => by
    cases r2
    exact ⟨a, b, e2 _ _ o.hp, h1, h2, h3, h _ (o.ex.ex e2).upd upd_same⟩))
theorem oj_if {k : Bool} (hc : OT X H0 p q xs τ a b c k) (h1 : k = true → OJ X H0 p q xs { Dn with nx := fun σ H => XSs X Dn σ H sts } τ a b A) (h2 : k = false → OJ X H0 p q xs Dn τ a b sts) : OJ X H0 p q xs Dn τ a b (.If c A [] pos :: sts) := fun σ H o =>
  XSs.of (pss_cons (ps_if (pt_can X c) (pss_can X A) (pss_can X [])) (pss_can X sts)) (hc σ H _ o fun H2 e2 => by
    cases k with
    | true => exact iteT (h1 rfl σ H2 (o.mono e2))
    | false => exact iteF (XSs.of pss_nil (h2 rfl σ H2 (o.mono e2))))
theorem ot_dt {k : Bool} (h : DT X τ c k) : OT X H0 p q xs τ a b c k := fun σ H Q o kk => h.run _ H σ Q o.rs kk
theorem ot_and {k j : Bool} (h1 : OT X H0 p q xs τ a b e1 k) (h2 : k = true → OT X H0 p q xs τ a b e2 j) : OT X H0 p q xs τ a b (.BoolOp .And [e1, e2] pos) (k && j) := fun σ H Q o kk pins s I =>
  (pw_and (pt_can X e1) (pw_can X .And [e2] pos)).run _ pins s σ H Q I (h1 σ H _ o fun H2 e2' => by
    cases k with
    | false => exact iteF (kk H2 e2')
    | true => exact iteT fun wh' pins' s' I' => (pw_and1 (pt_can X e2)).run wh' pins' s' σ H2 Q I' (h2 rfl σ H2 _ (o.mono e2') fun H3 e3 => kk H3 (e2'.trans e3)))
theorem oe_eq {d d' : D} (he : OE X H0 p q xs τ a b e d) (h : d = d') : OE X H0 p q xs τ a b e d' := h ▸ he
theorem oe_int {z : Int} {p1 : Pos} (he : OE X H0 p q xs τ a b e (.int z)) (hm : X.mg "int" = none) (hg : Gl X "int" := by rfl)
    (hs : starEach [e] X.env = (false, eval e X.env) :: starEach [] X.env := by rfl) (hpl : (backTo pos (starEach [] X.env)).any (·.1) = false := by rfl) : OE X H0 p q xs τ a b (.Call (.Name "int" p1) [e] [] pos) (.int z) := fun σ H Q o k =>
  XE.of (pe_callTy call_int1 hg hm boot_int (pa_cons (pe_can X e) pa_nil hs) (by decide) (by decide) hs hpl) (he σ H _ o fun v H2 e2 r2 => by
    cases r2
    exact .inl ⟨z, rfl, k _ H2 e2 (.int z)⟩)
end
theorem mul_bd {x y A B : Int} (h1 : 0 ≤ x) (h2 : x ≤ A) (h3 : 0 ≤ y) (h4 : y ≤ B) : 0 ≤ x * y ∧ x * y ≤ A * B := ⟨Int.mul_nonneg h1 h3, Int.mul_le_mul h2 h4 h3 (by omega)⟩
theorem sc_law_oar : FnScope ["_law_ferry_here", "_law_many", "_law_rest", "_law_at", "_law_cell", "_law_mixed"] ["_law_ferry_here", "_law_many"] (defScope (top 64)) := ⟨rfl, rfl, rfl, by decide +kernel, rfl, by decide +kernel, by decide +kernel⟩
def spOar : Sp := fun vs H Q _ => ∃ (p q : Addr) (n : Nat) (m : Int) (xs : List Int), vs = [.ref p, .int m] ∧ H p = some (ferO p q n) ∧ H q = some (.lst (xs.map V.int)) ∧ q ≠ p ∧ n < 2 ^ 20 ∧ 0 < m ∧ m < 2 ^ 29 ∧
  ∀ r H', 0 ≤ r → r < m → ExB p H H' → H' p = some (ferO p q (n + 1)) → Q (.int r) H'
theorem fn_law_oar {g : Ga} (W : Wn g) (base : Heap) : ∃ f fd, g.mg "_law_oar" = some (.ref f) ∧ PySem.W.keepIn g.K (.ref f) = true ∧ Binds g.K fd ["_law_ferry_here", "_law_many"] [] ∧ FnOk g.P g.w g.K g.mg base CX0 1 f fd ["_law_ferry_here", "_law_many"] spOar := by
  obtain ⟨f, fd, hm, F⟩ := (W.fn "_law_oar" 64).ex
  refine ⟨f, fd, hm, F.kp, F.binds fun _ _ _ _ _ _ us hl => match us, hl with | [_, _], _ => rfl, F.ok (k := 0) sc_law_oar (fun vs H Q E h => by obtain ⟨_, _, _, _, _, rfl, _⟩ := h; rfl) fun cdv A outer s H vs Q E hr h => ?_⟩
  obtain ⟨p, q, n, m, xs, rfl, hp, hq, ne, hn, hm0, hm1, hQ⟩ := h
  have nd := sc_law_oar.nd
  refine ⟨_, pss_can _ _, XSs.reveal hp fun a b h1 h2 h3 => ?_⟩
  have hu := hr.units
  have fin : ∀ {a' b' : Int} {e : Expr} {r : Int} {τ : AE} {Dn : Ends} {sts : List Stmt} {pos : Pos}, (∀ v H', Q v H' → Dn.rt v H') → OE (cxOf CX0 g.P g.w g.K g.mg base ["_law_ferry_here", "_law_many", "_law_rest", "_law_at", "_law_cell", "_law_mixed"] "_law_oar" (defScope (top 64)) f cdv A outer s H E).nox H p q xs τ a' b' e (.int r) → 0 ≤ a' → a' ≤ a + 1 → 0 ≤ b' → 0 ≤ r → r < m →
      OJ (cxOf CX0 g.P g.w g.K g.mg base ["_law_ferry_here", "_law_many", "_law_rest", "_law_at", "_law_cell", "_law_mixed"] "_law_oar" (defScope (top 64)) f cdv A outer s H E).nox H p q xs Dn τ a' b' (.Return (some e) pos :: sts) := fun hD he x1 x2 x3 x4 x5 =>
    oj_ret (n := n + 1) he x1 (by omega) x3 fun H' z1 z2 => hD _ _ (hQ _ H' x4 x5 z1 z2)
  have RR0 : OS g H p q xs (L2.start ["_law_ferry_here", "_law_many", "_law_rest", "_law_at", "_law_cell", "_law_mixed"] [.ref p, .int m]) (upd H p (.lst (ferV q a b))) [some (.kp fun v => v = .ref p), some (.d (.int m)), none, none, none, none] a b := by
    refine ⟨RS.plain (H := H) (start_rs (as := [.kp fun v => v = .ref p, .d (.int m)]) (.cons rfl (.cons (.int m) .nil)) (by simp [AV.own])) rfl fun b' xs' hb => ?_, rfl, upd_same, by rw [upd_ne ne]; exact hq, ne, ExB.refl.upd⟩
    rw [upd_ne (fun z => by rw [z, hp] at hb; cases hb)]; exact hb
  refine (show OJ _ H p q xs _ [some (.kp fun v => v = .ref p), some (.d (.int m)), none, none, none, none] a b (defBody (top 64)) from ?_) _ _ RR0
  refine oj_if (k := decide (0 < b)) (ot_cmp od_gt (oe_get rfl) (oe_de de_int)) (fun hk => ?_) fun hk => ?_
  · have hb : 0 < b := of_decide_eq_true hk
    refine oj_setE 2 (oe_int (oe_get (z := b) rfl) (W.bl "int")) (oj_put (z := b.fdiv m) (a' := a) (b' := b.fdiv m) (k' := 2) (de_bin (od_fdiv ?_) (de_vd 2) (de_vd 1)) (fin (r := b % m) (fun _ _ z => z) (oe_bin (od_mod hm0) (oe_int (oe_de (de_vd 2)) (W.bl "int")) (oe_de (de_vd 1))) h1 (by omega) (Int.fdiv_nonneg h3 (by omega)) (Int.emod_nonneg _ (by omega)) (Int.emod_lt_of_pos _ hm0)) rfl rfl)
    exact ⟨by omega, by omega⟩
  · have last : ∀ z : Int, OJ (cxOf CX0 g.P g.w g.K g.mg base ["_law_ferry_here", "_law_many", "_law_rest", "_law_at", "_law_cell", "_law_mixed"] "_law_oar" (defScope (top 64)) f cdv A outer s H E).nox H p q xs { nx := fun _ H' => Q .non H', rt := Q } [some (.kp fun v => v = .ref p), some (.d (.int m)), none, some (.d (.int a)), some (.d (.int z)), none] (a + 1) b ((defBody (top 64)).drop 5) := fun z => by
      refine oj_if (k := decide (a < xs.length) && decide ((10 : Int) ^ (18 : Int).toNat ≤ (if z < 0 then -z else z))) (ot_and (ot_cmp od_lt (oe_de (de_vd 3)) (oe_len (W.bl "len"))) fun _ => ot_dt (dt_cmp od_ge (de_cb bu_abs (da_d (de_vd 4) da_nil) (W.bl "abs") boot_abs) (de_bin (od_pow (by unfold CPow; omega)) de_int de_int))) (fun hk => ?_) fun hk => ?_
      · obtain ⟨_, hk2⟩ := Bool.and_eq_true_iff.mp hk
        have hk3 : (10 : Int) ^ (18 : Int).toNat ≤ (if z < 0 then -z else z) := of_decide_eq_true hk2
        refine oj_set 2 (d := .int (2 * ((if z < 0 then -z else z) - (10 : Int) ^ (18 : Int).toNat) + (if decide (z < 0) = true then 1 else 0))) (de_bin od_add (de_bin (od_mul (cmi (by decide))) de_int (de_bin od_sub (de_cb bu_abs (da_d (de_vd 4) da_nil) (W.bl "abs") boot_abs) (de_bin (od_pow (by unfold CPow; omega)) de_int de_int))) (de_cty ty_intB (da_d (de_cmp od_lt (de_vd 4) de_int) da_nil) (W.bl "int") boot_int)) ?_
        have hR : 0 ≤ 2 * ((if z < 0 then -z else z) - (10 : Int) ^ (18 : Int).toNat) + (if decide (z < 0) = true then 1 else 0) := by split <;> omega
        revert hR
        generalize (2 * ((if z < 0 then -z else z) - (10 : Int) ^ (18 : Int).toNat) + (if decide (z < 0) = true then 1 else 0)) = R
        intro hR
        exact oj_put (z := R.fdiv m) (a' := a + 1) (b' := R.fdiv m) (k' := 2) (de_bin (od_fdiv ⟨by omega, by omega⟩) (de_cty ty_intI (da_d (de_vd 2) da_nil) (W.bl "int") boot_int) (de_vd 1)) (fin (r := R % m) (fun _ _ z => z) (oe_bin (od_mod hm0) (oe_int (oe_de (de_vd 2)) (W.bl "int")) (oe_de (de_vd 1))) (by omega) (by omega) (Int.fdiv_nonneg hR (by omega)) (Int.emod_nonneg _ (by omega)) (Int.emod_lt_of_pos _ hm0)) rfl rfl
      · have m1 : 0 ≤ z % 2147483477 := Int.emod_nonneg _ (by omega)
        have m2 : z % 2147483477 < 2147483477 := Int.emod_lt_of_pos _ (by omega)
        have hB : CPow (z % 2147483477 + 45349 * a + 6053) 5 := ⟨by omega, by omega, by omega⟩
        refine oj_set 5 (d := .int ((z % 2147483477 + 45349 * a + 6053) ^ (5 : Int).toNat % 2147483543)) (de_bin (od_mod (by omega)) (de_cty ty_intI (da_d (de_bin (od_pow hB) (de_bin od_add (de_bin od_add (de_bin (od_mod (by omega)) (de_cty ty_intI (da_d (de_vd 4) da_nil) (W.bl "int") boot_int) de_int) (de_bin (od_mul (cmi (by decide))) de_int (de_vd 3))) de_int) de_int) da_nil) (W.bl "int") boot_int) de_int) ?_
        have m3 : 0 ≤ (z % 2147483477 + 45349 * a + 6053) ^ (5 : Int).toNat % 2147483543 := Int.emod_nonneg _ (by omega)
        have m4 : (z % 2147483477 + 45349 * a + 6053) ^ (5 : Int).toNat % 2147483543 < 2147483543 := Int.emod_lt_of_pos _ (by omega)
        revert m3 m4
        generalize (z % 2147483477 + 45349 * a + 6053) ^ (5 : Int).toNat % 2147483543 = y
        intro m3 m4
        have b1 := mul_bd (x := y) (y := 2 * a + 3433) (A := 2147483543) (B := 2100585) m3 (by omega) (by omega) (by omega)
        have b2 := mul_bd (x := 63611 * a) (y := a) (A := 66700967936) (B := 1048576) (by omega) (by omega) (by omega) (by omega)
        have hB : CPow (y * (2 * a + 3433) + 63611 * a * a + 54429) 3 := ⟨by omega, by omega, by omega⟩
        have hC : CMul y (2 * a + 3433) := .inr (by omega)
        have hD : CMul (63611 * a) a := .inr (by omega)
        refine oj_set 5 (d := .int ((y * (2 * a + 3433) + 63611 * a * a + 54429) ^ (3 : Int).toNat % 2147483549)) (de_bin (od_mod (by omega)) (de_cty ty_intI (da_d (de_bin (od_pow hB) (de_bin od_add (de_bin od_add (de_bin (od_mul hC) (de_vd 5) (de_bin od_add (de_bin (od_mul (cmi (by decide))) de_int (de_vd 3)) de_int)) (de_bin (od_mul hD) (de_bin (od_mul (cmi (by decide))) de_int (de_vd 3)) (de_vd 3))) de_int) de_int) da_nil) (W.bl "int") boot_int) de_int) ?_
        generalize (y * (2 * a + 3433) + 63611 * a * a + 54429) ^ (3 : Int).toNat % 2147483549 = w
        exact fin (r := (w.fdiv 32) % m) (fun _ _ z => z) (oe_bin (od_mod hm0) (oe_int (oe_bin (od_fdiv ⟨by omega, by omega⟩) (oe_de (de_vd 5)) (oe_de de_int)) (W.bl "int")) (oe_de (de_vd 1))) (by omega) (by omega) h3 (Int.emod_nonneg _ (by omega)) (Int.emod_lt_of_pos _ hm0)
    refine oj_setE 3 (oe_get (z := a) rfl) (oj_put (z := a + 1) (a' := a + 1) (b' := b) (k' := 1) (de_bin od_add (de_vd 3) de_int) (oj_set 4 (d := .int (63611 * a + 6053)) (de_bin od_add (de_bin (od_mul (cmi (by decide))) de_int (de_vd 3)) de_int) (oj_if (k := !decide (xs = [])) (ot_ne hu) (fun hk => ?_) fun hk => last _)) rfl rfl)
    have hx : xs ≠ [] := by simpa using hk
    have hl : 0 < xs.length := List.length_pos_iff.mpr hx
    have i0 : 0 ≤ a % (xs.length : Int) := Int.emod_nonneg _ (by omega)
    have i1 : a % (xs.length : Int) < (xs.length : Int) := Int.emod_lt_of_pos _ (by omega)
    obtain ⟨i, hi⟩ : ∃ i : Nat, a % (xs.length : Int) = (i : Int) := ⟨(a % (xs.length : Int)).toNat, by omega⟩
    have hi2 : i < xs.length := by omega
    have hz : xs[i]? = some (xs[i]'hi2) := List.getElem?_eq_getElem _
    have hl' : (0 : Int) < (xs.length : Int) := by omega
    exact oj_setE 4 (oe_cell (i := i) (z := xs[i]'hi2) (oe_eq (oe_bin (od_mod hl') (oe_int (oe_de (de_vd 3)) (W.bl "int")) (oe_len (W.bl "len"))) (by rw [hi])) hz) (oj_nil fun σ H o => last _ σ H o)
end BF

set_option Elab.async false
set_option linter.all false
set_option maxRecDepth 100000
set_option maxHeartbeats 1000000
set_option autoImplicit false
/-! Around the oar: what changes the ferry alone. -/
namespace BF
open PySem PySem.Spec PyProof.Rows L2
def dl (H : Hp) (p : Addr) : Hp := fun b => if b = p then none else H b
theorem dl_same {H : Hp} {p : Addr} : dl H p p = none := if_pos rfl
theorem dl_ne {H : Hp} {p b : Addr} (h : b ≠ p) : dl H p b = H b := if_neg h
theorem dl_ex {H : Hp} {p : Addr} : Ex (dl H p) H := fun b o h => by
  by_cases e : b = p
  · subst e; rw [dl_same] at h; cases h
  · rw [dl_ne e] at h; exact h
theorem dl_exB {H H2 : Hp} {p : Addr} (h : ExB p H H2) : Ex (dl H p) (dl H2 p) := fun b o z => by
  by_cases e : b = p
  · subst e; rw [dl_same] at z; cases z
  · rw [dl_ne e] at z; rw [dl_ne e]; exact h b o e z
theorem dl_upd {H : Hp} {p l : Addr} {o : HO} (h : l ≠ p) : upd (dl H p) l o = dl (upd H l o) p := by
  funext b
  by_cases e : b = p
  · subst e; rw [dl_same, upd_ne (Ne.symm h), dl_same]
  · rw [dl_ne e]
    by_cases e2 : b = l
    · subst e2; rw [upd_same, upd_same]
    · rw [upd_ne e2, upd_ne e2, dl_ne e]
theorem exB_of {p : Addr} {H H2 : Hp} (e : Ex H H2) : ExB p H H2 := fun b o _ h => e b o h
theorem dl_kt {H : Hp} {p q : Addr} {n : Nat} (h : H p = some (ferO p q n)) : KT H (dl H p) := fun b xs z => by
  rw [dl_ne (fun e => by rw [e, h] at z; cases z)]; exact z
structure CS (g : Ga) (H0 : Hp) (p q : Addr) (xs : List Int) (n : Nat) (σ : L2.St) (H : Hp) (τ : AE) : Prop where
  rs : ∃ O, RS g O (dl H p) σ τ ∧ ∀ b, O b → H0 b = none
  at0 : σ[0]? = some (some (.ref p))
  hp : ∃ m, m ≤ n ∧ H p = some (ferO p q m)
  hq0 : H0 q = some (.lst (xs.map V.int))
  ne : q ≠ p
  ex : ExB p H0 H
section
variable {g : Ga} {H0 H H2 : Hp} {p q : Addr} {xs : List Int} {n n' : Nat} {σ : L2.St} {τ : AE}
theorem CS.mono (c : CS g H0 p q xs n σ H τ) (e : Ex H H2) : CS g H0 p q xs n σ H2 τ :=
  ⟨let ⟨O, r, h⟩ := c.rs; ⟨O, r.mono (dl_exB (exB_of e)), h⟩, c.at0, let ⟨m, h1, h2⟩ := c.hp; ⟨m, h1, e _ _ h2⟩, c.hq0, c.ne, c.ex.ex e⟩
theorem CS.weak (c : CS g H0 p q xs n σ H τ) (h : n ≤ n') : CS g H0 p q xs n' σ H τ :=
  ⟨c.rs, c.at0, let ⟨m, h1, h2⟩ := c.hp; ⟨m, Nat.le_trans h1 h, h2⟩, c.hq0, c.ne, c.ex⟩
theorem CS.fer {m : Nat} (c : CS g H0 p q xs n σ H τ) (e : ExB p H H2) (h : H2 p = some (ferO p q m)) (hm : m ≤ n') : CS g H0 p q xs n' σ H2 τ :=
  ⟨let ⟨O, r, h⟩ := c.rs; ⟨O, r.mono (dl_exB e), h⟩, c.at0, ⟨m, hm, h⟩, c.hq0, c.ne, c.ex.trans e⟩
theorem CS.hq (c : CS g H0 p q xs n σ H τ) : H q = some (.lst (xs.map V.int)) := c.ex q _ c.ne c.hq0
theorem CS.run (c : CS g H0 p q xs n σ H τ) : ∃ O, RS g O H σ τ := let ⟨O, r, _⟩ := c.rs; ⟨O, r.mono dl_ex⟩
theorem CS.set {i : Nat} {v : V} {d : D} (c : CS g H0 p q xs n σ H τ) (hi : i ≠ 0) (t : ∀ H, TD H v d) : CS g H0 p q xs n (σ.set i (some v)) H (τ.set i (some (.d d))) :=
  ⟨let ⟨O, r, h⟩ := c.rs; ⟨O, r.putD (t _), h⟩, by rw [List.getElem?_set_ne hi]; exact c.at0, c.hp, c.hq0, c.ne, c.ex⟩
end
def FE (X : Cx) (H0 : Hp) (p q : Addr) (xs : List Int) (τ : AE) (n : Nat) (e : Expr) (S : Int → Prop) (n' : Nat) : Prop :=
  ∀ σ H (Q : VK), CS (gaOf X) H0 p q xs n σ H τ → (∀ i H2, S i → CS (gaOf X) H0 p q xs n' σ H2 τ → Q (.int i) H2) → XE X σ H e Q
def CJ (X : Cx) (H0 : Hp) (p q : Addr) (xs : List Int) (Dn : Ends) (τ : AE) (n : Nat) (sts : List Stmt) : Prop := ∀ σ H, CS (gaOf X) H0 p q xs n σ H τ → XSs X Dn σ H sts
section
variable {X : Cx} {H0 : Hp} {p q : Addr} {xs : List Int} {Dn : Ends} {τ : AE} {n n1 n2 : Nat} {sts : List Stmt} {e c e1 e2 : Expr} {pos : Pos} {S S1 S2 : Int → Prop} {j : Nat}
theorem FE.imp (h : FE X H0 p q xs τ n e S n1) (k : ∀ i, S i → S1 i) (hn : n1 ≤ n2) : FE X H0 p q xs τ n e S1 n2 := fun σ H Q c z => h σ H Q c fun i H2 s c2 => z i H2 (k i s) (c2.weak hn)
theorem fe_de {i : Int} (h : DE X τ e (.d (.int i))) : FE X H0 p q xs τ n e (fun x => x = i) n := fun σ H Q c k => by
  obtain ⟨O, r⟩ := c.run
  exact h.run O H σ Q r fun v H2 e2 r2 => by cases r2; exact k i H2 rfl (c.mono e2)
theorem fe_bin {op : Operator} {f : Int → Int → Int} (ho : OpR X (binaryOp op) (rI0 fun i j => .int (f i j))) (h1 : FE X H0 p q xs τ n e1 S1 n1) (h2 : FE X H0 p q xs τ n1 e2 S2 n2) : FE X H0 p q xs τ n (.BinOp e1 op e2 pos) (fun r => ∃ x y, S1 x ∧ S2 y ∧ r = f x y) n2 := fun σ H Q c k =>
  XE.of (pe_op ho (pe_can X e1) (pe_can X e2)) (h1 σ H _ c fun i H1 s1 c1 => h2 σ H1 _ c1 fun j H2 s2 c2 => ⟨i, j, rfl, rfl, k _ H2 ⟨i, j, s1, s2, rfl⟩ c2⟩)
theorem fe_oar {p1 p2 : Pos} (W : Wn (gaOf X)) (hr : Room j X.A) (h2 : FE X H0 p q xs τ n e2 S n1) (hS : ∀ m, S m → 0 < m ∧ m < 2 ^ 29) (hn : n1 < 2 ^ 20) (hj : 1 ≤ j := by decide) (hg : Gl X "_law_oar" := by rfl) (hN : X.N[0]? = some ("_law_ferry_here" : Str) := by rfl)
    (hvis : Vis X.env.scope "_law_ferry_here" := by first | exact Or.inl rfl | exact Or.inr (Or.inl rfl) | exact Or.inr (Or.inr rfl))
    (he : starEach [.Name "_law_ferry_here" p2, e2] X.env = (false, eval (.Name "_law_ferry_here" p2) X.env) :: starEach [e2] X.env := by rfl) (he2 : starEach [e2] X.env = (false, eval e2 X.env) :: starEach [] X.env := by rfl) (hpl : (backTo pos (starEach [e2] X.env)).any (·.1) = false := by rfl) :
    FE X H0 p q xs τ n (.Call (.Name "_law_oar" p1) [.Name "_law_ferry_here" p2, e2] [] pos) (fun r => ∃ m, S m ∧ 0 ≤ r ∧ r < m) (n1 + 1) := fun σ H Q c k => by
  obtain ⟨f, fd, g1, g2, g3, g4⟩ := fn_law_oar W X.base
  refine XE.of (pe_call (E := E0) g4 (hr.mono hj) hg g1 g2 g3 .nil pass0 (pa_cons (pe_var hN hvis (by decide) (by decide)) (pa_cons (pe_can X e2) pa_nil he2) he) (by decide) he hpl) ?_
  refine ⟨_, c.at0, h2 σ H _ c fun m H1 sm c1 => ?_⟩
  obtain ⟨m', hm', hp⟩ := c1.hp
  exact ⟨p, q, m', m, xs, rfl, hp, c1.hq, c1.ne, by omega, (hS m sm).1, (hS m sm).2, fun r H' r0 r1 ex hp' => k r H' ⟨m, sm, r0, r1⟩ (c1.fer ex hp' (by omega))⟩
/-! statements -/
theorem cj_nil (h : ∀ σ H, CS (gaOf X) H0 p q xs n σ H τ → Dn.nx σ H) : CJ X H0 p q xs Dn τ n [] := fun σ H o => XSs.of pss_nil (h σ H o)
theorem cj_set {x : Str} {p' : Pos} (i : Nat) (he : FE X H0 p q xs τ n e S n1) (k : ∀ z, S z → CJ X H0 p q xs Dn (τ.set i (some (.d (.int z)))) n1 sts) (h0 : i ≠ 0 := by decide) (hN : X.N.Nodup := by assumption) (hi : X.N[i]? = some x := by rfl) (hx : Loc X.env.scope x := by first | exact Or.inl rfl | exact Or.inr rfl)
    (hsw : swapsWith e (some (.Name x p')) pos.line X.env = pure false := by rfl) (hf : X.fn x = true ∨ X.env.scope.names.lookup x = some .local := by first | exact .inl rfl | exact .inr rfl) : CJ X H0 p q xs Dn τ n (.Assign [.Name x p'] e pos :: sts) := fun σ H o =>
  XSs.of (pss_cons (ps_set hN hi hx (pe_can X e) hsw hf) (pss_can X sts)) (he σ H _ o fun z H2 s c2 => k z s _ H2 (c2.set h0 fun H => .int z))
/-- e, a truth value -/
def FBo (X : Cx) (H0 : Hp) (p q : Addr) (xs : List Int) (τ : AE) (n : Nat) (e : Expr) (n' : Nat) : Prop :=
  ∀ σ H (Q : VK), CS (gaOf X) H0 p q xs n σ H τ → (∀ b H2, CS (gaOf X) H0 p q xs n' σ H2 τ → Q (.bl b) H2) → XE X σ H e Q
theorem cj_setB {x : Str} {p' : Pos} (i : Nat) (he : FBo X H0 p q xs τ n e n1) (k : ∀ b, CJ X H0 p q xs Dn (τ.set i (some (.d (.bl b)))) n1 sts) (h0 : i ≠ 0 := by decide) (hN : X.N.Nodup := by assumption) (hi : X.N[i]? = some x := by rfl) (hx : Loc X.env.scope x := by first | exact Or.inl rfl | exact Or.inr rfl)
    (hsw : swapsWith e (some (.Name x p')) pos.line X.env = pure false := by rfl) (hf : X.fn x = true ∨ X.env.scope.names.lookup x = some .local := by first | exact .inl rfl | exact .inr rfl) : CJ X H0 p q xs Dn τ n (.Assign [.Name x p'] e pos :: sts) := fun σ H o =>
  XSs.of (pss_cons (ps_set hN hi hx (pe_can X e) hsw hf) (pss_can X sts)) (he σ H _ o fun b H2 c2 => k b _ H2 (c2.set h0 fun H => .bl b))
theorem fb_cmp {op : CmpOp} {f : Int → Int → Bool} (ho : ∀ i j, OpD X (compareOp op) (.d (.int i)) (.d (.int j)) (.d (.bl (f i j)))) (h1 : FE X H0 p q xs τ n e1 S1 n1) (h2 : FE X H0 p q xs τ n1 e2 S2 n2) (hm : behindInMarks op e2 = false := by first | exact nomark _ | rfl) : FBo X H0 p q xs τ n (.Compare e1 [op] [e2] pos) n2 := fun σ H Q c k => by
  obtain ⟨O, r0⟩ := c.run
  have he := pe_can X e1
  refine fun pins s I => ?_
  have key : ∀ i j, ∃ r, OpR X (compareOp op) r ∧ ∀ (H : Hp) (Q : VK), (∀ z H2, Ex H H2 → Rs (gaOf X) H H2 z (.d (.bl (f i j))) → Q z H2) → r (.int i) (.int j) H Q := fun i j => by
    obtain ⟨r, h1, h2⟩ := ho i j
    exact ⟨r, h1, fun H Q q => h2 H H _ _ Q (.int i) (.int j) q⟩
  exact (pe_cmpR (r := fun v u H Q => ∃ i j, v = .int i ∧ u = .int j ∧ ∀ z H2, Ex H H2 → Rs (gaOf X) H H2 z (.d (.bl (f i j))) → Q z H2) (fun pins s σ H x y v u Q I rx ry ⟨i, j, hx, hy, qq⟩ => by
    subst hx; subst hy
    obtain ⟨r, h1, h2⟩ := key i j
    exact h1 pins s σ H _ _ v u Q I rx ry (h2 H Q qq)) (pe_can X e1) (pe_can X e2) hm).run pins s σ H Q I (h1 σ H _ c fun i H1 s1 c1 => h2 σ H1 _ c1 fun j H2 s2 c2 => ⟨i, j, rfl, rfl, fun z H3 e3 r3 => by cases r3; exact k _ H3 (c2.mono e3)⟩)
theorem fb_if (hcT : ∀ σ H (Q : Bool → Hp → Prop), CS (gaOf X) H0 p q xs n σ H τ → (∀ b H2, CS (gaOf X) H0 p q xs n1 σ H2 τ → Q b H2) → XT X σ H c Q) (h1 : FBo X H0 p q xs τ n1 e1 n2) (h2 : FBo X H0 p q xs τ n1 e2 n2) : FBo X H0 p q xs τ n (.IfExp c e1 e2 pos) n2 := fun σ H Q cs k =>
  XE.of (pe_ifExp (pt_can X c) (pe_can X e1) (pe_can X e2)) (hcT σ H _ cs fun b H2 c2 => by
    cases b with
    | true => exact iteT (h1 σ H2 Q c2 k)
    | false => exact iteF (h2 σ H2 Q c2 k))
theorem ft_cmp {op : CmpOp} {f : Int → Int → Bool} (ho : ∀ i j, OpD X (compareOp op) (.d (.int i)) (.d (.int j)) (.d (.bl (f i j)))) (h1 : FE X H0 p q xs τ n e1 S1 n1) (h2 : FE X H0 p q xs τ n1 e2 S2 n2) (hm : behindInMarks op e2 = false := by first | exact nomark _ | rfl) :
    ∀ σ H (Q : Bool → Hp → Prop), CS (gaOf X) H0 p q xs n σ H τ → (∀ b H2, CS (gaOf X) H0 p q xs n2 σ H2 τ → Q b H2) → XT X σ H (.Compare e1 [op] [e2] pos) Q := fun σ H Q c k pins s I => by
  have key : ∀ i j, ∃ r, OpR X (compareOp op) r ∧ ∀ (H : Hp) (Q : VK), (∀ z H2, Ex H H2 → Rs (gaOf X) H H2 z (.d (.bl (f i j))) → Q z H2) → r (.int i) (.int j) H Q := fun i j => by
    obtain ⟨r, h1, h2⟩ := ho i j
    exact ⟨r, h1, fun H Q q => h2 H H _ _ Q (.int i) (.int j) q⟩
  exact (pt_cmpR (r := fun v u H Q => ∃ i j, v = .int i ∧ u = .int j ∧ ∀ z H2, Ex H H2 → Rs (gaOf X) H H2 z (.d (.bl (f i j))) → Q z H2) (fun pins s σ H x y v u Q I rx ry ⟨i, j, hx, hy, qq⟩ => by
    subst hx; subst hy
    obtain ⟨r, h1, h2⟩ := key i j
    exact h1 pins s σ H _ _ v u Q I rx ry (h2 H Q qq)) (pe_can X e1) (pe_can X e2) hm).run pins s σ H Q I (h1 σ H _ c fun i H1 s1 c1 => h2 σ H1 _ c1 fun j H2 s2 c2 => ⟨i, j, rfl, rfl, fun z H3 e3 r3 => by cases r3; exact ⟨f i j, rfl, k _ H3 (c2.mono e3)⟩⟩)
/-- x, y = e1, e2 -/
theorem cj_par {x y : Str} {px py pt : Pos} {kt k2 pt2} (i j : Nat) (h1 : FE X H0 p q xs τ n e1 S1 n1) (h2 : FE X H0 p q xs τ n1 e2 S2 n2) (k : ∀ a b, S1 a → S2 b → CJ X H0 p q xs Dn ((τ.set i (some (.d (.int a)))).set j (some (.d (.int b)))) n2 sts) (hi0 : i ≠ 0 := by decide) (hj0 : j ≠ 0 := by decide) (hc : X.calm = true := by rfl) (hN : X.N.Nodup := by assumption) (hi : X.N[i]? = some x := by rfl) (hj : X.N[j]? = some y := by rfl) (hij : i ≠ j := by decide)
    (hx : X.env.scope.names.lookup x = some .local := by rfl) (hy : X.env.scope.names.lookup y = some .local := by rfl) (s1 : starEach [e1, e2] X.env = (false, eval e1 X.env) :: starEach [e2] X.env := by rfl) (s2 : starEach [e2] X.env = (false, eval e2 X.env) :: starEach [] X.env := by rfl)
    (hw : swappedStores [.Tuple [.Name x px, .Name y py] kt pt] (.Tuple [e1, e2] k2 pt2) X.env = pure (some [x, y]) := by rfl)
    (hs : swapsWithSole [.Tuple [.Name x px, .Name y py] kt pt] (.Tuple [e1, e2] k2 pt2) pos.line X.env = pure false := by rfl) :
    CJ X H0 p q xs Dn τ n (.Assign [.Tuple [.Name x px, .Name y py] kt pt] (.Tuple [e1, e2] k2 pt2) pos :: sts) := fun σ H c =>
  XSs.of (pss_cons (ps_par hc hN hi hj hij hx hy (pa_cons (pe_can X e1) (pa_cons (pe_can X e2) pa_nil s2) s1) hw hs) (pss_can X sts)) (h1 σ H _ c fun a H1 sa c1 => h2 σ H1 _ c1 fun b H2 sb c2 =>
    ⟨_, _, rfl, k a b sa sb _ H2 ((c2.set hi0 fun H => .int a).set hj0 fun H => .int b)⟩)
/-- x, y, z = e1, e2, [] -/
theorem cj_par3 {x y z : Str} {px py pz pt pl : Pos} {kt k2 pt2} (i j l : Nat) (h1 : FE X H0 p q xs τ n e1 S1 n1) (h2 : FE X H0 p q xs τ n1 e2 S2 n2) (k : ∀ a b, S1 a → S2 b → CJ X H0 p q xs Dn (((τ.set i (some (.d (.int a)))).set j (some (.d (.int b)))).set l (some (.l true []))) n2 sts) (hi0 : i ≠ 0 := by decide) (hj0 : j ≠ 0 := by decide) (hl0 : l ≠ 0 := by decide)
    (hc : X.calm = true := by rfl) (hN : X.N.Nodup := by assumption) (hi : X.N[i]? = some x := by rfl) (hj : X.N[j]? = some y := by rfl) (hl : X.N[l]? = some z := by rfl) (hij : i ≠ j := by decide) (hil : i ≠ l := by decide) (hjl : j ≠ l := by decide)
    (hx : X.env.scope.names.lookup x = some .local := by rfl) (hy : X.env.scope.names.lookup y = some .local := by rfl) (hz : X.env.scope.names.lookup z = some .local := by rfl) (s1 : starEach [e1, e2, .List [] pl] X.env = (false, eval e1 X.env) :: starEach [e2, .List [] pl] X.env := by rfl) (s2 : starEach [e2, .List [] pl] X.env = (false, eval e2 X.env) :: starEach [.List [] pl] X.env := by rfl) (s3 : starEach [.List [] pl] X.env = (false, eval (.List [] pl) X.env) :: starEach [] X.env := by rfl)
    (hw : swappedStores [.Tuple [.Name x px, .Name y py, .Name z pz] kt pt] (.Tuple [e1, e2, .List [] pl] k2 pt2) X.env = pure (some [x, y, z]) := by rfl)
    (hs : swapsWithSole [.Tuple [.Name x px, .Name y py, .Name z pz] kt pt] (.Tuple [e1, e2, .List [] pl] k2 pt2) pos.line X.env = pure false := by rfl) :
    CJ X H0 p q xs Dn τ n (.Assign [.Tuple [.Name x px, .Name y py, .Name z pz] kt pt] (.Tuple [e1, e2, .List [] pl] k2 pt2) pos :: sts) := fun σ H c =>
  XSs.of (pss_cons (ps_par3 hc hN hi hj hl hij hil hjl hx hy hz (pa_cons (pe_can X e1) (pa_cons (pe_can X e2) (pa_cons (pe_lst pa_nil) pa_nil s3) s2) s1) hw hs) (pss_can X sts)) (h1 σ H _ c fun a H1 sa c1 => h2 σ H1 _ c1 fun b H2 sb c2 =>
    ⟨Nat.zero_le _, fun w hw => ⟨_, _, _, rfl, by
      obtain ⟨m, hm, hp⟩ := c2.hp
      have nw : w ≠ p := fun z => by rw [z, hp] at hw; cases hw
      have c3 := (c2.set hi0 fun H => .int a).set hj0 fun H => .int b
      obtain ⟨O, r, hO⟩ := c3.rs
      have hw' : dl H2 p w = none := by rw [dl_ne nw]; exact hw
      obtain ⟨O', r', ho⟩ := r.put (i := l) (v := .ref w) (a := .l true []) (Evl.Ex.new (o := .lst []) hw') ⟨w, [], rfl, fun _ => hw', upd_same, .nil⟩ rfl
      rw [dl_upd nw] at r'
      refine k a b sa sb _ _ ⟨⟨O', r', fun u hu => ?_⟩, by rw [List.getElem?_set_ne hl0]; exact c3.at0, ⟨m, hm, by rw [upd_ne (Ne.symm nw)]; exact hp⟩, c2.hq0, c2.ne, c2.ex.ex (Evl.Ex.new hw)⟩
      rcases ho u hu with z | z
      · exact hO u z
      · have nu : u ≠ p := fun e => by have := r'.wf u hu; rw [e, dl_same] at this; exact this
        rw [dl_ne nu] at z
        cases q0 : H0 u with
        | none => rfl
        | some o => have := c2.ex u o nu q0; rw [z] at this; cases this⟩⟩)
/-- xs.append(e) -/
theorem cj_app {x : Str} {ys : List D} {d : D} {p1 ap cp : Pos} (i : Nat) (he : DE X τ e (.d d)) (hz : ys.length < 100000) (k : CJ X H0 p q xs Dn (τ.set i (some (.l true (ys ++ [d])))) n sts) (hi : τ[i]? = some (some (.l true ys)) := by rfl) (hN : X.N[i]? = some x := by rfl)
    (hv : Vis X.env.scope x := by first | exact Or.inl rfl | exact Or.inr (Or.inl rfl) | exact Or.inr (Or.inr rfl)) (hd : (x == ("__debug__" : Str)) = false := by decide) (hc : (x == ("__classdict__" : Str)) = false := by decide)
    (hbase : attributeBase (.Name x p1) "append" X.env (eval (.Name x p1) X.env) = eval (.Name x p1) X.env := by rfl) (hline : (ap.endLine == cp.line) = true := by rfl) (hs : starEach [e] X.env = (false, eval e X.env) :: starEach [] X.env := by rfl)
    (hfew : ((backTo cp (starEach [e] X.env)).all (fun x => !x.1) && (backToKw cp (keywordEach [] X.env)).all (fun x => x.1.isSome) && decide ([e].length + ([] : List Keyword).length + (if ([] : List Keyword).isEmpty then 0 else 1) < 30)) = true := by rfl)
    (hsw : swapsWith (.Call (.Attribute (.Name x p1) "append" ap) [e] [] cp) none pos.line X.env = pure false := by rfl) :
    CJ X H0 p q xs Dn τ n (.Expr (.Call (.Attribute (.Name x p1) "append" ap) [e] [] cp) pos :: sts) := fun σ H c =>
  XSs.of (pss_cons (ps_expr (pe_bm PySem.F.plainAttrs_list PySem.F.slot_list_append PySem.F.type_list_append mt_append (pe_var hN hv hd hc) (pa_cons (pe_can X e) pa_nil hs) hbase hfew hline hs) hsw) (pss_can X sts)) (by
    obtain ⟨O, rs, og⟩ := c.rs
    obtain ⟨u, h1, l, vs, rfl, h3, h4, h5⟩ := rs.at_ i _ hi
    have nl : l ≠ p := fun z => by rw [z, dl_same] at h4; cases h4
    rw [dl_ne nl] at h4
    refine ⟨.ref l, h1, Or.inl ⟨rfl, vs, SqL.of h4⟩, he.run O H σ _ (rs.mono dl_ex) fun v H2 e2 r2 => ⟨l, vs, v, rfl, rfl, e2 _ _ h4, by rw [h5.length]; exact Evl.sz_lt hz, ?_⟩⟩
    have rs2 := rs.mono (dl_exB (p := p) (exB_of e2))
    have hO := h3.mpr rfl
    obtain ⟨m, hm, hp⟩ := c.hp
    have kd := dl_kt (e2 _ _ hp)
    have kt := lo_kt (o := .lst (vs ++ [v])) (rs2.wf l hO)
    have r3 := rs2.wr (o := .lst (vs ++ [v])) hi rfl h1 hO (b := .l true (ys ++ [d])) rfl trivial ⟨l, _, rfl, h3, upd_same, ((h5.up (Ex_kt (dl_exB (p := p) (exB_of e2)))).append (TDs.one (TD.up r2 kd))).up kt⟩
    rw [dl_upd nl] at r3
    have c2 := c.mono e2
    exact k σ _ ⟨⟨O, r3, og⟩, c.at0, ⟨m, hm, by rw [upd_ne (Ne.symm nl)]; exact e2 _ _ hp⟩, c.hq0, c.ne, fun b o nb hb => by rw [upd_ne (fun z => by rw [z, og l hO] at hb; cases hb)]; exact c2.ex b o nb hb⟩)
end
end BF

set_option Elab.async false
set_option linter.all false
set_option maxRecDepth 100000
set_option maxHeartbeats 1000000
set_option autoImplicit false
/-! A pick; corners drawn. -/
namespace BF
open PySem PySem.Spec PyProof.Rows L2
theorem sc_law_pick : FnScope ["_law_ferry_here", "_law_some"] ["_law_ferry_here", "_law_some"] (defScope (top 65)) := ⟨rfl, rfl, rfl, by decide +kernel, rfl, by decide +kernel, by decide +kernel⟩
def spPick : Sp := fun vs H Q _ => ∃ (p q l : Addr) (n : Nat) (xs ys : List Int), vs = [.ref p, .ref l] ∧ H p = some (ferO p q n) ∧ H q = some (.lst (xs.map V.int)) ∧ q ≠ p ∧ n < 2 ^ 20 ∧ H l = some (.lst (ys.map V.int)) ∧ ys ≠ [] ∧ ys.length < 2 ^ 29 ∧
  ∀ r H', r ∈ ys → ExB p H H' → H' p = some (ferO p q (n + 1)) → Q (.int r) H'
theorem fn_law_pick {g : Ga} (W : Wn g) (base : Heap) : ∃ f fd, g.mg "_law_pick" = some (.ref f) ∧ PySem.W.keepIn g.K (.ref f) = true ∧ Binds g.K fd ["_law_ferry_here", "_law_some"] [] ∧ FnOk g.P g.w g.K g.mg base CX0 2 f fd ["_law_ferry_here", "_law_some"] spPick := by
  obtain ⟨f, fd, hm, F⟩ := (W.fn "_law_pick" 65).ex
  refine ⟨f, fd, hm, F.kp, F.binds fun _ _ _ _ _ _ us hl => match us, hl with | [_, _], _ => rfl, F.ok (k := 1) sc_law_pick (fun vs H Q E h => by obtain ⟨_, _, _, _, _, _, rfl, _⟩ := h; rfl) fun cdv A outer s H vs Q E hr h => ?_⟩
  obtain ⟨p, q, l, n, xs, ys, rfl, hp, hq, ne, hn, hl, hy0, hyn, hQ⟩ := h
  obtain ⟨f2, fd2, g1, g2, g3, g4⟩ := fn_law_oar W base
  have ll : 0 < ys.length := List.length_pos_iff.mpr hy0
  have nl : l ≠ p := fun z => by rw [z, hp] at hl; cases hl
  refine ⟨_, pss_cons (ps_ret (pe_ix ix_list (pe_var (i := 1) rfl (Or.inl rfl) (by decide) (by decide)) (pe_call (E := E0) g4 hr (by rfl) g1 g2 g3 .nil pass0 (pa_cons (pe_var (i := 0) rfl (Or.inl rfl) (by decide) (by decide)) (pa_cons (pe_callB call_len_seq (by rfl) (W.bl "len") boot_len (pa_cons (pe_var (i := 1) rfl (Or.inl rfl) (by decide) (by decide)) pa_nil)) pa_nil))) (by intro _ _; rfl))) pss_nil, ?_⟩
  refine ⟨_, rfl, _, rfl, _, rfl, l, _, rfl, .inl (SqL.of hl), ?_⟩
  refine ⟨p, q, n, (ys.length : Int), xs, by rw [List.length_map]; rfl, hp, hq, ne, hn, by omega, by omega, fun r H' r0 r1 ex hp' => ?_⟩
  obtain ⟨i, rfl⟩ : ∃ i : Nat, r = (i : Int) := ⟨r.toNat, by omega⟩
  have hi : i < ys.length := by omega
  have e1 : ixN (ys.map V.int).length (i : Int) = some i := by unfold ixN; rw [if_pos (Int.natCast_nonneg _), List.length_map, if_pos (by omega), Int.toNat_natCast]
  refine ⟨l, _, _, .int (ys[i]'hi), rfl, rfl, SqL.of (ex l _ nl hl), ?_, hQ _ H' (List.getElem_mem hi) ex hp'⟩
  unfold atI
  rw [e1]
  show (ys.map V.int)[i]? = _
  rw [List.getElem?_map, List.getElem?_eq_getElem hi]; rfl
section
variable {X : Cx} {H0 : Hp} {p q : Addr} {xs : List Int} {Dn : Ends} {τ : AE} {n n1 n2 : Nat} {sts : List Stmt} {e c e1 e2 : Expr} {pos : Pos} {S S1 S2 : Int → Prop} {j : Nat}
/-- pick(f, [a, b, c]) -/
theorem fe_pick {a b d : Int} {ja jb jd : Nat} {p1 p2 p3 p4 p5 p6 : Pos} (W : Wn (gaOf X)) (hr : Room j X.A) (hn : n < 2 ^ 20) (hj : 2 ≤ j := by decide) (hg : Gl X "_law_pick" := by rfl) (hN : X.N[0]? = some ("_law_ferry_here" : Str) := by rfl)
    (hvis : Vis X.env.scope "_law_ferry_here" := by first | exact Or.inl rfl | exact Or.inr (Or.inl rfl) | exact Or.inr (Or.inr rfl))
    (s1 : starEach [.Constant (.int a) ja p4, .Constant (.int b) jb p5, .Constant (.int d) jd p6] X.env = (false, eval (.Constant (.int a) ja p4) X.env) :: starEach [.Constant (.int b) jb p5, .Constant (.int d) jd p6] X.env := by rfl)
    (s2 : starEach [.Constant (.int b) jb p5, .Constant (.int d) jd p6] X.env = (false, eval (.Constant (.int b) jb p5) X.env) :: starEach [.Constant (.int d) jd p6] X.env := by rfl)
    (s3 : starEach [.Constant (.int d) jd p6] X.env = (false, eval (.Constant (.int d) jd p6) X.env) :: starEach [] X.env := by rfl)
    (he : starEach [.Name "_law_ferry_here" p2, .List [.Constant (.int a) ja p4, .Constant (.int b) jb p5, .Constant (.int d) jd p6] p3] X.env = (false, eval (.Name "_law_ferry_here" p2) X.env) :: starEach [.List [.Constant (.int a) ja p4, .Constant (.int b) jb p5, .Constant (.int d) jd p6] p3] X.env := by rfl)
    (he2 : starEach [.List [.Constant (.int a) ja p4, .Constant (.int b) jb p5, .Constant (.int d) jd p6] p3] X.env = (false, eval (.List [.Constant (.int a) ja p4, .Constant (.int b) jb p5, .Constant (.int d) jd p6] p3) X.env) :: starEach [] X.env := by rfl)
    (hpl : (backTo pos (starEach [.List [.Constant (.int a) ja p4, .Constant (.int b) jb p5, .Constant (.int d) jd p6] p3] X.env)).any (·.1) = false := by rfl) :
    FE X H0 p q xs τ n (.Call (.Name "_law_pick" p1) [.Name "_law_ferry_here" p2, .List [.Constant (.int a) ja p4, .Constant (.int b) jb p5, .Constant (.int d) jd p6] p3] [] pos) (fun r => r ∈ [a, b, d]) (n + 1) := fun σ H Q c k => by
  obtain ⟨f, fd, g1, g2, g3, g4⟩ := fn_law_pick W X.base
  refine XE.of (pe_call (E := E0) g4 (hr.mono hj) hg g1 g2 g3 .nil pass0 (pa_cons (pe_var hN hvis (by decide) (by decide)) (pa_cons (pe_lst (pa_cons pe_int (pa_cons pe_int (pa_cons pe_int pa_nil s3) s2) s1)) pa_nil he2) he) (by decide) he hpl) ?_
  refine ⟨_, c.at0, by show 3 ≤ sizeLine; decide, fun l hl => ?_⟩
  have c2 := c.mono (Evl.Ex.new (o := .lst [V.int a, .int b, .int d]) hl)
  obtain ⟨m, hm, hp⟩ := c2.hp
  exact ⟨p, q, l, m, xs, [a, b, d], rfl, hp, c2.hq, c2.ne, by omega, upd_same, by simp, by simp, fun r H' hr ex hp' => k r H' hr (c2.fer ex hp' (by omega))⟩
end
section
variable {X : Cx} {H0 : Hp} {p q : Addr} {xs : List Int} {Dn : Ends} {τ : AE} {n n1 n2 : Nat} {sts body : List Stmt} {e c e1 e2 : Expr} {pos : Pos} {S S1 S2 : Int → Prop} {j : Nat}
theorem FBo.imp (h : FBo X H0 p q xs τ n e n1) (hn : n1 ≤ n2) : FBo X H0 p q xs τ n e n2 := fun σ H Q c z => h σ H Q c fun i H2 c2 => z i H2 (c2.weak hn)
/-- for x in range(e) -/
theorem cj_for {x : Str} {px pr pc : Pos} (i : Nat) (he : FE X H0 p q xs τ n e S n1) (hm : X.mg "range" = none) (I : Nat → AE → Nat → Prop) (h0 : I 0 τ n1)
    (k : ∀ T, S T → 0 ≤ T ∧ T < 2 ^ 62 ∧ (∀ t τ' n' Dn', t < T.toNat → I t τ' n' → (∀ σ H τ2 n2, I (t + 1) τ2 n2 → CS (gaOf X) H0 p q xs n2 σ H τ2 → Dn'.nx σ H) → CJ X H0 p q xs Dn' (τ'.set i (some (.d (.int (t : Nat))))) n' body) ∧ ∀ τ' n', I T.toNat τ' n' → CJ X H0 p q xs Dn τ' n' sts)
    (hi0 : i ≠ 0 := by decide) (hg : Gl X "range" := by rfl) (hN : X.N.Nodup := by assumption) (hi : X.N[i]? = some x := by rfl) (hx : Loc X.env.scope x := by first | exact Or.inl rfl | exact Or.inr rfl) (hf : X.fn x = true ∨ X.env.scope.names.lookup x = some .local := by first | exact .inl rfl | exact .inr rfl)
    (hs1 : starEach [e] X.env = [(false, eval e X.env)] := by rfl) (hs2 : starEach [e] X.env = (false, eval e X.env) :: starEach [] X.env := by rfl) (hp : PassesOwn (model X.prog X.w) X.A X.env X.xe := by exact PassesOwn.never) (hc : X.calm = true := by rfl) (hs : ∀ x, foldedSetIterable (.Call (.Name "range" pr) [e] [] pc) X.env x = pure x := by intro _; rfl) :
    CJ X H0 p q xs Dn τ n (.For (.Name x px) (.Call (.Name "range" pr) [e] [] pc) body [] pos :: sts) := fun σ H c =>
  XSs.of (pss_cons (ps_for hp hc (pi_range1 hg hm (pa_cons (pe_can X e) pa_nil hs2) hs1) (pg_name hN hi hx hf) (pss_can X body) hs) (pss_can X sts)) (he σ H _ c fun T H1 sT c1 => by
    obtain ⟨k0, k1, k2, k3⟩ := k T sT
    refine ⟨T, rfl, by omega, k1, for_range (lo := 0) (n := T.toNat) (g := gName i) (tb := fun D σ H => XSs X D σ H body) (D := { Dn with nx := fun σ H => XSs X Dn σ H sts }) (fun t σ H => ∃ τ' n', I t τ' n' ∧ CS (gaOf X) H0 p q xs n' σ H τ') ⟨τ, n1, h0, c1⟩ (fun t σ' H' ht ⟨τ', n', w, c'⟩ => ?_) fun σ' H' ⟨τ', n', w, c'⟩ => k3 τ' n' w σ' H' c'⟩
    have c2 : CS (gaOf X) H0 p q xs n' (σ'.set i (some (.int (0 + (t : Nat))))) H' (τ'.set i (some (.d (.int (t : Nat))))) := by rw [Int.zero_add]; exact c'.set hi0 fun H => .int _
    refine k2 t τ' n' _ ht w ?_ _ _ c2
    exact fun σ2 H2 τ2 n2 w2 c3 => ⟨τ2, n2, w2, c3⟩)
/-- return name, the list -/
theorem cj_retL {x : Str} {ys : List D} {pp : Pos} (i : Nat) (h : ∀ H' l us m, ExB p H0 H' → m ≤ n → H' p = some (ferO p q m) → H0 l = none → H' l = some (.lst us) → TDs H' us ys → Dn.rt (.ref l) H') (ht : τ[i]? = some (some (.l true ys)) := by rfl) (hN : X.N[i]? = some x := by rfl)
    (hv : Vis X.env.scope x := by first | exact Or.inl rfl | exact Or.inr (Or.inl rfl) | exact Or.inr (Or.inr rfl)) (hd : (x == ("__debug__" : Str)) = false := by decide) (hc : (x == ("__classdict__" : Str)) = false := by decide) : CJ X H0 p q xs Dn τ n (.Return (some (.Name x pp)) pos :: sts) := fun σ H c =>
  XSs.of (pss_cons (ps_ret (pe_var hN hv hd hc)) (pss_can X sts)) (by
    obtain ⟨O, rs, og⟩ := c.rs
    obtain ⟨u, h1, l, vs, rfl, h3, h4, h5⟩ := rs.at_ i _ ht
    have nl : l ≠ p := fun z => by rw [z, dl_same] at h4; cases h4
    rw [dl_ne nl] at h4
    obtain ⟨m, hm, hp⟩ := c.hp
    exact ⟨.ref l, h1, h _ l vs m c.ex hm hp (og l (h3.mpr rfl)) h4 (h5.up (Ex_kt dl_ex))⟩)
end
/-! ### a chain that grows -/
theorem sides_snoc {cs : List Pt} {a : Pt} {s : Side} : s ∈ sidesL (cs ++ [a]) ↔ s ∈ sidesL cs ∨ ∃ b, cs.getLast? = some b ∧ s = (b, a) := by
  induction cs with
  | nil => simp [sidesL]
  | cons c cs ih =>
    cases cs with
    | nil => simp [sidesL]
    | cons d cs =>
      have e1 : sidesL (c :: d :: cs ++ [a]) = (c, d) :: sidesL (d :: cs ++ [a]) := rfl
      have e2 : sidesL (c :: d :: cs) = (c, d) :: sidesL (d :: cs) := rfl
      rw [e1, e2, List.mem_cons, List.mem_cons, ih, List.getLast?_cons_cons, or_assoc]
structure CG (cs : List Pt) (x h : Int) (i : Nat) : Prop where
  len : cs.length = i
  bx : -4 ≤ x ∧ x ≤ 4 + 4 * i
  bh : -(4 + 7 * i) ≤ h ∧ h ≤ 4 + 7 * i
  sd : ∀ s ∈ sidesL (cs ++ [(x, h)]), SV s
theorem CG.one {x h : Int} (h1 : -4 ≤ x ∧ x ≤ 4) (h2 : -4 ≤ h ∧ h ≤ 4) : CG [] x h 0 := ⟨rfl, by omega, by omega, fun s hs => by simp [sidesL] at hs⟩
theorem CG.step {cs : List Pt} {x h x' h' : Int} {i : Nat} (c : CG cs x h i) (hi : i < 8) (h1 : x + 1 ≤ x' ∧ x' ≤ x + 4) (h2 : h' ≠ h) (h3 : h - 7 ≤ h' ∧ h' ≤ h + 7) : CG (cs ++ [(x, h)]) x' h' (i + 1) := by
  obtain ⟨l, ⟨b1, b2⟩, ⟨b3, b4⟩, sd⟩ := c
  refine ⟨by simp [l], by omega, by omega, fun s hs => ?_⟩
  rcases sides_snoc.mp hs with z | ⟨b, hb, rfl⟩
  · exact sd s z
  · rw [List.getLast?_concat] at hb
    cases hb
    exact ⟨by show x < x'; omega, fun e => h2 e.symm, by show x.natAbs ≤ 64; omega, by show h.natAbs ≤ 64; omega, by show x'.natAbs ≤ 64; omega, by show h'.natAbs ≤ 64; omega⟩
theorem CG.pv {cs : List Pt} {x h : Int} {i : Nat} (c : CG cs x h i) (h2 : 2 ≤ i) (h8 : i ≤ 8) : PV cs := ⟨by rw [c.len]; exact h2, by rw [c.len]; exact h8, fun s hs => c.sd s (sides_snoc.mpr (.inl hs))⟩
theorem sc_law_corners : FnScope ["_law_ferry_here", "_law_most", "_law_place", "_law_height_here", "_law_found", "_law_turn", "_law_step", "_law_is_up"] ["_law_ferry_here", "_law_most"] (defScope (top 69)) := ⟨rfl, rfl, rfl, by decide +kernel, rfl, by decide +kernel, by decide +kernel⟩
def spCorners : Sp := fun vs H Q _ => ∃ (p q : Addr) (n : Nat) (xs : List Int), vs = [.ref p, .int 8] ∧ H p = some (ferO p q n) ∧ H q = some (.lst (xs.map V.int)) ∧ q ≠ p ∧ n < 2 ^ 19 ∧
  ∀ (cs : List Pt) (l : Addr) (us : List V) (m : Nat) (H' : Hp), PV cs → ExB p H H' → H' p = some (ferO p q m) → m ≤ n + 60 → H l = none → H' l = some (.lst us) → TDs H' us (cs.map corD) → Q (.ref l) H'
theorem fn_law_corners {g : Ga} (W : Wn g) (base : Heap) : ∃ f fd, g.mg "_law_corners" = some (.ref f) ∧ PySem.W.keepIn g.K (.ref f) = true ∧ Binds g.K fd ["_law_ferry_here", "_law_most"] [] ∧ FnOk g.P g.w g.K g.mg base CX0 3 f fd ["_law_ferry_here", "_law_most"] spCorners := by
  obtain ⟨f, fd, hm, F⟩ := (W.fn "_law_corners" 69).ex
  refine ⟨f, fd, hm, F.kp, F.binds fun _ _ _ _ _ _ us hl => match us, hl with | [_, _], _ => rfl, F.ok (k := 2) sc_law_corners (fun vs H Q E h => by obtain ⟨_, _, _, _, rfl, _⟩ := h; rfl) fun cdv A outer s H vs Q E hr h => ?_⟩
  obtain ⟨p, q, n, xs, rfl, hp, hq, ne, hn, hQ⟩ := h
  have nd := sc_law_corners.nd
  refine ⟨_, pss_can _ _, ?_⟩
  have C0 : CS g H p q xs n (L2.start ["_law_ferry_here", "_law_most", "_law_place", "_law_height_here", "_law_found", "_law_turn", "_law_step", "_law_is_up"] [.ref p, .int 8]) H [some (.kp fun v => v = .ref p), some (.d (.int 8)), none, none, none, none, none, none] :=
    ⟨⟨fun _ => False, RS.plain (H := H) (start_rs (as := [.kp fun v => v = .ref p, .d (.int 8)]) (.cons rfl (.cons (.int 8) .nil)) (by simp [AV.own])) rfl (dl_kt hp), fun _ z => z.elim⟩, rfl, ⟨n, Nat.le_refl _, hp⟩, hq, ne, ExB.refl⟩
  refine (show CJ _ H p q xs _ [some (.kp fun v => v = .ref p), some (.d (.int 8)), none, none, none, none, none, none] n (defBody (top 69)) from ?_) _ _ C0
  have n9 : ∀ m : Int, m = 9 → 0 < m ∧ m < 2 ^ 29 := by omega
  refine cj_par3 2 3 4 (fe_bin op_sub (fe_oar W hr (fe_de de_int) (by omega) (by omega)) (fe_de de_int)) (fe_bin op_sub (fe_oar W hr (fe_de de_int) (by omega) (by omega)) (fe_de de_int)) fun x h hx hh => ?_
  have G0 : CG [] x h 0 := by
    obtain ⟨a, b, ⟨m, e1, a0, a1⟩, e2, e3⟩ := hx
    obtain ⟨a', b', ⟨m', e1', a0', a1'⟩, e2', e3'⟩ := hh
    exact CG.one (by omega) (by omega)
  clear hx hh
  refine cj_for 5 (fe_bin op_add (fe_de de_int) (fe_oar W hr (fe_de (de_bin od_sub (de_vd 1) de_int)) (by omega) (by omega))) (W.bl "range") (fun i τ' n' => n' = n + 3 + 5 * i ∧ ∃ (cs : List Pt) (x h : Int) (o5 o6 o7 : Option AV), CG cs x h i ∧ τ' = [some (.kp fun v => v = .ref p), some (.d (.int 8)), some (.d (.int x)), some (.d (.int h)), some (.l true (cs.map corD)), o5, o6, o7]) ⟨rfl, [], x, h, none, none, none, G0, rfl⟩ fun T hT => ?_
  have hT2 : 2 ≤ T ∧ T ≤ 8 := by
    obtain ⟨a, b, e1, ⟨m, e2, b0, b1⟩, e3⟩ := hT
    omega
  clear hT G0 x h
  refine ⟨by omega, by omega, fun i τ' n' Dn hi ⟨en, cs, x, h, o5, o6, o7, G, e⟩ hD => ?_, fun τ' n' ⟨en, cs, x, h, o5, o6, o7, G, e⟩ => ?_⟩
  · subst e
    have hn' : n' + 5 < 2 ^ 20 := by omega
    have lc := G.len
    have hz : (cs.map corD).length < 100000 := by rw [List.length_map]; omega
    refine cj_app 4 (d := corD (x, h)) (de_tup (dd_cons (de_vd 2) (dd_cons (de_vd 3) dd_nil))) hz ?_
    refine cj_set 6 (fe_bin op_add (fe_de de_int) (fe_oar W hr (fe_pick W hr (by omega)) (fun m hm => by simp at hm; omega) (by omega))) fun st hst => ?_
    have st7 : 1 ≤ st ∧ st ≤ 7 := by
      obtain ⟨a, b, e1, ⟨m, e2, b0, b1⟩, e3⟩ := hst
      simp at e2
      omega
    clear hst
    refine cj_setB 7 (fb_if (ft_cmp (fun _ _ => od_gt) (fe_oar W hr (fe_de de_int) (by omega) (by omega)) (fe_de de_int)) (FBo.imp (fb_cmp (fun _ _ => od_lt) (fe_de (de_vd 3)) (fe_de de_int)) (Nat.le_succ _)) (fb_cmp (fun _ _ => od_eqI) (fe_oar W hr (fe_de de_int) (by omega) (by omega)) (fe_de de_int))) fun b => ?_
    refine cj_par 2 3 (fe_bin op_add (fe_bin op_add (fe_de (de_vd 2)) (fe_de de_int)) (fe_oar W hr (fe_de de_int) (by omega) (by omega))) (fe_de (i := h + if b then st else -st) (de_bin od_add (de_vd 3) (de_if (k := b) (dt_val (de_vd 7)) (fun hb => de_eq (de_vd 6) (by simp [hb])) (fun hb => de_eq (de_neg (de_vd 6)) (by simp [hb]))))) fun x' h' hx' hh' => cj_nil fun σ H c => hD σ H _ _ ⟨?_, cs ++ [(x, h)], x', h', some (.d (.int (i : Nat))), some (.d (.int st)), some (.d (.bl b)), G.step (by omega) ?_ ?_ ?_, ?_⟩ c
    · omega
    · obtain ⟨a, b, ⟨a', b', e1, e1', e1''⟩, ⟨m, e2, b0, b1⟩, e3⟩ := hx'
      omega
    · have e : h' = h + if b then st else -st := hh'
      split at e <;> omega
    · have e : h' = h + if b then st else -st := hh'
      split at e <;> omega
    · rw [List.map_append]; rfl
  · subst e
    refine cj_retL 4 fun H' l us m c hm e1 e2 e3 e4 => hQ cs l us m H' (G.pv (by omega) (by omega)) c e1 (by omega) e2 e3 e4
end BF

set_option Elab.async false
set_option linter.all false
set_option maxRecDepth 100000
set_option maxHeartbeats 1000000
set_option autoImplicit false
/-! The ferry is made. -/
namespace BF
open PySem PySem.Spec PyProof.Rows L2
section
variable {X : Cx} {τ : AE} {tg iter elt : Expr} {ifs : List Expr} {pos : Pos}
theorem lc_at {scope : Scope} {ds : List D} (own : List (Str × Nat)) (f : Nat → Bool) (g : Nat → D) {O : Addr → Prop} {H : Hp} {σ : L2.St} {Q : VK} (rs : RS (gaOf X) O H σ τ) (hi : ∀ R : It → Hp → Prop, (∀ J H1, Ex H H1 → ItOk J ds (rst O H1) → R J H1) → XI X tg iter σ H R) (hz : ds.length ≤ 100000)
    (body : ∀ i d, ds[i]? = some d → ∃ τ2, ∀ s H C cl fp, DGw (bX X scope s H C cl fp) (wipeA τ (own.map (·.2))) tg d τ2 (own.map (·.2)) ∧ DTs (bX X scope s H C cl fp) τ2 ifs (f i) ∧ (f i = true → DE (bX X scope s H C cl fp) τ2 elt (.d (g i))))
    (q : ∀ v H2, Ex H H2 → Rs (gaOf X) H H2 v (.l true (((List.range ds.length).filter f).map g)) → Q v H2) : tLc (fun σ H R => XI X tg iter σ H R) (lcG X scope tg) (lcT X scope ifs) (lcE X scope elt) (own.map (·.2)) σ H Q := by
  refine hi _ fun J H1 e1 itok L hL => ?_
  have rs1 := rs.mono e1
  have hO : ¬ O L := fun z => rs1.there z hL
  -- behind i turns
  refine ⟨fun i m H' => m = ds.length - i ∧ i ≤ ds.length ∧ Ex H1 H' ∧ ∃ vs, H' L = some (.lst vs) ∧ TDs H' vs (((List.range i).filter f).map g), ⟨ds.length, by simp, Nat.zero_le _, Evl.Ex.new hL, [], upd_same, .nil⟩, ?_⟩
  rintro i m H' ⟨rfl, hle, e', vs, hv, tv⟩
  have eG : Ex (rst O H1) H' := rst_ex.trans e'
  obtain ⟨ok1, ok2⟩ := itok i H' eG
  by_cases hlt : i < ds.length
  · obtain ⟨go, y⟩ := ok1 hlt
    refine .inr ⟨go, fun H2 => i + 1 ≤ ds.length ∧ Ex H1 H2 ∧ ∃ vs, H2 L = some (.lst vs) ∧ TDs H2 vs (((List.range (i + 1)).filter f).map g), fun H2 ⟨w1, w2, w3⟩ => ⟨ds.length - (i + 1), by omega, rfl, w1, w2, w3⟩, fun x H'' yx => ?_⟩
    obtain ⟨e2, d, hd, td⟩ := y x H'' yx
    obtain ⟨τ2, hb⟩ := body i d hd
    have rs2 : RS (gaOf X) O H'' (wipe σ (own.map (·.2))) (wipeA τ (own.map (·.2))) := wipe_rs (rs1.mono (e'.trans e2))
    intro s0 H0 C0 cl0 fp0
    refine (hb s0 H0 C0 cl0 fp0).1.run O H'' _ x _ rs2 td fun σ2 r2 l2 k2 => ⟨?_, ?_⟩
    · have a1 : (wipe (wipe σ (own.map (·.2))) (own.map (·.2))) = wipe σ (own.map (·.2)) := wipe_idem (wipe_length _ _) fun j hj => by
        cases h : σ[j]? with
        | none => exact List.getElem?_eq_none (by rw [wipe_length]; exact List.getElem?_eq_none_iff.mp h)
        | some o => rw [wipe_out hj, h]
      rw [← a1]
      exact wipe_idem l2 fun j hj => k2 j hj
    · intro s1 Hh1 C1 cl1 fp1 pins s' I'
      refine (hb s1 Hh1 C1 cl1 fp1).2.1.run O H'' σ2 _ pins s' r2 (fun H3 e3 => ?_) I'
      have tv3 := tv.up (Ex_kt (e2.trans e3))
      have hv3 := (e2.trans e3) _ _ hv
      cases hf : f i with
      | false =>
        refine iteF ⟨hlt, e'.trans (e2.trans e3), vs, hv3, ?_⟩
        rw [List.range_succ, List.filter_append, List.filter_cons, if_neg (by rw [hf]; exact Bool.false_ne_true)]
        simpa using tv3
      | true =>
        refine iteT fun s5 H5 C5 cl5 fp5 => ((hb s5 H5 C5 cl5 fp5).2.2 hf).run O H3 σ2 _ (r2.mono e3) fun w H4 e4 r4 => ⟨vs, e4 _ _ hv3, ?_, hlt, ?_, vs ++ [w], upd_same, ?_⟩
        · rw [tv.length, List.length_map]
          have := List.length_filter_le f (List.range i)
          rw [List.length_range] at this
          exact Evl.sz_lt (by omega)
        · exact Evl.Ex.mut (e'.trans (e2.trans (e3.trans e4))) hL
        · have kt : KT H4 (upd H4 L (.lst (vs ++ [w]))) := (KT.refl H4).put (e4 _ _ hv3) (fun _ z => by cases z)
          rw [List.range_succ, List.filter_append, List.filter_cons, if_pos hf, List.map_append]
          exact ((tv3.up (Ex_kt e4)).append (TDs.one r4)).up kt
  · have e : i = ds.length := by omega
    subst e
    exact .inl ⟨ok2 (Nat.le_refl _), q _ H' (e1.trans e') ⟨L, vs, rfl, fun _ => Evl.fresh_back e1 hL, hv, tv⟩⟩
end
theorem cut_ints (ns : List Int) (lo hi : Option Int) : ∃ ms : List Int, cutD (ns.map D.int) lo hi = ms.map D.int ∧ cutV (ns.map V.int) lo hi = ms.map V.int ∧ ms.length ≤ ns.length := by
  refine ⟨(ns.drop (HT.sIx ns.length 0 lo)).take (HT.sIx ns.length ns.length hi - HT.sIx ns.length 0 lo), ?_, ?_, ?_⟩
  · unfold cutD; rw [List.length_map, List.map_take, List.map_drop]
  · unfold cutV; rw [List.length_map, List.map_take, List.map_drop]
  · rw [List.length_take, List.length_drop]; omega
theorem sc_law_ferry : FnScope ["_law_script", "_law_cell"] ["_law_script"] (defScope (top 63)) := ⟨rfl, rfl, rfl, by decide +kernel, rfl, by decide +kernel, by decide +kernel⟩
def spFerry (K : PySem.W.Frag) : Sp := fun vs H Q _ => ∃ (a : Addr) (ns : List Int), vs = [.ref a] ∧ SqL K H a (ns.map V.int) ∧ ns.length ≤ 100000 ∧
  ∀ (p q : Addr) (ms : List Int) (H' : Hp), Ex H H' → H p = none → H q = none → q ≠ p → H' p = some (.lst (ferV q 0 0)) → H' q = some (.lst (ms.map V.int)) → Q (.ref p) H'
theorem fn_law_ferry {g : Ga} (W : Wn g) (base : Heap) : ∃ f fd, g.mg "_law_ferry" = some (.ref f) ∧ PySem.W.keepIn g.K (.ref f) = true ∧ Binds g.K fd ["_law_script"] [] ∧ FnOk g.P g.w g.K g.mg base CX0 1 f fd ["_law_script"] (spFerry g.K) := by
  obtain ⟨f, fd, hm, F⟩ := (W.fn "_law_ferry" 63).ex
  refine ⟨f, fd, hm, F.kp, F.binds fun _ _ _ _ _ _ us hl => match us, hl with | [_], _ => rfl, F.ok (k := 0) sc_law_ferry (fun vs H Q E h => by obtain ⟨_, _, rfl, _⟩ := h; rfl) fun cdv A outer s H vs Q E hr h => ?_⟩
  obtain ⟨a, ns, rfl, hS, hl, hQ⟩ := h
  have nd := sc_law_ferry.nd
  obtain ⟨ms, c1, c2, c3⟩ := cut_ints ns none (some 60)
  have rs : RS g (fun _ => False) H (L2.start ["_law_script", "_law_cell"] [.ref a]) [some (.kp fun v => v = .ref a), none] := start_rs (as := [.kp fun v => v = .ref a]) (.cons rfl .nil) (by simp [AV.own])
  refine ⟨_, pss_can _ _, ?_⟩
  refine XSs.of (pss_cons (ps_ret (pe_lst (pa_cons (pe_can _ _) (pa_cons pe_int (pa_cons pe_int pa_nil))))) pss_nil) ?_
  refine XE.of (pe_lc (own := [("_law_cell", 1)]) (tt := lcT _ _ _) (g := lcG _ _ _) (te := lcE _ _ _) rfl nd (pi_can _ _ _) ?_
    (fun s H C cl fp => ⟨fun pins s' σ H' v u Q I r h => h s H C cl fp pins s' u I r⟩) (fun s H C cl fp => pts_blk) (fun s H C cl fp => ⟨fun pins s' σ H' Q I h => h s H C cl fp pins s' I⟩) (by intro _; rfl)) ?_
  · show BlkOk ["_law_script", "_law_cell"] (defScope (top 63)) _ _
    exact blkOk_by (by decide +kernel)
  · refine lc_at (X := (cxOf CX0 g.P g.w g.K g.mg base ["_law_script", "_law_cell"] "_law_ferry" (defScope (top 63)) f cdv A outer s H E).nox) (ds := ms.map D.int) [("_law_cell", 1)] (fun _ => true) (fun i => .int (ms[i]?.getD 0)) rs (fun R k => XI.of (pi_list (pe_slice sl_list (pe_var (i := 0) rfl (Or.inl rfl) (by decide) (by decide)) po_none (po_some pe_int))) ⟨_, rfl, _, rfl, a, _, rfl, hS, fun l hl => ⟨l, rfl, ⟨_, SqL.of upd_same⟩, k _ _ (Evl.Ex.new hl) (itok_list (vs := cutV (ns.map V.int) none (some 60)) ?_ ?_)⟩⟩) (by rw [List.length_map]; omega) (fun i d hd => ?_) fun v H2 e2 ⟨q, vs, h1, h2, h3, h4⟩ => ?_
    · rw [rst_in (fun z => z)]; exact upd_same
    · rw [c2]; exact td_ints ms
    · obtain ⟨x, hx, rfl⟩ : ∃ x, ms[i]? = some x ∧ d = D.int x := by
        rw [List.getElem?_map] at hd
        obtain ⟨x, h1, h2⟩ := Option.map_eq_some_iff.mp hd
        exact ⟨x, h1, h2.symm⟩
      refine ⟨_, fun s H C cl fp => ⟨dw_name 1, dts_nil, fun _ => de_eq (de_cty ty_intI (da_d (de_vd 1) da_nil) (W.bl "int") boot_int) (by rw [hx]; rfl)⟩⟩
    · rw [range_map (ms.map D.int) _ id (fun i a h => by
        rw [List.getElem?_map] at h
        obtain ⟨x, z1, z2⟩ := Option.map_eq_some_iff.mp h
        rw [z1]; exact z2), List.map_id] at h4
      rw [h4.of_ints] at h3
      refine ⟨by show 3 ≤ sizeLine; decide, fun p hp => ?_⟩
      have np : q ≠ p := fun z => by rw [z, hp] at h3; cases h3
      have fp : H p = none := by
        cases z : H p with
        | none => rfl
        | some o => rw [e2 p o z] at hp; cases hp
      exact hQ p q ms _ (e2.trans (Evl.Ex.new hp)) fp (h2 rfl) np (by rw [upd_same, h1]) (by rw [upd_ne np]; exact h3)
end BF

set_option Elab.async false
set_option linter.all false
set_option maxRecDepth 100000
set_option maxHeartbeats 1000000
set_option autoImplicit false
/-! Profiles are made: the tests of their corners. -/
namespace BF
open PySem PySem.Spec PyProof.Rows L2
def clsBody : Stmt → List Stmt
  | .ClassDef _ _ _ b .. => b
  | _ => []
def initP : Stmt := (clsBody (top 33)).getD 0 (.Pass ⟨0, 0, 0, 0⟩)
structure Wp (g : Ga) : Prop extends Wn g where
  ms : ∃ t, g.mg "MOST_SIZE" = some (.int 999999999999 t)
  mc : ∃ t, g.mg "MOST_CORNERS" = some (.int 60 t)
  mkr : ∀ C, g.mg "Profile" = some (.ref C) → ∃ f fd, Mk g.K C f ∧ Fun g.K "__init__" "Profile.__init__" initP f fd
  na : ∀ C, g.mg "Profile" = some (.ref C) → ∀ x ∈ (["corners", "many", "low", "high", "wide"] : List Str), NoAttr g.K C x
section
variable {X : Cx} {τ : AE} {pos : Pos}
theorem de_globI {x : Str} {n : Int} (hm : ∃ t, X.mg x = some (.int n t)) (hg : Gl X x := by rfl) (hdb : (x == ("__debug__" : Str)) = false := by decide) : DE X τ (.Name x pos) (.d (.int n)) :=
  ⟨fun O H σ Q r q => by obtain ⟨t, h⟩ := hm; exact XE.of (pe_glob (v := .int n) hg h ⟨t, rfl⟩ hdb) (q _ H (exr H) (.int n))⟩
end
theorem sc_is_small : FnScope ["number"] ["number"] (defScope (top 30)) := ⟨rfl, rfl, rfl, by decide +kernel, rfl, by decide +kernel, by decide +kernel⟩
def R_is_small (as : List AV) (r : AV) : Prop := ∃ i : Int, i.natAbs ≤ 64 ∧ as = [.d (.int i)] ∧ r = .d (.bl true)
theorem fn_is_small {g : Ga} (W : Wp g) (base : Heap) : FnD g base "is_small" 1 ["number"] [] R_is_small := by
  obtain ⟨f, fd, hm, F⟩ := (W.fn "is_small" 30).ex
  refine fnd_of (k := 0) hm F (F.binds fun _ _ _ _ _ _ us hl => match us, hl with | [_], _ => rfl) sc_is_small (fun as r h => ?_) (fun as r h => ?_) fun cdv A outer s H E as r hr h => ?_
  · obtain ⟨_, _, rfl, _⟩ := h; rfl
  · obtain ⟨_, _, rfl, _⟩ := h; simp [AV.own]
  · obtain ⟨i, hi, rfl, rfl⟩ := h
    refine ds_ret (de_cmp od_le (de_cb bu_abs (da_d (de_vd 0) da_nil) (W.bl "abs") boot_abs) (de_globI W.ms)) ?_
    congr 2
    refine decide_eq_true ?_
    split <;> omega
section
variable {X : Cx} {τ : AE} {e e1 e2 e3 e4 : Expr} {p pos : Pos} {j : Nat}
theorem c_is_small (W : Wp (gaOf X)) (hr : Room j X.A) {i : Int} (h1 : DE X τ e1 (.d (.int i))) (hi : i.natAbs ≤ 64) (hj : 1 ≤ j := by decide) (c : CallOk X "is_small" e1 [] pos := by exact ⟨rfl, rfl, rfl⟩) : DE X τ (.Call (.Name "is_small" p) [e1] [] pos) (.d (.bl true)) :=
  call1 (fn_is_small W X.base) hr hj h1 ⟨i, hi, rfl, rfl⟩ c (by decide)
end
theorem di_eq {X : Cx} {τ : AE} {tg e : Expr} {xs ys : List D} (h : DI X τ tg e xs) (k : xs = ys) : DI X τ tg e ys := k ▸ h
theorem all_trues (n : Nat) : ((List.range n).filter fun _ => true).map (fun _ => D.bl true) = ((List.range n).map fun _ => true).map D.bl := by
  rw [List.filter_eq_self.mpr (fun _ _ => rfl), List.map_map]; rfl
theorem all_id (n : Nat) : ((List.range n).map fun _ => true).all id = true := by simp
theorem sc_is_corner : FnScope ["value", "number"] ["value"] (defScope (top 31)) := ⟨rfl, rfl, rfl, by decide +kernel, rfl, by decide +kernel, by decide +kernel⟩
def R_is_corner (as : List AV) (r : AV) : Prop := ∃ c : Pt, c.1.natAbs ≤ 64 ∧ c.2.natAbs ≤ 64 ∧ as = [.d (corD c)] ∧ r = .d (.bl true)
theorem fn_is_corner {g : Ga} (W : Wp g) (base : Heap) : FnD g base "is_corner" 2 ["value"] [] R_is_corner := by
  obtain ⟨f, fd, hm, F⟩ := (W.fn "is_corner" 31).ex
  refine fnd_of (k := 1) hm F (F.binds fun _ _ _ _ _ _ us hl => match us, hl with | [_], _ => rfl) sc_is_corner (fun as r h => ?_) (fun as r h => ?_) fun cdv A outer s H E as r hr h => ?_
  · obtain ⟨_, _, _, rfl, _⟩ := h; rfl
  · obtain ⟨_, _, _, rfl, _⟩ := h; simp [AV.own]
  · obtain ⟨c, h1, h2, rfl, rfl⟩ := h
    have nd := sc_is_corner.nd
    refine ds_if (dt_w (dw_or (dt_not (dt_val (de_isLT (de_vd 0) trivial (W.bl "isinstance") (W.bl "list") (W.bl "tuple")))) fun h0 => (dw_or1 (dt_cmp od_neI (de_cb bu_lenT (da_d (de_vd 0) da_nil) (W.bl "len") boot_len) de_int)))) (fun h => by simp [AV.isLT, corD] at h) (fun h => ds_nil ?_)
    refine ds_ret (de_cb (bu_all (o := false) (bs := (List.range 2).map fun _ => true) rfl) (da_l (de_eq (de_lc [("number", 1)] (fun _ => true) (fun _ => .bl true) (ds := [.int c.1, .int c.2]) (di_tup (de_vd 0)) (by simp [corD]) (fun i d hd => ?_) ?_) (by rw [all_trues]; rfl)) da_nil) (W.bl "all") boot_all) (by rw [all_id])
    · obtain ⟨z, hz, rfl⟩ : ∃ z : Int, z.natAbs ≤ 64 ∧ d = .int z := by
        rcases i with _ | _ | i
        · cases hd; exact ⟨_, h1, rfl⟩
        · cases hd; exact ⟨_, h2, rfl⟩
        · simp at hd
      exact ⟨_, fun s H C cl fp => ⟨dw_name 1, dts_nil, fun _ => de_eq (de_and (c_is_integer W.toWd hr (de_vd 1)) fun _ => de_one (c_is_small W hr (de_vd 1) hz)) (by simp [D.isI, D.isB])⟩⟩
    · show BlkOk ["value", "number"] (defScope (top 31)) _ _
      exact blkOk_by (by decide +kernel)
section
variable {X : Cx} {τ : AE} {e e1 e2 e3 e4 : Expr} {p pos : Pos} {j : Nat}
theorem c_is_corner (W : Wp (gaOf X)) (hr : Room j X.A) {c : Pt} (h1 : DE X τ e1 (.d (corD c))) (b1 : c.1.natAbs ≤ 64) (b2 : c.2.natAbs ≤ 64) (hj : 2 ≤ j := by decide) (k : CallOk X "is_corner" e1 [] pos := by exact ⟨rfl, rfl, rfl⟩) : DE X τ (.Call (.Name "is_corner" p) [e1] [] pos) (.d (.bl true)) :=
  call1 (fn_is_corner W X.base) hr hj h1 ⟨c, b1, b2, rfl, rfl⟩ k (by decide)
end
theorem sc_are_corners : FnScope ["value", "one", "other", "each"] ["value"] (defScope (top 32)) := ⟨rfl, rfl, rfl, by decide +kernel, rfl, by decide +kernel, by decide +kernel⟩
def R_are_corners (as : List AV) (r : AV) : Prop := ∃ cs : List Pt, PV cs ∧ as = [.l false (cs.map corD)] ∧ r = .d (.bl true)
theorem fn_are_corners {g : Ga} (W : Wp g) (base : Heap) : FnD g base "are_corners" 3 ["value"] [] R_are_corners := by
  obtain ⟨f, fd, hm, F⟩ := (W.fn "are_corners" 32).ex
  refine fnd_of (k := 2) hm F (F.binds fun _ _ _ _ _ _ us hl => match us, hl with | [_], _ => rfl) sc_are_corners (fun as r h => ?_) (fun as r h => ?_) fun cdv A outer s H E as r hr h => ?_
  · obtain ⟨_, _, rfl, _⟩ := h; rfl
  · obtain ⟨_, _, rfl, _⟩ := h; simp [AV.own]
  · obtain ⟨cs, P, rfl, rfl⟩ := h
    have nd := sc_are_corners.nd
    have l2 := P.two
    have l8 := P.few
    refine ds_if (dt_w (dw_or (dt_not (dt_val (de_isLT (de_vl 0) trivial (W.bl "isinstance") (W.bl "list") (W.bl "tuple")))) fun h0 => (dw_or (dt_cmp od_lt (de_cb bu_lenL (da_l (de_vl 0) da_nil) (W.bl "len") boot_len) de_int) fun h1 => (dw_or1 (dt_not (dt_val (de_cb (bu_all (o := false) (bs := (List.range (cs.map corD).length).map fun _ => true) rfl) (da_l (de_eq (de_lc [("each", 3)] (fun _ => true) (fun _ => .bl true) (ds := cs.map corD) (di_var 0) (by rw [List.length_map]; omega) (fun i d hd => ?_) ?_) (by rw [all_trues])) da_nil) (W.bl "all") boot_all))))))) (fun h => ?_) (fun h => ds_nil ?_)
    · rw [List.getElem?_map] at hd
      obtain ⟨c, hc, rfl⟩ := Option.map_eq_some_iff.mp hd
      have b := P.bd (List.mem_of_getElem? hc)
      exact ⟨_, fun s H C cl fp => ⟨dw_name 3, dts_nil, fun _ => c_is_corner W hr (de_vd 3) b.1 b.2⟩⟩
    · show BlkOk ["value", "one", "other", "each"] (defScope (top 32)) _ _
      exact blkOk_by (by decide +kernel)
    · rw [all_id] at h
      simp [AV.isLT] at h
      omega
    · refine ds_ret (de_cb (bu_all (o := false) (bs := (List.range ((sidesL cs).map sdD).length).map fun _ => true) rfl) (da_l (de_eq (de_lc [("one", 1), ("other", 2)] (fun _ => true) (fun _ => .bl true) (ds := (sidesL cs).map sdD) (di_eq (di_zip (ls_var 0) (ls_new (de_slL (de_vl 0) (do_some de_int) do_none)) (W.bl "zip")) (by rw [cutD_1]; exact zp_sides cs)) (by rw [List.length_map, sides_len]; omega) (fun i d hd => ?_) ?_) (by rw [all_trues])) da_nil) (W.bl "all") boot_all) (by rw [all_id])
      · rw [List.getElem?_map] at hd
        obtain ⟨s, hs, rfl⟩ := Option.map_eq_some_iff.mp hd
        have S := P.sd s (List.mem_of_getElem? hs)
        exact ⟨_, fun s H C cl fp => ⟨dw_tup (dsw_cons (dw_name 1) (dsw_cons (dw_name 2) dsw_nil)), dts_nil, fun _ => de_eq (de_and (de_cmp od_lt (de_ixT (de_vd 1) de_int) (de_ixT (de_vd 2) de_int)) fun _ => de_one (de_cmp od_neI (de_ixT (de_vd 1) de_int) (de_ixT (de_vd 2) de_int))) (by simp [S.inc, S.ne])⟩⟩
      · show BlkOk ["value", "one", "other", "each"] (defScope (top 32)) _ _
        exact blkOk_by (by decide +kernel)
section
variable {X : Cx} {τ : AE} {e e1 e2 e3 e4 : Expr} {p pos : Pos} {j : Nat}
theorem c_are_corners (W : Wp (gaOf X)) (hr : Room j X.A) {o : Bool} {cs : List Pt} (h1 : DE X τ e1 (.l o (cs.map corD))) (P : PV cs) (hj : 3 ≤ j := by decide) (k : CallOk X "are_corners" e1 [] pos := by exact ⟨rfl, rfl, rfl⟩) : DE X τ (.Call (.Name "are_corners" p) [e1] [] pos) (.d (.bl true)) :=
  call1 (fn_are_corners W X.base) hr hj h1 ⟨cs, P, rfl, rfl⟩ k (by decide)
end
end BF

set_option Elab.async false
set_option linter.all false
set_option maxRecDepth 100000
set_option maxHeartbeats 1000000
set_option autoImplicit false
/-! Profile(corners). -/
namespace BF
open PySem PySem.Spec PyProof.Rows L2
section
variable {X : Cx} {σ : L2.St} {H : Hp} {e c o : Expr} {Dn : Ends} {sts A : List Stmt} {τ : AE} {pos : Pos} {O : Addr → Prop}
theorem XE.imp {P Q : VK} (h : XE X σ H e P) (k : ∀ v H', P v H' → Q v H') : XE X σ H e Q := fun pins s I => wpAny_mono (h pins s I) (fun _ _ ⟨v, H', I', r, z⟩ => ⟨v, H', I', r, k v H' z⟩) fun _ _ z => z
theorem xs_if0 (hc : DT X τ c false) (rs : RS (gaOf X) O H σ τ) (k : ∀ H2, Ex H H2 → XSs X Dn σ H2 sts) : XSs X Dn σ H (.If c A [] pos :: sts) :=
  XSs.of (pss_cons (ps_if (pt_can X c) (pss_can X A) (pss_can X [])) (pss_can X sts)) (hc.run O H σ _ rs fun H2 e2 => iteF (XSs.of pss_nil (k H2 e2)))
theorem xs_fld {x f : Str} {a : Addr} {p1 p2 : Pos} (P : V → Hp → Prop) (he : XE X σ H e P) (at0 : σ[0]? = some (some (.ref a))) (k : ∀ y H1, P y H1 → ∃ C dx fs, H1 a = some (.ins C dx fs) ∧ Cls X.K C ∧ NoAttr X.K C f ∧ fs.length < 1000 ∧ XSs X Dn σ (upd H1 a (.ins C dx (L2.putF f y fs))) sts) (hN : X.N[0]? = some x := by rfl)
    (hv : Vis X.env.scope x := by first | exact Or.inl rfl | exact Or.inr (Or.inl rfl) | exact Or.inr (Or.inr rfl)) (hd : (x == ("__debug__" : Str)) = false := by decide) (hc : (x == ("__classdict__" : Str)) = false := by decide)
    (hs : swapsWith e (some (.Attribute (.Name x p1) f p2)) pos.line X.env = pure false := by rfl) : XSs X Dn σ H (.Assign [.Attribute (.Name x p1) f p2] e pos :: sts) :=
  XSs.of (pss_cons (ps_fld (pe_var hN hv hd hc) (pe_can X e) hs) (pss_can X sts)) (he.imp fun y H1 hp => by
    obtain ⟨C, dx, fs, h1, h2, h3, h4, h5⟩ := k y H1 hp
    exact ⟨.ref a, at0, a, C, dx, fs, rfl, h1, h2, h3, h4, h5⟩)
end
def plainL (τ : AE) : Bool := τ.all fun o => match o with
  | some (.d _) => true
  | some (.kp _) => true
  | some (.l false _) => true
  | some _ => false
  | none => true
theorem RS.ins {g : Ga} {H : Hp} {σ : L2.St} {τ : AE} {x C dx : Addr} {fs : List (Str × V)} {o : HO} (r : RS g (fun _ => False) H σ τ) (hp : plainL τ = true) (hx : H x = some (.ins C dx fs)) : RS g (fun _ => False) (upd H x o) σ τ := by
  have kt : KT H (upd H x o) := (KT.refl H).put hx fun _ z => by cases z
  exact ⟨r.len, (fun i a h => by
    obtain ⟨v, h1, h2⟩ := r.at_ i a h
    have := List.all_eq_true.mp hp _ (List.mem_of_getElem? h)
    cases a with
    | d y => exact ⟨v, h1, TD.up h2 kt⟩
    | kp y => exact ⟨v, h1, h2⟩
    | l ow ys =>
      obtain ⟨q, vs, z1, z2, z3, z4⟩ := h2
      exact ⟨v, h1, q, vs, z1, z2, by rw [upd_ne (fun z => by rw [z, hx] at z3; cases z3)]; exact z3, z4.up kt⟩
    | m ow y => cases ow <;> cases this
    | pr y => cases this
    | ll y z => cases this), r.sep, fun p z => z.elim⟩
theorem sc_initP : FnScope ["self", "corners", "place", "height", "_"] ["self", "corners"] (defScope initP) := ⟨rfl, rfl, rfl, by decide +kernel, rfl, by decide +kernel, by decide +kernel⟩
def spInit : Sp := fun vs H Q _ => ∃ (x C dx l : Addr) (us : List V) (cs : List Pt), vs = [.ref x, .ref l] ∧ H x = some (.ins C dx []) ∧ H l = some (.lst us) ∧ TDs H us (cs.map corD) ∧ PV cs ∧
  (∀ H' fs t, ExB x H H' → H' x = some (.ins C dx fs) → fs.lookup ("corners" : Str) = some (.ref t) → TD H' (.ref t) (.tup (cs.map corD)) → Q .non H')
/-- behind self.corners = .. -/
structure PS1 (H0 : Hp) (x C dx : Addr) (cs : List Pt) (n : Nat) (H : Hp) : Prop where
  ex : ExB x H0 H
  at_ : ∃ fs t, H x = some (.ins C dx fs) ∧ fs.length ≤ n ∧ fs.lookup ("corners" : Str) = some (.ref t) ∧ TD H (.ref t) (.tup (cs.map corD))
theorem PS1.mono {H0 H H2 : Hp} {x C dx : Addr} {cs : List Pt} {n : Nat} (h : PS1 H0 x C dx cs n H) (e : Ex H H2) : PS1 H0 x C dx cs n H2 :=
  ⟨h.ex.ex e, let ⟨fs, t, h1, h2, h3, h4⟩ := h.at_; ⟨fs, t, e _ _ h1, h2, h3, h4.up (Ex_kt e)⟩⟩
theorem PS1.put {H0 H : Hp} {x C dx : Addr} {cs : List Pt} {n : Nat} {f : Str} {y : V} (h : PS1 H0 x C dx cs n H) (hf : f ≠ "corners") : ∃ fs, H x = some (.ins C dx fs) ∧ fs.length ≤ n ∧ PS1 H0 x C dx cs (n + 1) (upd H x (.ins C dx (L2.putF f y fs))) := by
  obtain ⟨fs, t, h1, h2, h3, h4⟩ := h.at_
  have kt : KT H (upd H x (.ins C dx (L2.putF f y fs))) := (KT.refl H).put h1 fun _ z => by cases z
  exact ⟨fs, h1, h2, h.ex.upd, _, t, upd_same, Nat.le_trans (length_putF _ _ _) (by omega), by rw [lookup_putF, if_neg (fun e => hf e.symm)]; exact h3, h4.up kt⟩
end BF

set_option Elab.async false
set_option linter.all false
set_option maxRecDepth 100000
set_option maxHeartbeats 1000000
set_option autoImplicit false
/-! Profile(corners): its def. -/
namespace BF
open PySem PySem.Spec PyProof.Rows L2
theorem td_cor {H : Hp} {t : Addr} {cs : List Pt} (h : TD H (.ref t) (.tup (cs.map corD))) : ∃ vs, H t = some (.tup vs) ∧ TDs H vs (cs.map corD) := by
  cases h with
  | tup h1 h2 => exact ⟨_, h1, h2⟩
theorem td_at {H : Hp} {vs : List V} {cs : List Pt} (h : TDs H vs (cs.map corD)) {i : Nat} {c : Pt} (hc : cs[i]? = some c) : ∃ t, vs[i]? = some (.ref t) ∧ H t = some (.tup [.int c.1, .int c.2]) := by
  have hi : i < vs.length := by rw [h.length, List.length_map]; exact (List.getElem?_eq_some_iff.mp hc).1
  obtain ⟨d, h1, h2⟩ := h.get' (List.getElem?_eq_getElem hi)
  rw [List.getElem?_map, hc] at h1
  cases h1
  have e : vs[i]? = some (vs[i]'hi) := List.getElem?_eq_getElem hi
  generalize vs[i]'hi = v at *
  obtain ⟨a, rfl, z⟩ : ∃ a, v = .ref a ∧ H a = some (.tup [.int c.1, .int c.2]) := by
    cases h2 with
    | tup z1 z2 =>
      cases z2 with
      | cons y1 y2 =>
        cases y2 with
        | cons y3 y4 =>
          cases y1
          cases y3
          cases y4
          exact ⟨_, rfl, z1⟩
  exact ⟨a, e, z⟩
abbrev scH : Scope := { kind := .function, names := [(Str.ofString ".0", .local), (Str.ofString "_", .local), (Str.ofString "height", .local)], isGenerator := false, isCoroutine := false, more := [] }
theorem range_map' {α : Type} (xs : List α) (g : Nat → D) (f : α → D) (h : ∀ i a, xs[i]? = some a → g i = f a) : ((List.range xs.length).filter fun _ => true).map g = xs.map f := range_map xs g f h
theorem fn_init {g : Ga} (W : Wp g) {C : Addr} (hC : g.mg "Profile" = some (.ref C)) (base : Heap) : ∃ f fd, Mk g.K C f ∧ Binds g.K fd ["self", "corners"] [] ∧ FnOk g.P g.w g.K g.mg base CX0 4 f fd ["self", "corners"] (fun vs H Q E => spInit vs H Q E ∧ ∃ x dx, H x = some (.ins C dx []) ∧ vs[0]? = some (.ref x)) := by
  obtain ⟨f, fd, M, F⟩ := W.mkr C hC
  refine ⟨f, fd, M, F.binds fun _ _ _ _ _ _ us hl => match us, hl with | [_, _], _ => rfl, F.ok (k := 3) sc_initP (fun vs H Q E h => by obtain ⟨⟨_, _, _, _, _, _, rfl, _⟩, _⟩ := h; rfl) fun cdv A outer s H vs Q E hr h => ?_⟩
  obtain ⟨⟨x, C', dx, l, us, cs, rfl, hx, hl, tus, P, hQ⟩, x', dx', hx', e0⟩ := h
  cases e0
  have eC : C' = C := by rw [hx] at hx'; cases hx'; rfl
  subst eC
  have nd := sc_initP.nd
  have PC := W.pf _ hC
  have NA := W.na _ hC
  have l8 := P.few
  have l2 := P.two
  let X := (cxOf CX0 g.P g.w g.K g.mg base ["self", "corners", "place", "height", "_"] "Profile.__init__" (defScope initP) f cdv A outer s H E).nox
  let τ : AE := [some (.kp fun v => v = .ref x), some (.l false (cs.map corD)), none, none, none]
  let σ : L2.St := [some (.ref x), some (.ref l), none, none, none]
  have rs : RS g (fun _ => False) H σ τ := start_rs (N := ["self", "corners", "place", "height", "_"]) (vs := [.ref x, .ref l]) (as := [.kp fun v => v = .ref x, .l false (cs.map corD)]) (.cons rfl (.cons ⟨l, us, rfl, ⟨fun z => z.elim, fun z => by cases z⟩, hl, tus⟩ .nil)) (by simp [AV.own])
  refine ⟨_, pss_can _ _, ?_⟩
  refine (show XSs X _ σ H (defBody initP) from ?_)
  refine xs_if0 (τ := τ) (dt_eq (dt_not (dt_val (c_are_corners W hr (de_vl 1) P))) rfl) rs fun H1 e1 => ?_
  refine xs_if0 (τ := τ) (dt_eq (dt_cmp od_gt (de_cb bu_lenL (da_l (de_vl 1) da_nil) (W.bl "len") boot_len) (de_globI W.mc)) ?_) (rs.mono e1) fun H2 e2 => ?_
  · rw [List.length_map]; exact decide_eq_false (by omega)
  have e12 := e1.trans e2
  have rs2 := rs.mono e12
  -- self.corners
  refine xs_fld (fun y H3 => Ex H2 H3 ∧ TD H3 y (.tup (cs.map corD))) ((show DE X τ _ (.d (.tup (cs.map corD))) from de_cty (ty_tupL (o := false)) (da_l (de_eq (w := .l true (cs.map corD)) (de_lc [("place", 2), ("height", 3)] (fun _ => true) (fun i => (cs.map corD)[i]?.getD .non) (ds := cs.map corD) (di_var 1) (by rw [List.length_map]; omega) (fun i d hd => ?_) ?_) ?_) da_nil) (W.bl "tuple") boot_tuple).run _ H2 σ _ rs2 fun y H3 e3 r3 => ⟨e3, r3⟩) rfl fun y H3 ⟨e3, ty⟩ => ?_
  · rw [List.getElem?_map] at hd
    obtain ⟨c, hc, rfl⟩ := Option.map_eq_some_iff.mp hd
    exact ⟨_, fun s H C cl fp => ⟨dw_tup (dsw_cons (dw_name 2) (dsw_cons (dw_name 3) dsw_nil)), dts_nil, fun _ => de_eq (de_tup (dd_cons (de_vd 2) (dd_cons (de_vd 3) dd_nil))) (by rw [List.getElem?_map, hc]; rfl)⟩⟩
  · show BlkOk ["self", "corners", "place", "height", "_"] (defScope initP) _ _
    exact blkOk_by (by decide +kernel)
  · rw [range_map (cs.map corD) _ id fun i a h => by rw [h]; rfl, List.map_id]
  obtain ⟨t, vs, rfl, ht, tv⟩ : ∃ t vs, y = .ref t ∧ H3 t = some (.tup vs) ∧ TDs H3 vs (cs.map corD) := by
    cases ty with
    | tup h1 h2 => exact ⟨_, _, rfl, h1, h2⟩
  have h3x := (e12.trans e3) _ _ hx
  refine ⟨C', dx, [], h3x, PC.cls, NA _ (by simp), by decide, ?_⟩
  have rs4 := (rs2.mono e3).ins (o := .ins C' dx (L2.putF "corners" (.ref t) [])) rfl h3x
  have kt4 : KT H3 (upd H3 x (.ins C' dx (L2.putF "corners" (.ref t) []))) := (KT.refl H3).put h3x fun _ z => by cases z
  have S4 : PS1 H x C' dx cs 1 (upd H3 x (.ins C' dx (L2.putF "corners" (.ref t) []))) := ⟨(ExB.refl.ex (e12.trans e3)).upd, _, t, upd_same, Nat.le_refl 1, rfl, ty.up kt4⟩
  generalize upd H3 x (.ins C' dx (L2.putF "corners" (.ref t) [])) = H4 at rs4 S4
  clear kt4 rs2 h3x tv ht ty e3 e12 e1 e2
  -- how self.corners is read
  have rd : ∀ {H5 : Hp} {n : Nat} {p1 p2 : Pos} {Q : VK}, PS1 H x C' dx cs n H5 → (∀ t vs, H5 t = some (.tup vs) → TDs H5 vs (cs.map corD) → Q (.ref t) H5) → XE X σ H5 (.Attribute (.Name "self" p1) "corners" p2) Q := fun {H5 n p1 p2 Q} S k => by
    obtain ⟨fs, t, h1, h2, h3, h4⟩ := S.at_
    obtain ⟨vs, z1, z2⟩ := td_cor h4
    exact XE.of (pe_fld (pe_var (i := 0) rfl (Or.inl rfl) (by decide) (by decide)) (by rfl)) ⟨_, rfl, x, C', dx, fs, _, rfl, h1, PC.cls, NA _ (by simp), h3, k t vs z1 z2⟩
  have fld : ∀ {H5 : Hp} {n : Nat} {f : Str} {e : Expr} {p1 p2 pos : Pos} {sts : List Stmt} {Dn : Ends}, PS1 H x C' dx cs n H5 → RS g (fun _ => False) H5 σ τ → n < 900 → f ∈ (["corners", "many", "low", "high", "wide"] : List Str) → f ≠ "corners" → (∀ Q : VK, (∀ z H6, Ex H5 H6 → Q (.int z) H6) → XE X σ H5 e Q) →
      (∀ H7, PS1 H x C' dx cs (n + 1) H7 → RS g (fun _ => False) H7 σ τ → XSs X Dn σ H7 sts) → swapsWith e (some (.Attribute (.Name "self" p1) f p2)) pos.line X.env = pure false → XSs X Dn σ H5 (.Assign [.Attribute (.Name "self" p1) f p2] e pos :: sts) := fun {H5 n f e p1 p2 pos sts Dn} S r hn hf hc he k hs =>
    xs_fld (fun y H6 => Ex H5 H6) (he _ fun z H6 e6 => e6) rfl (fun y H6 e6 => by
      obtain ⟨fs, h1, h2, h3⟩ := (S.mono e6).put (f := f) (y := y) hc
      exact ⟨C', dx, fs, h1, PC.cls, NA _ hf, by omega, k _ h3 ((r.mono e6).ins rfl h1)⟩) rfl (Or.inl rfl) (by decide) (by decide) hs
  refine fld S4 rs4 (by omega) (by simp) (by decide) (fun Q k => XE.of (pe_callB call_len_seq (by rfl) (W.bl "len") boot_len (pa_cons (pe_can _ _) pa_nil)) (rd S4 fun t vs h1 h2 => ⟨t, vs, rfl, .inr (SqT.of h1), k _ _ (exr _)⟩)) (fun H5 S5 r5 => ?_) rfl
  have mm : ∀ {H5 : Hp} {n : Nat} {id : String} {nm : Str} {pn p1 p2 p3 p4 p5 p6 p7 pc : Pos} {Q : VK}, PS1 H x C' dx cs n H5 → RS g (fun _ => False) H5 σ τ → (∃ r, CallR X (.builtin id) r ∧ ∀ (H : Hp) (q : Addr) (Q : VK), H q = some (.lst ((cs.map (·.2)).map V.int)) → (∀ z, Q (.int z) H) → r [.ref q] H Q) → Gl X nm → X.mg nm = none → bootBuiltins nm = some (.builtin id) → nm ≠ "__name__" → (nm == ("__debug__" : Str)) = false →
      (∀ z H6, Ex H5 H6 → Q (.int z) H6) → XE X σ H5 (.Call (.Name nm pn) [.ListComp (.Name "height" p1) [⟨.Tuple [.Name "_" p2, .Name "height" p3] 0 p4, .Attribute (.Name "self" p5) "corners" p6, [], 0⟩] scH pc] [] p7) Q := fun {H5 n id nm pn p1 p2 p3 p4 p5 p6 p7 pc Q} S r5 ⟨r, c1, c2⟩ g1 g2 g3 g4 g5 k => by
    have ok : BlkOk X.N X.env.scope scH [("_", 4), ("height", 3)] := by
      show BlkOk ["self", "corners", "place", "height", "_"] (defScope initP) _ _
      exact blkOk_by (by decide +kernel)
    refine XE.of (pe_callB c1 g1 g2 g3 (pa_cons (pe_can _ _) pa_nil) g4 g5) ?_
    refine XE.of (pe_lc (own := [("_", 4), ("height", 3)]) (tt := lcT _ _ _) (g := lcG _ _ _) (te := lcE _ _ _) rfl nd (pi_can _ _ _) ok
      (fun s H C cl fp => ⟨fun pins s' σ H' v u Q I r h => h s H C cl fp pins s' u I r⟩) (fun s H C cl fp => pts_blk) (fun s H C cl fp => ⟨fun pins s' σ H' Q I h => h s H C cl fp pins s' I⟩) (by intro _; rfl)) ?_
    refine lc_at (X := X) (τ := τ) (ds := cs.map corD) [("_", 4), ("height", 3)] (fun _ => true) (fun i => .int (cs[i]?.getD (0, 0)).2) r5 (fun R kk => XI.of (pi_tup (pe_can _ _)) (rd S fun t vs h1 h2 => ⟨t, rfl, ⟨vs, SqT.of h1⟩, kk _ _ (exr _) (itok_tup (rst_kt r5 _ _ h1) (h2.up (rst_kt r5)))⟩)) (by rw [List.length_map]; omega) (fun i d hd => ?_) fun v H6 e6 ⟨q, vs, h1, h2, h3, h4⟩ => ?_
    · rw [List.getElem?_map] at hd
      obtain ⟨c, hc, rfl⟩ := Option.map_eq_some_iff.mp hd
      exact ⟨_, fun s H C cl fp => ⟨dw_tup (dsw_cons (dw_name 4) (dsw_cons (dw_name 3) dsw_nil)), dts_nil, fun _ => de_eq (de_vd 3) (by rw [hc]; rfl)⟩⟩
    · have er : (((List.range (cs.map corD).length).filter fun _ => true).map fun i => D.int (cs[i]?.getD (0, 0)).2) = (cs.map (·.2)).map D.int := by
        rw [List.length_map, List.map_map]
        exact range_map' cs _ (fun c => D.int c.2) fun i a h => by rw [h]; rfl
      rw [er] at h4
      rw [h4.of_ints] at h3
      subst h1
      exact c2 H6 q Q h3 fun z => k z H6 e6
  have ne : cs.map (·.2) ≠ [] := fun z => by have := congrArg List.length z; rw [List.length_map] at this; simp at this; subst this; simp at l2
  refine fld S5 r5 (by omega) (by simp) (by decide) (fun Q k => mm S5 r5 ⟨_, cr_min rfl, fun H q Q h kk => ⟨q, _, rfl, SqL.of h, List.length_pos_iff.mpr ne, fun z _ _ => kk z⟩⟩ (by rfl) (W.bl "min") boot_min (by decide) (by decide) k) (fun H6 S6 r6 => ?_) rfl
  refine fld S6 r6 (by omega) (by simp) (by decide) (fun Q k => mm S6 r6 ⟨_, cr_max rfl, fun H q Q h kk => ⟨q, _, rfl, SqL.of h, List.length_pos_iff.mpr ne, fun z _ _ => kk z⟩⟩ (by rfl) (W.bl "max") boot_max (by decide) (by decide) k) (fun H7 S7 r7 => ?_) rfl
  refine fld S7 r7 (by omega) (by simp) (by decide) (fun Q k => ?_) (fun H8 S8 r8 => XSs.of pss_nil ?_) rfl
  · have c0 : cs[0]? = some (cs[0]'(by omega)) := List.getElem?_eq_getElem _
    have cl : cs[cs.length - 1]? = some (cs[cs.length - 1]'(by omega)) := List.getElem?_eq_getElem _
    refine XE.of (pe_op op_sub (pe_ix ix_tup (pe_ix ix_tup (pe_can _ _) (pe_un un_neg pe_int) (by intro _ _; rfl)) pe_int (by intro _ _; rfl)) (pe_ix ix_tup (pe_ix ix_tup (pe_can _ _) pe_int (by intro _ _; rfl)) pe_int (by intro _ _; rfl))) ?_
    refine rd S7 fun t vs h1 h2 => ⟨1, rfl, ?_⟩
    have lv : vs.length = cs.length := by rw [h2.length, List.length_map]
    obtain ⟨t1, a1, a2⟩ := td_at h2 cl
    refine ⟨t, vs, -1, .ref t1, rfl, rfl, SqT.of h1, ?_, t1, _, 0, _, rfl, rfl, SqT.of a2, rfl, ?_⟩
    · have : ixN vs.length (-1) = some (cs.length - 1) := by
        unfold ixN
        rw [if_neg (by omega), if_pos (by omega)]
        congr 1; omega
      unfold atI
      rw [this]; exact a1
    refine rd S7 fun t' vs' h1' h2' => ?_
    have lv' : vs'.length = cs.length := by rw [h2'.length, List.length_map]
    obtain ⟨t0, b1, b2⟩ := td_at h2' c0
    refine ⟨t', vs', 0, .ref t0, rfl, rfl, SqT.of h1', ?_, t0, _, 0, _, rfl, rfl, SqT.of b2, rfl, _, _, rfl, rfl, k _ _ (exr _)⟩
    have : ixN vs'.length 0 = some 0 := by
      unfold ixN
      rw [if_pos (by omega), if_pos (by omega)]; rfl
    unfold atI
    rw [this]; exact b1
  · obtain ⟨fs, t, h1, h2, h3, h4⟩ := S8.at_
    exact hQ H8 fs t S8.ex h1 h3 h4
end BF

set_option Elab.async false
set_option linter.all false
set_option maxRecDepth 100000
set_option maxHeartbeats 1000000
set_option autoImplicit false
/-! Profile(e). -/
namespace BF
open PySem PySem.Spec PyProof.Rows L2
section
variable {X : Cx} {τ : AE} {e e1 e2 : Expr} {p pos : Pos} {j : Nat}
theorem c_Profile (W : Wp (gaOf X)) (hr : Room j X.A) {o : Bool} {cs : List Pt} (h1 : DE X τ e (.l o (cs.map corD))) (P : PV cs) (hj : 5 ≤ j := by decide) (c : CallOk X "Profile" e [] pos := by exact ⟨rfl, rfl, rfl⟩) : DE X τ (.Call (.Name "Profile" p) [e] [] pos) (.pr cs) := by
  obtain ⟨C, hC⟩ := W.pc
  obtain ⟨f, fd, M, hb, F⟩ := fn_init W hC X.base
  exact ⟨fun O H σ Q rs q => XE.of (pe_make (E := E0) M F (hr.mono hj) c.gl hC hb .nil pass0 (pa_cons (pe_can X e) pa_nil c.st) (by decide) c.st c.pl) (h1.run O H σ _ rs fun v H1 e1 r1 => by
    obtain ⟨l, us, rfl, _, hl, tu⟩ := r1
    intro x dx hx hdx ne
    have Hn : ∀ b o, H1 b = some o → upd (upd H1 dx (.own x)) x (.ins C dx []) b = some o := fun b o h => by
      rw [upd_ne (fun z => by rw [z, hx] at h; cases h), upd_ne (fun z => by rw [z, hdx] at h; cases h)]; exact h
    refine ⟨⟨x, C, dx, l, us, cs, rfl, upd_same, Hn _ _ hl, tu.up fun b xs h => Hn b _ h, P, fun H' fs t ex h1 h2 h3 => ⟨rfl, ?_⟩⟩, x, dx, upd_same, rfl⟩
    have e2 : Ex H1 H' := fun b o h => ex b o (fun z => by rw [z, hx] at h; cases h) (Hn b o h)
    exact q (.ref x) H' (e1.trans e2) ⟨x, rfl, C, dx, fs, t, h1, h2, h3, hC⟩)⟩
end
end BF

set_option Elab.async false
set_option linter.all false
set_option maxRecDepth 100000
set_option maxHeartbeats 2000000
set_option autoImplicit false
/-! BadStand.__init__: super().__init__(..), self.part = part. -/
namespace BF
open PySem PySem.W PySem.Spec PySem.Calls PyProof.Rows L2

def initB : Stmt := (clsBody (top 4)).getD 0 (.Pass ⟨0, 0, 0, 0⟩)
/-- the function of BadStand.__init__, its class at C -/
structure BsFn (P : Program) (K : PySem.W.Frag) (mg : Str → Option Value) (C fI : Addr) (fd : FuncData) : Prop where
  ex : ∃ (cl cda : Addr) (dV kV doc pm : Value) (an : Option Addr) (ct oc ccl clc : Value) (od cdd cld : Option Addr) (osl ccs csl : Array (Option Value)) (vs : Array Value) (file : Str) (tf : Tok) (cd : ClassData),
    fd = ksFn "__init__" "BadStand.__init__" (defArgs initB) (defBody initB) (defScope initB) .none kV doc pm an (.ref cda) ct cl ∧ K.lookup fI = some ⟨oc, od, .func fd, osl⟩ ∧ codeIn K (.ref cda) "BadStand.__init__" = true ∧
    K.lookup cl = some ⟨clc, cld, .cell (some (.ref C)), csl⟩ ∧ K.lookup cda = some ⟨ccl, cdd, .fields vs, ccs⟩ ∧ vs[2]? = some (.str file tf) ∧ ((P.main.file : Str) == file) = true ∧ clsIn K C = some cd
  tI : typeIn K (.ref fI) = some (.type "function")
  iC : findIn K (.ref C) "__init__" = some (some (.ref fI))
  su : ks_superIn K C C "__init__" = some (some (.builtin "ValueError.__init__"))
  ve : subIn K (.ref C) (.type "ValueError") = some true
  op : nsIn K cStatics "thirdparty.any" = some none
  me : mroIn K C (.ref C) = some true
  sn : mg "super" = none
  tp : (P.main.scope.names.lookup ("super" : Str)).isSome = false
  T : OexC K C
  np : findIn K (.ref C) "part" = some none
section
variable {P : Program} {w : World} {K : PySem.W.Frag} {mg : Str → Option Value} {base : Heap} {C fI : Addr} {fd : FuncData} {A : Around} {E : Value → Shared → Prop} {h : Heap} {g : Array GenState} {d : Drawn} {t : Nat} {os : OsState}
/-- the bound __init__ is called -/
theorem bs_call {u x t1 : Addr} {rest : List Value} {Q : Value → Shared → Prop} (T : OexC K C) (X : K.In h) (hu : h.get? u = some (kxs_mw "ValueError.__init__" x)) (hx : h.get? x = some (excObj C t1 none .none)) (hz : rest.length ≤ sizeLine)
    (hq : ∀ h' t2, (∀ b o, b ≠ x → h.get? b = some o → h'.get? b = some o) → h'.get? x = some (excObj C t2 none .none) → Q .none ⟨h', g, d, t, os⟩) : wpAny (model P w) A (call (.ref u) rest) Q E ⟨h, g, d, t, os⟩ := by
  obtain ⟨nm, q, N, bs, bm, sn, sub, ab, col, dd, k0, k1, k2, k3, k5, hC, hbm⟩ := T.cls
  refine wpAny_call (codeAny_of_tree ?_)
  show wpAny _ A.in1 (callAny (.ref u) ⟨rest, []⟩) _ _ _
  simp only [callAny]
  refine wpAny_bind (wpAny_load hu ?_)
  simp only [kxs_mw, show (Value.type "method-wrapper" == Value.type "method" || Value.type "method-wrapper" == Value.type "builtin_function_or_method" || Value.type "method-wrapper" == Value.type "method-wrapper") = true by decide, if_true]
  refine KFB.if_so (by decide) ?_
  refine wpAny_bind (check_bound_init F.excBase_ValueError.toExcCallFacts (X _ _ hC) hx rfl ?_)
  refine wpAny_bind (wpAny_pure (wpAny_pure ?_))
  refine ⟨plainId_quiet F.excBase_ValueError.init.plain _, codeAny_builtin F.excBase_ValueError.initEntry ?_⟩
  exact exc_init_tree (cls := .ref C) (t0 := t1) (dv := none) (c2 := .none) (c3 := .none) (b4 := .bool false) hx hz fun h' k e' _ => hq h' _ k e'
end
end BF

set_option Elab.async false
set_option linter.all false
set_option maxRecDepth 100000
set_option maxHeartbeats 2000000
set_option autoImplicit false
/-! BadStand.__init__ runs. -/
namespace BF
open PySem PySem.W PySem.Spec PySem.Calls PyProof.Rows L2
section
variable {P : Program} {w : World} {K : PySem.W.Frag} {mg mb : Str → Option Value} {base : Heap} {C fI : Addr} {fd : FuncData} {A : Around} {E : Value → Shared → Prop} {h : Heap} {g : Array GenState} {d : Drawn} {t : Nat} {os : OsState}
theorem bs_callWith {M : Model} {s : Shared} {pos : Pos} {env : Env} {e : Expr} {u x : Addr} {i : String} {Q : Value → Shared → Prop} (h : wpAny M A (eval e env) (fun v s₁ => KxsAt i u x s₁.heap ∧ wpAny M A (call (.ref u) [v]) Q E s₁) E s)
    (he : starEach [e] env = (false, eval e env) :: starEach [] env := by rfl) (hplain : (backTo pos (starEach [] env)).any (·.1) = false := by rfl) : wpAny M A (callWith pos (.ref u) [] (backTo pos (starEach [e] env)) []) Q E s := by
  rw [he]
  refine kxs_callWith (i := i) (x := x) (by show (false || (backTo pos (starEach [] env)).any (·.1)) = false; rw [hplain]; rfl) ?_
  refine evalArgs_plain ?_
  refine spliced_cons (wpAny_mono h (fun v s1 hv => spliced_nil hv) fun _ _ z => z)
theorem bs_run {x t1 : Addr} {u : Value} {args : Args} {R : Result → Shared → Prop} (B : BsFn P K mg C fI fd) (X : K.In h) (hroom : A.depth < recursionLimit) (hlim : h.NoLimit) (hglob : h.Ns mainGlobals mg) (hb1 : h.Ns builtinsNs mb) (hb2 : ∀ x : Str, x ≠ "__name__" → mb x = bootBuiltins x)
    (hx : h.get? x = some (excObj C t1 none .none)) (hKx : ∀ o, K.lookup x ≠ some o) (hb : BindsTo ⟨h, g, d, t, os⟩ fd args ((["self", "part"] : List Str).zip [.ref x, u]))
    (hq : ∀ h' tk' dx t2, (∀ b o, b ≠ x → h.get? b = some o → h'.get? b = some o) → h.objs.size ≤ dx → dx ≠ x → h'.get? x = some (excObj C t2 (some dx) .none) → h'.Ns1 dx (fun y => if y = ("part" : Str) then some u else none) → R (.ok (.ret .none)) ⟨h', g, d, tk', os⟩) :
    codeAny (model P w) A (.call (.ref fI) args) R ⟨h, g, d, t, os⟩ := by
  obtain ⟨cl, cda, dV, kV, doc, pm, an, ct, oc, ccl, clc, od, cdd, cld, osl, ccs, csl, vs, file, tf, cd, rfl, lk, hcd, hcell, hcode, hvs, hfile, hcls⟩ := B.ex
  have ks : (defScope initB).names.lookup ("super" : Str) = some .globalImplicit := by decide +kernel
  have kc : (defScope initB).names.lookup ("__class__" : Str) = some .free := by decide +kernel
  have kse : (defScope initB).names.lookup ("self" : Str) = some .local := by decide +kernel
  have kpa : (defScope initB).names.lookup ("part" : Str) = some .local := by decide +kernel
  have kk : (defScope initB).kind = .function := rfl
  obtain ⟨oD, hD1, hD2⟩ : ∃ oD, K.lookup C = some oD ∧ oD.data = .cls cd := by
    unfold clsIn at hcls
    split at hcls
    · rename_i c d' cd' sl ho
      cases hcls
      exact ⟨_, ho, rfl⟩
    · cases hcls
  refine ks_codeAny_call_defAt (body := defBody initB) (binds := (["self", "part"] : List Str).zip [.ref x, u]) hroom (X _ _ lk) rfl hlim (codeRec_of X hcd) rfl hb (show ∀ y ∈ (defScope initB).names, y.2 ≠ .cell by decide +kernel) (fun y hy => ?_) (fun h0 hns keep => ?_) rfl rfl kk
  · have : y = (("self" : Str), Value.ref x) ∨ y = (("part" : Str), u) := by simpa using hy
    rcases this with rfl | rfl
    · exact kse
    · exact kpa
  have X0 : K.In h0 := X.keeps keep
  refine ks_wpAt_execs_cons (ks_wpAt_Expr_any (ks_wpAt_MethodCall (ks_wpAt_super_base ks kc (by decide) rfl (X0 _ _ lk) rfl rfl rfl (X0 _ _ hcode) rfl hvs hfile B.tp ?_)))
  refine ks_loadName_global kk ks (loadGlobal_builtin (hglob.keeps keep) B.sn (hb1.keeps keep) ((hb2 _ (by decide +kernel)).trans PyProof.Rows.Boot.«super») ⟨rfl, ?_⟩)
  refine wpAny_loadName_free kk kc rfl ⟨_, X0 _ _ hcell, rfl⟩ ?_
  refine wpAny_loadName_local kk kse hns rfl ?_
  refine ks_wpAny_isType_cls (X0 _ _ hD1) hD2 ⟨rfl, ?_⟩
  have hx0 := keep _ _ hx
  refine ks_wpAny_call_super (X0 _ _ hD1) hD2 hx0 rfl (fun c e => by cases e) (looks_mroIn X0 B.me) (fun h1 e1 k1 => ?_)
  have X1 : K.In h1 := X0.keeps k1
  have hx1 := k1 _ _ hx0
  have I1 : InstAt h1 x (excObj C t1 none .none) C none := ⟨hx1, rfl, rfl, trivial⟩
  have hI : Looks (model P w) h1 (isInstance (.ref x) (.type "ValueError")) true := I1.type.andThen (looks_subIn X1 B.ve)
  have su := B.su
  unfold ks_superIn at su
  rw [hcls] at su
  refine kxs_getMethod kxs_ValueError e1 (looks_opaque X1 B.op) (l₀ := cd.mro) (fun A Q E s k q => wpAny_bind ((looks_clsIn X1 hcls) A _ E s k (wpAny_pure q))) rfl X1 su hI (ks_ne X1 I1 hcls) (by decide) ?_
  have up1 : ∀ b o, h1.get? b = some o → (h1.push (kxs_mw "ValueError.__init__" x)).get? b = some o := fun b o e => Heap.get?_push_of_some _ e
  have hu1 : (h1.push (kxs_mw "ValueError.__init__" x)).get? h1.objs.size = some (kxs_mw "ValueError.__init__" x) := Heap.get?_push_at rfl rfl
  refine bs_callWith (x := x) (i := "ValueError.__init__") (Constant_str ⟨hu1, ?_⟩)
  refine bs_call B.T (X1.keeps up1) hu1 (up1 _ _ hx1) (by show 1 ≤ sizeLine; decide) fun h2 t2 k2 e2 => ?_
  have nx : ∀ {b : Addr} {o : Obj}, h.get? b = some o → b ≠ x → h2.get? b = some o := fun {b o} e n => k2 b o n (up1 _ _ (k1 _ _ (keep _ _ e)))
  have nxK : x ≠ C := ks_ne X1 I1 hcls
  have X2 : K.In h2 := fun b o e => nx (X b o e) fun z => hKx o (z ▸ e)
  have ns2 : h2.Ns h.objs.size (fun y => ((["self", "part"] : List Str).zip [.ref x, u]).reverse.lookup y) := by
    obtain ⟨oL, es, ep, hL, r⟩ := hns
    exact ⟨oL, es, ep, k2 _ _ (Nat.ne_of_gt (Heap.lt_size hx)) (up1 _ _ (k1 _ _ hL)), r⟩
  refine ks_wpAt_execs_cons (wpAt_of_wpAny (plainObj_wpAny_Assign_Attribute (wpAny_Name (wpAny_loadName_local kk kpa ns2 rfl ?_) (by decide)) (by rfl)))
  refine wpAny_Name (wpAny_loadName_local kk kse ns2 rfl ?_) (by decide)
  obtain ⟨nm, q, N, bs, bm, sn, sub, ab, col, dd, k0, k1', k2', k3, k5, hC, hbm⟩ := B.T.cls
  have hcl : PySem.W.clsIn K C = some { name := nm, bases := bs, mro := .ref C :: bm, ns := N, qualname := q, hasDict := true, slotNames := sn, subclasses := sub, abstract := ab, collection := col, hasDel := false } := by unfold PySem.W.clsIn; rw [hC] <;> rfl
  refine PySem.W.set_plain X2 (ox := excObj C t2 none .none) (od := none) ⟨e2, rfl, rfl, trivial⟩ B.T.sa ?_
  refine PySem.HandSPX.exc_osa X2 e2 hcl (show PySem.HandSPX.refsVE (.ref C :: bm) = true from hbm) rfl B.np (fun h' tk' dx k dn dne hx' hn => ?_)
  refine wpAt_of_wpAny (wpAny_execs_nil ?_)
  refine hq h' tk' dx t2 (fun b o nb e => k b o nb (nx e nb)) (by
    obtain ⟨oL, es, ep, hL, _⟩ := ns2
    have z1 : h.objs.size < h2.objs.size := Heap.lt_size hL
    have z2 : h2.objs.size ≤ dx := dn
    exact Nat.le_of_lt (Nat.lt_of_lt_of_le z1 z2)) dne hx' hn
end
end BF

set_option Elab.async false
set_option linter.all false
set_option maxRecDepth 100000
set_option maxHeartbeats 2000000
set_option autoImplicit false
/-! BadStand.__init__ as a def that is called. -/
namespace BF
open PySem PySem.W PySem.Spec PySem.Calls PyProof.Rows L2
def spBs (C : Addr) : Sp := fun vs H Q _ => ∃ (a : Addr) (y : V), vs = [.ref a, y] ∧ H a = some (exo a C none) ∧ ∀ dx, H dx = none → dx ≠ a → Q .non (upd (upd H dx (exd dx [("part", y)])) a (exo a C (some dx)))
theorem fn_bs {P : Program} {w : World} {K : PySem.W.Frag} {mg : Str → Option Value} {base : Heap} {CX : CXT} {C fI : Addr} {fd : FuncData} (B : BsFn P K mg C fI fd) : FnOk P w K mg base CX 1 fI fd ["self", "part"] (spBs C) := by
  refine ⟨fun vs H Q E h => by obtain ⟨_, _, rfl, _⟩ := h; rfl, fun A outer s H args us vs Q E hr e0 hb r hsp => ?_⟩
  obtain ⟨a, y, rfl, ea, k⟩ := hsp
  obtain ⟨u, rfl, ry⟩ : ∃ u, us = [.ref a, u] ∧ RelV y u := by
    cases r with
    | cons r1 r2 =>
      cases r2 with
      | cons r3 r4 =>
        cases r4
        cases r1
        exact ⟨_, rfl, r3⟩
  have bk : ∀ b o, base.get? b = some o → s.heap.get? b = some o := fun b o e => (e0.bs b o e).1
  have KX : K.In s.heap := e0.mod.kin.keeps bk
  obtain ⟨mb, hb1, hb2⟩ := e0.mod.blt
  obtain ⟨t1, hx⟩ := exo_at e0.hok ea
  have hKx : ∀ o, K.lookup a ≠ some o := fun o e => by
    have := (e0.bs a o (e0.mod.kin a o e)).2
    rw [ea] at this; cases this
  obtain ⟨hp, g, d, t, os⟩ := s
  refine bs_run B KX hr.depth (e0.mod.nolimit.keeps bk) (e0.mod.glob.keeps bk) (hb1.keeps bk) hb2 hx hKx hb (fun h' tk' dx t2 kp dn dne hx' hn => ?_)
  have hnd : H dx = none := e0.hok.fresh dn
  have nd : ∀ {b : Addr} {o : Obj}, hp.get? b = some o → b ≠ dx := fun {b o} q => Nat.ne_of_lt (Nat.lt_of_lt_of_le (Heap.lt_size q) dn)
  have na : ∀ {b : Addr}, H b = none → b ≠ a := fun {b} n z => by
    rw [z, ea] at n
    cases n
  refine ⟨.non, _, rfl, e0.bare, ?_, ?_, rfl, k dx hnd dne⟩
  · exact {
      keep := fun b o q n _ _ => kp b o (na n) q
      slot := fun b o q n _ _ => ⟨o.slots, kp b o (na n) q⟩
      free := fun b o q n _ => by rw [upd_ne (na n), upd_ne (nd q)]; exact n
      there := fun b o q _ => by
        by_cases hb : b = a
        · exact ⟨_, by rw [hb]; exact hx'⟩
        · exact ⟨o, kp b o hb q⟩
      tups := fun b xs q => by rw [upd_ne (at_ne ea q exo_tup), upd_ne (ne_of_none q hnd)]; exact q
      frzs := fun b o v q => by rw [upd_ne (at_ne ea q exo_frz), upd_ne (ne_of_none q hnd)]; exact q
      tbls := fun b ps q => ⟨#[], by rw [upd_ne (at_ne ea q exo_tbl), upd_ne (ne_of_none q hnd), q]; simp⟩ }
  · intro b o q
    by_cases hb : b = a
    · subst hb
      rw [upd_same] at q
      cases q
      exact exo_ok hx'
    · rw [upd_ne hb] at q
      by_cases hd : b = dx
      · subst hd
        rw [upd_same] at q
        cases q
        exact exd_ok hn (relO_put (fs := []) ry fun g => True.intro)
      · rw [upd_ne hd] at q
        exact (e0.hok b o q).stay (fun c v hc z => kp c v (by
            rcases hc with hc | hc
            · rw [hc]
              exact hb
            · exact at_ne ea hc exo_own) z)
          (fun c hc => by rw [upd_ne (at_ne ea hc exo_own), upd_ne (ne_of_none hc hnd)]; exact hc) (fun c xs hc => by rw [upd_ne (at_ne ea hc exo_tup), upd_ne (ne_of_none hc hnd)]; exact hc)
end BF

set_option Elab.async false
set_option linter.all false
set_option maxRecDepth 100000
set_option maxHeartbeats 2000000
set_option autoImplicit false
/-! No stand: need_stand and ways_on raise. -/
namespace BF
open PySem PySem.Spec PyProof.Rows L2
structure Wx (g : Ga) : Prop extends Wp g where
  bs : ∃ C fI fd, g.mg "BadStand" = some (.ref C) ∧ BsFn g.P g.K g.mg C fI fd ∧ XfC g.K C ∧ PySem.W.exmOne g.K (.ref C) (.ref C) = some true
theorem bs_binds {P : Program} {K : PySem.W.Frag} {mg : Str → Option Value} {C fI : Addr} {fd : FuncData} (B : BsFn P K mg C fI fd) : Binds K fd ["self", "part"] [] := by
  obtain ⟨cl, cda, dV, kV, doc, pm, an, ct, oc, ccl, clc, od, cdd, cld, osl, ccs, csl, vs, file, tf, cd, rfl, _⟩ := B.ex
  exact .all fun us hl => match us, hl with | [_, _], _ => rfl
/-- the exception that goes out -/
def OutBs (C : Addr) (H : Hp) (E : XK) : Prop := ∀ H' d, Ex H H' → H' d = some (.xd [("part", .str "stand")]) → E (.ref C) (some d) H'
def spNS (g : Ga) (C : Addr) : Sp := fun vs H Q E => ∃ (cs ds : List Pt) (q : RR), RsL g H vs [.pr cs, .pr ds, .d (stnD q), .d (.str "stand")] ∧ PV cs ∧ PV ds ∧ Bq q.1 ∧ Bq q.2 ∧ ¬ stnP cs ds q ∧ OutBs C H E
theorem fn_need_standX {g : Ga} (W : Wx g) {C fI : Addr} {fdI : FuncData} (hC : g.mg "BadStand" = some (.ref C)) (B : BsFn g.P g.K g.mg C fI fdI) (base : Heap) : ∃ f fd ds, g.mg "need_stand" = some (.ref f) ∧ PySem.W.keepIn g.K (.ref f) = true ∧ Binds g.K fd ["one", "other", "value", "part"] ds ∧ Vals [V.str "stand"] ds ∧
    FnOk g.P g.w g.K g.mg base (L2.CX g.P g.w) 7 f fd ["one", "other", "value", "part"] (spNS g C) := by
  obtain ⟨f, fd, hm, F⟩ := W.ns.ex
  obtain ⟨ds, hd, hb⟩ := F.binds1 (ps := ["one", "other", "value", "part"]) 3 0 (by simp) rfl fun T kV doc pm an cdv ct us its hl hl2 => match us, its, hl, hl2 with
    | [_, _, _], [_], _, _ => ⟨_, rfl, rfl⟩
  refine ⟨f, fd, ds, hm, F.kp, hb, hd, F.ok (k := 6) sc_need_stand (fun vs H Q E h => by obtain ⟨_, _, _, r, _⟩ := h; exact rsl_len r) fun cdv A outer s H vs Q E hr h => ?_⟩
  obtain ⟨cs, ds', q, r, P, P', hx, hy, hs, out⟩ := h
  have rs := start_rs (N := ["one", "other", "value", "part"]) r (by simp [AV.own])
  refine ⟨_, pss_can _ _, ?_⟩
  have tk := takes_of (X := cxOf (L2.CX g.P g.w) g.P g.w g.K g.mg base ["one", "other", "value", "part"] "need_stand" (defScope (top 58)) f cdv A outer s H E) (E := E) rfl rfl rfl rfl
  refine XSs.of (pss_cons (ps_if (pt_can _ _) (pss_cons (ps_raise rfl tk (pmk_oex (sp := spBs C) (dvs := []) B.T B.iC B.tI (fn_bs (CX := CX0) B) (hr.mono (by omega)) (bs_binds B) .nil (fun _ _ _ _ _ _ _ z => z.elim) (by rfl) hC (pa_can _ _))) (pss_can _ [])) (pss_can _ [])) (pss_can _ _)) ?_
  refine (dt_eq (dt_not (dt_val (c_is_stand_in W.toWd hr (de_vp 0) (de_vp 1) (de_vd 2) P P' hx hy))) (show (!decide (stnP cs ds' q)) = true by simp [hs])).run (fun _ => False) H _ _ rs fun H2 e2 => iteT ?_
  refine (da_d (de_vd 3) da_nil).run (fun _ => False) H2 _ _ (rs.mono e2) fun vs1 H1 e1 r1 => ?_
  obtain ⟨v, rfl, hv⟩ := rsl1 r1
  cases hv
  refine ⟨by decide, fun a ha => ⟨a, .str "stand", rfl, upd_same, fun dx hdx nea => ⟨rfl, dx, [("part", .str "stand")], upd_same, by rw [upd_ne nea]; exact upd_same, by rw [upd_ne nea] at hdx; exact hdx, ?_⟩⟩⟩
  rw [upd_ne nea] at hdx
  refine out _ dx (fun b o hb => ?_) upd_same
  have h1 := e1 _ _ (e2 _ _ hb)
  have n1 : b ≠ a := fun z => by rw [z, ha] at h1; cases h1
  have n2 : b ≠ dx := fun z => by rw [z, hdx] at h1; cases h1
  rw [upd_ne n2, del_ne n1, upd_ne n1, upd_ne n2, upd_ne n1]
  exact h1
end BF

set_option Elab.async false
set_option linter.all false
set_option maxRecDepth 100000
set_option maxHeartbeats 2000000
set_option autoImplicit false
/-! No stand: ways_on raises. -/
namespace BF
open PySem PySem.Spec PyProof.Rows L2
def spWO (g : Ga) (C : Addr) : Sp := fun vs H Q E => ∃ (cs ds : List Pt) (q : RR), RsL g H vs [.pr cs, .pr ds, .d (stnD q)] ∧ PV cs ∧ PV ds ∧ Bq q.1 ∧ Bq q.2 ∧ ¬ stnP cs ds q ∧ OutBs C H E
theorem fn_ways_onX {g : Ga} (W : Wx g) {C fI : Addr} {fdI : FuncData} (hC : g.mg "BadStand" = some (.ref C)) (B : BsFn g.P g.K g.mg C fI fdI) (base : Heap) : ∃ f fd, g.mg "ways_on" = some (.ref f) ∧ PySem.W.keepIn g.K (.ref f) = true ∧ Binds g.K fd ["one", "other", "stand"] [] ∧
    FnOk g.P g.w g.K g.mg base (L2.CX g.P g.w) 14 f fd ["one", "other", "stand"] (spWO g C) := by
  obtain ⟨f, fd, hm, F⟩ := (W.fn "ways_on" 61).ex
  refine ⟨f, fd, hm, F.kp, F.binds fun _ _ _ _ _ _ us hl => match us, hl with | [_, _, _], _ => rfl, F.okX (k := 13) sc_ways_on (fun vs H Q E h => by obtain ⟨_, _, _, r, _⟩ := h; exact rsl_len r) fun cdv A outer s H vs Q E hr h => ?_⟩
  obtain ⟨cs, ds, q, r, P, P', hx, hy, hs, out⟩ := h
  have rs := start_rs (N := ["one", "other", "stand"]) r (by simp [AV.own])
  obtain ⟨fw, fdw, dsw, w1, w2, w3, w4, w5⟩ := (fn_ways_in W.toWd base).ex
  obtain ⟨fn, fdn, dsn, n1, n2, n3, n4, n5⟩ := fn_need_standX W hC B base
  refine ⟨_, pss_can _ _, ?_⟩
  have tk := takes_of (X := cxOf (L2.CX g.P g.w) g.P g.w g.K g.mg base ["one", "other", "stand"] "ways_on" (defScope (top 61)) f cdv A outer s H E) (E := E) rfl rfl rfl rfl
  refine XSs.of (pss_cons (ps_expr (pe_can _ _) (by rfl)) (pss_can _ _)) ((c_need_both W.toWn hr (de_vp 0) (de_vp 1)).run (fun _ => False) H _ _ rs fun v H2 e2 r2 => ?_)
  refine XSs.of (pss_cons (ps_ret (pe_callTy call_tuple_of (by rfl) (W.bl "tuple") boot_tuple (pa_cons (pe_call (E := E0) w5 (hr.mono (by omega)) (by rfl) w1 w2 w3 w4 pass0
    (pa_cons (pe_can _ _) (pa_cons (pe_can _ _) (pa_cons (pe_call (E := E) n5 (hr.mono (by omega)) (by rfl) n1 n2 n3 n4 (fun pins σ H s e s' I c => passAt tk σ pins H s e s' I c) (pa_can _ _)) pa_nil)))) pa_nil))) (pss_can _ _)) ?_
  refine (de_vp (v := cs) 0).run (fun _ => False) H2 _ _ (rs.mono e2) fun v1 H3 e3 r3 => ?_
  refine (de_vp (v := ds) 1).run (fun _ => False) H3 _ _ (rs.mono (e2.trans e3)) fun v2 H4 e4 r4 => ?_
  refine (da_cons (de_vp (v := cs) 0) (da_cons (de_vp (v := ds) 1) (da_d (de_vd 2) da_nil))).run (fun _ => False) H4 _ _ (rs.mono ((e2.trans e3).trans e4)) fun us H5 e5 r5 => ?_
  exact ⟨cs, ds, q, Paired.snoc r5 (show Sl g (fun _ => False) H5 (.str "stand") (.d (.str "stand")) from .str "stand"), P, P', hx, hy, hs, fun H' d e hd => out H' d ((((e2.trans e3).trans e4).trans e5).trans e) hd⟩
end BF

set_option Elab.async false
set_option linter.all false
set_option maxRecDepth 100000
set_option maxHeartbeats 2000000
set_option autoImplicit false
/-! _law_refused. -/
namespace BF
open PySem PySem.Spec PyProof.Rows L2
theorem sc_law_refused : FnScope ["_law_mine", "_law_its", "_law_stand", "_law_part", "error"] ["_law_mine", "_law_its", "_law_stand"] (defScope (top 79)) := ⟨rfl, rfl, rfl, by decide +kernel, rfl, by decide +kernel, by decide +kernel⟩
noncomputable def refD (cs ds : List Pt) (q : RR) : D := if stnP cs ds q then .non else .str "stand"
def R_law_refused (as : List AV) (r : AV) : Prop := ∃ (cs ds : List Pt) (q : RR), PV cs ∧ PV ds ∧ Bq q.1 ∧ Bq q.2 ∧ as = [.pr cs, .pr ds, .d (stnD q)] ∧ r = .d (refD cs ds q)
theorem RS.agree {g : Ga} {H : Hp} {O : Addr → Prop} {σ σ2 : L2.St} {τ : AE} (r : RS g O H σ τ) (hl : σ2.length = σ.length) (h : ∀ (i : Nat) (a : AV), τ[i]? = some (some a) → σ2[i]? = σ[i]?) : RS g O H σ2 τ :=
  ⟨hl.trans r.len, fun i a e => let ⟨v, h1, h2⟩ := r.at_ i a e; ⟨v, (h i a e).trans h1, h2⟩, fun i j a b v ne hi hj ha hb si sj => r.sep i j a b v ne hi hj ha hb ((h i a hi).symm.trans si) ((h j b hj).symm.trans sj), r.wf⟩
theorem fn_law_refused {g : Ga} (W : Wx g) (base : Heap) : FnD g base "_law_refused" 15 ["_law_mine", "_law_its", "_law_stand"] [] R_law_refused := by
  obtain ⟨f, fd, hm, F⟩ := (W.fn "_law_refused" 79).ex
  obtain ⟨C, fI, fdI, hC, B, XC, ex⟩ := W.bs
  refine fnd_of (k := 14) hm F (F.binds fun _ _ _ _ _ _ us hl => match us, hl with | [_, _, _], _ => rfl) sc_law_refused (fun as r h => ?_) (fun as r h => ?_) fun cdv A outer s H E as r hr h => ?_
  · obtain ⟨_, _, _, _, _, _, _, rfl, _⟩ := h; rfl
  · obtain ⟨_, _, _, _, _, _, _, rfl, _⟩ := h; simp [AV.own]
  · obtain ⟨cs, ds, q, P, P', hx, hy, rfl, rfl⟩ := h
    have nd := sc_law_refused.nd
    obtain ⟨fw, fdw, w1, w2, w3, w4⟩ := fn_ways_onX W hC B base
    refine ds_set 3 de_non ?_
    let X := (cxOf CX0 g.P g.w g.K g.mg base ["_law_mine", "_law_its", "_law_stand", "_law_part", "error"] "_law_refused" (defScope (top 79)) f cdv A outer s H E).nox
    have fin : ∀ (τ : AE) (d : D), d = refD cs ds q → τ[3]? = some (some (.d d)) → DS X τ [(defBody (top 79)).getD 2 (.Pass ⟨0, 0, 0, 0⟩)] (fun _ => AV.d (refD cs ds q) = .d .non) (fun a => a = .d (refD cs ds q)) := fun τ d e ht => ds_ret (de_var 3 ht) (by rw [← e]; rfl)
    refine ⟨fun G D σ H2 x0 ⟨O, rs, eg, og⟩ n r => ?_⟩
    refine XSs.of (pss_cons (ps_try_as (i := 4) (c := .ref C) (Wout := fun _ _ _ _ => False) (tb := fun W => fun D σ H => ∀ pn xe, Takes (X.tr pn xe) W → XSs (X.tr pn xe) D σ H _) (ts := fun a cls d => fun D σ H => ∀ oe pn, Zc cls d oe → (∃ vs, oe.data = .fields vs) → XSs (X.suite a ((a, oe) :: pn)) D σ H _) rfl rfl nd rfl (by rfl) ⟨by rfl, by decide, .inl hC⟩ takes0
      (fun W pn xe t _ => ⟨fun pins s σ H D I h => h pn xe t pins s I⟩) (fun a oe cls d pn hz hf => ⟨fun pins s σ H D I h => h oe pn hz hf pins s I⟩)) (pss_can _ _)) ?_
    intro pn xe tk
    by_cases hs : stnP cs ds q
    · obtain ⟨ws, sw, mw⟩ := sl_ex (goalsS cs ds q)
      refine XSs.of (pss_cons (ps_expr (pe_can _ _) (by rfl)) pss_nil) ((show DE (X.tr pn xe) _ _ _ from c_ways_on (X := X.tr pn xe) W.toWn hr (de_vp 0) (de_vp 1) (de_vd 2) P P' hx hy hs sw mw).run O H2 _ _ rs fun v H3 e3 r3 => ?_)
      exact (fin _ .non (by simp [refD, hs]) rfl).run G D _ H3 x0 ⟨O, rs.mono e3, eg.trans e3, og⟩ n r
    · refine XSs.of (pss_cons (ps_expr (pe_callS (X := X.tr pn xe) w4 hr (by rfl) w1 w2 w3 (fun σ => passAt tk σ) (pa_can _ _)) (by rfl)) pss_nil) ?_
      refine (da_cons (X := X.tr pn xe) (de_vp (v := cs) 0) (da_cons (de_vp (v := ds) 1) (da_d (de_vd 2) da_nil))).run O H2 σ _ rs fun us H3 e3 r3 => ?_
      refine ⟨cs, ds, q, r3, P, P', hx, hy, hs, fun H' d e4 hd => ⟨true, ex, fun _ a ha oe pn2 hz hf => ?_, fun z => by cases z⟩⟩
      have l5 : σ.length = 5 := rs.len
      refine XSs.of (pss_cons (ps_set (i := 3) (X := X.suite a ((a, oe) :: pn2)) nd rfl (Or.inl rfl) (pe_xf XC B.np hz hf (pe_var (i := 4) rfl (Or.inl rfl) (by decide) (by decide))) (by rfl)) pss_nil) ?_
      refine ⟨.ref a, by rw [List.getElem?_set_self (by omega)], rfl, rfl, d, _, _, rfl, hd, rfl, ?_⟩
      have rs' := ((rs.mono (e3.trans e4)).putD (i := 3) (x := .str "stand") (.str "stand"))
      refine (fin _ (.str "stand") (by simp [refD, hs]) rfl).run G D _ H' x0 ⟨O, RS.agree rs' (by simp) fun i b hb => ?_, eg.trans (e3.trans e4), og⟩ n r
      have ne4 : 4 ≠ i := fun z => by subst z; cases hb
      rw [List.getElem?_set_ne ne4, List.set_comm _ _ (by decide), List.getElem?_set_ne ne4]
end BF

set_option Elab.async false
set_option linter.all false
set_option maxRecDepth 100000
set_option maxHeartbeats 2000000
set_option autoImplicit false
/-! repr of nested data, where nothing is being shown. -/
namespace BF
open PySem PySem.Spec PyProof.Rows L2
theorem call_reprT {X : Cx} (hg : X.A.guards = some []) : CallR X (.builtin "repr") (fun vs H Q => ∃ (a : Addr) (d : PyData), vs = [.ref a] ∧ Dp X.K H (.ref a) d ∧ d.showable = true ∧ d.hasDict = false ∧ X.A.units + (d.depth + 1) < cLine ∧ d.shown.length ≤ sizeLine ∧ Q (.str d.shown) H) := by
  intro pins s σ H xs us Q I r h
  obtain ⟨a, d, rfl, hd, h1, h2, h3, h4, q⟩ := h
  obtain ⟨u, rfl, ru⟩ : ∃ u, us = [u] ∧ RelV (.ref a) u := by
    cases r with
    | cons r1 r2 => cases r2; exact ⟨_, rfl, r1⟩
  obtain rfl : u = Value.ref a := ru
  obtain ⟨as, rd⟩ := Dp.reads I d _ _ hd rfl
  exact repr_of_reads' rd h1 (PyData.noDict_hsm h2) hg h3 (fun b o e => e) (fun h' u tk k => ⟨.str d.shown, H, I.kept (t' := tk) k, ⟨u, rfl⟩, q⟩) h4
end BF

set_option Elab.async false
set_option linter.all false
set_option maxRecDepth 100000
set_option maxHeartbeats 2000000
set_option autoImplicit false
/-! How long the texts are. -/
namespace BF
open PySem PySem.Spec PyProof.Rows L2
theorem short_int {i : Int} (h : i.natAbs ≤ 2 ^ 15) : (PyData.int i).leavesShort 13 = true := by
  have h1 := int_text_length_le10 (a := i) (k := 5) (by decide) (by omega)
  show decide ((PyData.shown (.int i)).length ≤ 13) = true
  refine decide_eq_true ?_
  show (Str.ofString (toString i)).length ≤ 13
  rw [PySem.ofString_length]
  omega
set_option exponentiation.threshold 3000
theorem show_int {i : Int} (h : i.natAbs ≤ 2 ^ 15) : (PyData.int i).showable = true := by
  show decide (i.natAbs.log2 < 1920) = true
  refine decide_eq_true ?_
  by_cases z : i.natAbs = 0
  · rw [z]; decide
  · exact (Nat.log2_lt z).mpr (Nat.lt_of_le_of_lt h (Nat.pow_lt_pow_right (by decide) (by decide)))
structure Sh (d : PyData) (k : Nat) : Prop where
  short : d.leavesShort 13 = true
  show_ : d.showable = true
  nod : d.hasDict = false
  wt : d.weight ≤ k
theorem sh_int {i : Int} (h : i.natAbs ≤ 2 ^ 15) : Sh (.int i) 17 := by
  refine ⟨short_int h, show_int h, rfl, ?_⟩
  show (if i == 0 then 0 else i.natAbs.log2 + 1) ≤ 17
  split
  · omega
  · rename_i z
    have z' : i.natAbs ≠ 0 := fun e => z (by
      have e2 : i = 0 := by omega
      rw [e2]; rfl)
    have := (Nat.log2_lt z').mpr (show i.natAbs < 2 ^ 16 by omega)
    omega
theorem sh_tup2 {a b : PyData} {k j : Nat} (ha : Sh a k) (hb : Sh b j) : Sh (.tuple [a, b]) (k + j + 2) := by
  refine ⟨?_, ?_, ?_, ?_⟩
  · simp [PyData.leavesShort, PyData.leavesShortAll, ha.short, hb.short]
  · simp [PyData.showable, PyData.showableAll, ha.show_, hb.show_]
  · simp [PyData.hasDict, PyData.hasDictAll, ha.nod, hb.nod]
  · have := ha.wt
    have := hb.wt
    simp [PyData.weight, PyData.weightAll]
    omega
theorem Sh.mono {d : PyData} {k j : Nat} (h : Sh d k) (e : k ≤ j) : Sh d j := ⟨h.short, h.show_, h.nod, Nat.le_trans h.wt e⟩
theorem sh_all {k : Nat} : ∀ ds : List D, (∀ d ∈ ds, Sh d.py k) → Sh (.tuple (D.pys ds)) ((k + 1) * ds.length)
  | [], _ => ⟨rfl, rfl, rfl, Nat.zero_le _⟩
  | d :: ds, h => by
    have h1 := h d (List.mem_cons_self ..)
    have ih := sh_all ds fun x hx => h x (List.mem_cons_of_mem _ hx)
    obtain ⟨a, b, c, e⟩ := ih
    simp only [PyData.leavesShort, PyData.showable, PyData.hasDict, PyData.weight] at a b c e
    refine ⟨?_, ?_, ?_, ?_⟩
    · simp [PyData.leavesShort, D.pys, PyData.leavesShortAll, h1.short, a]
    · simp [PyData.showable, D.pys, PyData.showableAll, h1.show_, b]
    · simp [PyData.hasDict, D.pys, PyData.hasDictAll, h1.nod, c]
    · have := h1.wt
      simp only [PyData.weight, D.pys, PyData.weightAll, List.length_cons]
      rw [Nat.mul_add, Nat.mul_one]
      omega
theorem sh_num {q : Rat} (h : Bq q) : Sh (numD q).py 36 := by
  have hn := h.n
  have hd := h.d
  unfold numD
  split
  · exact (sh_int hn).mono (by decide)
  · exact sh_tup2 (sh_int hn) (sh_int (by omega))
theorem sh_stn {p : RR} (h1 : Bq p.1) (h2 : Bq p.2) : Sh (stnD p).py 74 := sh_tup2 (sh_num h1) (sh_num h2)
theorem sh_stns {ws : List RR} (h : ∀ p ∈ ws, Bq p.1 ∧ Bq p.2) (hl : ws.length ≤ 1000) : Sh (D.tup (ws.map stnD)).py 75000 := by
  have := sh_all (k := 74) (ws.map stnD) fun d hd => by
    obtain ⟨p, hp, rfl⟩ := List.mem_map.mp hd
    exact sh_stn (h p hp).1 (h p hp).2
  exact Sh.mono (show Sh (.tuple (D.pys (ws.map stnD))) _ from this) (by rw [List.length_map]; omega)
theorem Sh.fits {d : PyData} {k : Nat} (h : Sh d k) (hk : k ≤ 2 ^ 20) : d.shown.length ≤ sizeLine := PyData.shown_fits (by decide) (by decide) h.short (Nat.le_trans h.wt hk)
end BF

set_option Elab.async false
set_option linter.all false
set_option maxRecDepth 100000
set_option maxHeartbeats 2000000
set_option autoImplicit false
/-! Sets of nested keys: small questions. -/
namespace BF
open PySem PySem.Spec PyProof.Rows L2
section
variable {P : Program} {w : World} {A : Around} {E : Value → Shared → Prop}
theorem nest_mem {h : Heap} : ∀ {ks : List NestedKey} {vs : List Value}, NestedAll h ks vs → ∀ v ∈ vs, ∃ k ∈ ks, NestedIs h k v
  | _, _, .nil, v, hv => by cases hv
  | _, _, .cons a t, v, hv => by
    rcases List.mem_cons.mp hv with rfl | hv
    · exact ⟨_, List.mem_cons_self .., a⟩
    · obtain ⟨k, h1, h2⟩ := nest_mem t v hv
      exact ⟨k, List.mem_cons_of_mem _ h1, h2⟩
theorem depth_mem : ∀ {ks : List NestedKey} {k : NestedKey}, k ∈ ks → k.depth ≤ NestedKey.depthAll ks
  | [], _, h => by cases h
  | a :: ks, k, h => by
    rcases List.mem_cons.mp h with rfl | h
    · simp only [NestedKey.depthAll]; omega
    · have := depth_mem h
      simp only [NestedKey.depthAll]; omega
/-- hashed by value, or not: it is told -/
theorem hbv_key : ∀ (n : Nat) (k : NestedKey) (v : Value) (s : Shared) (Q : Bool → Shared → Prop), NestedIs s.heap k v → (∀ b, Q b s) → wpAny (model P w) A (hashByValue n v) Q E s
  | n, k, v, s, Q, hk, q => by
    cases hk with
    | none => cases n <;> exact wpAny_pure (q _)
    | bool e => cases n <;> exact wpAny_pure (q _)
    | int i t => cases n <;> exact wpAny_pure (q _)
    | text x t => cases n <;> exact wpAny_pure (q _)
    | @tup a o vs m ks h1 h2 h3 h4 =>
      cases n with
      | zero => exact wpAny_pure (q _)
      | succ n =>
        have hT : s.TypeIs (.ref a) "tuple" := ⟨o, h1, h2⟩
        unfold hashByValue
        refine wpAny_bind (wpAny_specialOf hT F.slot_tuple_hash.lookup ?_)
        show wpAny _ _ (seqItems? (.ref a) >>= _) _ _ s
        refine wpAny_bind (wpAny_seqItems h1 h3 (wpAny_bind ?_))
        show wpAny _ _ (forIn vs _ _) _ _ s
        rw [← Array.forIn_toList]
        refine wpAny_forIn_list _ (fun us r t => t = s ∧ r.1 = none ∧ ∀ u ∈ us, ∃ k, NestedIs s.heap k u) _ ?_ ?_ _ _ ⟨rfl, rfl, fun u hu => let ⟨k, _, z⟩ := nest_mem h4 u hu; ⟨k, z⟩⟩
        · intro u us r t ⟨et, _, hall⟩
          subst et
          obtain ⟨k', hk'⟩ := hall u List.mem_cons_self
          refine wpAny_bind (hbv_key n k' u t _ hk' fun b => ?_)
          cases b with
          | false =>
            simp only [Bool.not_false, if_true]
            exact wpAny_pure (wpAny_pure (q false))
          | true =>
            simp only [Bool.not_true, Bool.false_eq_true, if_false]
            exact wpAny_pure ⟨rfl, rfl, fun z hz => hall z (List.mem_cons_of_mem _ hz)⟩
        · intro ⟨r1, r2⟩ t ⟨et, er, _⟩
          have er' : r1 = none := er
          subst et er'
          exact wpAny_pure (q true)
/-- a key is no tuple of a class statement -/
theorem oac_key : ∀ (n : Nat) (k : NestedKey) (v : Value) (s : Shared) (Q : Bool → Shared → Prop), NestedIs s.heap k v → k.depth ≤ n → Q false s → wpAny (model P w) A (ofAClassStatement n v) Q E s
  | n, k, v, s, Q, hk, hn, q => by
    cases hk with
    | none => cases n <;> exact wpAny_pure q
    | bool e => cases n <;> exact wpAny_pure q
    | int i t => cases n <;> exact wpAny_pure q
    | text x t => cases n <;> exact wpAny_pure q
    | @tup a o vs m ks h1 h2 h3 h4 =>
      rw [NestedKey.depth] at hn
      cases n with
      | zero => exact absurd hn (by omega)
      | succ n =>
        have hT : s.TypeIs (.ref a) "tuple" := ⟨o, h1, h2⟩
        unfold ofAClassStatement
        refine wpAny_bind (wpAny_typeOf hT ?_)
        have e : (("tuple" : String) == "tuple") = true := by decide
        dsimp only
        simp only [e, if_true, Bool.not_true, Bool.false_eq_true, if_false]
        try refine wpAny_bind (wpAny_pure ?_)
        try simp only [Bool.not_true, Bool.false_eq_true, if_false]
        show wpAny _ _ (seqItems? (.ref a) >>= _) _ _ s
        refine wpAny_bind (wpAny_seqItems h1 h3 (wpAny_bind ?_))
        show wpAny _ _ (forIn vs _ _) _ _ s
        rw [← Array.forIn_toList]
        refine wpAny_forIn_list _ (fun us r t => t = s ∧ r.1 = none ∧ ∀ u ∈ us, ∃ k, NestedIs s.heap k u ∧ k.depth ≤ n) _ ?_ ?_ _ _ ⟨rfl, rfl, fun u hu => let ⟨k, hm, z⟩ := nest_mem h4 u hu; ⟨k, z, by have := depth_mem hm; omega⟩⟩
        · intro u us r t ⟨et, _, hall⟩
          subst et
          obtain ⟨k', hk', hd'⟩ := hall u List.mem_cons_self
          refine wpAny_bind (oac_key n k' u t _ hk' hd' ?_)
          simp only [Bool.false_eq_true, if_false]
          exact wpAny_pure ⟨rfl, rfl, fun z hz => hall z (List.mem_cons_of_mem _ hz)⟩
        · intro ⟨r1, r2⟩ t ⟨et, er, _⟩
          have er' : r1 = none := er
          subst et er'
          exact wpAny_pure q
/-- a stored key: where it lies, and which -/
def Key8 (h : Heap) (p : Addr × NestedKey) : Prop := NestedIs h p.2 (.ref p.1) ∧ p.2.depth ≤ 8
/-- a search among keys can't be seen -/
theorem seen_key {s : Shared} {p : Addr × NestedKey} {ys : List Value} {Q : Bool → Shared → Prop} (hp : Key8 s.heap p) (hy : ∀ y ∈ ys, ∃ q, y = Value.ref q.1 ∧ Key8 s.heap q) (q : Q false s) :
    wpAny (model P w) A (searchCouldBeSeen (.ref p.1) ys) Q E s := by
  unfold searchCouldBeSeen
  refine wpAny_bind (wpAny_forIn_list _ (fun us r t => t = s ∧ r.1 = none ∧ ∀ y ∈ us, ∃ q, y = Value.ref q.1 ∧ Key8 s.heap q) _ ?_ ?_ _ _ ⟨rfl, rfl, hy⟩)
  · intro u us r t ⟨et, _, hall⟩
    subst et
    obtain ⟨z, rfl, hz⟩ := hall u List.mem_cons_self
    have next : ∀ y ∈ us, ∃ q, y = Value.ref q.1 ∧ Key8 t.heap q := fun y m => hall y (List.mem_cons_of_mem _ m)
    dsimp only
    by_cases hv : (p.1 == z.1 || (carriedByValue (.ref p.1) && carriedByValue (.ref z.1))) = true
    · exact wp_if_pos hv (wpAny_pure ⟨rfl, rfl, next⟩)
    · refine wp_if_neg hv (wpAny_bind (quiet_key p.2 _ 8 t hp.1 hp.2 A E _ ?_))
      simp only [Bool.not_true, Bool.false_eq_true, if_false]
      refine wpAny_bind (quiet_key z.2 _ 8 t hz.1 hz.2 A E _ ?_)
      simp only [Bool.not_true, Bool.false_eq_true, if_false]
      refine wpAny_bind (oac_key 8 p.2 _ t _ hp.1 hp.2 ?_)
      simp only [Bool.false_eq_true, if_false]
      refine wpAny_bind (oac_key 8 z.2 _ t _ hz.1 hz.2 ?_)
      simp only [Bool.false_eq_true, if_false]
      exact wpAny_pure ⟨rfl, rfl, next⟩
  · intro ⟨r1, r2⟩ t ⟨et, er, _⟩
    have er' : r1 = none := er
    subst et er'
    exact wpAny_pure q
end
end BF

set_option Elab.async false
set_option linter.all false
set_option maxRecDepth 100000
set_option maxHeartbeats 2000000
set_option autoImplicit false
/-! Sets of at most four nested keys, all unlike: search and add. -/
namespace BF
open PySem PySem.Spec PyProof.Rows L2
def rowN (w : World) (p : Addr × NestedKey) : Int × Value := (p.2.hash w, Value.ref p.1)
/-- the set at a holds these keys, in a table of eight places -/
structure Few (w : World) (h : Heap) (a : Addr) (L : List (Addr × NestedKey)) (es : Array (Int × Value)) (ep : Nat) (t : SetTable) : Prop where
  ob : ∃ o, h.get? a = some o ∧ o.ExactSet ∧ o.data = .set es ep t
  rows : es.toList = L.map (rowN w)
  tab : TabOk t (L.map fun p => p.2.hash w)
  keys : ∀ p ∈ L, Key8 h p
  seven : t.mask = 7
  four : L.length ≤ 4
/-- the c-th step of the way of a hash -/
def stp (m : Nat) (h : Int) (c : Nat) : SetTable.Probe := nth m (runAt m (SetTable.bits h % (m + 1)) (SetTable.bits h)) c
theorem stp_on (m : Nat) (h : Int) (c q : Nat) : nth m (stp m h c) q = stp m h (c + q) := (nth_add m c _ q).symm
theorem nth_dm (m : Nat) : ∀ (n : Nat) (p : SetTable.Probe), p.dummy = none → (nth m p n).dummy = none
  | 0, _, e => e
  | n + 1, p, e => nth_dm m n (adv m p) (by unfold adv; split <;> exact e)
section
variable {P : Program} {w : World} {A : Around} {E : Value → Shared → Prop} {s : Shared} {a : Addr} {L : List (Addr × NestedKey)} {es : Array (Int × Value)} {ep : Nat} {t : SetTable}
theorem Few.size (R : Few w s.heap a L es ep t) : es.size = L.length := by rw [← Array.length_toList, R.rows, List.length_map]
theorem Few.tsz (R : Few w s.heap a L es ep t) : t.place.size = L.length := by rw [R.tab.sz, List.length_map]
theorem Few.fit (R : Few w s.heap a L es ep t) : t.fits es.size = true := by
  have h1 := R.tsz
  have h2 := R.size
  have h3 := R.four
  have h4 := R.seven
  unfold SetTable.fits SetTable.fill
  rw [R.tab.dm, Bool.and_eq_true, beq_iff_eq, decide_eq_true_eq]
  show t.place.size = es.size ∧ t.place.size + 0 ≤ t.mask
  omega
theorem Few.at (R : Few w s.heap a L es ep t) {i : Nat} {p : Addr × NestedKey} (h : L[i]? = some p) : es[i]? = some (rowN w p) := by
  rw [← Array.getElem?_toList, R.rows, List.getElem?_map, h] <;> rfl
theorem Few.gw (R : Few w s.heap a L es ep t) : t.gaveWay ≠ true := by
  unfold SetTable.gaveWay
  rw [R.seven]
  decide
/-- an entry met on the way is another key: the search goes on -/
theorem few_met {k : NestedKey} {x : Addr} {f j i : Nat} {nx : SetTable.Probe} {Q : SetFound → Shared → Prop} (R : Few w s.heap a L es ep t) (hx : Key8 s.heap (x, k)) (hu : A.units + 8 < cLine) (hn : k ∉ L.map (·.2))
    (hi : t.place.toList[i]? = some j) (go : wpAny (model P w) A (setSearchFrom a (.ref x) (k.hash w) true f (some nx)) Q E s) :
    wpAny (model P w) A (searchRest a (.ref x) (k.hash w) true f es t j i nx) Q E s := by
  obtain ⟨o, ho, hex, hd⟩ := R.ob
  have hil : i < L.length := by
    have h1 := (List.getElem?_eq_some_iff.mp hi).1
    rw [Array.length_toList, R.tsz] at h1
    exact h1
  have hp : L[i]? = some L[i] := List.getElem?_eq_getElem hil
  have hm : L[i] ∈ L := List.getElem_mem hil
  generalize L[i] = p at hp hm
  have hkp := R.keys p hm
  have ne : p.2 ≠ k := fun e => hn (e ▸ List.mem_map_of_mem hm)
  have nb : NestedKey.beq p.2 k = false := by rw [← NestedKey.decide_eq, decide_eq_false ne]
  unfold searchRest
  rw [R.at hp]
  show wpAny _ _ (holding [Value.ref p.1] (eqBool (.ref p.1) (.ref x)) >>= _) _ _ s
  refine wpAny_bind (wpAny_holding ((nestedKind P w).eqBool hu hkp hx ?_))
  rw [decide_eq_false ne]
  refine wpAny_bind (wpAny_setState_of ho hd R.fit ?_)
  dsimp only
  refine wp_if_neg (by simp) ?_
  try refine wpAny_bind (wpAny_pure ?_)
  rw [sameMem]
  dsimp only
  simp only [if_true, slot_live R.tab.ris hi, R.at hp]
  refine wpAny_bind (wpAny_isSame_ref_self (wpAny_bind (wpAny_pure ?_)))
  simp only [if_true]
  exact wp_if_neg (by simp) go
/-- a key that isn't there: the search ends at the first empty place of its way -/
theorem few_search {k : NestedKey} {x : Addr} {K : Nat} {Q : SetFound → Shared → Prop} (R : Few w s.heap a L es ep t) (hx : Key8 s.heap (x, k)) (hu : A.units + 8 < cLine) (hn : k ∉ L.map (·.2))
    (hf : K < 10 * SetTable.turns t.mask) (hK : way t.mask (k.hash w) K ∉ t.place.toList) (hb : ∀ c, c < K → way t.mask (k.hash w) c ∈ t.place.toList) (q : Q (.free (way t.mask (k.hash w) K) false) s) :
    ∀ (f c : Nat) (st : Option SetTable.Probe), st.getD (t.probeStart (k.hash w)) = stp t.mask (k.hash w) c → c ≤ K → K < c + f → wpAny (model P w) A (setSearchFrom a (.ref x) (k.hash w) true f st) Q E s
  | 0, c, st, _, h1, h2 => absurd h2 (by omega)
  | f + 1, c, st, hst, h1, h2 => by
    obtain ⟨o, ho, hex, hd⟩ := R.ob
    rw [setSearchFrom_succ]
    refine wpAny_bind (wpAny_setState_of ho hd R.fit ?_)
    dsimp only
    refine wp_if_neg R.gw ?_
    try refine wpAny_bind (wpAny_pure ?_)
    have way_of : ∀ q, (nth t.mask (stp t.mask (k.hash w) c) q).j = way t.mask (k.hash w) (c + q) := fun q => congrArg SetTable.Probe.j (stp_on t.mask (k.hash w) c q)
    have back : c + (K - c) = K := by omega
    rw [hst]
    rcases go_spec t R.tab.ris R.tab.dm (fun i => (es[i]?.map (·.1)).getD 0) (k.hash w) (10 * SetTable.turns t.mask) (K - c) (stp t.mask (k.hash w) c) (nth_dm _ _ _ rfl) (by omega)
      (fun q hq => by rw [way_of]; exact hb _ (by omega)) (by rw [way_of, back]; exact hK) with ⟨q', i, hq, hi, _, _, pr⟩ | ⟨_, pr⟩
    · have pr' : t.probe (fun i => (es[i]?.map (·.1)).getD 0) (k.hash w) (stp t.mask (k.hash w) c) = some (.candidate (nth t.mask (stp t.mask (k.hash w) c) q').j i (stp t.mask (k.hash w) (c + (q' + 1)))) := by
        rw [← stp_on]; exact pr
      rw [pr']
      dsimp only
      have rest := few_met (f := f) (nx := stp t.mask (k.hash w) (c + (q' + 1))) R hx hu hn hi (few_search R hx hu hn hf hK hb q f (c + (q' + 1)) _ rfl (by omega) (by omega))
      by_cases hl : t.led = true
      · refine wp_if_neg (by simp [hl]) ?_
        try refine wpAny_bind (wpAny_pure ?_)
        exact rest
      · refine wp_if_pos (by simp [hl]) (wpAny_bind (seen_key hx (fun y hy => ?_) ?_))
        · obtain ⟨e, he, rfl⟩ := List.mem_map.mp hy
          have he2 : e ∈ es.toList := by
            have z : e ∈ es ∧ e.1 = k.hash w := by simpa using he
            simpa using z.1
          rw [R.rows] at he2
          obtain ⟨p, hp, rfl⟩ := List.mem_map.mp he2
          exact ⟨p, rfl, R.keys p hp⟩
        · refine wp_if_neg (by decide) ?_
          try refine wpAny_bind (wpAny_pure ?_)
          exact rest
    · have pr' : t.probe (fun i => (es[i]?.map (·.1)).getD 0) (k.hash w) (stp t.mask (k.hash w) c) = some (.empty (way t.mask (k.hash w) K) none) := by
        rw [show way t.mask (k.hash w) K = (nth t.mask (stp t.mask (k.hash w) c) (K - c)).j by rw [way_of, back]]
        exact pr
      rw [pr']
      exact wpAny_pure q
theorem key8_same {h h' : Heap} {p : Addr × NestedKey} {a : Addr} {o : Obj} {es : Array (Int × Value)} {ep : Nat} {t : SetTable} (x : Key8 h p) (ho : h.get? a = some o) (hd : o.data = .set es ep t) (hs : Heap.SameBut a h h') : Key8 h' p :=
  ⟨NestedIs.at (fun b ob vs n hb hc => by
    refine (hs.2 b fun e => ?_).trans hb
    subst e
    obtain rfl := Option.some.inj (ho.symm.trans hb)
    rw [hd] at hc
    exact nomatch hc) _ _ x.1, x.2⟩
theorem key8_keep {h h' : Heap} {p : Addr × NestedKey} (x : Key8 h p) (hk : ∀ b o, h.get? b = some o → h'.get? b = some o) : Key8 h' p := ⟨NestedIs.at (fun b ob _ _ hb _ => hk b ob hb) _ _ x.1, x.2⟩
/-- a key that isn't there is put in -/
theorem few_add {k : NestedKey} {x : Addr} {Q : Bool → Shared → Prop} (R : Few w s.heap a L es ep t) (hx : Key8 s.heap (x, k)) (hu : A.units + 8 < cLine) (hn : k ∉ L.map (·.2)) (h3 : L.length ≤ 3)
    (q : ∀ h' L' es' ep' t', Heap.SameBut a s.heap h' → Few w h' a L' es' ep' t' → L'.Perm ((x, k) :: L) → Q true { s with heap := h' }) :
    wpAny (model P w) A (setAddHashed a (.ref x) (k.hash w)) Q E s := by
  obtain ⟨o, ho, hex, hd⟩ := R.ob
  have hsl := R.size
  obtain ⟨K, hf, hK, hb⟩ := R.tab.first (by rw [List.length_map, R.seven]; omega) (k.hash w)
  have t7 : SetTable.turns t.mask ≤ 1000 := by
    unfold SetTable.turns
    rw [R.seven]
    decide
  unfold setAddHashed
  refine wpAny_holding ?_
  rw [show (100000 : Nat) = 99999 + 1 from rfl, setAddHashedIn_succ]
  refine wpAny_bind (wpAny_setState_of ho hd R.fit ?_)
  dsimp only
  refine wp_if_neg (by simp [byScan, Value.scannable]) ?_
  try refine wpAny_bind (wpAny_pure ?_)
  unfold setSearch
  refine wpAny_bind (few_search R hx hu hn hf hK hb ?_ 100000 0 none rfl (Nat.zero_le _) (by omega))
  dsimp only
  refine wpAny_bind (wpAny_setState_of ho hd R.fit ?_)
  dsimp only
  obtain ⟨q1, q2, q3, q4, q5, q6, q7, q8, q9⟩ := R.tab.put hK hb
  generalize t.put (way t.mask (k.hash w) K) = pt at q1 q3 q4 q5 q6 q7 q8 q9 ⊢
  obtain ⟨t1, p⟩ := pt
  dsimp only at q1 q3 q4 q5 q6 q7 q8 q9 ⊢
  subst q1
  generalize SetTable.below t.place (way t.mask (k.hash w) K) = p at q2 q3 ⊢
  have pm := put_perm L p (x, k)
  have rows1 : (SetTable.insertAt es p (k.hash w, Value.ref x)).toList = (L.take p ++ (x, k) :: L.drop p).map (rowN w) := by
    rw [SetTable.toList_insertAt, R.rows, List.map_append, List.map_cons, List.map_take, List.map_drop]; rfl
  have tab1 : TabOk t1 ((L.take p ++ (x, k) :: L.drop p).map fun p => p.2.hash w) := by
    rw [List.map_append, List.map_cons, List.map_take, List.map_drop]; exact q3
  generalize SetTable.insertAt es p (k.hash w, Value.ref x) = es1 at rows1 ⊢
  generalize L.take p ++ (x, k) :: L.drop p = L1 at pm rows1 tab1
  have len1 : L1.length = L.length + 1 := pm.length_eq
  have es1n : es1.size = L.length + 1 := by rw [← Array.length_toList, rows1, List.length_map, len1]
  have full : ∀ t2 : SetTable, t2.fill = t1.fill → t2.mask = t1.mask → t2.tooFull = false := fun t2 e1 e2 => by
    unfold SetTable.tooFull
    rw [e1, e2, q9, q4, R.seven, List.length_map, decide_eq_false_iff_not]
    omega
  have store : ∀ (t2 : SetTable) (Q2 : Unit → Shared → Prop), t2.place = t1.place → t2.dummies = t1.dummies → t2.mask = t1.mask →
      (∀ h', Heap.SameBut a s.heap h' → Few w h' a L1 es1 (ep + 1) t2 → Q2 () { s with heap := h' }) → wpAny (model P w) A (storeSet a es1 t2) Q2 E s := fun t2 Q2 e1 e2 e3 q2 => by
    refine wpAny_storeSet_of ho hd ?_ (by rw [es1n, sizeLine_eq]; omega)
    have sb : Heap.SameBut a s.heap (s.heap.update a (Obj.putSet es1 t2)) := Heap.SameBut.update ..
    refine q2 _ sb ⟨⟨_, store_at (es' := es1) (t' := t2) ho hd, ⟨hex.1, hex.2.1, hex.2.2⟩, rfl⟩, rows1, ?_, fun z hz => ?_, by rw [e3, q4]; exact R.seven, by omega⟩
    · obtain ⟨c1, c2, c3, c4, c5, c6⟩ := tab1
      exact ⟨by rw [e1]; exact c1, by rw [e2]; exact c2, by rw [e1]; exact c3, by rw [e3]; exact c4, by rw [e1, e3]; exact c5, by rw [e1, e3]; exact c6⟩
    · rcases List.mem_cons.mp (pm.mem_iff.mp hz) with e | hz
      · rw [e]; exact key8_same hx ho hd sb
      · exact key8_same (R.keys z hz) ho hd sb
  have go : ∀ b : Bool, wpAny (model P w) A (do
      storeSet a es1 (if b = true then t1 else { t1 with plain := false })
      if (!false && (if b = true then t1 else { t1 with plain := false }).tooFull) = true then setRelay a (SetTable.grown (es.size + 1))
      pure true) Q E s := fun b => by
    cases b with
    | true =>
      refine wpAny_bind (store _ _ rfl rfl rfl fun h' sb R' => ?_)
      refine wp_if_neg (by simp [full t1 rfl rfl]) ?_
      first
        | exact wpAny_pure (q _ _ _ _ _ sb R' pm)
        | exact wpAny_bind (wpAny_pure (wpAny_pure (q _ _ _ _ _ sb R' pm)))
    | false =>
      refine wpAny_bind (store _ _ rfl rfl rfl fun h' sb R' => ?_)
      refine wp_if_neg (by simp [full { t1 with plain := false } rfl rfl]) ?_
      first
        | exact wpAny_pure (q _ _ _ _ _ sb R' pm)
        | exact wpAny_bind (wpAny_pure (wpAny_pure (q _ _ _ _ _ sb R' pm)))
  by_cases hp : t1.plain = true
  · first
      | exact wp_if_pos hp (wpAny_bind (hbv_key 8 k _ s _ hx.1 fun b => go b))
      | exact wpAny_bind (wp_if_pos hp (hbv_key 8 k _ s _ hx.1 fun b => go b))
  · first
      | exact wp_if_neg hp (wpAny_bind (wpAny_pure (go true)))
      | exact wpAny_bind (wp_if_neg hp (wpAny_pure (go true)))
end
end BF

set_option Elab.async false
set_option linter.all false
set_option maxRecDepth 100000
set_option maxHeartbeats 4000000
set_option autoImplicit false
/-! set(t), t a tuple of at most four nested keys, all unlike. -/
namespace BF
open PySem PySem.Spec PyProof.Rows L2
section
variable {P : Program} {w : World} {A : Around} {E : Value → Shared → Prop} {s : Shared}
def bareSet (w : World) : Obj := { cls := .type "set", dict := none, data := .set #[] 0 (.fresh 0 0 (!w.params.followText "set-order")) }
theorem few_none {h : Heap} {a : Addr} (ho : h.get? a = some (bareSet w)) : Few w h a [] #[] 0 (.fresh 0 0 (!w.params.followText "set-order")) :=
  ⟨⟨_, ho, ⟨rfl, rfl, rfl⟩, rfl⟩, rfl, ⟨.nil, rfl, rfl, .inl rfl, (fun _ z => nomatch z), (fun i h j z => nomatch (show (none : Option Int) = some h from z))⟩, (fun _ z => nomatch z), rfl, Nat.zero_le _⟩
theorem few_keep {h h' : Heap} {a : Addr} {L : List (Addr × NestedKey)} {es : Array (Int × Value)} {ep : Nat} {t : SetTable} (R : Few w h a L es ep t) (k : ∀ o, h.get? a = some o → h'.get? a = some o) (kk : ∀ p ∈ L, Key8 h' p) : Few w h' a L es ep t := by
  obtain ⟨⟨o, ho, r⟩, r2, r3, _, r5, r6⟩ := R
  exact ⟨⟨o, k o ho, r⟩, r2, r3, kk, r5, r6⟩
/-- what the set has when i of the keys are in, and what stood before still stands -/
def Mid (w : World) (h0 : Heap) (S : Addr) (ks : List (Addr × NestedKey)) (i : Nat) (h : Heap) : Prop := (∃ L es ep t, Few w h S L es ep t ∧ L.Perm (ks.take i)) ∧ ∀ b o, h0.get? b = some o → h.get? b = some o
theorem few_loop {I S : Addr} {fp wr : List Addr} {G : Array GenState → Array GenState → Prop} {ks : List (Addr × NestedKey)} {Pv : Nat → Value → Prop} {St : Nat → Shared → Prop} {R : Result → Shared → Prop} {h0 : Heap}
    (W : WalksS P w A.in1 I fp wr G ks.length Pv St) (hSf : S ∉ fp) (h4 : ks.length ≤ 4) (nd : (ks.map (·.2)).Nodup) (hval : ∀ i v, Pv i v → ∃ p, ks[i]? = some p ∧ v = .ref p.1)
    (hk : ∀ p ∈ ks, Key8 h0 p) (hS : h0.get? S = none) (hwr : ∀ b ∈ wr, h0.get? b = none) (hu : A.in1.units + 8 < cLine) :
    ∀ (m i : Nat) (s : Shared), i + m = ks.length → St i s → Mid w h0 S ks i s.heap → (∀ s', Moved (S :: wr) G s s' → Mid w h0 S ks ks.length s'.heap → R (.ok (.ret .none)) s') →
      codeAny (model P w) A (.builtin "set.update.loop" ⟨[.ref S, .ref I], []⟩) R s := by
  have hSw : S ∉ wr := fun h => hSf (W.sub _ h)
  have up : ∀ b ∈ wr, b ∈ S :: wr := fun b hb => List.mem_cons_of_mem _ hb
  have stay : ∀ {i : Nat} {s s' : Shared}, Moved wr G s s' → Mid w h0 S ks i s.heap → Mid w h0 S ks i s'.heap := fun {i s s'} mv ⟨⟨L, es, ep, t, fw, pm⟩, k0⟩ => by
    have k1 : ∀ b o, h0.get? b = some o → s'.heap.get? b = some o := fun b o e => mv.heap b o (fun hb => by rw [hwr b hb] at e; exact nomatch e) (k0 b o e)
    exact ⟨⟨L, es, ep, t, few_keep fw (fun o e => mv.heap S o hSw e) fun p hp => key8_keep (hk p (List.mem_of_mem_take (pm.mem_iff.mp hp))) k1, pm⟩, k1⟩
  intro m
  induction m with
  | zero =>
    intro i s hi hst mid hR
    obtain rfl : i = ks.length := by omega
    refine codeAny_builtin F.entry_set_update_loop ?_
    rw [Around.under_plainId F.plain_set_update_loop _]
    show wpAny _ A.in1 (pyNext (.ref I) >>= _) _ _ s
    exact wpAny_bind (W.done s _ _ hst fun s' mv => wpAny_pure (hR s' (mv.mono up) (stay mv mid)))
  | succ m ih =>
    intro i s hi hst mid hR
    refine codeAny_builtin F.entry_set_update_loop ?_
    rw [Around.under_plainId F.plain_set_update_loop _]
    show wpAny _ A.in1 (pyNext (.ref I) >>= _) _ _ s
    refine wpAny_bind (W.item i s _ _ (by omega) hst fun v s' hP hst' mv => ?_)
    obtain ⟨⟨x, k⟩, hp, rfl⟩ := hval i v hP
    obtain ⟨⟨L, es, ep, t, fw, pm⟩, k1⟩ := stay mv mid
    have hx : Key8 s'.heap (x, k) := key8_keep (hk _ (List.mem_of_getElem? hp)) k1
    have hil : i < ks.length := by omega
    have hks : ks.take (i + 1) = ks.take i ++ [(x, k)] := by rw [List.take_add_one, hp]; rfl
    have hn : k ∉ L.map (·.2) := fun hm => by
      have nd1 : ((ks.take (i + 1)).map (·.2)).Nodup := nd.sublist ((List.take_sublist _ _).map _)
      rw [hks, List.map_append] at nd1
      exact (List.nodup_append.mp nd1).2.2 _ ((pm.map (·.2)).mem_iff.mp hm) _ (List.mem_singleton.mpr rfl) rfl
    have len : L.length ≤ 3 := by rw [pm.length_eq, List.length_take]; omega
    show wpAny _ A.in1 (holding [Value.ref x] (setAdd S (.ref x)) >>= _) _ _ s'
    refine wpAny_bind (wpAny_holding ?_)
    unfold setAdd
    refine wpAny_holding (wpAny_bind (pyHash_key k _ _ _ _ hx.1 (by have := hx.2; dsimp only at this; omega) ?_))
    refine few_add (s := { s' with toks := s'.toks + k.draws }) fw hx hu hn len fun h' L' es' ep' t' sb fw' pm' => wpAny_pure ⟨plainId_quiet F.plain_set_update_loop _, ih (i + 1) _ (by omega) (W.frame _ s' _ _ hst' (Nat.le_add_right _ _) fun b hb o e => ?_) ⟨⟨L', es', ep', t', fw', ?_⟩, fun b o e => ?_⟩ fun s'' mv' mid' => hR s'' (Moved.trans W.gtrans ((mv.mono up).then_heap (Nat.le_add_right _ _) fun b o hb e => ?_) mv') mid'⟩
    · rw [sb.2 b fun z : b = S => hSf (z ▸ hb)]; exact e
    · rw [hks]
      exact (pm'.trans (pm.cons _)).trans (List.perm_append_comm (l₁ := [(x, k)]))
    · exact (sb.2 b fun z => by rw [z, hS] at e; exact nomatch e).trans (k1 b o e)
    · rw [sb.2 b fun z : b = S => hb (by rw [z]; exact List.mem_cons_self)]; exact e
theorem get_new {h : Heap} {b : Addr} (hb : h.objs.size ≤ b) : h.get? b = none := by
  cases q : h.get? b with
  | none => rfl
  | some o => exact absurd (Heap.lt_size q) (Nat.not_lt.mpr hb)
/-- set(t) -/
theorem call_few {l : Addr} {items : Array Value} (ks : List (Addr × NestedKey)) {Q : Value → Shared → Prop} (hh : A.handled = none) (hl : s.heap.IsTuple l items) (hit : items.toList = ks.map fun p => Value.ref p.1)
    (hk : ∀ p ∈ ks, Key8 s.heap p) (h4 : ks.length ≤ 4) (nd : (ks.map (·.2)).Nodup) (hu : A.units + 11 < cLine)
    (q : ∀ (h' : Heap) (tk : Nat), Mid w s.heap s.heap.objs.size ks ks.length h' → Q (.ref s.heap.objs.size) { s with heap := h', toks := tk }) : wpAny (model P w) A (call (.type "set") [.ref l]) Q E s := by
  have hlen : items.size = ks.length := by
    have z := congrArg List.length hit
    rwa [Array.length_toList, List.length_map] at z
  obtain ⟨c, tl, hmro⟩ := F.called_set.mro
  have made := F.called_set.made
  have sub := F.called_set.sub
  have nt := F.called_set.notType
  have cc := F.called_set.canCreate
  have tc := F.typeCall_set_1 (.ref l)
  refine wpAny_call (codeAny_of_tree ?_)
  show wpAny _ _ (callAny (.type "set") _) _ _ _
  refine wpAny_pure ⟨Code.quiet_builtin _ (by decide +kernel), codeAny_builtin F.entry_type_call ?_⟩
  rw [Around.under_plain (weight_type_call_type "set" [.ref l] []) rfl]
  repeat (any_goals (first | assumption | wp_step))
  refine codeAny_mono (code_set_led1 (.ref l) (E := E) (Q₁ := fun x t => x = .ref s.heap.objs.size ∧ t = { s with heap := s.heap.push (bareSet w) }) ⟨rfl, rfl⟩) fun r t ht => ?_
  match r, ht with
  | .error e, ht => exact ht
  | .ok .next, ht => exact ht.elim
  | .ok .brk, ht => exact ht.elim
  | .ok .cont, ht => exact ht.elim
  | .ok (.ret x), ⟨ex, et⟩ =>
    subst ex et
    have hS : (s.heap.push (bareSet w)).get? s.heap.objs.size = some (bareSet w) := Heap.get?_push_size _ rfl
    have hT : Shared.TypeIs { s with heap := s.heap.push (bareSet w) } (.ref s.heap.objs.size) "set" := ⟨_, hS, rfl⟩
    have li := F.called_set.init.lookup
    have bi := F.called_set.init.bind (.ref s.heap.objs.size)
    repeat (any_goals (first | assumption | wp_step))
    refine codeAny_mono (codeAny_call_builtin (R := wants (fun r t => r = .none ∧ ∃ h' tk, t = { s with heap := h', toks := tk } ∧ Mid w s.heap s.heap.objs.size ks ks.length h') E) F.called_set.init.plain F.entry_set_init (check_set_init_1 hT ?_)) fun r2 t2 ht2 => ?_
    · obtain ⟨⟨oc, od, odt, os⟩, ho, hc, n, hd⟩ := hl
      simp only at hc hd
      subst hc hd
      have ho1 : (s.heap.push (bareSet w)).get? l = some { cls := .type "tuple", dict := od, data := .seq items n, slots := os } := Heap.get?_push_of_some _ ho
      have st := F.sub_tuple_set
      have sf := F.sub_tuple_frozenset
      have ne : (Value.type "tuple" == Value.type "dict") = false := by decide
      have hl1 : (s.heap.push (bareSet w)).IsTuple l items := ⟨_, ho1, rfl, n, rfl⟩
      unfold Builtin.«set.__init__» noKeywords Builtin.Frozenset.updateFrom
      generalize hPI : pyIter = PI
      wp_walk
      subst hPI
      refine wpAny_pyIter_tuple hl1 (wpAny_bind (wpAny_runValue ?_))
      have hls : l < s.heap.objs.size := Heap.lt_size ho
      have sz : (s.heap.push (bareSet w)).objs.size = s.heap.objs.size + 1 := Heap.size_push ..
      have hlI : l ≠ (s.heap.push (bareSet w)).objs.size := by rw [sz]; exact Nat.ne_of_lt (Nat.lt_succ_of_lt hls)
      have hSf : s.heap.objs.size ∉ [(s.heap.push (bareSet w)).objs.size, l] := by
        rw [sz]; simp only [List.mem_cons, List.mem_singleton, List.not_mem_nil, or_false, not_or]; exact ⟨Nat.ne_of_lt (Nat.lt_succ_self _), Nat.ne_of_gt hls⟩
      have W := (Walks.tuple (prog := P) (w := w) (A := A.in1.in1.in1) (by simp [hh]) _ l hlI items).toS
      rw [hlen] at W
      refine few_loop W hSf h4 nd (fun i v hv => ?_) hk (get_new (Nat.le_refl _)) (fun b hb => ?_) hu ks.length 0 _ (by omega) ⟨⟨_, Heap.get?_push_size _ rfl, rfl, rfl⟩, hl1.push _⟩ ⟨⟨[], #[], 0, _, few_none (Heap.get?_push_of_some _ hS), .nil⟩, fun b o e => Heap.get?_push_of_some _ (Heap.get?_push_of_some _ e)⟩ fun s' mv mid => ?_
      · have z : items.toList[i]? = some v := by rw [Array.getElem?_toList]; exact hv
        rw [hit, List.getElem?_map] at z
        obtain ⟨p, h1, h2⟩ := Option.map_eq_some_iff.mp z
        exact ⟨p, h1, h2.symm⟩
      · rw [List.mem_singleton.mp hb, sz]; exact get_new (Nat.le_succ _)
      · obtain ⟨h', g2, d2, tk, os2⟩ := s'
        obtain rfl : g2 = s.gens := mv.gens
        obtain rfl : d2 = s.drawn := mv.drawn
        obtain rfl : os2 = s.os := mv.os
        exact wpAny_pure (wpAny_pure ⟨rfl, h', tk, rfl, mid⟩)
    · match r2, ht2 with
      | .error e, ht2 => exact ht2
      | .ok .next, ht2 => exact ht2.elim
      | .ok .brk, ht2 => exact ht2.elim
      | .ok .cont, ht2 => exact ht2.elim
      | .ok (.ret y), ⟨ey, h', tk, e2, mid⟩ =>
        subst ey e2
        repeat (any_goals (first | assumption | wp_step))
        exact q _ _ mid
end
end BF

set_option Elab.async false
set_option linter.all false
set_option maxRecDepth 100000
set_option maxHeartbeats 1000000
set_option autoImplicit false
/-! len(set(t)) -/
namespace BF
open PySem PySem.Spec PyProof.Rows L2
/-- a set of so many things -/
def SetOfN (a : Addr) (n : Nat) : HO := .ext fun h => ∃ (o : Obj) (es : Array (Int × Value)) (ep : Nat) (t : SetTable), h.get? a = some o ∧ o.ExactSet ∧ o.data = .set es ep t ∧ t.fits es.size = true ∧ es.size = n
def isTupD : D → Bool
  | .tup _ => true
  | _ => false
section
variable {X : Cx} {pins : List (Addr × Obj)} {σ : L2.St} {H : Hp} {s : Shared}
theorem keyed_of (I : Inv X pins σ H s) : ∀ {ds : List D} {vs : List V} {us : List Value}, TDs H vs ds → Vals vs us → (∀ d ∈ ds, isTupD d = true ∧ d.nb = true ∧ d.dep ≤ 8) →
    ∃ ks : List (Addr × NestedKey), us = ks.map (fun p => Value.ref p.1) ∧ (∀ p ∈ ks, Key8 s.heap p) ∧ ks.map (·.2) = ds.map D.key
  | [], _, _, t, r, _ => by cases t; cases r; exact ⟨[], rfl, (fun _ z => nomatch z), rfl⟩
  | d :: ds, _, _, t, r, h => by
    cases t with
    | cons t1 t2 =>
      cases r with
      | cons r1 r2 =>
        obtain ⟨ks, e1, e2, e3⟩ := keyed_of I t2 r2 fun d hd => h d (List.mem_cons_of_mem _ hd)
        obtain ⟨h1, h2, h3⟩ := h d List.mem_cons_self
        have nk := TD.nest I d _ _ t1 r1
        have dk : d.key.depth ≤ 8 := by rw [D.depth_key]; exact h3
        cases d with
        | tup es =>
          cases t1 with
          | @tup a _ _ h4 h5 =>
            cases r1
            exact ⟨(a, D.key (.tup es)) :: ks, by rw [e1]; rfl, fun p hp => by
              rcases List.mem_cons.mp hp with e | hp
              · rw [e]; exact ⟨nk, dk⟩
              · exact e2 p hp, by rw [List.map_cons, List.map_cons, e3]⟩
        | _ => exact nomatch h1
theorem nodup_keys : ∀ {ds : List D}, ds.Nodup → (∀ d ∈ ds, d.nb = true) → (ds.map D.key).Nodup
  | [], _, _ => List.nodup_nil
  | d :: ds, h, k => by
    rw [List.map_cons]
    refine List.nodup_cons.mpr ⟨fun hm => ?_, nodup_keys (List.nodup_cons.mp h).2 fun e he => k e (List.mem_cons_of_mem _ he)⟩
    obtain ⟨e, he, ee⟩ := List.mem_map.mp hm
    exact (List.nodup_cons.mp h).1 (D.key_inj _ _ (k e (List.mem_cons_of_mem _ he)) (k d List.mem_cons_self) ee ▸ he)
end
section
variable {X : Cx} {τ : AE} {e : Expr} {pos : Pos}
theorem cr_setN (hc : X.calm = true) (hu : X.A.units + 64 < cLine) : CallR X (.type "set") (fun vs H Q => ∃ (t : Addr) (xs : List V) (ds : List D), vs = [.ref t] ∧ SqT X.K H t xs ∧ TDs H xs ds ∧ (∀ d ∈ ds, isTupD d = true ∧ d.nb = true ∧ d.dep ≤ 8) ∧ ds.Nodup ∧ ds.length ≤ 4 ∧
    ∀ p, H p = none → Q (.ref p) (upd H p (SetOfN p ds.length))) := by
  intro pins s σ H vs us Q I r h
  obtain ⟨t, xs, ds, rfl, ht, tds, hk, nd, h4, q⟩ := h
  rw [Vals.ref1 r]
  obtain ⟨its, rv, pl, hz⟩ := I.tuple ht
  obtain ⟨ks, e1, e2, e3⟩ := keyed_of I tds rv hk
  have lk : ks.length = ds.length := by have z := congrArg List.length e3; rwa [List.length_map, List.length_map] at z
  have mk : ∀ (h' : Heap) (o : Obj) (es : Array (Int × Value)) (ep : Nat) (tb : SetTable), h'.get? s.heap.objs.size = some o → o.ExactSet → o.data = .set es ep tb → tb.fits es.size = true → es.size = ds.length → ObjOk X.prog X.w (upd H s.heap.objs.size (SetOfN s.heap.objs.size ds.length)) h' s.heap.objs.size (SetOfN s.heap.objs.size ds.length) := fun h' o es ep tb ho hex hd fit n1 => by
    refine ⟨⟨o, es, ep, tb, ho, hex, hd, fit, n1⟩, ⟨o, ho⟩, fun h1 h2 z k => ?_⟩
    obtain ⟨o', es', ep', tb', z1, z2⟩ := z
    exact ⟨o', es', ep', tb', k o' z1, z2⟩
  refine call_few (P := X.prog) (w := X.w) ks (I.ok.hd hc) pl (by simpa using e1) e2 (by omega) (by rw [e3]; exact nodup_keys nd fun d hd => (hk d hd).2.1) (by omega) fun h' tk ⟨⟨L, es, ep, tb, fw, pm⟩, keep⟩ => ?_
  rw [List.take_length] at pm
  obtain ⟨o, ho, hex, hd⟩ := fw.ob
  have fit := Few.fit (s := { s with heap := h' }) fw
  have n1 : es.size = ds.length := by rw [Few.size (s := { s with heap := h' }) fw, pm.length_eq, lk]
  exact ⟨.ref s.heap.objs.size, _, I.laid (t' := tk) keep (Nat.le_refl _) (mk h' o es ep tb ho hex hd fit n1), rfl, q _ (I.hok.fresh (Nat.le_refl _))⟩
theorem cr_lenN : CallR X (.builtin "len") (fun vs H Q => ∃ (p : Addr) (n : Nat), vs = [.ref p] ∧ H p = some (SetOfN p n) ∧ n ≤ 4 ∧ Q (.int n) H) := by
  intro pins s σ H vs us Q I r h
  obtain ⟨p, n, rfl, hp, hn, q⟩ := h
  rw [Vals.ref1 r]
  obtain ⟨o, es, ep, t, ho, hex, hd, fit, rfl⟩ := (I.hok p _ hp).1
  exact PySem.call_len_set ho hex hd fit (by omega) ⟨.int es.size, H, I.tok _, ⟨_, rfl⟩, q⟩
theorem de_lenSet {p p2 q : Pos} {ds : List D} (hc : X.calm = true) (hu : X.A.units + 64 < cLine) (he : DE X τ e (.d (.tup ds))) (hk : ∀ d ∈ ds, isTupD d = true ∧ d.nb = true ∧ d.dep ≤ 8) (nd : ds.Nodup) (h4 : ds.length ≤ 4)
    (hm : X.mg "len" = none) (hm2 : X.mg "set" = none) (hg : Gl X "len" := by rfl) (hg2 : Gl X "set" := by rfl)
    (hs : starEach [e] X.env = (false, eval e X.env) :: starEach [] X.env := by rfl) (hs2 : starEach [.Call (.Name "set" p2) [e] [] q] X.env = (false, eval (.Call (.Name "set" p2) [e] [] q) X.env) :: starEach [] X.env := by rfl) :
    DE X τ (.Call (.Name "len" p) [.Call (.Name "set" p2) [e] [] q] [] pos) (.d (.int (ds.length : Int))) :=
  ⟨fun O H σ Q rs k => XE.of (pe_callB cr_lenN hg hm PySem.boot_len (pa_cons (pe_callTy (cr_setN hc hu) hg2 hm2 PyProof.Rows.boot_set (pa_cons (pe_can X e) pa_nil hs) (by decide) (by decide) hs rfl) pa_nil hs2) (by decide) (by decide) hs2 rfl)
    (he.run O H σ _ rs fun v H1 e1 r1 => by
      cases r1 with
      | tup h1 h2 => exact ⟨_, _, ds, rfl, SqT.of h1, h2, hk, nd, h4, fun p hp => ⟨p, ds.length, rfl, upd_same, h4, k _ _ (e1.trans (Evl.Ex.new hp)) (.int _)⟩⟩)⟩
end
end BF

set_option Elab.async false
set_option linter.all false
set_option maxRecDepth 100000
set_option maxHeartbeats 1000000
set_option autoImplicit false
/-! What the law's own body asks beside: texts of values, unlike texts. -/
namespace BF
open PySem PySem.Spec PyProof.Rows L2
section
variable {X : Cx} {τ : AE} {e : Expr} {pos : Pos}
theorem od_neN : OpD X (compareOp .NotEq) (.d .non) (.d .non) (.d (.bl false)) :=
  ⟨_, op_ne, fun H0 H v u Q r1 r2 q => by cases r1; cases r2; exact ⟨rfl, q _ H (Evl.Ex.refl H) (by rw [decide_eq_true rfl]; exact TD.bl false)⟩⟩
theorem od_neS {x : Str} : OpD X (compareOp .NotEq) (.d (.str x)) (.d (.str x)) (.d (.bl false)) :=
  ⟨_, op_ne, fun H0 H v u Q r1 r2 q => by cases r1; cases r2; exact ⟨rfl, q _ H (Evl.Ex.refl H) (by rw [decide_eq_true rfl]; exact TD.bl false)⟩⟩
theorem bu_reprT {ds : List D} {k : Nat} (hg : X.A.guards = some []) (h : Sh (D.tup ds).py k) (hk : k ≤ 2 ^ 20) (hd : D.deps ds ≤ 8) (hu : X.A.units + 64 < cLine) : BuD X (.builtin "repr") [.d (.tup ds)] (.d (.str (D.tup ds).py.shown)) :=
  ⟨_, call_reprT hg, fun H vs Q r q => by
    obtain ⟨v, rfl, t⟩ := rsl1 r
    have dp := TD.dp (K := X.K) _ _ t
    cases t with
    | tup h1 h2 =>
      refine ⟨_, _, rfl, dp, h.show_, h.nod, ?_, h.fits hk, q _ H (exr H) (.str _)⟩
      rw [D.depth_py, D.dep]
      omega⟩
theorem bu_reprI {i : Int} (h : i.natAbs.log2 < 1920) : BuD X (.builtin "repr") [.d (.int i)] (.d (.str (toString i))) :=
  ⟨_, SkE.call_repr_int, fun H vs Q r q => by
    obtain ⟨v, rfl, t⟩ := rsl1 r
    cases t
    exact ⟨i, rfl, h, q _ H (exr H) (.str _)⟩⟩
theorem boot_repr' : bootBuiltins "repr" = some (.builtin "repr") := by decide +kernel
end
end BF

set_option Elab.async false
set_option linter.all false
set_option maxRecDepth 100000
set_option maxHeartbeats 1000000
set_option autoImplicit false
/-! At most four ways on. -/
namespace BF
open PySem PySem.Spec PyProof.Rows L2
noncomputable def ldN (cs : List Pt) (x : Rat) : Nat := (leadS cs x true).length + (leadS cs x false).length
noncomputable def ldW (s : Side) (x : Rat) : Nat := (if leadC true s x then 1 else 0) + (if leadC false s x then 1 else 0)
theorem ldN_cons (a b : Pt) (cs : List Pt) (x : Rat) : ldN (a :: b :: cs) x = ldW (a, b) x + ldN (b :: cs) x := by
  have e : sidesL (a :: b :: cs) = (a, b) :: sidesL (b :: cs) := rfl
  unfold ldN ldW leadS
  rw [e, List.filter_cons, List.filter_cons]
  by_cases h1 : leadC true (a, b) x <;> by_cases h2 : leadC false (a, b) x <;> simp [h1, h2] <;> omega
theorem goal_or (s : Side) : (goal true s = s.1.1 ∧ goal false s = s.2.1) ∨ (goal true s = s.2.1 ∧ goal false s = s.1.1) := by
  simp only [goal, gUp, gDn]
  by_cases h : s.2.2 < s.1.2 <;> simp [h]
theorem ldW_two (s : Side) (x : Rat) : ldW s x ≤ 2 := by unfold ldW; split <;> split <;> omega
theorem ldW_out {s : Side} {x : Rat} (h : ¬ onS s x) : ldW s x = 0 := by
  unfold ldW
  rw [if_neg (fun z => h z.1), if_neg (fun z => h z.1)]
theorem ldW_end {s : Side} {x : Rat} (h : x = (s.1.1 : Rat) ∨ x = (s.2.1 : Rat)) : ldW s x ≤ 1 := by
  have key : ∀ up, x = (goal up s : Rat) → ldW s x ≤ 1 := fun up e => by
    unfold ldW
    cases up with
    | true => rw [if_neg (fun z => z.2 e)]; split <;> omega
    | false => rw [if_neg (c := leadC false s x) (fun z => z.2 e)]; split <;> omega
  rcases goal_or s with ⟨g1, g2⟩ | ⟨g1, g2⟩ <;> rcases h with h | h
  · exact key true (by rw [g1]; exact h)
  · exact key false (by rw [g2]; exact h)
  · exact key false (by rw [g2]; exact h)
  · exact key true (by rw [g1]; exact h)
theorem ldN_le (x : Rat) : ∀ (cs : List Pt) (a : Pt), (∀ s ∈ sidesL (a :: cs), SV s) → (x < (a.1 : Rat) → ldN (a :: cs) x = 0) ∧ (x = (a.1 : Rat) → ldN (a :: cs) x ≤ 1) ∧ ldN (a :: cs) x ≤ 2
  | [], a, _ => by simp [ldN, leadS, sidesL]
  | b :: cs, a, hs => by
    have e : sidesL (a :: b :: cs) = (a, b) :: sidesL (b :: cs) := rfl
    rw [e] at hs
    have S := hs _ List.mem_cons_self
    obtain ⟨i1, i2, i3⟩ := ldN_le x cs b fun s h => hs s (List.mem_cons_of_mem _ h)
    have lt : (a.1 : Rat) < (b.1 : Rat) := by exact_mod_cast S.inc
    rw [ldN_cons]
    have w2 := ldW_two (a, b) x
    refine ⟨fun h => ?_, fun h => ?_, ?_⟩
    · rw [ldW_out (fun z => absurd z.1 (by show ¬ (a.1 : Rat) ≤ x; grind)), i1 (by grind)]
    · have := ldW_end (s := (a, b)) (.inl h)
      rw [i1 (by grind)]
      omega
    · by_cases c1 : x < (b.1 : Rat)
      · rw [i1 c1]; omega
      · by_cases c2 : x = (b.1 : Rat)
        · have := ldW_end (s := (a, b)) (.inr c2)
          have := i2 c2
          omega
        · rw [ldW_out (fun z => absurd z.2 (by show ¬ x ≤ (b.1 : Rat); grind))]
          omega
theorem ldN_two {cs : List Pt} (P : PV cs) (x : Rat) : ldN cs x ≤ 2 := by
  have h2 := P.two
  match cs, P, h2 with
  | a :: cs, P, _ => exact (ldN_le x cs a P.sd).2.2
theorem flat_prod {α β γ : Type} (xs : List α) (ys : List β) (f : α → β → γ) : (xs.flatMap fun s => ys.map fun t => f s t).length = xs.length * ys.length := by
  induction xs with
  | nil => simp
  | cons a xs ih => rw [List.flatMap_cons, List.length_append, List.length_map, ih, List.length_cons, Nat.succ_mul]; omega
theorem goals_four {cs ds : List Pt} (P : PV cs) (P' : PV ds) (q : RR) : (goalsS cs ds q).length ≤ 4 := by
  have h1 := ldN_two P q.1
  have h2 := ldN_two P' q.2
  unfold ldN at h1 h2
  rw [goalsS_two, List.length_append]
  unfold goalU
  rw [flat_prod, flat_prod]
  generalize (leadS cs q.1 true).length = a at *
  generalize (leadS cs q.1 false).length = b at *
  generalize (leadS ds q.2 true).length = c at *
  generalize (leadS ds q.2 false).length = d at *
  have a2 : a ≤ 2 := by omega
  have b2 : b ≤ 2 := by omega
  have e1 : a * c ≤ a * 2 := Nat.mul_le_mul_left a (by omega)
  have e2 : b * d ≤ b * 2 := Nat.mul_le_mul_left b (by omega)
  omega
end BF

set_option Elab.async false
set_option linter.all false
set_option maxRecDepth 100000
set_option maxHeartbeats 2000000
set_option autoImplicit false
/-! The law's own body: what is told of each stand. -/
namespace BF
open PySem PySem.Spec PyProof.Rows L2
abbrev lawN : List Str := ["_law_script", "_law_ferry_here", "_law_turn", "_law_one", "_law_other", "_law_mine", "_law_its", "_law_told", "_law_stands_here", "_law_stand", "_law_x", "_law_y", "_law_later", "_law_near", "_law_heights", "_law_place"]
theorem sc_law : FnScope lawN ["_law_script"] (defScope (top 80)) := ⟨rfl, rfl, rfl, by decide +kernel, rfl, by decide +kernel, by decide +kernel⟩
noncomputable abbrev lawX (g : Ga) (base : Heap) (f : Addr) (cdv : Value) (A : Around) (outer : List Env) (s : Shared) (H : Hp) (E : XK) : Cx := (cxOf CX0 g.P g.w g.K g.mg base lawN "law" (defScope (top 80)) f cdv A outer s H E).nox
def forBody : Stmt → List Stmt
  | .For _ _ b _ _ => b
  | _ => []
def nthSt (l : List Stmt) (i : Nat) : Stmt := l.getD i (.Pass ⟨0, 0, 0, 0⟩)
def lawB : List Stmt := forBody (nthSt (defBody (top 80)) 1)
noncomputable abbrev lawT (a0 a1 a2 : Option AV) (cs ds : List Pt) (kvs : Kvs) (ws : List RR) (b9 b10 b11 b12 b13 b14 b15 : Option AV) : AE :=
  [a0, a1, a2, some (.l false (cs.map corD)), some (.l false (ds.map corD)), some (.pr cs), some (.pr ds), some (.m true kvs), some (.l false (ws.map stnD)), b9, b10, b11, b12, b13, b14, b15]
/-! ### small facts -/
theorem stnD_nb (p : RR) : (stnD p).nb = true := by simp [stnD, D.nb, D.nbs, numD_nb]
theorem stnD_dep (p : RR) : (stnD p).dep ≤ 2 := by
  have h1 := numD_dep p.1
  have h2 := numD_dep p.2
  simp only [stnD, D.dep, D.deps]
  omega
theorem stnsD_nb (ws : List RR) : D.nbs (ws.map stnD) = true := by
  induction ws with
  | nil => rfl
  | cons a ws ih => simp only [List.map_cons, D.nbs, stnD_nb, ih]; rfl
theorem stnsD_dep (ws : List RR) : D.deps (ws.map stnD) ≤ 2 := by
  induction ws with
  | nil => simp [D.deps]
  | cons a ws ih =>
    have := stnD_dep a
    simp only [List.map_cons, D.deps]
    omega
theorem mem_stnD {p : RR} {ws : List RR} : stnD p ∈ ws.map stnD ↔ p ∈ ws :=
  ⟨fun h => by obtain ⟨q, h1, h2⟩ := List.mem_map.mp h; rw [← stnD_inj h2]; exact h1, fun h => List.mem_map_of_mem h⟩
theorem nodup_stnD : ∀ {ws : List RR}, ws.Nodup → (ws.map stnD).Nodup
  | [], _ => List.nodup_nil
  | a :: ws, h => by
    rw [List.map_cons]
    exact List.nodup_cons.mpr ⟨fun z => (List.nodup_cons.mp h).1 (mem_stnD.mp z), nodup_stnD (List.nodup_cons.mp h).2⟩
/-- the goals of a stand, ascending -/
noncomputable def gw (cs ds : List Pt) (q : RR) : List RR := Classical.choose (sl_ex (goalsS cs ds q))
theorem gw_sl (cs ds : List Pt) (q : RR) : SL (gw cs ds q) := (Classical.choose_spec (sl_ex (goalsS cs ds q))).1
theorem gw_mem (cs ds : List Pt) (q p : RR) : p ∈ gw cs ds q ↔ p ∈ goalsS cs ds q := (Classical.choose_spec (sl_ex (goalsS cs ds q))).2 p
noncomputable def toldV (cs ds : List Pt) (q : RR) : D := .tup ((gw cs ds q).map stnD)
noncomputable def toldK (cs ds : List Pt) (ws : List RR) : Kvs := ws.map fun q => (stnD q, Sum.inl (toldV cs ds q))
theorem toldK_keys (cs ds : List Pt) (ws : List RR) : (toldK cs ds ws).map (·.1) = ws.map stnD := by simp [toldK]
theorem toldK_at {cs ds : List Pt} {ws : List RR} {q : RR} (h : q ∈ ws) : keyAt (toldK cs ds ws) (stnD q) = some (.inl (toldV cs ds q)) := by
  cases e : keyAt (toldK cs ds ws) (stnD q) with
  | none =>
    have := keyAt_none.mp e
    rw [toldK_keys] at this
    exact absurd (mem_stnD.mpr h) this
  | some v =>
    obtain ⟨j, hj⟩ := keyAt_some e
    unfold toldK at hj
    rw [List.getElem?_map] at hj
    obtain ⟨p, _, e2⟩ := Option.map_eq_some_iff.mp hj
    obtain ⟨k1, k2⟩ := Prod.mk.inj e2
    rw [← k2, stnD_inj k1]
theorem toldK_put {cs ds : List Pt} {ws : List RR} {q : RR} (h : q ∉ ws) : putA (toldK cs ds ws) (stnD q) (.inl (toldV cs ds q)) = toldK cs ds (ws ++ [q]) := by
  unfold putA
  rw [toldK_keys, if_neg (fun z => h (mem_stnD.mp z))]
  simp [toldK]
section
variable {X : Cx} {τ : AE} {e : Expr} {pos : Pos}
theorem od_neR {cs ds : List Pt} {q : RR} : OpD X (compareOp .NotEq) (.d (refD cs ds q)) (.d (refD cs ds q)) (.d (.bl false)) := by
  unfold refD
  split
  · exact od_neN
  · exact od_neS
theorem od_niT {x : D} {xs : List D} (hu : X.A.units + 65 < cLine) (hx : x.nb = true) (hs : D.nbs xs = true) (dx : x.dep ≤ 63) (ds : D.deps xs ≤ 63) : OpD X (compareOp .NotIn) (.d x) (.d (.tup xs)) (.d (.bl (!decide (x ∈ xs)))) :=
  ⟨fun v u H Q => ∃ d ds, Dp X.K H v d ∧ Dp X.K H u (.tuple ds) ∧ d.canLay0 = true ∧ PyData.canLayAll0 ds = true ∧ d.depth ≤ 63 ∧ Q (.bl (!ds.any fun z => PyData.eqv z d)) H, fun pins s σ H x y v u Q I rx ry h => by
    obtain ⟨d, ds, hd, he, sd, se, hdp, q⟩ := h
    obtain ⟨as, r1⟩ := Dp.reads I d x v hd rx
    obtain ⟨bs, r2⟩ := Dp.reads I (.tuple ds) y u he ry
    exact SeqAt.notIn_tuple_reads r2 r1 se sd (by have := Nat.min_le_right (PyData.depthAll ds) d.depth; omega) ⟨.bl _, H, I, rfl, q⟩,
   fun H0 H v u Q r1 r2 q => ⟨_, D.pys xs, TD.dp _ _ r1, by
    have z := TD.dp (K := X.K) _ _ r2
    exact z, D.lay_py x hx, D.lays_py xs hs, by rw [D.depth_py]; exact dx, q _ H (exr H) (by rw [any_mem hx hs]; exact .bl _)⟩⟩
end
end BF

set_option Elab.async false
set_option linter.all false
set_option maxRecDepth 100000
set_option maxHeartbeats 4000000
set_option autoImplicit false
/-! The law's own body: the first loop. -/
namespace BF
open PySem PySem.Spec PyProof.Rows L2
section
variable {g : Ga} {base : Heap} {f : Addr} {cdv : Value} {A : Around} {outer : List Env} {s : Shared} {H : Hp} {E : XK}
theorem law_loop1 (W : Wx g) (hr : Room 15 (lawX g base f cdv A outer s H E).A) (hg : (lawX g base f cdv A outer s H E).A.guards = some []) {cs ds : List Pt} (P : PV cs) (P' : PV ds) {ws : List RR} (nw : ws.Nodup)
    (mw : ∀ p, p ∈ ws ↔ stA cs ds p ∨ stB cs ds p) (hw : ws.length ≤ 112) {a0 a1 a2 b9 b10 b11 b12 b13 b14 b15 : Option AV} {sts : List Stmt} {N : AE → Prop} {R : AV → Prop}
    (k : ∀ b9, DS (lawX g base f cdv A outer s H E) (lawT a0 a1 a2 cs ds (toldK cs ds ws) ws b9 b10 b11 b12 b13 b14 b15) sts N R) :
    DS (lawX g base f cdv A outer s H E) (lawT a0 a1 a2 cs ds [] ws b9 b10 b11 b12 b13 b14 b15) (nthSt lawB 3 :: sts) N R := by
  have nd : lawN.Nodup := sc_law.nd
  have hu := hr.units
  have hu64 : (lawX g base f cdv A outer s H E).A.units + 64 < cLine := by omega
  refine ds_for (ds := ws.map stnD) (di_var 8) (fun i τ' => ∃ b9, τ' = lawT a0 a1 a2 cs ds (toldK cs ds (ws.take i)) ws b9 b10 b11 b12 b13 b14 b15) ⟨_, rfl⟩ (fun i d τ' hd ⟨b9, e⟩ => ?_) fun τ' ⟨b9, e⟩ => ?_
  · subst e
    rw [List.getElem?_map] at hd
    obtain ⟨q, hq, rfl⟩ := Option.map_eq_some_iff.mp hd
    have mq : q ∈ ws := List.mem_of_getElem? hq
    have st := (mw q).mp mq
    obtain ⟨bx, by'⟩ := stn_bd P P' st
    have sp := (stn_iff P P' q).mpr st
    obtain ⟨_, h, hs⟩ := (stn_same P P' q).mp st
    have gn := goalsS_nd P P' hs
    have gwn : (gw cs ds q).Nodup := (gw_sl cs ds q).nodup
    have gwl : (gw cs ds q).length = (goalsS cs ds q).length := nd_len gwn gn (gw_mem cs ds q)
    have g4 := goals_four P P' q
    have nq : q ∉ ws.take i := fun z => by
      obtain ⟨j, hj, e⟩ := List.getElem_of_mem z
      rw [List.getElem_take] at e
      rw [List.length_take] at hj
      have hi := (List.getElem?_eq_some_iff.mp hq)
      obtain ⟨hi1, hi2⟩ := hi
      have := (List.getElem_inj nw).mp (e.trans hi2.symm)
      omega
    have keq : putA (toldK cs ds (ws.take i)) (stnD q) (.inl (toldV cs ds q)) = toldK cs ds (ws.take (i + 1)) := by
      rw [toldK_put nq, List.take_add_one, hq]; rfl
    have atq : keyAt (toldK cs ds (ws.take (i + 1))) (stnD q) = some (.inl (toldV cs ds q)) := toldK_at (by rw [List.take_add_one, hq]; simp)
    have bds : ∀ p ∈ gw cs ds q, Bq p.1 ∧ Bq p.2 := fun p hp => goalsS_bd P P' q p ((gw_mem cs ds q p).mp hp)
    have sh := sh_stns bds (by omega)
    have dp8 : D.deps ((gw cs ds q).map stnD) ≤ 8 := Nat.le_trans (stnsD_dep _) (by decide)
    have h8 : (stnD q).dep ≤ 8 := Nat.le_trans (stnD_dep q) (by decide)
    have hz : List.length (toldK cs ds (ws.take i)) < 100000 := by rw [toldK, List.length_map, List.length_take]; omega
    have lg : (((goalsS cs ds q).length : Int)).natAbs.log2 < 1920 := by
      rw [Int.natAbs_natCast]
      generalize (goalsS cs ds q).length = n at g4
      have : n = 0 ∨ n = 1 ∨ n = 2 ∨ n = 3 ∨ n = 4 := by omega
      rcases this with rfl | rfl | rfl | rfl | rfl <;> decide
    have le : AV.d (.int (((gw cs ds q).map stnD).length : Int)) = .d (.int ((goalsS cs ds q).length : Int)) := by rw [List.length_map, gwl]
    have kk : ∀ d ∈ (gw cs ds q).map stnD, isTupD d = true ∧ d.nb = true ∧ d.dep ≤ 8 := fun d hd => by
      obtain ⟨p, _, rfl⟩ := List.mem_map.mp hd
      exact ⟨rfl, stnD_nb p, Nat.le_trans (stnD_dep p) (by decide)⟩
    refine ⟨_, dg_name 9, ds_mput 7 (.inl (toldV cs ds q)) (c_ways_on W.toWn hr (de_vp 5) (de_vp 6) (de_vd 9) P P' bx by' sp (gw_sl cs ds q) (gw_mem cs ds q)) (de_vd 9) rfl (stnD_nb q) (Nat.le_trans (stnD_dep q) (by decide)) hz hu64 ?_⟩
    rw [keq]
    refine ds_if (dt_eq (dt_w (dw_or (dt_cmp od_neS (de_cb (bu_reprT hg sh (by decide) dp8 hu64) (da_d (de_mixD 7 (de_vd 9) (stnD_nb q) h8 hu64 atq) da_nil) (W.bl "repr") boot_repr') (de_cb (bu_reprT hg sh (by decide) dp8 hu64) (da_d (de_cty ty_tupL (da_l (c_law_ways W.toWd hr (de_vl 3) (de_vl 4) (de_vd 9) P P' bx by' gn (gw_sl cs ds q) (gw_mem cs ds q)) da_nil) (W.bl "tuple") boot_tuple) da_nil) (W.bl "repr") boot_repr')) fun _ =>
      dw_or1 (dt_cmp od_neS (de_cb (bu_reprI lg) (da_d (c_many_ways W.toWn hr (de_vp 5) (de_vp 6) (de_vd 9) P P' bx by' sp) da_nil) (W.bl "repr") boot_repr') (de_cb (bu_reprI lg) (da_d (de_eq (de_cb bu_lenT (da_d (de_mixD 7 (de_vd 9) (stnD_nb q) h8 hu64 atq) da_nil) (W.bl "len") boot_len) le) da_nil) (W.bl "repr") boot_repr')))) rfl) (fun h => nomatch h) (fun _ => ds_nil ?_)
    refine ds_if (dt_eq (dt_cmp od_lt (de_lenSet rfl hu64 (de_mixD 7 (de_vd 9) (stnD_nb q) h8 hu64 atq) kk (nodup_stnD gwn) (by rw [List.length_map]; omega) (W.bl "len") (W.bl "set")) (de_cb bu_lenT (da_d (de_mixD 7 (de_vd 9) (stnD_nb q) h8 hu64 atq) da_nil) (W.bl "len") boot_len)) (decide_eq_false (Int.lt_irrefl _))) (fun h => nomatch h) (fun _ => ds_nil (ds_nil ⟨_, rfl⟩))
  · subst e
    rw [List.length_map, List.take_length]
    exact k b9
end
end BF

set_option Elab.async false
set_option linter.all false
set_option maxRecDepth 100000
set_option maxHeartbeats 4000000
set_option autoImplicit false
/-! The law's own body: the second loop. -/
namespace BF
open PySem PySem.Spec PyProof.Rows L2
theorem zp_stn : ∀ {xs ys : List RR} {i : Nat} {d : D}, (zpD (xs.map stnD) (ys.map stnD))[i]? = some d → ∃ p q, p ∈ xs ∧ q ∈ ys ∧ d = .tup [stnD p, stnD q]
  | [], _, _, _, h => by simp [zpD] at h
  | _ :: _, [], _, _, h => by simp [zpD] at h
  | x :: xs, y :: ys, 0, d, h => by
    have h' : some (D.tup [stnD x, stnD y]) = some d := h
    exact ⟨x, y, List.mem_cons_self, List.mem_cons_self, (Option.some.inj h').symm⟩
  | x :: xs, y :: ys, i + 1, d, h => by
    obtain ⟨p, q, h1, h2, h3⟩ := zp_stn (xs := xs) (ys := ys) (i := i) (d := d) h
    exact ⟨p, q, List.mem_cons_of_mem _ h1, List.mem_cons_of_mem _ h2, h3⟩
theorem cut_stn (xs : List RR) (lo hi : Option Int) : ∃ ys : List RR, cutD (xs.map stnD) lo hi = ys.map stnD ∧ ∀ p ∈ ys, p ∈ xs := by
  refine ⟨(xs.drop (HT.sIx xs.length 0 lo)).take (HT.sIx xs.length xs.length hi - HT.sIx xs.length 0 lo), ?_, fun p hp => List.mem_of_mem_drop (List.mem_of_mem_take hp)⟩
  unfold cutD
  rw [List.length_map, List.map_take, List.map_drop]
section
variable {g : Ga} {base : Heap} {f : Addr} {cdv : Value} {A : Around} {outer : List Env} {s : Shared} {H : Hp} {E : XK}
theorem law_loop2 (W : Wx g) (hr : Room 15 (lawX g base f cdv A outer s H E).A) {cs ds : List Pt} (P : PV cs) (P' : PV ds) {ws : List RR}
    (mw : ∀ p, p ∈ ws ↔ stA cs ds p ∨ stB cs ds p) {kvs : Kvs} {a0 a1 a2 b9 b10 b11 b12 b13 b14 b15 : Option AV} {sts : List Stmt} {N : AE → Prop} {R : AV → Prop}
    (k : ∀ b10 b11 b12 b13, DS (lawX g base f cdv A outer s H E) (lawT a0 a1 a2 cs ds kvs ws b9 b10 b11 b12 b13 b14 b15) sts N R) :
    DS (lawX g base f cdv A outer s H E) (lawT a0 a1 a2 cs ds kvs ws b9 b10 b11 b12 b13 b14 b15) (nthSt lawB 4 :: sts) N R := by
  have nd : lawN.Nodup := sc_law.nd
  have hu := hr.units
  have hu64 : (lawX g base f cdv A outer s H E).A.units + 64 < cLine := by omega
  obtain ⟨ys, ey, my⟩ := cut_stn ws (some 1) none
  refine ds_for (ds := zpD (ws.map stnD) (cutD (ws.map stnD) (some 1) none)) (di_zip (ls_var 8) (ls_new (de_slL (o := false) (de_vl 8) (do_some de_int) do_none)) (W.bl "zip")) (fun i τ' => ∃ b10 b11 b12 b13, τ' = lawT a0 a1 a2 cs ds kvs ws b9 b10 b11 b12 b13 b14 b15) ⟨_, _, _, _, rfl⟩ (fun i d τ' hd ⟨b10, b11, b12, b13, e⟩ => ?_) fun τ' ⟨b10, b11, b12, b13, e⟩ => ?_
  · subst e
    rw [ey] at hd
    obtain ⟨p, q, mp, mq, rfl⟩ := zp_stn hd
    have bx := (stn_bd P P' ((mw p).mp mp)).1
    have by' := (stn_bd P P' ((mw q).mp (my q mq))).2
    have ref : AV.d (if decide (stnD (p.1, q.2) ∈ ws.map stnD) = true then D.non else D.str "stand") = .d (refD cs ds (p.1, q.2)) := by
      unfold refD
      have e : stnD (p.1, q.2) ∈ ws.map stnD ↔ stnP cs ds (p.1, q.2) := by rw [mem_stnD, mw, stn_iff P P']
      by_cases h : stnP cs ds (p.1, q.2)
      · rw [if_pos h, decide_eq_true (e.mpr h), if_pos rfl]
      · rw [if_neg h, decide_eq_false (fun z => h (e.mp z)), if_neg (by decide)]
    have cell : ∀ {τ : AE} {p1 p2 p3 : Pos} {kk : Nat}, τ[10]? = some (some (.d (numD p.1))) → τ[13]? = some (some (.d (numD q.2))) → DE (lawX g base f cdv A outer s H E) τ (.Tuple [.Name "_law_x" p1, .Name "_law_near" p2] kk p3) (.d (stnD (p.1, q.2))) := fun h1 h2 => de_tup (dd_cons (de_vd 10 h1) (dd_cons (de_vd 13 h2) dd_nil))
    refine ⟨_, dg_tup (dgs_cons (dg_tup (dgs_cons (dg_name 10) (dgs_cons (dg_name 11) dgs_nil))) (dgs_cons (dg_tup (dgs_cons (dg_name 12) (dgs_cons (dg_name 13) dgs_nil))) dgs_nil)), ?_⟩
    refine ds_if (dt_cmp od_neR (call3 (fn_law_refused W base) hr (by decide) (de_vp 5) (de_vp 6) (cell rfl rfl) ⟨cs, ds, (p.1, q.2), P, P', bx, by', rfl, rfl⟩ ⟨rfl, rfl, rfl⟩ ⟨rfl⟩ ⟨rfl⟩ (by decide)) (de_eq (de_ifd (dt_cmp (od_inL (o := false) (u65 hr) (stnD_nb _) (stnsD_nb _) (Nat.le_trans (stnD_dep _) (by decide)) (Nat.le_trans (stnsD_dep _) (by decide))) (cell rfl rfl) (de_vl 8)) (fun _ => de_non) (fun _ => de_str)) ref)) (fun h => nomatch h) (fun _ => ds_nil (ds_nil ⟨_, _, _, _, rfl⟩))
  · subst e
    exact k _ _ _ _
end
end BF

set_option Elab.async false
set_option linter.all false
set_option maxRecDepth 100000
set_option maxHeartbeats 4000000
set_option autoImplicit false
/-! The law's own body: the third loop. -/
namespace BF
open PySem PySem.Spec PyProof.Rows L2
section
variable {g : Ga} {base : Heap} {f : Addr} {cdv : Value} {A : Around} {outer : List Env} {s : Shared} {H : Hp} {E : XK}
theorem law_loop3 (W : Wx g) (hr : Room 15 (lawX g base f cdv A outer s H E).A) {cs ds : List Pt} (P : PV cs) (P' : PV ds) {ws : List RR}
    (mw : ∀ p, p ∈ ws ↔ stA cs ds p ∨ stB cs ds p) {a0 a1 a2 b9 b10 b11 b12 b13 b14 : Option AV} {sts : List Stmt} {N : AE → Prop} {R : AV → Prop}
    (k : ∀ b9 b10 b11 b14, DS (lawX g base f cdv A outer s H E) (lawT a0 a1 a2 cs ds (toldK cs ds ws) ws b9 b10 b11 b12 b13 b14 none) sts N R) :
    DS (lawX g base f cdv A outer s H E) (lawT a0 a1 a2 cs ds (toldK cs ds ws) ws b9 b10 b11 b12 b13 b14 none) (nthSt lawB 5 :: sts) N R := by
  have nd : lawN.Nodup := sc_law.nd
  have hu := hr.units
  have hr' : Room 15 (A.deeper (envOfC "law" (defScope (top 80)) s.heap.objs.size f cdv)) := hr
  have hu64 : (lawX g base f cdv A outer s H E).A.units + 64 < cLine := by omega
  refine ds_for (ds := ws.map stnD) (di_var 8) (fun i τ' => ∃ b9 b10 b11 b14, τ' = lawT a0 a1 a2 cs ds (toldK cs ds ws) ws b9 b10 b11 b12 b13 b14 none) ⟨_, _, _, _, rfl⟩ (fun i d τ' hd ⟨b9, b10, b11, b14, e⟩ => ?_) fun τ' ⟨b9, b10, b11, b14, e⟩ => ?_
  · subst e
    rw [List.getElem?_map] at hd
    obtain ⟨q, hq, rfl⟩ := Option.map_eq_some_iff.mp hd
    have mq : q ∈ ws := List.mem_of_getElem? hq
    have st := (mw q).mp mq
    obtain ⟨bx, by'⟩ := stn_bd P P' st
    obtain ⟨hc, h, hs⟩ := (stn_same P P' q).mp st
    have h8 : ∀ p : RR, (stnD p).dep ≤ 8 := fun p => Nat.le_trans (stnD_dep p) (by decide)
    refine ⟨_, dg_name 9, ?_⟩
    refine ds_for (ds := (gw cs ds q).map stnD) (di_tup (de_mixD 7 (de_vd 9) (stnD_nb q) (h8 q) hu64 (toldK_at mq))) (fun i τ' => ∃ b10 b11 b14, τ' = lawT a0 a1 a2 cs ds (toldK cs ds ws) ws (some (.d (stnD q))) b10 b11 b12 b13 b14 none) ⟨_, _, _, rfl⟩ (fun i d τ' hd ⟨b10, b11, b14, e⟩ => ?_) fun τ' ⟨b10, b11, b14, e⟩ => ?_
    · subst e
      rw [List.getElem?_map] at hd
      obtain ⟨p, hp, rfl⟩ := Option.map_eq_some_iff.mp hd
      have mp : p ∈ goalsS cs ds q := (gw_mem cs ds q p).mp (List.mem_of_getElem? hp)
      obtain ⟨w, G⟩ := goal_ok P P' hc hs mp
      have pw : p ∈ ws := (mw p).mpr ((stn_same P P' p).mpr ⟨G.crn, w, G.same⟩)
      obtain ⟨px, py⟩ := stn_bd P P' ((mw p).mp pw)
      let sx : Nat → Rat := fun i => if i = 0 then q.1 else p.1
      let sy : Nat → Rat := fun i => if i = 0 then q.2 else p.2
      let sh : Nat → Rat := fun i => if i = 0 then h else w
      have bsx : ∀ j, Bq (sx j) := fun j => by show Bq (if j = 0 then q.1 else p.1); split <;> assumption
      have bsy : ∀ j, Bq (sy j) := fun j => by show Bq (if j = 0 then q.2 else p.2); split <;> assumption
      have hx : ∀ j, optD (hgtL cs (sx j)) = numD (sh j) := fun j => by
        show optD (hgtL cs (if j = 0 then q.1 else p.1)) = numD (if j = 0 then h else w)
        split
        · rw [hgtL_of P hs.1]; rfl
        · rw [hgtL_of P G.same.1]; rfl
      have hy : ∀ j, optD (hgtL ds (sy j)) = numD (sh j) := fun j => by
        show optD (hgtL ds (if j = 0 then q.2 else p.2)) = numD (if j = 0 then h else w)
        split
        · rw [hgtL_of P' hs.2]; rfl
        · rw [hgtL_of P' G.same.2]; rfl
      have at2 : ∀ {sp : Nat → Rat} {j : Nat} {d : D}, [numD (sp 0), numD (sp 1)][j]? = some d → d = numD (sp j) := fun {sp j d} hd => by
        rcases j with _ | _ | j
        · exact (Option.some.inj hd).symm
        · exact (Option.some.inj hd).symm
        · exact nomatch (show none = some d from hd)
      have cell : ∀ {τ : AE} {p1 p2 p3 : Pos} {kk : Nat}, τ[10]? = some (some (.d (numD p.1))) → τ[11]? = some (some (.d (numD p.2))) → DE (lawX g base f cdv A outer s H E) τ (.Tuple [.Name "_law_x" p1, .Name "_law_y" p2] kk p3) (.d (stnD p)) := fun h1 h2 => de_tup (dd_cons (de_vd 10 h1) (dd_cons (de_vd 11 h2) dd_nil))
      refine ⟨_, dg_tup (dgs_cons (dg_name 10) (dgs_cons (dg_name 11) dgs_nil)), ?_⟩
      refine ds_set 14 (a := .l true ([numD h, numD w] ++ [numD h, numD w])) (de_bin (od_cat (o := true) (o' := true) (xs := [numD h, numD w]) (ys := [numD h, numD w]) (show 2 + 2 ≤ sizeLine by decide))
        (de_lc (ds := [numD q.1, numD p.1]) [("_law_place", 15)] (fun _ => true) (fun i => numD (sh i)) (di_tup (de_tup (dd_cons (de_ixT (de_vd 9) de_int) (dd_cons (de_vd 10) dd_nil)))) (show 2 ≤ 100000 by decide) (fun j d hd => ?_) ?_)
        (de_lc (ds := [numD q.2, numD p.2]) [("_law_place", 15)] (fun _ => true) (fun i => numD (sh i)) (di_tup (de_tup (dd_cons (de_ixT (de_vd 9) de_int) (dd_cons (de_vd 11) dd_nil)))) (show 2 ≤ 100000 by decide) (fun j d hd => ?_) ?_)) ?_
      · obtain rfl := at2 (sp := sx) hd
        exact ⟨_, fun s H C cl fp => ⟨dw_name 15, dts_nil, fun _ => de_eq (c_law_height W.toWd hr' (de_vl 3) (de_vd 15) P (bsx j)) (by rw [hx])⟩⟩
      · show BlkOk lawN (defScope (top 80)) _ _
        exact blkOk_by (by decide +kernel)
      · obtain rfl := at2 (sp := sy) hd
        exact ⟨_, fun s H C cl fp => ⟨dw_name 15, dts_nil, fun _ => de_eq (c_law_height W.toWd hr' (de_vl 4) (de_vd 15) P' (bsy j)) (by rw [hy])⟩⟩
      · show BlkOk lawN (defScope (top 80)) _ _
        exact blkOk_by (by decide +kernel)
      · have nb2 : D.nbs [numD h, numD w] = true := nbs_num [h, w]
        have dp2 : D.deps [numD h, numD w] ≤ 63 := Nat.le_trans (deps_num [h, w]) (by decide)
        refine ds_if (dt_eq (v := false || (false || false)) (dt_w (dw_or (dt_eq (dt_cmp (od_niM (kvs := toldK cs ds ws) (stnD_nb p) (h8 p) hu64) (cell rfl rfl) (de_vm 7)) (by rw [toldK_at pw]; rfl)) fun _ =>
          dw_or (dt_eq (dt_cmp (od_neL (o := true) (o' := true) (xs := [numD h, numD w]) (ys := [numD h, numD w]) hu64 nb2 nb2 dp2 dp2) (de_eq (de_slL (o := false) (xs := [numD h, numD w] ++ [numD h, numD w]) (i := none) (j := some 2) (de_vl 14) do_none (do_some de_int)) rfl) (de_eq (de_slL (o := false) (xs := [numD h, numD w] ++ [numD h, numD w]) (i := some 2) (j := none) (de_vl 14) (do_some de_int) do_none) rfl)) (by rw [decide_eq_true rfl]; rfl)) fun _ =>
          dw_or1 (dt_eq (dt_cmp (od_eqD (x := numD h) (y := numD w) hu64 (numD_nb _) (numD_nb _) (Nat.le_trans (numD_dep _) (by decide)) (Nat.le_trans (numD_dep _) (by decide))) (de_ixL (o := false) (de_vl 14) de_int rfl) (de_ixL (o := false) (de_vl 14) de_int rfl)) (decide_eq_false fun z => G.ne (numD_inj z).symm)))) rfl) (fun h => nomatch h) (fun _ => ds_nil ?_)
        refine ds_if (dt_eq (v := false || (false || false)) (dt_w (dw_or (dt_eq (dt_not (dt_val (c_law_is_along W.toWd hr (de_vl 3) (de_ixT (de_vd 9) de_int) (de_vd 10) P bx px))) (by rw [decide_eq_true G.al]; rfl)) fun _ =>
          dw_or (dt_eq (dt_not (dt_val (c_law_is_along W.toWd hr (de_vl 4) (de_ixT (de_vd 9) de_int) (de_vd 11) P' by' py))) (by rw [decide_eq_true G.al']; rfl)) fun _ =>
          dw_or1 (dt_eq (dt_cmp (od_niT (u65 hr) (stnD_nb q) (stnsD_nb (gw cs ds p)) (Nat.le_trans (stnD_dep q) (by decide)) (Nat.le_trans (stnsD_dep _) (by decide))) (de_vd 9) (de_mixD 7 (cell rfl rfl) (stnD_nb p) (h8 p) hu64 (toldK_at pw))) (by rw [decide_eq_true (mem_stnD.mpr ((gw_mem cs ds p q).mpr G.back))]; rfl)))) rfl) (fun h => nomatch h) (fun _ => ds_nil (ds_nil ⟨_, _, _, rfl⟩))
    · subst e
      exact ds_nil ⟨_, _, _, _, rfl⟩
  · subst e
    exact k _ _ _ _
end
end BF

set_option Elab.async false
set_option linter.all false
set_option maxRecDepth 100000
set_option maxHeartbeats 4000000
set_option autoImplicit false
/-! The law's own body: one turn. -/
namespace BF
open PySem PySem.Spec PyProof.Rows L2
section
variable {g : Ga} {O : Addr → Prop} {H : Hp} {σ : L2.St} {τ : AE} {v : V} {a : AV} {i : Nat}
/-- a name gets what isn't owned -/
theorem RS.putS (r : RS g O H σ τ) (hv : Sl g O H v a) (ho : a.own = false) : RS g O H (σ.set i (some v)) (τ.set i (some a)) := by
  refine ⟨by rw [List.length_set, List.length_set]; exact r.len, fun j b hj => ?_, fun j k b c u ne hj hk hb hc sj sk => ?_, r.wf⟩
  · rcases set_at hj with ⟨rfl, q, hl⟩ | ⟨ne, q⟩
    · cases q
      exact ⟨v, List.getElem?_set_self (r.len.symm ▸ hl), hv⟩
    · obtain ⟨u, h1, h2⟩ := r.at_ j b q
      exact ⟨u, (List.getElem?_set_ne (Ne.symm ne)).trans h1, h2⟩
  · rcases set_at hj with ⟨rfl, q, _⟩ | ⟨n1, q1⟩
    · cases q; exact absurd (ho.symm.trans hb) (by decide)
    · rcases set_at hk with ⟨rfl, q, _⟩ | ⟨n2, q2⟩
      · cases q; exact absurd (ho.symm.trans hc) (by decide)
      · exact r.sep j k b c u ne q1 q2 hb hc ((List.getElem?_set_ne (Ne.symm n1)).symm.trans sj) ((List.getElem?_set_ne (Ne.symm n2)).symm.trans sk)
end
abbrev lawP (p : Addr) : Option AV := some (.kp fun v => v = .ref p)
abbrev lawL (p : Addr) : AE := [none, lawP p, none, none, none, none, none, none, none, none, none, none, none, none, none, none]
theorem rs_lawL {g : Ga} {H : Hp} {σ : L2.St} {p : Addr} (hl : σ.length = 16) (h1 : σ[1]? = some (some (.ref p))) : RS g (fun _ => False) H σ (lawL p) := by
  refine ⟨hl, fun i a h => ?_, fun i j a b v ne hi hj ha hb si sj => ?_, fun p z => z.elim⟩
  · have : i = 1 ∧ lawP p = some a := by
      rcases i with _ | _ | i
      · exact nomatch (show (some none : Option (Option AV)) = some (some a) from h)
      · exact ⟨rfl, Option.some.inj h⟩
      · rcases i with _|_|_|_|_|_|_|_|_|_|_|_|_|_|i
        all_goals first
          | exact nomatch (show (some none : Option (Option AV)) = some (some a) from h)
          | exact nomatch (show (none : Option (Option AV)) = some (some a) from h)
    obtain ⟨rfl, e⟩ := this
    cases e
    exact ⟨_, h1, rfl⟩
  · have key : ∀ {i : Nat} {a : AV}, (lawL p)[i]? = some (some a) → a.own = true → False := fun {i a} h ho => by
      rcases i with _ | _ | i
      · exact nomatch (show (some none : Option (Option AV)) = some (some a) from h)
      · cases (Option.some.inj (show some (lawP p) = some (some a) from h)); exact nomatch ho
      · rcases i with _|_|_|_|_|_|_|_|_|_|_|_|_|_|i
        all_goals first
          | exact nomatch (show (some none : Option (Option AV)) = some (some a) from h)
          | exact nomatch (show (none : Option (Option AV)) = some (some a) from h)
    exact key hi ha
theorem kt_exB {H H2 : Hp} {p q : Addr} {n : Nat} (h : H p = some (ferO p q n)) (e : ExB p H H2) : KT H H2 := fun b xs z => e b _ (fun w => by rw [w, h] at z; cases z) z
/-- the law's names and the ferry, n draws at most -/
structure LI (g : Ga) (H0 : Hp) (p q : Addr) (xs : List Int) (n : Nat) (σ : L2.St) (H : Hp) : Prop where
  len : σ.length = 16
  at1 : σ[1]? = some (some (.ref p))
  hp : ∃ m, m ≤ n ∧ H p = some (ferO p q m)
  hq : H q = some (.lst (xs.map V.int))
  ne : q ≠ p
  ex : Ex H0 H
  p0 : H0 p = none
section
variable {g : Ga} {base : Heap} {f : Addr} {cdv : Value} {A : Around} {outer : List Env} {s : Shared} {H0 : Hp} {E : XK}
theorem law_turn (W : Wx g) (hr : Room 15 (lawX g base f cdv A outer s H0 E).A) (hg : (lawX g base f cdv A outer s H0 E).A.guards = some []) {p q : Addr} {xs : List Int} {n : Nat} (hn : n + 120 < 2 ^ 19) {σ : L2.St} {H : Hp} (L : LI g H0 p q xs n σ H) {Dn : Ends}
    (nx : ∀ σ' H', LI g H0 p q xs (n + 120) σ' H' → Dn.nx σ' H') : XSs (lawX g base f cdv A outer s H0 E) Dn σ H lawB := by
  have nd : lawN.Nodup := sc_law.nd
  have hu := hr.units
  have hu64 : (lawX g base f cdv A outer s H0 E).A.units + 64 < cLine := by omega
  obtain ⟨fc, fdc, g1, g2, g3, g4⟩ := fn_law_corners W.toWn base
  have rs0 := rs_lawL (g := g) (H := H) L.len L.at1
  obtain ⟨m, hm, hp⟩ := L.hp
  -- the corners
  refine XSs.of (pss_cons (ps_asg (pe_tup (pa_cons (pe_call (E := E0) g4 (hr.mono (by decide)) (by rfl) g1 g2 g3 .nil pass0 (pa_cons (pe_var (i := 1) rfl (Or.inl rfl) (by decide) (by decide)) (pa_cons pe_int pa_nil)) (by decide)) (pa_cons (pe_call (E := E0) g4 (hr.mono (by decide)) (by rfl) g1 g2 g3 .nil pass0 (pa_cons (pe_var (i := 1) rfl (Or.inl rfl) (by decide) (by decide)) (pa_cons pe_int pa_nil)) (by decide)) pa_nil)))
    (pg_tup rfl (pgs_cons (pg_name (i := 3) nd rfl (Or.inr rfl)) (pgs_cons (pg_name (i := 4) nd rfl (Or.inr rfl)) pgs_nil)))) (pss_can _ _)) ?_
  refine ⟨_, L.at1, p, q, m, xs, rfl, hp, L.hq, L.ne, by omega, fun cs l1 us1 m1 H1 P b1 hp1 hm1 f1 w1 t1 => ?_⟩
  refine ⟨_, L.at1, p, q, m1, xs, rfl, hp1, b1 _ _ L.ne L.hq, L.ne, by omega, fun ds l2 us2 m2 H2 P' b2 hp2 hm2 f2 w2 t2 => ?_⟩
  refine ⟨by show 2 ≤ sizeLine; decide, fun T hT => ?_⟩
  refine ⟨T, [.ref l1, .ref l2], rfl, SqT.of upd_same, rfl, _, _, rfl, _, _, rfl, rfl, ?_⟩
  have nl1 : l1 ≠ p := fun z => by rw [z, hp1] at w1; cases w1
  have nl2 : l2 ≠ p := fun z => by rw [z, hp2] at w2; cases w2
  have eT := Evl.Ex.new (o := .tup [V.ref l1, .ref l2]) hT
  have z1 : TDs (upd H2 T (.tup [V.ref l1, .ref l2])) us1 (cs.map corD) := (t1.up (kt_exB hp1 b2)).up (Ex_kt eT)
  have z2 : TDs (upd H2 T (.tup [V.ref l1, .ref l2])) us2 (ds.map corD) := t2.up (Ex_kt eT)
  have y1 : (upd H2 T (.tup [V.ref l1, .ref l2])) l1 = some (.lst us1) := eT _ _ (b2 _ _ nl1 w1)
  have y2 : (upd H2 T (.tup [V.ref l1, .ref l2])) l2 = some (.lst us2) := eT _ _ w2
  have hp3 : (upd H2 T (.tup [V.ref l1, .ref l2])) p = some (ferO p q m2) := eT _ _ hp2
  have hq3 : (upd H2 T (.tup [V.ref l1, .ref l2])) q = some (.lst (xs.map V.int)) := eT _ _ (b2 _ _ L.ne (b1 _ _ L.ne L.hq))
  have ex3 : Ex H0 (upd H2 T (.tup [V.ref l1, .ref l2])) := fun b o h => by
    have nb : b ≠ p := fun z => by rw [z, L.p0] at h; cases h
    exact eT _ _ (b2 _ _ nb (b1 _ _ nb (L.ex _ _ h)))
  generalize upd H2 T (.tup [V.ref l1, .ref l2]) = H3 at z1 z2 y1 y2 hp3 hq3 ex3 ⊢
  have L3 : LI g H0 p q xs (n + 120) ((σ.set 3 (some (.ref l1))).set 4 (some (.ref l2))) H3 :=
    ⟨by rw [List.length_set, List.length_set]; exact L.len, by rw [List.getElem?_set_ne (by decide), List.getElem?_set_ne (by decide)]; exact L.at1, ⟨m2, by omega, hp3⟩, hq3, L.ne, ex3, L.p0⟩
  have rs3 : RS g (fun _ => False) H3 ((σ.set 3 (some (.ref l1))).set 4 (some (.ref l2))) (((lawL p).set 3 (some (.l false (cs.map corD)))).set 4 (some (.l false (ds.map corD)))) :=
    ((rs_lawL (g := g) (H := H3) L.len L.at1).putS (i := 3) (a := .l false (cs.map corD)) ⟨l1, us1, rfl, ⟨fun z => z.elim, fun z => nomatch z⟩, y1, z1⟩ rfl).putS (i := 4) (a := .l false (ds.map corD)) ⟨l2, us2, rfl, ⟨fun z => z.elim, fun z => nomatch z⟩, y2, z2⟩ rfl
  clear t1 t2 w1 w2 b1 b2 f1 f2 hT eT rs0 z1 z2 y1 y2 hp1 hp2 hp
  generalize (σ.set 3 (some (.ref l1))).set 4 (some (.ref l2)) = σ3 at L3 rs3 ⊢
  clear L
  -- the profiles, the dict, the stands
  obtain ⟨ws, sw, mw'⟩ := sl_ex (stnL cs ds)
  have mw : ∀ p, p ∈ ws ↔ stA cs ds p ∨ stB cs ds p := fun p => (mw' p).trans (stnL_mem cs ds p)
  have mwl : ∀ p, p ∈ ws ↔ stA' cs ds p ∨ stB' cs ds p := fun p => by rw [mw, stA_eq, stB_eq]
  have hw : ws.length ≤ 112 := Nat.le_trans (sub_len sw.nodup fun p hp => (mw' p).mp hp) (stnL_len P P')
  refine XSs.of (pss_cons (ps_asg (pe_tup (pa_cons (pe_can _ _) (pa_cons (pe_can _ _) (pa_cons pe_dnewA (pa_cons (pe_can _ _) pa_nil)))))
    (pg_tup rfl (pgs_cons (pg_name (i := 5) nd rfl (Or.inl rfl)) (pgs_cons (pg_name (i := 6) nd rfl (Or.inl rfl)) (pgs_cons (pg_name (i := 7) nd rfl (Or.inl rfl)) (pgs_cons (pg_name (i := 8) nd rfl (Or.inl rfl)) pgs_nil)))))) (pss_can _ _)) ?_
  refine (c_Profile W.toWp hr (de_vl 3) P).run _ _ _ _ rs3 fun v5 H4 e4 r5 => ?_
  refine (c_Profile W.toWp hr (de_vl 4) P').run _ _ _ _ (rs3.mono e4) fun v6 H5 e5 r6 => ?_
  intro d hd lo
  have ed := Evl.Ex.new (o := .ext (IsDic d #[])) hd
  refine (c_law_stands W.toWd hr (de_vl 3) (de_vl 4) P P' sw mwl).run _ _ _ _ (((rs3.mono e4).mono e5).mono ed) fun v8 H6 e6 r8 => ?_
  obtain ⟨l8, us8, rfl, f8, w8, t8⟩ := r8
  refine ⟨by show 4 ≤ sizeLine; decide, fun T hT => ?_⟩
  refine ⟨T, [v5, v6, .ref d, .ref l8], rfl, SqT.of upd_same, rfl, _, _, rfl, _, _, rfl, _, _, rfl, _, _, rfl, rfl, ?_⟩
  have eT := Evl.Ex.new (o := .tup [v5, v6, V.ref d, .ref l8]) hT
  have rs5 : RS g (fun _ => False) H5 ((σ3.set 5 (some v5)).set 6 (some v6)) _ := (((rs3.mono e4).putS (i := 5) (a := .pr cs) r5 rfl).mono e5).putS (i := 6) (a := .pr ds) r6 rfl
  have rs7 := rs5.putOwn (i := 7) (a := .m true []) ed hd (by rw [upd_same]; trivial) rfl ⟨d, rfl, ⟨fun _ => rfl, fun _ => .inr rfl⟩, #[], upd_same, .nil, lo, List.nodup_nil, fun _ h => by cases h⟩
  have nl8 : l8 ≠ d := fun z => by
    have := f8 rfl
    rw [z, upd_same] at this; cases this
  have rs8 := ((rs7.mono e6).putS (i := 8) (v := .ref l8) (a := .l false (ws.map stnD)) ⟨l8, us8, rfl, ⟨fun z => (z.elim (fun y => y.elim) fun y => absurd y nl8), fun z => nomatch z⟩, w8, t8⟩ rfl).mono eT
  have e3 : Ex H3 (upd H6 T (.tup [v5, v6, V.ref d, .ref l8])) := (((e4.trans e5).trans ed).trans e6).trans eT
  have I8 : SI (lawX g base f cdv A outer s H0 E) H3 (lawT none (lawP p) none cs ds [] ws none none none none none none none) _ _ := ⟨_, rs8, e3, fun b hb => by
    rcases hb with z | z
    · exact z.elim
    · rw [z]; exact Evl.fresh_back (e4.trans e5) hd⟩
  have body : DS (lawX g base f cdv A outer s H0 E) (lawT none (lawP p) none cs ds [] ws none none none none none none none) [nthSt lawB 2, nthSt lawB 3, nthSt lawB 4, nthSt lawB 5] (fun τ => τ[1]? = some (lawP p) ∧ τ.length = 16) (fun _ => False) := by
    have bds : ∀ p ∈ ws, Bq p.1 ∧ Bq p.2 := fun p hp => stn_bd P P' ((mw p).mp hp)
    have sh := sh_stns bds (by omega)
    have dp8 : D.deps (ws.map stnD) ≤ 8 := Nat.le_trans (stnsD_dep _) (by decide)
    refine ds_if (dt_eq (dt_cmp od_neS (de_cb (bu_reprT hg sh (by decide) dp8 hu64) (da_d (c_stands_of W.toWn hr (de_vp 5) (de_vp 6) P P' sw mw) da_nil) (W.bl "repr") boot_repr')
      (de_cb (bu_reprT hg sh (by decide) dp8 hu64) (da_d (de_cty (ty_tupL (o := false)) (da_l (de_vl 8) da_nil) (W.bl "tuple") boot_tuple) da_nil) (W.bl "repr") boot_repr')) rfl) (fun h => nomatch h) (fun _ => ds_nil ?_)
    exact law_loop1 W hr hg P P' sw.nodup mw hw fun b9 => law_loop2 W hr P P' mw fun b10 b11 b12 b13 => law_loop3 W hr P P' mw fun _ _ _ _ => ds_nil ⟨rfl, rfl⟩
  refine body.run H3 Dn _ _ ex3 I8 (fun τ' σ' H' ⟨h1, h2⟩ ⟨O, rs', eg, _⟩ => nx σ' H' ?_) (fun a v H' ha => ha.elim)
  obtain ⟨u, hu1, hu2⟩ := rs'.at_ 1 _ h1
  exact ⟨rs'.len.trans h2, by rw [hu1, show u = .ref p from hu2], ⟨m2, by omega, eg _ _ hp3⟩, eg _ _ hq3, L3.ne, ex3.trans eg, L3.p0⟩
end
end BF

set_option Elab.async false
set_option linter.all false
set_option maxRecDepth 100000
set_option maxHeartbeats 4000000
set_option autoImplicit false
/-! The law's own body, whole. -/
namespace BF
open PySem PySem.Spec PyProof.Rows L2
theorem LI.set {g : Ga} {H0 : Hp} {p q : Addr} {xs : List Int} {n : Nat} {σ : L2.St} {H : Hp} {v : V} (L : LI g H0 p q xs n σ H) : LI g H0 p q xs n (σ.set 2 (some v)) H :=
  ⟨by rw [List.length_set]; exact L.len, by rw [List.getElem?_set_ne (by decide)]; exact L.at1, L.hp, L.hq, L.ne, L.ex, L.p0⟩
section
variable {g : Ga} {base : Heap} {f : Addr} {cdv : Value} {A : Around} {outer : List Env} {s : Shared} {H0 : Hp} {E : XK}
theorem law_body (W : Wx g) (hr : Room 15 (lawX g base f cdv A outer s H0 E).A) (hg : (lawX g base f cdv A outer s H0 E).A.guards = some []) {a : Addr} {ns : List Int} (hS : SqL g.K H0 a (ns.map V.int)) (hn : ns.length ≤ 100000) {Dn : Ends} (rt : ∀ H', Dn.rt (.bl true) H') :
    XSs (lawX g base f cdv A outer s H0 E) Dn (L2.start lawN [.ref a]) H0 (defBody (top 80)) := by
  have nd : lawN.Nodup := sc_law.nd
  obtain ⟨ff, fdf, g1, g2, g3, g4⟩ := fn_law_ferry W.toWn base
  refine XSs.of (pss_cons (ps_set (i := 1) nd rfl (Or.inl rfl) (pe_call (E := E0) g4 (hr.mono (by decide)) (by rfl) g1 g2 g3 .nil pass0 (pa_cons (pe_var (i := 0) rfl (Or.inl rfl) (by decide) (by decide)) pa_nil) (by decide)) (by rfl)) (pss_can _ _)) ?_
  refine ⟨_, rfl, a, ns, rfl, hS, hn, fun p q ms H1 e1 hp0 hq0 ne hp hq => ?_⟩
  refine XSs.hide (n := 0) hp (Int.le_refl _) (Int.le_refl _) (Int.le_refl _) ?_
  have L : LI g H0 p q ms 0 ((L2.start lawN [.ref a]).set 1 (some (.ref p))) (upd H1 p (ferO p q 0)) :=
    ⟨rfl, rfl, ⟨0, Nat.le_refl _, upd_same⟩, by rw [upd_ne ne]; exact hq, ne, fun b o h => by
      have nb : b ≠ p := fun z => by rw [z, hp0] at h; cases h
      rw [upd_ne nb]; exact e1 _ _ h, hp0⟩
  generalize (L2.start lawN [.ref a]).set 1 (some (.ref p)) = σ at L ⊢
  generalize upd H1 p (ferO p q 0) = H at L ⊢
  refine XSs.of (pss_cons (ps_for (by exact PassesOwn.never) (by rfl) (pi_range1 (by rfl) (W.bl "range") (pa_cons pe_int pa_nil) (by rfl)) (pg_name (i := 2) nd rfl (Or.inl rfl)) (pss_can _ lawB) (by intro _; rfl)) (pss_can _ _)) ?_
  refine ⟨2, rfl, by decide, by decide, for_range (lo := 0) (n := 2) (g := gName 2) (tb := fun D σ H => XSs (lawX g base f cdv A outer s H0 E) D σ H lawB) (D := { Dn with nx := fun σ H => XSs _ Dn σ H _ }) (fun t σ H => LI g H0 p q ms (120 * t) σ H) L (fun t σ' H' ht L' => ?_) fun σ' H' L' => ?_⟩
  · exact law_turn W hr hg (by omega) L'.set fun σ2 H2 L2 => L2
  · exact XSs.of (pss_cons (ps_ret pe_bl) pss_nil) (rt _)
end
end BF

set_option Elab.async false
set_option linter.all false
set_option maxRecDepth 100000
set_option maxHeartbeats 0
set_option autoImplicit false
/-! What the top has left, looked at by one own Hook. -/
namespace BF
open PySem PySem.Spec PyProof.Rows L2
/-! ### the part of the heap -/
def nextA (g : Addr → Option Obj) (as : List Addr) : List Addr := as.flatMap fun a => match g a with
  | some o => He.refsD o
  | none => []
def levA (g : Addr → Option Obj) : Nat → List Addr → List Addr
  | 0, as => as
  | n + 1, as => as ++ levA g n (nextA g as)
def partK (g : Addr → Option Obj) : PySem.W.Frag := He.frG g (cStatics :: levA g 4 [mainGlobals])
/-! ### what is looked at -/
def hdA : List He.DefD := fnsL.map fun p => ⟨(p.1, none), p.1, p.1, defArgs (top p.2), defBody (top p.2), defScope (top p.2), [], []⟩
def hdB : List He.DefD := [⟨("need_profile", none), "need_profile", "need_profile", defArgs (top 35), defBody (top 35), defScope (top 35), [.str "profile"], []⟩,
  ⟨("need_stand", none), "need_stand", "need_stand", defArgs (top 58), defBody (top 58), defScope (top 58), [.str "stand"], []⟩,
  ⟨("Profile", some "__init__"), "__init__", "Profile.__init__", defArgs initP, defBody initP, defScope initP, [], []⟩,
  ⟨("law", none), "law", "law", defArgs (top 80), defBody (top 80), defScope (top 80), [], []⟩]
def hdD : List He.DefD := hdA ++ hdB
def faA : List He.Fa := bltL.map He.Fa.free
def faP : List He.Fa := fnsL.map fun p => He.Fa.glo p.1
def faB : List He.Fa := [.free "super", .glo "Profile", .glo "BadStand", .glo "need_profile", .glo "need_stand", .glo "law", .int "MOST_SIZE" 999999999999, .int "MOST_CORNERS" 60, .cls "Profile", .mkr "Profile"]
def faC : List He.Fa := [.noat "Profile" "corners", .noat "Profile" "many", .noat "Profile" "low", .noat "Profile" "high", .noat "Profile" "wide"]
def faD : List He.Fa := faA ++ (faP ++ (faB ++ faC))
abbrev bsC (K : PySem.W.Frag) : Addr := He.ga K "BadStand"
abbrev bsI (K : PySem.W.Frag) : Addr := He.ma K (bsC K) "__init__"
abbrev pfC (K : PySem.W.Frag) : Addr := He.ga K "Profile"
def oexT (K : PySem.W.Frag) (C : Addr) : Bool := match K.lookup C with
  | some ⟨.type t, _, .cls cd, sl⟩ => (match cd.mro, sl.toList with
    | .ref c :: bm, [_, _, _, _, some (.builtin n), _] => decide (t = "type") && (decide (c = C) && (decide (n = "ValueError.__new__") && (PySem.HandSPX.refsVE bm && (!cd.hasDel && cd.hasDict))))
    | _, _ => false)
  | _ => false
def codeT (K : PySem.W.Frag) (v : Value) : Bool := match v with
  | .ref cda => PySem.W.codeIn K (.ref cda) "BadStand.__init__" && (match K.lookup cda with
    | some ⟨_, _, .fields vs, _⟩ => (match (vs[2]? : Option Value) with
      | some (.str file _) => ((PySem.Challenge.pw_bothfeet_k16_whole_ways_lead_back.main.file : Str) == file)
      | _ => false)
    | _ => false)
  | _ => false
def cellT (K : PySem.W.Frag) (cs : List (Str × Addr)) (C : Addr) : Bool := match cs with
  | [(_, cl)] => (match K.lookup cl with
    | some ⟨_, _, .cell (some (.ref c)), _⟩ => decide (c = C)
    | _ => false)
  | _ => false
def fnT (K : PySem.W.Frag) : Bool := match K.lookup (bsI K) with
  | some ⟨_, _, .func fd, _⟩ => (match fd.defaults with
    | .none => true
    | _ => false) && (codeT K fd.code && cellT K fd.closure (bsC K))
  | _ => false
def moreT (K : PySem.W.Frag) : Bool := fnT K && (oexT K (bsC K) && ((PySem.W.clsIn K (bsC K)).isSome && (PySem.W.keepIn K (.ref (bsC K)) && (xfB K (bsC K) && (decide (PySem.W.typeIn K (.ref (bsI K)) = some (.type "function")) &&
  (decide (PySem.W.findIn K (.ref (bsC K)) "__init__" = some (some (.ref (bsI K)))) && (decide (PySem.W.ks_superIn K (bsC K) (bsC K) "__init__" = some (some (.builtin "ValueError.__init__"))) &&
  (decide (PySem.W.subIn K (.ref (bsC K)) (.type "ValueError") = some true) && (decide (PySem.W.nsIn K cStatics "thirdparty.any" = some none) && (decide (PySem.W.mroIn K (bsC K) (.ref (bsC K)) = some true) &&
  (decide (PySem.W.findIn K (.ref (bsC K)) "__setattr__" = some (some (.builtin "object.__setattr__"))) && (decide (PySem.W.subIn K (.ref (bsC K)) (.type "BaseException") = some true) && (decide (PySem.W.typeIn K (.ref (bsC K)) = some (.type "type")) &&
  (decide (PySem.W.findIn K (.ref (bsC K)) "part" = some none) && decide (PySem.W.exmOne K (.ref (bsC K)) (.ref (bsC K)) = some true)))))))))))))))
def pfT (K : PySem.W.Frag) : Bool := decide (PySem.W.findIn K (.ref (pfC K)) "__class__" = some (some (.builtin "object.__class__"))) && (decide (PySem.W.specialIn K (.builtin "object.__class__") "__get__" = some (some (.builtin "getset_descriptor.__get__"))) &&
  (decide (PySem.W.takesIn K (.builtin "object.__class__") = some true) && decide (PySem.W.mroIn K (pfC K) (.type "object") = some true)))
abbrev BsW : Type := Option (Str × Str × Arguments × FuncBody × Scope × Addr × List Str × Addr)
def bsW (K : PySem.W.Frag) : BsW := match K.lookup (bsI K) with
  | some ⟨_, _, .func fd, _⟩ => some (fd.name, fd.qualname, fd.params, fd.body, fd.scope, fd.globals, fd.closure.map (·.1), fd.builtins)
  | _ => none
def bsV : BsW := some ("__init__", "BadStand.__init__", defArgs initB, .stmts (defBody initB), defScope initB, mainGlobals, ["__class__"], builtinsNs)
abbrev AlB : Type := (Bool × BsW) × He.AlD
def seeK (K : PySem.W.Frag) : AlB := ((moreT K && pfT K, bsW K), He.obsD faD hdD K)
def seeV : AlB := ((true, bsV), He.valD hdD)
def hookB : PySem.W.Hook where
  α := AlB
  obs := fun s => seeK (partK s.heap.get?)
  val := fun _ => seeV
  says := fun _ h => ∃ K : PySem.W.Frag, K.In h ∧ seeK K = seeV
  of := fun _ _ e => ⟨_, He.frG_in, e⟩
  keeps := fun _ _ _ ⟨K, hK, c⟩ k => ⟨K, PySem.W.Frag.In.keeps hK k, c⟩
def seeT (s : PySem.W.SharedT) : AlB := seeK (partK (HandSHeadRun.getT s))
theorem seeT_eq (s : PySem.W.SharedT) : seeT s = hookB.obs s.abs := by
  have e : HandSHeadRun.getT s = s.abs.heap.get? := funext (HandSHeadRun.getT_eq s)
  unfold seeT
  rw [e] <;> rfl
def looseA : List Str := (["_wall", "ClimbError", "BadProfile", "BadStand", "TooMany", "BadText", "is_integer", "is_within", "common", "is_number", "BAR", "FIGURES", "MOST_FIGURES", "figures_in", "Scan", "parts_of", "lowest", "added", "less_by", "product", "part_by", "below", "ascending", "MOST_CORNERS", "MOST_SIZE", "is_small", "is_corner", "are_corners", "Profile", "taken_size", "need_profile", "sides_of", "height_on", "place_on", "has_place", "height_in", "places_in"] : List String).map Str.ofString
def looseB : List Str := (["leading_from", "ups_at", "downs_at", "is_place_in", "kept", "is_corner_place", "is_stand_in", "stands_by", "all_stands", "side_at", "ends_of", "pairs_of", "many_in", "ways_in", "need_both", "need_stand", "stands_of", "many_ways", "ways_on", "_law_ferry", "_law_oar", "_law_pick", "_law_low", "_law_two", "_law_before", "_law_corners", "_law_on", "_law_sides", "_law_height", "_law_places", "_law_in_order", "_law_stands", "_law_leading", "_law_ways", "_law_is_along", "_law_refused"] : List String).map Str.ofString
def looseN : List Str := looseA ++ looseB
abbrev rowR : PySem.W.OpenRow := PySem.W.OpenLaw.row PySem.Challenge.rw_bothfeet_k16_whole_ways_lead_back
end BF

set_option Elab.async false
set_option linter.all false
set_option maxRecDepth 100000
set_option maxHeartbeats 0
set_option autoImplicit false
/-! The run of the top. -/
namespace BF
open PySem PySem.Spec PyProof.Rows L2
theorem top_run (w : World) : HandSHeadRun.RunEq rowR (PySem.W.view rowR.prog [80]) hookB seeT 12000 looseN w := by
  intro os
  kernel_rfl
end BF

set_option Elab.async false
set_option linter.all false
set_option maxRecDepth 100000
set_option maxHeartbeats 2000000
set_option autoImplicit false
/-! From what was looked at to what the proofs lean on. -/
namespace BF
open PySem PySem.Spec PyProof.Rows L2
theorem fun_of {K : PySem.W.Frag} {x qual : Str} {st : Stmt} {f : Addr} {fd : FuncData} (F : FunD K x qual (defArgs st) (defBody st) (defScope st) [] [] f fd) : Fun K x qual st f fd := by
  obtain ⟨⟨oc, od, dV, kV, doc, pm, an, cdv, ct, osl, e, l, c, d, _⟩, kp⟩ := F
  rcases d with ⟨_, rfl⟩ | ⟨h, _⟩
  · exact ⟨⟨oc, od, kV, doc, pm, an, cdv, ct, osl, e, l, c⟩, kp⟩
  · exact absurd rfl h
section
variable {K : PySem.W.Frag} {h : Heap} {mg : Str → Option Value} {w : World}
theorem see_facts (c : seeK K = seeV) : He.SaysD faD hdD K := congrArg (fun z : AlB => z.2) c
theorem see_more (c : seeK K = seeV) : moreT K = true ∧ pfT K = true := Bool.and_eq_true_iff.mp (congrArg (fun z : AlB => z.1.1) c)
theorem see_bs (c : seeK K = seeV) : bsW K = bsV := congrArg (fun z : AlB => z.1.2) c
theorem oex_of (C : Addr) (h : oexT K C = true) : ∃ nm q N bs bm sn sub ab col dd k0 k1 k2 k3 k5, K.lookup C = some (excClassObj nm q C N bs bm true sn sub ab col dd k0 k1 k2 k3 k5 "ValueError.__new__") ∧ PySem.HandSPX.refsVE bm = true := by
  unfold oexT at h
  split at h
  · rename_i t dd cd sl ho
    split at h
    · rename_i c bm k0 k1 k2 k3 n k5 hm hs
      simp only [Bool.and_eq_true, decide_eq_true_eq, Bool.not_eq_true'] at h
      obtain ⟨rfl, rfl, rfl, hv, hdel, hdict⟩ := h
      obtain ⟨nm, bs, mro, ns, qn, hd, sn, sub, ab, col, del⟩ := cd
      dsimp only at hm hdel hdict
      subst hm hdel hdict
      obtain ⟨l⟩ := sl
      dsimp only at hs
      subst hs
      exact ⟨nm, qn, ns, bs, bm, sn, sub, ab, col, dd, k0, k1, k2, k3, k5, ho, hv⟩
    · exact nomatch h
  · exact nomatch h
theorem code_of {v : Value} (h : codeT K v = true) : ∃ (cda : Addr) (ccl : Value) (cdd : Option Addr) (vs : Array Value) (ccs : Array (Option Value)) (file : Str) (tf : Tok), v = .ref cda ∧ PySem.W.codeIn K (.ref cda) "BadStand.__init__" = true ∧ K.lookup cda = some ⟨ccl, cdd, .fields vs, ccs⟩ ∧ vs[2]? = some (.str file tf) ∧
    ((PySem.Challenge.pw_bothfeet_k16_whole_ways_lead_back.main.file : Str) == file) = true := by
  cases v with
  | ref cda =>
    obtain ⟨h1, h2⟩ := Bool.and_eq_true_iff.mp (show (PySem.W.codeIn K (.ref cda) "BadStand.__init__" && _) = true from h)
    split at h2
    · rename_i ccl cdd vs ccs ho
      split at h2
      · rename_i file tf hf
        exact ⟨cda, ccl, cdd, vs, ccs, file, tf, rfl, h1, ho, hf, h2⟩
      · exact nomatch h2
    · exact nomatch h2
  | _ => exact nomatch h
theorem cell_of {cs : List (Str × Addr)} {C : Addr} (h : cellT K cs C = true) : ∃ x cl clc cld csl, cs = [(x, cl)] ∧ K.lookup cl = some ⟨clc, cld, .cell (some (.ref C)), csl⟩ := by
  match cs, h with
  | [(x, cl)], h =>
    have h2 : (match K.lookup cl with
      | some ⟨_, _, .cell (some (.ref c)), _⟩ => decide (c = C)
      | _ => false) = true := h
    split at h2
    · rename_i clc cld c csl ho
      have e : c = C := of_decide_eq_true h2
      exact ⟨x, cl, clc, cld, csl, rfl, by rw [ho, e]⟩
    · exact nomatch h2
theorem bs_of {P : Program} (hP : P = PySem.Challenge.pw_bothfeet_k16_whole_ways_lead_back) (c : seeK K = seeV) (sn : mg "super" = none) : ∃ fd, BsFn P K mg (bsC K) (bsI K) fd ∧ XfC K (bsC K) ∧ PySem.W.exmOne K (.ref (bsC K)) (.ref (bsC K)) = some true := by
  have m := (see_more c).1
  have bw := see_bs c
  unfold moreT at m
  simp only [Bool.and_eq_true, decide_eq_true_eq] at m
  obtain ⟨m1, m2, m3, m4, m5, m6, m7, m8, m9, m10, m11, m12, m13, m14, m15, m16⟩ := m
  obtain ⟨cd, hcd⟩ := Option.isSome_iff_exists.mp m3
  unfold fnT at m1
  unfold bsW bsV at bw
  split at m1
  · rename_i oc od fd osl ho
    rw [ho] at bw
    obtain ⟨n1, n2, n3, n4, n5, n6, n7, n8, n9, n10, n11, n12, n13, n14, n15⟩ := fd
    simp only [Option.some.injEq, Prod.mk.injEq] at bw
    obtain ⟨e1, e2, e3, e4, e5, e6, e7, e8⟩ := bw
    obtain ⟨d1, d2⟩ := Bool.and_eq_true_iff.mp m1
    obtain ⟨d3, d4⟩ := Bool.and_eq_true_iff.mp d2
    obtain ⟨cda, ccl, cdd, vs, ccs, file, tf, f1, f2, f3, f4, f5⟩ := code_of d3
    obtain ⟨x, cl, clc, cld, csl, f6, f7⟩ := cell_of d4
    dsimp only at f1 f6 d1
    subst e1 e2 e3 e4 e5 e6 e8 f1 f6
    have ex : x = "__class__" := by
      have z : [x] = [("__class__" : Str)] := e7
      exact (List.cons.inj z).1
    subst ex
    cases n8 with
    | none =>
      exact ⟨_, ⟨⟨cl, cda, .none, n9, n10, n11, n12, n14, oc, ccl, clc, od, cdd, cld, osl, ccs, csl, vs, file, tf, cd, rfl, ho, f2, f7, f3, f4, by rw [hP]; exact f5, hcd⟩, m6, m7, m8, m9, m10, m11, sn, by rw [hP]; decide +kernel, ⟨oex_of _ m2, m12, m13, m14, m4⟩, m15⟩, xfB_ok m5, m16⟩
    | _ => exact nomatch d1
  · exact nomatch m1
end
end BF

set_option Elab.async false
set_option linter.all false
set_option maxRecDepth 100000
set_option maxHeartbeats 2000000
set_option autoImplicit false
/-! What the proofs lean on stands behind the top. -/
namespace BF
open PySem PySem.Spec PyProof.Rows L2
abbrev prg : Program := PySem.Challenge.pw_bothfeet_k16_whole_ways_lead_back
section
variable {K : PySem.W.Frag} {h : Heap} {mg : Str → Option Value} {w : World}
theorem fact_of (c : seeK K = seeV) {f : He.Fa} (m : f ∈ faD) : f.ok K = true := (see_facts c).facts m
theorem faB_in {f : He.Fa} (m : f ∈ faB) : f ∈ faD := List.mem_append_right _ (List.mem_append_right _ (List.mem_append_left _ m))
theorem faC_in {f : He.Fa} (m : f ∈ faC) : f ∈ faD := List.mem_append_right _ (List.mem_append_right _ (List.mem_append_right _ m))
theorem hdB_of (c : seeK K = seeV) {d : He.DefD} (m : d ∈ hdB) : ∃ fd, FunD K d.name d.qual d.params d.body d.scope (d.dvs K) (d.kws K) (He.fAd K d.at_) fd := (see_facts c).defs (List.mem_append_right _ m)
theorem wx_of (X : K.In h) (G : h.Ns mainGlobals mg) (c : seeK K = seeV) : Wx ⟨prg, w, K, mg⟩ := by
  have eP : ∀ C, mg "Profile" = some (.ref C) → C = pfC K := fun C hC => by
    have z := hC.symm.trans (He.glo_ok X G (fact_of c (f := .glo "Profile") (faB_in (.tail _ (.head _)))))
    cases z; rfl
  have hcls : Cls K (pfC K) := He.cls_ok (fact_of c (f := .cls "Profile") (faB_in (by simp [faB])))
  have hnc : ∀ x, He.Fa.noat "Profile" x ∈ faC → NoAttr K (pfC K) x := fun x m => He.noat_ok (fact_of c (faC_in m))
  have na : ∀ C, mg "Profile" = some (.ref C) → ∀ x ∈ (["corners", "many", "low", "high", "wide"] : List Str), NoAttr K C x := fun C hC x hx => by
    rw [eP C hC]
    refine hnc x ?_
    simp only [List.mem_cons, List.not_mem_nil, or_false] at hx
    rcases hx with rfl | rfl | rfl | rfl | rfl <;> simp [faC]
  have h_blt : ∀ x ∈ bltL, mg x = none := fun x hx => He.free_ok X G (fact_of c (f := .free x) (List.mem_append_left _ (List.mem_map_of_mem hx)))
  have h_pc : mg "Profile" = some (.ref (pfC K)) := He.glo_ok X G (fact_of c (f := .glo "Profile") (faB_in (.tail _ (.head _))))
  have h_ms : ∃ t, mg "MOST_SIZE" = some (.int 999999999999 t) := He.int_ok X G (fact_of c (f := .int "MOST_SIZE" 999999999999) (faB_in (by simp [faB])))
  have h_mc : ∃ t, mg "MOST_CORNERS" = some (.int 60 t) := He.int_ok X G (fact_of c (f := .int "MOST_CORNERS" 60) (faB_in (by simp [faB])))
  refine ⟨⟨⟨⟨fun p hp => ?_, h_blt, fun C hC => ?_, ⟨_, h_pc⟩⟩, ?_, ?_⟩, h_ms, h_mc, fun C hC => ?_, na⟩, ?_⟩
  · obtain ⟨fd, F⟩ := (see_facts c).defs (d := ⟨(p.1, none), p.1, p.1, defArgs (top p.2), defBody (top p.2), defScope (top p.2), [], []⟩) (List.mem_append_left _ (List.mem_map_of_mem (f := fun p => (⟨(p.1, none), p.1, p.1, defArgs (top p.2), defBody (top p.2), defScope (top p.2), [], []⟩ : He.DefD)) hp))
    exact ⟨He.ga K p.1, fd, He.glo_ok X G (fact_of c (f := .glo p.1) (List.mem_append_right _ (List.mem_append_left _ (List.mem_map_of_mem (f := fun p => He.Fa.glo p.1) hp)))), fun_of F⟩
  · rw [eP C hC]
    have m := (see_more c).2
    unfold pfT at m
    simp only [Bool.and_eq_true, decide_eq_true_eq] at m
    exact ⟨hcls, hnc "corners" (by simp [faC]), m.1, m.2.1, m.2.2.1, m.2.2.2⟩
  · obtain ⟨fd, F⟩ := hdB_of c (.head _)
    exact ⟨_, fd, He.glo_ok X G (fact_of c (f := .glo "need_profile") (faB_in (by simp [faB]))), F⟩
  · obtain ⟨fd, F⟩ := hdB_of c (.tail _ (.head _))
    exact ⟨_, fd, He.glo_ok X G (fact_of c (f := .glo "need_stand") (faB_in (by simp [faB]))), F⟩
  · rw [eP C hC]
    obtain ⟨fd, F⟩ := hdB_of c (.tail _ (.tail _ (.head _)))
    exact ⟨_, fd, He.mkr_ok (fact_of c (f := .mkr "Profile") (faB_in (by simp [faB]))), fun_of F⟩
  · obtain ⟨fd, B, XC, ex⟩ := bs_of (mg := mg) (P := prg) rfl c (He.free_ok X G (fact_of c (f := .free "super") (faB_in (by simp [faB]))))
    exact ⟨bsC K, bsI K, fd, He.glo_ok X G (fact_of c (f := .glo "BadStand") (faB_in (by simp [faB]))), B, XC, ex⟩
theorem law_of (X : K.In h) (G : h.Ns mainGlobals mg) (c : seeK K = seeV) : ∃ f fd, mg "law" = some (.ref f) ∧ Fun K "law" "law" (top 80) f fd := by
  obtain ⟨fd, F⟩ := hdB_of c (.tail _ (.tail _ (.tail _ (.head _))))
  exact ⟨_, fd, He.glo_ok X G (fact_of c (f := .glo "law") (faB_in (by simp [faB]))), fun_of F⟩
end
end BF

set_option Elab.async false
set_option linter.all false
set_option maxRecDepth 100000
set_option maxHeartbeats 2000000
set_option autoImplicit false
/-! The law, called where nothing is being shown. -/
namespace BF
open PySem PySem.Spec PyProof.Rows L2
theorem room16 : Room 16 callerA := ⟨rfl, by decide, by decide⟩
theorem law_run {g : Ga} (W : Wx g) {f : Addr} {fd : FuncData} (F : Fun g.K "law" "law" (top 80) f fd) {base : Heap} {H : Hp} {s : Shared} {a : Addr} {ns : List Int} (e0 : Env0 g.P g.w g.K g.mg base callerA [] s H) (hS : SqL g.K H a (ns.map V.int)) (hn : ns.length ≤ 100000) :
    codeAny (model g.P g.w) callerA (.call (.ref f) ⟨[.ref a], []⟩) (CR CX0 [] g.P g.w H s (fun v _ => v = .bl true) fun _ _ _ => False) s := by
  have B : Binds g.K fd ["_law_script"] [] := F.binds fun _ _ _ _ _ _ us hl => match us, hl with | [_], _ => rfl
  have KX : g.K.In s.heap := PySem.W.Frag.In.keeps e0.mod.kin fun b o e => (e0.bs b o e).1
  have lim : s.heap.NoLimit := e0.mod.nolimit.keeps fun b o e => (e0.bs b o e).1
  have bind : BindsTo s fd ⟨[.ref a], []⟩ [("_law_script", Value.ref a)] := B s [.ref a] KX rfl
  obtain ⟨⟨oc, od, kV, doc, pm, an, cdv, ct, osl, rfl, lk, hcd⟩, kp⟩ := F
  refine codeAny_call_function room16.depth (KX _ _ lk) rfl sc_law.co sc_law.gen rfl (PySem.W.codeRec_of KX hcd) (bind _ _ _ _ ?_)
  refine wpAny_newFunctionEnv_cells sc_law.kind (fun y hy => .inl ?_) fun env he s1 x => ?_
  · obtain rfl : y = (("_law_script" : Str), Value.ref a) := List.mem_singleton.mp hy
    rfl
  subst he
  refine ⟨lim.keeps x.toInCall.keep, codeAny_func ?_⟩
  have I := inv_start (CX := CX0) (E := fun _ _ _ => False) sc_law rfl e0 (vs := [.ref a]) rfl (.cons rfl .nil) x
  have body := law_body (g := g) (base := base) (f := f) (cdv := cdv) (A := callerA) (outer := []) (s := s) (H0 := H) (E := fun _ _ _ => False) W (room16.deeper _) rfl hS hn (Dn := { nx := fun _ H' => (V.non : V) = .bl true, rt := fun v _ => v = .bl true }) (fun _ => rfl)
  refine wpAny_mono ((pss_can (lawX g base f cdv callerA [] s H fun _ _ _ => False) (defBody (top 80))).nox.run [] s1 _ H _ I body) (fun fl s' hs => ?_) fun e s' hs => hs
  match fl, hs with
  | .ret u, ⟨v, σ', H', J, r, q⟩ => exact ⟨v, H', J.os, J.bare, J.base, J.hok, r, q⟩
  | .next, ⟨_, _, _, q⟩ => exact nomatch (show V.non = V.bl true from q)
  | .brk, ⟨_, _, _, q⟩ => exact q.elim
  | .cont, ⟨_, _, _, q⟩ => exact q.elim
end BF

set_option Elab.async false
set_option linter.all false
set_option maxRecDepth 100000
set_option maxHeartbeats 2000000
set_option autoImplicit false
/-! The law over the heap behind the top. -/
namespace BF
open PySem PySem.Spec PyProof.Rows L2
/-- the script alone is known, where it is none of the module's own things -/
noncomputable def scrH (K : PySem.W.Frag) (a : Addr) (o : Obj) (ns : List Int) : Hp := fun b => if b = a ∧ K.lookup a = none then some (.frz o (.lst (ns.map V.int))) else none
theorem scrH_of {K : PySem.W.Frag} {a b : Addr} {o : Obj} {ns : List Int} {u : HO} (h : scrH K a o ns b = some u) : b = a ∧ K.lookup a = none ∧ u = .frz o (.lst (ns.map V.int)) := by
  unfold scrH at h
  split at h
  · rename_i q
    exact ⟨q.1, q.2, (Option.some.inj h).symm⟩
  · exact nomatch h
abbrev lstO (vs : List Value) : Obj := { cls := .type "list", data := .seq vs.toArray }
theorem law_ends {w : World} {K : PySem.W.Frag} {mg mb : Str → Option Value} {fa a : Addr} {s : Shared} {vs : List Value} {ns : List Int} (c : seeK K = seeV) (KX : K.In s.heap) (hns : s.heap.Ns mainGlobals mg) (hb : s.heap.Ns builtinsNs mb) (hbb : ∀ x : Str, x ≠ "__name__" → mb x = bootBuiltins x)
    (hlim : s.heap.NoLimit) (hg : s.gens = #[]) (ha : s.heap.get? a = some (lstO vs)) (hi : IntsAre vs ns) (hl : ns.length ≤ 63) (hfa : mg "law" = some (.ref fa)) :
    codeAny (model prg w) callerA (.call (.ref fa) ⟨[.ref a], []⟩) (fun r s' => r = .ok (.ret (.bool true)) ∧ OldK s.heap s'.heap ∧ s'.os = s.os ∧ AllBare s'.gens) s := by
  have rv := vals_ints hi
  have hz : (ns.map V.int).length ≤ sizeLine := by rw [List.length_map]; exact Evl.sz_of (by omega)
  have W := wx_of (w := w) KX hns c
  obtain ⟨f, fd, hf, F⟩ := law_of KX hns c
  obtain rfl : f = fa := by
    have z := hf.symm.trans hfa
    cases z; rfl
  generalize hH : scrH K a (lstO vs) ns = H
  have notD : ∀ {b : Addr} {o : Obj} {es : Array DictEntry} {ep : Nat}, s.heap.get? b = some o → o.data = .dict es ep → H b = none := fun {b o es ep} e d => by
    cases q : H b with
    | none => rfl
    | some u =>
      rw [← hH] at q
      obtain ⟨rfl, _, _⟩ := scrH_of q
      rw [ha] at e
      cases e
      exact nomatch d
  have notK : ∀ {b : Addr} {o : Obj}, K.lookup b = some o → H b = none := fun {b o} e => by
    cases q : H b with
    | none => rfl
    | some u =>
      rw [← hH] at q
      obtain ⟨rfl, z, _⟩ := scrH_of q
      rw [z] at e
      exact nomatch e
  have nsB : ∀ {b : Addr} {m : Str → Option Value}, s.heap.Ns b m → (hidT s.heap H).Ns b m := fun {b m} ⟨o, es, ep, e, d, r⟩ => ⟨o, es, ep, hidT_get e (notD e d), d, r⟩
  have md : Mod K mg (hidT s.heap H) := ⟨fun b o e => hidT_get (KX b o e) (notK e), nsB hns, ⟨mb, nsB hb, hbb⟩, let ⟨mc, h1, h2⟩ := hlim; ⟨mc, nsB h1, h2⟩⟩
  have hok : HOk prg w H s.heap := fun b u z => by
    rw [← hH] at z
    obtain ⟨rfl, _, rfl⟩ := scrH_of z
    exact ⟨ha, hz, vs, _, rv, ha⟩
  have e0 : Env0 prg w K mg (hidT s.heap H) callerA [] s H := ⟨rfl, md, fun b o e => of_hidT e, Nat.le_of_eq (hidT_size _ _), trivial, fun b z => absurd (show b ∈ ([] : List Addr) from z) (by simp), hok, .of_eq hg⟩
  have hS : SqL K H a (ns.map V.int) := by
    cases q : K.lookup a with
    | none => exact .inl (.inr ⟨lstO vs, by rw [← hH]; exact if_pos ⟨rfl, q⟩⟩)
    | some o =>
      have e := KX a o q
      rw [ha] at e
      cases e
      exact .inr ⟨_, vs.toArray, _, q, rfl, rfl, rfl, by rw [List.size_toArray, hi.length]; rw [List.length_map] at hz; exact hz, by simpa using rv⟩
  refine codeAny_mono (law_run (g := ⟨prg, w, K, mg⟩) W F e0 hS (by omega)) fun r s' h => ?_
  match r, h with
  | .error e, h => exact h.elim
  | .ok .next, h => exact h.elim
  | .ok .brk, h => exact h.elim
  | .ok .cont, h => exact h.elim
  | .ok (.ret u), ⟨v, H', os, bare, un, hok', r', q⟩ =>
    have q' : v = .bl true := q
    subst q'
    obtain rfl : u = Value.bool true := r'
    refine ⟨rfl, OldK.of_keep fun b o e => ?_, os, bare⟩
    cases q : H b with
    | none => exact un.keep b o e q (fun z => absurd (show b ∈ ([] : List Addr) from z) (by simp)) (by simp)
    | some t =>
      have q0 := q
      rw [← hH] at q0
      obtain ⟨rfl, _, rfl⟩ := scrH_of q0
      rw [ha] at e
      cases e
      exact (hok' _ _ (un.frzs _ _ _ q)).1
end BF

set_option autoImplicit true
set_option Elab.async false
set_option linter.all false
set_option maxRecDepth 100000
set_option maxHeartbeats 0
/-! The end. -/
open PySem PySem.W PySem.Calls PyProof.Rows
theorem PySem.Challenge.cw_bothfeet_k16_whole_ways_lead_back_holds : PySem.Challenge.rw_bothfeet_k16_whole_ways_lead_back.Holds := by
  w_on; o_law
  refine HandSHeadRun.head_any (r := BF.rowR) (q := view BF.rowR.prog [80]) (H := BF.hookB) (ob := BF.seeT) (M := 12000) (loose := BF.looseN) (d := HandSHeadRun.topDef BF.rowR.prog 80) (kwd := []) BF.seeT_eq
    (by kernel_rfl) (fun s => by kernel_rfl) BF.top_run (by kernel_rfl) (by kernel_rfl) (by kernel_rfl) (by rfl) (by first | assumption | decide +kernel) (by decide +kernel) ⟨rfl, rfl, rfl, rfl, rfl, by decide +kernel⟩ ?hw ?hc
  case hw => w_witness2
  case hc =>
    refine Att.attach_call (l := PySem.Challenge.rw_bothfeet_k16_whole_ways_lead_back) (n := 63) rfl (by kernel_rfl) fun w s₀ s₁ mg mb fa o pm cd doc a vs ns G Y ho hd hcd hmg hobj hints hlen hg => ?_
    obtain ⟨K, KX, c⟩ := Y
    have nm : (HandSHeadRun.topDef BF.rowR.prog 80).name = ("law" : PySem.Str) := by kernel_rfl
    rw [nm] at hmg
    exact BF.law_ends c KX G.T.g G.T.b G.T.builtins G.T.nolimit hg hobj hints hlen hmg
