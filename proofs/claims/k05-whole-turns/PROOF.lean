import PyProof.Rows.All
import Wide.All
import OpenK.AllK
import Wide.FinOn
import HandS.ForMost
import HandS.Walk
import HandS.Conv
import HandS.Style
import HandS.TupAny
import KE.GoesNew
import HandS.Zip
import HandS.IsInst
import HandS.Deep
import HandS.Wide
import PyProof.Rows.SeqMore
import PyProof.Rows.RuleB_pow
import KE.SortData
import PyProof.ReprReads
import HandS.NoneIn
import HandS.SetFor
import KE.SortLaws
import PySem.Challenge.RW_everyonegetsthere_k05_whole_turns_called
set_option Elab.async false
set_option linter.all false
set_option maxRecDepth 100000
set_option maxHeartbeats 4000000
/-! Dn1: values as trees over the abstract heap; who owns what. -/
namespace Dn
open PySem PySem.Spec PyProof.Rows L2

def keyD : Key → PyData
  | .inl i => .int i
  | .inr x => .str x
/-- a dict as it may be read, its keys as data -/
def DVr (F : Hp) (a : Addr) (kvs : List (PyData × V)) : Prop :=
  (∃ kk : List (Key × V), Rd F a (.dK kk) ∧ kvs = kk.map fun p => (keyD p.1, p.2)) ∨ ∃ kk : List (List Key × V), Rd F a (.dT kk) ∧ kvs = kk.map fun p => (.tuple (p.1.map keyD), p.2)
mutual
inductive Rp (K : PySem.W.Frag) (F : Hp) : V → PyData → Prop
  | non : Rp K F .non .none
  | bl (b : Bool) : Rp K F (.bl b) (.bool b)
  | int (i : Int) : Rp K F (.int i) (.int i)
  | str (x : Str) : Rp K F (.str x) (.str x)
  | lst {a : Addr} {xs : List V} {ds : List PyData} : SqL K F a xs → RpAll K F xs ds → Rp K F (.ref a) (.list ds)
  | tup {a : Addr} {xs : List V} {ds : List PyData} : SqT K F a xs → RpAll K F xs ds → Rp K F (.ref a) (.tuple ds)
  | dct {a : Addr} {kvs : List (PyData × V)} {es : List (PyData × PyData)} : DVr F a kvs → RpKV K F kvs es → Rp K F (.ref a) (.dict es)
inductive RpAll (K : PySem.W.Frag) (F : Hp) : List V → List PyData → Prop
  | nil : RpAll K F [] []
  | cons {v : V} {vs : List V} {d : PyData} {ds : List PyData} : Rp K F v d → RpAll K F vs ds → RpAll K F (v :: vs) (d :: ds)
inductive RpKV (K : PySem.W.Frag) (F : Hp) : List (PyData × V) → List (PyData × PyData) → Prop
  | nil : RpKV K F [] []
  | cons {k : PyData} {v : V} {vs : List (PyData × V)} {d : PyData} {ds : List (PyData × PyData)} : Rp K F v d → RpKV K F vs ds → RpKV K F ((k, v) :: vs) ((k, d) :: ds)
end

/-- what may be read stays readable -/
def RdLe (F F' : Hp) : Prop := ∀ a u, Rd F a u → Rd F' a u
theorem RdLe.refl (F : Hp) : RdLe F F := fun _ _ h => h
theorem RdLe.trans {F F1 F2 : Hp} (a : RdLe F F1) (b : RdLe F1 F2) : RdLe F F2 := fun x u h => b x u (a x u h)
theorem RdLe.of {F F' : Hp} (h : ∀ a o, F a = some o → F' a = some o) : RdLe F F' := fun a u r => by
  rcases r with r | ⟨o, r⟩
  · exact .inl (h _ _ r)
  · exact .inr ⟨o, h _ _ r⟩
theorem RdLe.seqL {K : PySem.W.Frag} {F F' : Hp} (l : RdLe F F') {a : Addr} {xs : List V} (h : SqL K F a xs) : SqL K F' a xs := by
  rcases h with h | h
  · exact .inl (l _ _ h)
  · exact .inr h
theorem RdLe.seqT {K : PySem.W.Frag} {F F' : Hp} (l : RdLe F F') {a : Addr} {xs : List V} (h : SqT K F a xs) : SqT K F' a xs := by
  rcases h with h | h
  · exact .inl (l _ _ h)
  · exact .inr h
theorem RdLe.dv {F F' : Hp} (l : RdLe F F') {a : Addr} {kvs : List (PyData × V)} (h : DVr F a kvs) : DVr F' a kvs := by
  rcases h with ⟨kk, h, e⟩ | ⟨kk, h, e⟩
  · exact .inl ⟨kk, l _ _ h, e⟩
  · exact .inr ⟨kk, l _ _ h, e⟩
section
variable {K : PySem.W.Frag} {F F' : Hp}
mutual
theorem Rp.mono (l : RdLe F F') : ∀ (d : PyData) {v : V}, Rp K F v d → Rp K F' v d
  | .none, _, h => by cases h; exact .non
  | .bool b, _, h => by cases h; exact .bl b
  | .int i, _, h => by cases h; exact .int i
  | .str x, _, h => by cases h; exact .str x
  | .list ds, _, h => by
    cases h with
    | lst hs ha => exact .lst (l.seqL hs) (RpAll.mono l ds ha)
  | .tuple ds, _, h => by
    cases h with
    | tup hs ha => exact .tup (l.seqT hs) (RpAll.mono l ds ha)
  | .dict es, _, h => by
    cases h with
    | dct hs ha => exact .dct (l.dv hs) (RpKV.mono l es ha)
theorem RpAll.mono (l : RdLe F F') : ∀ (ds : List PyData) {vs : List V}, RpAll K F vs ds → RpAll K F' vs ds
  | [], _, h => by cases h; exact .nil
  | d :: ds, _, h => by
    cases h with
    | cons h1 h2 => exact .cons (Rp.mono l d h1) (RpAll.mono l ds h2)
theorem RpKV.mono (l : RdLe F F') : ∀ (ds : List (PyData × PyData)) {vs : List (PyData × V)}, RpKV K F vs ds → RpKV K F' vs ds
  | [], _, h => by cases h; exact .nil
  | (k, d) :: ds, _, h => by
    cases h with
    | cons h1 h2 => exact .cons (Rp.mono l d h1) (RpKV.mono l ds h2)
end
theorem Rp.up (l : RdLe F F') {v : V} {d : PyData} (h : Rp K F v d) : Rp K F' v d := Rp.mono l d h
theorem RpAll.up (l : RdLe F F') {v : List V} {d : List PyData} (h : RpAll K F v d) : RpAll K F' v d := RpAll.mono l d h
theorem RpKV.up (l : RdLe F F') {v : List (PyData × V)} {d : List (PyData × PyData)} (h : RpKV K F v d) : RpKV K F' v d := RpKV.mono l d h

theorem RpAll.length : ∀ {vs : List V} {ds : List PyData}, RpAll K F vs ds → vs.length = ds.length
  | _, _, .nil => rfl
  | _, _, .cons _ t => by rw [List.length_cons, List.length_cons, RpAll.length t]
theorem RpAll.append : ∀ {vs ws : List V} {ds es : List PyData}, RpAll K F vs ds → RpAll K F ws es → RpAll K F (vs ++ ws) (ds ++ es)
  | _, _, _, _, .nil, h => h
  | _, _, _, _, .cons r t, h => .cons r (RpAll.append t h)
theorem RpAll.one {v : V} {d : PyData} (h : Rp K F v d) : RpAll K F [v] [d] := .cons h .nil
theorem RpAll.at : ∀ {vs : List V} {ds : List PyData} {i : Nat} {v : V}, RpAll K F vs ds → vs[i]? = some v → ∃ d, ds[i]? = some d ∧ Rp K F v d
  | _, _, _, _, .nil, e => by simp at e
  | _, _, 0, _, .cons r _, e => by simp at e; subst e; exact ⟨_, rfl, r⟩
  | _, _, i + 1, v, .cons _ t, e => by
    obtain ⟨d, h1, h2⟩ := RpAll.at (i := i) (v := v) t (by simpa using e)
    exact ⟨d, by simpa using h1, h2⟩
theorem RpAll.at' : ∀ {vs : List V} {ds : List PyData} {i : Nat} {d : PyData}, RpAll K F vs ds → ds[i]? = some d → ∃ v, vs[i]? = some v ∧ Rp K F v d
  | _, _, _, _, .nil, e => by simp at e
  | _, _, 0, _, .cons r _, e => by simp at e; subst e; exact ⟨_, rfl, r⟩
  | _, _, i + 1, v, .cons _ t, e => by
    obtain ⟨d, h1, h2⟩ := RpAll.at' (i := i) (d := v) t (by simpa using e)
    exact ⟨d, by simpa using h1, h2⟩
theorem RpAll.set {v : V} {d : PyData} (r : Rp K F v d) : ∀ {vs : List V} {ds : List PyData} (i : Nat), RpAll K F vs ds → RpAll K F (vs.set i v) (ds.set i d)
  | _, _, _, .nil => .nil
  | _, _, 0, .cons _ t => .cons r t
  | _, _, i + 1, .cons q t => .cons q (RpAll.set r i t)
theorem RpAll.take : ∀ {vs : List V} {ds : List PyData} (n : Nat), RpAll K F vs ds → RpAll K F (vs.take n) (ds.take n)
  | _, _, 0, _ => .nil
  | _, _, _ + 1, .nil => .nil
  | _, _, n + 1, .cons r t => .cons r (RpAll.take n t)
theorem RpAll.drop : ∀ {vs : List V} {ds : List PyData} (n : Nat), RpAll K F vs ds → RpAll K F (vs.drop n) (ds.drop n)
  | _, _, 0, r => r
  | _, _, _ + 1, .nil => .nil
  | _, _, n + 1, .cons _ t => RpAll.drop n t
theorem RpAll.eraseIdx : ∀ {vs : List V} {ds : List PyData} (n : Nat), RpAll K F vs ds → RpAll K F (vs.eraseIdx n) (ds.eraseIdx n)
  | _, _, _, .nil => .nil
  | _, _, 0, .cons _ t => t
  | _, _, n + 1, .cons r t => .cons r (RpAll.eraseIdx n t)
theorem RpAll.reverse {vs : List V} {ds : List PyData} (h : RpAll K F vs ds) : RpAll K F vs.reverse ds.reverse := by
  induction vs generalizing ds with
  | nil => cases h; exact .nil
  | cons v vs ih =>
    cases h with
    | cons r t =>
      rw [List.reverse_cons, List.reverse_cons]
      exact (ih t).append (.one r)
theorem RpAll.rep {vs : List V} {ds : List PyData} (h : RpAll K F vs ds) : ∀ k : Nat, RpAll K F (List.replicate k vs).flatten (List.replicate k ds).flatten
  | 0 => .nil
  | k + 1 => by
    rw [List.replicate_succ, List.replicate_succ, List.flatten_cons, List.flatten_cons]
    exact h.append (RpAll.rep h k)
theorem RpAll.of_at : ∀ {vs : List V} {ds : List PyData}, vs.length = ds.length → (∀ (i : Nat) (v : V) (d : PyData), vs[i]? = some v → ds[i]? = some d → Rp K F v d) → RpAll K F vs ds
  | [], [], _, _ => .nil
  | [], _ :: _, h, _ => by simp at h
  | _ :: _, [], h, _ => by simp at h
  | v :: vs, d :: ds, h, k => .cons (k 0 v d rfl rfl) (RpAll.of_at (by simpa using h) fun i v' d' h1 h2 => k (i + 1) v' d' (by simpa using h1) (by simpa using h2))
end

/-! ### what does not change: data without lists and dicts -/
mutual
def imm : PyData → Bool
  | .none | .bool _ | .int _ | .str _ => true
  | .tuple ds => immAll ds
  | .list _ | .dict _ => false
def immAll : List PyData → Bool
  | [] => true
  | d :: ds => imm d && immAll ds
end
/-- all tuples of the one are those of the other (where the other tells of the address at all) -/
def TupLe (F F' : Hp) : Prop := ∀ a xs, Rd F a (.tup xs) → Rd F' a (.tup xs)
theorem TupLe.seqT {K : PySem.W.Frag} {F F' : Hp} (l : TupLe F F') {a : Addr} {xs : List V} (h : SqT K F a xs) : SqT K F' a xs := by
  rcases h with h | h
  · exact .inl (l _ _ h)
  · exact .inr h
section
variable {K : PySem.W.Frag} {F F' : Hp}
mutual
theorem Rp.imm (l : TupLe F F') : ∀ (d : PyData) {v : V}, imm d = true → Rp K F v d → Rp K F' v d
  | .none, _, _, h => by cases h; exact .non
  | .bool b, _, _, h => by cases h; exact .bl b
  | .int i, _, _, h => by cases h; exact .int i
  | .str x, _, _, h => by cases h; exact .str x
  | .list ds, _, q, h => by simp [Dn.imm] at q
  | .tuple ds, _, q, h => by
    cases h with
    | tup hs ha => exact .tup (l.seqT hs) (RpAll.imm l ds (by simpa [Dn.imm] using q) ha)
  | .dict es, _, q, h => by simp [Dn.imm] at q
theorem RpAll.imm (l : TupLe F F') : ∀ (ds : List PyData) {vs : List V}, immAll ds = true → RpAll K F vs ds → RpAll K F' vs ds
  | [], _, _, h => by cases h; exact .nil
  | d :: ds, _, q, h => by
    have q' : Dn.imm d = true ∧ immAll ds = true := by simpa [immAll] using q
    cases h with
    | cons h1 h2 => exact .cons (Rp.imm l d q'.1 h1) (RpAll.imm l ds q'.2 h2)
end
end
theorem immAll_iff {ds : List PyData} : immAll ds = true ↔ ∀ d ∈ ds, imm d = true := by
  induction ds with
  | nil => simp [immAll]
  | cons d ds ih => simp [immAll, ih]
@[simp] theorem immAll_map {α : Type} (g : α → PyData) (xs : List α) (h : ∀ x, imm (g x) = true) : immAll (xs.map g) = true := immAll_iff.mpr fun d hd => by
  obtain ⟨x, _, rfl⟩ := List.mem_map.mp hd
  exact h x
@[simp] theorem imm_int (i : Int) : imm (.int i) = true := by simp [imm]
@[simp] theorem imm_bool (i : Bool) : imm (.bool i) = true := by simp [imm]
@[simp] theorem imm_str (i : Str) : imm (.str i) = true := by simp [imm]
@[simp] theorem imm_none : imm .none = true := by simp [imm]
@[simp] theorem imm_tuple (ds : List PyData) : imm (.tuple ds) = immAll ds := by simp [imm]
@[simp] theorem immAll_nil : immAll [] = true := by simp [immAll]
@[simp] theorem immAll_cons (d : PyData) (ds : List PyData) : immAll (d :: ds) = (imm d && immAll ds) := by simp [immAll]
@[simp] theorem immAll_append (ds es : List PyData) : immAll (ds ++ es) = (immAll ds && immAll es) := by
  induction ds with
  | nil => simp
  | cons d ds ih => simp [ih, Bool.and_assoc]

/-! ### a def's run: its entry heap H0, what it may lean on Z, the lists that it was handed to change M (by slot) -/
structure Fm where
  K : PySem.W.Frag
  H0 : Hp
  Z : Hp
  M : List (Nat × Addr)
/-- the view: what no one changes -/
noncomputable def vw (m : Fm) (H : Hp) (f : Nat → List Addr) (B : List Addr) : Hp := fun a =>
  open Classical in if a ∈ B ∨ ∃ i, a ∈ f i then none else if (m.H0 a).isSome = true then m.Z a else H a
theorem vw_iff {m : Fm} {H : Hp} {f : Nat → List Addr} {B : List Addr} {a : Addr} {o : HO} : vw m H f B a = some o ↔ a ∉ B ∧ (∀ i, a ∉ f i) ∧ ((m.Z a = some o ∧ (m.H0 a).isSome = true) ∨ (m.H0 a = none ∧ H a = some o)) := by
  unfold vw
  constructor
  · intro h
    split at h
    · cases h
    · rename_i n
      have n1 : a ∉ B := fun z => n (.inl z)
      have n2 : ∀ i, a ∉ f i := fun i z => n (.inr ⟨i, z⟩)
      refine ⟨n1, n2, ?_⟩
      split at h
      · rename_i q; exact .inl ⟨h, q⟩
      · rename_i q
        refine .inr ⟨?_, h⟩
        cases e : m.H0 a with
        | none => rfl
        | some x => rw [e] at q; simp at q
  · rintro ⟨h1, h2, h3⟩
    rw [if_neg (by rintro (z | ⟨i, z⟩); exact h1 z; exact h2 i z)]
    rcases h3 with ⟨h3, q⟩ | ⟨q, h3⟩
    · rw [if_pos q]; exact h3
    · rw [if_neg (by rw [q]; simp)]; exact h3

inductive Slot where
  | un
  | fz (d : PyData)
  | ol (ds : List PyData)
  | pm (ds : List PyData)
  | od (es : List (PyData × PyData))
  | odl (es : List (PyData × List PyData))
/-- the dict that stands at a, to be changed -/
def DVw (H : Hp) (a : Addr) (kvs : List (PyData × V)) : Prop :=
  (∃ kk : List (Key × V), H a = some (.dK kk) ∧ kvs = kk.map fun p => (keyD p.1, p.2)) ∨ ∃ kk : List (List Key × V), H a = some (.dT kk) ∧ kvs = kk.map fun p => (.tuple (p.1.map keyD), p.2)
/-- own lists at ls, the values of a dict -/
inductive OwL (K : PySem.W.Frag) (F H : Hp) : List (PyData × V) → List (PyData × List PyData) → List Addr → Prop
  | nil : OwL K F H [] [] []
  | cons {k : PyData} {l : Addr} {xs : List V} {ds : List PyData} {kvs : List (PyData × V)} {es : List (PyData × List PyData)} {ls : List Addr} : H l = some (.lst xs) → RpAll K F xs ds → OwL K F H kvs es ls → OwL K F H ((k, .ref l) :: kvs) ((k, ds) :: es) (l :: ls)
def SlOk (K : PySem.W.Frag) (F H : Hp) (x : Option (Option V)) : Slot → List Addr → Prop
  | .un, g => g = []
  | .fz d, g => g = [] ∧ ∃ v, x = some (some v) ∧ Rp K F v d
  | .ol ds, g => ∃ a xs, x = some (some (.ref a)) ∧ g = [a] ∧ H a = some (.lst xs) ∧ RpAll K F xs ds
  | .pm ds, g => ∃ a xs, x = some (some (.ref a)) ∧ g = [a] ∧ H a = some (.lst xs) ∧ RpAll K F xs ds
  | .od es, g => ∃ a kvs, x = some (some (.ref a)) ∧ g = [a] ∧ DVw H a kvs ∧ RpKV K F kvs es
  | .odl es, g => ∃ a kvs ls, x = some (some (.ref a)) ∧ g = a :: ls ∧ (a :: ls).Nodup ∧ DVw H a kvs ∧ OwL K F H kvs es ls

/-- a list or a dict -/
def isCon : HO → Bool
  | .lst _ => true
  | .dK _ => true
  | .dT _ => true
  | _ => false
structure Rl (m : Fm) (σ : L2.St) (H : Hp) (ρ : List Slot) (f : Nat → List Addr) (B : List Addr) : Prop where
  len : σ.length = ρ.length
  zs : ∀ a o, m.Z a = some o → m.H0 a = some o
  zm : ∀ p ∈ m.M, m.Z p.2 = none
  zt : ∀ a xs, Rd m.H0 a (.tup xs) → Rd m.Z a (.tup xs)
  fr : ∀ a o, m.H0 a = some o → (∀ p ∈ m.M, a ≠ p.2) → H a = some o
  dj : ∀ i j a, a ∈ f i → a ∈ f j → i = j
  bf : ∀ i a, a ∈ f i → a ∉ B
  bn : ∀ a ∈ B, m.H0 a = none ∧ ∃ o, H a = some o ∧ isCon o = true
  ow : ∀ i a, a ∈ f i → m.H0 a = none ∨ (i, a) ∈ m.M
  pin : ∀ i p, (i, p) ∈ m.M → f i = [p] ∧ ∃ ds, ρ[i]? = some (.pm ds)
  out : ∀ i, ρ.length ≤ i → f i = []
  sl : ∀ i s, ρ[i]? = some s → SlOk m.K (vw m H f B) H σ[i]? s (f i)

section
variable {m : Fm} {σ : L2.St} {H H' : Hp} {ρ : List Slot} {f f' : Nat → List Addr} {B B' : List Addr}
theorem Rl.vwH (R : Rl m σ H ρ f B) : ∀ a o, vw m H f B a = some o → H a = some o := fun a o h => by
  obtain ⟨h1, h2, h3⟩ := vw_iff.mp h
  rcases h3 with ⟨h3, q⟩ | ⟨_, h3⟩
  · refine R.fr a o (R.zs a o h3) fun p hp e => ?_
    have z := R.zm p hp
    rw [← e, h3] at z
    cases z
  · exact h3
theorem Rl.le (R : Rl m σ H ρ f B) : RdLe (vw m H f B) H := .of R.vwH
theorem vw_less {m : Fm} {H : Hp} {f : Nat → List Addr} {B B' : List Addr} (h : ∀ a ∈ B', a ∈ B) : RdLe (vw m H f B) (vw m H f B') := .of fun a o q => by
  obtain ⟨h1, h2, h3⟩ := vw_iff.mp q
  exact vw_iff.mpr ⟨fun z => h1 (h a z), h2, h3⟩
theorem SlOk.up {K : PySem.W.Frag} {F F' : Hp} (l : RdLe F F') {x : Option (Option V)} {s : Slot} {g : List Addr} (hH : ∀ a ∈ g, ∀ o, H a = some o → H' a = some o) (h : SlOk K F H x s g) : SlOk K F' H' x s g := by
  cases s with
  | un => exact h
  | fz d =>
    obtain ⟨e, v, e1, r⟩ := h
    exact ⟨e, v, e1, r.up l⟩
  | ol ds =>
    obtain ⟨a, xs, e, e1, e2, r⟩ := h
    exact ⟨a, xs, e, e1, hH a (by rw [e1]; simp) _ e2, r.up l⟩
  | pm ds =>
    obtain ⟨a, xs, e, e1, e2, r⟩ := h
    exact ⟨a, xs, e, e1, hH a (by rw [e1]; simp) _ e2, r.up l⟩
  | od es =>
    obtain ⟨a, kvs, e, e1, e2, r⟩ := h
    refine ⟨a, kvs, e, e1, ?_, r.up l⟩
    rcases e2 with ⟨kk, e2, q⟩ | ⟨kk, e2, q⟩
    · exact .inl ⟨kk, hH a (by rw [e1]; simp) _ e2, q⟩
    · exact .inr ⟨kk, hH a (by rw [e1]; simp) _ e2, q⟩
  | odl es =>
    obtain ⟨a, kvs, ls, e, e1, nd, e2, r⟩ := h
    refine ⟨a, kvs, ls, e, e1, nd, ?_, ?_⟩
    · rcases e2 with ⟨kk, e2, q⟩ | ⟨kk, e2, q⟩
      · exact .inl ⟨kk, hH a (by rw [e1]; simp) _ e2, q⟩
      · exact .inr ⟨kk, hH a (by rw [e1]; simp) _ e2, q⟩
    · have hl : ∀ b ∈ ls, ∀ o, H b = some o → H' b = some o := fun b hb o q => hH b (by rw [e1]; exact List.mem_cons_of_mem _ hb) o q
      clear e2 nd e1
      induction r with
      | nil => exact .nil
      | cons h1 h2 h3 ih => exact .cons (hl _ (by simp) _ h1) (h2.up l) (ih fun b hb => hl b (List.mem_cons_of_mem _ hb))
/-- held addresses let go -/
theorem Rl.drop (R : Rl m σ H ρ f (B' ++ B)) : Rl m σ H ρ f B where
  len := R.len
  zs := R.zs
  zm := R.zm
  zt := R.zt
  fr := R.fr
  dj := R.dj
  bf := fun i a h z => R.bf i a h (List.mem_append_right _ z)
  bn := fun a h => R.bn a (List.mem_append_right _ h)
  ow := R.ow
  pin := R.pin
  out := R.out
  sl := fun i s e => (R.sl i s e).up (vw_less fun a h => List.mem_append_right _ h) fun _ _ _ q => q
theorem OwL.con {K : PySem.W.Frag} {F H : Hp} {kvs : List (PyData × V)} {es : List (PyData × List PyData)} {ls : List Addr} (h : OwL K F H kvs es ls) : ∀ a ∈ ls, ∃ o, H a = some o ∧ isCon o = true := by
  induction h with
  | nil => intro a z; cases z
  | cons h1 h2 h3 ih =>
    intro a z
    rcases List.mem_cons.mp z with rfl | z
    · exact ⟨_, h1, rfl⟩
    · exact ih a z
theorem DVw.con {H : Hp} {a : Addr} {kvs : List (PyData × V)} (h : DVw H a kvs) : ∃ o, H a = some o ∧ isCon o = true := by
  rcases h with ⟨kk, h, _⟩ | ⟨kk, h, _⟩
  · exact ⟨_, h, rfl⟩
  · exact ⟨_, h, rfl⟩
theorem SlOk.con {K : PySem.W.Frag} {F H : Hp} {x : Option (Option V)} {s : Slot} {g : List Addr} (h : SlOk K F H x s g) : ∀ a ∈ g, ∃ o, H a = some o ∧ isCon o = true := by
  cases s with
  | un => obtain rfl := h; intro a z; cases z
  | fz d => obtain ⟨rfl, _⟩ := h; intro a z; cases z
  | ol ds =>
    obtain ⟨a, xs, _, rfl, e, _⟩ := h
    intro b z
    obtain rfl : b = a := by simpa using z
    exact ⟨_, e, rfl⟩
  | pm ds =>
    obtain ⟨a, xs, _, rfl, e, _⟩ := h
    intro b z
    obtain rfl : b = a := by simpa using z
    exact ⟨_, e, rfl⟩
  | od es =>
    obtain ⟨a, kvs, _, rfl, e, _⟩ := h
    intro b z
    obtain rfl : b = a := by simpa using z
    exact e.con
  | odl es =>
    obtain ⟨a, kvs, ls, _, rfl, _, e, q⟩ := h
    intro b z
    rcases List.mem_cons.mp z with rfl | z
    · exact e.con
    · exact q.con b z
theorem Rl.con (R : Rl m σ H ρ f B) (i : Nat) : ∀ a ∈ f i, ∃ o, H a = some o ∧ isCon o = true := fun a h => by
  cases e : ρ[i]? with
  | none =>
    have z := R.out i (List.getElem?_eq_none_iff.mp e)
    rw [z] at h
    cases h
  | some s => exact (R.sl i s e).con a h
theorem con_tup {H : Hp} {a : Addr} {o : HO} (h : H a = some o) (c : isCon o = true) (xs : List V) : ¬ Rd H a (.tup xs) := by
  rintro (r | ⟨o', r⟩)
  · rw [h] at r; cases r; cases c
  · rw [h] at r; cases r; cases c
/-- all tuples stand in the view -/
theorem Rl.tups (R : Rl m σ H ρ f B) : TupLe H (vw m H f B) := fun a xs r => by
  have n1 : a ∉ B := fun z => by
    obtain ⟨_, o, e, c⟩ := R.bn a z
    exact con_tup e c xs r
  have n2 : ∀ i, a ∉ f i := fun i z => by
    obtain ⟨o, e, c⟩ := R.con i a z
    exact con_tup e c xs r
  have nm : ∀ p ∈ m.M, a ≠ p.2 := fun p hp e => n2 p.1 (by rw [(R.pin p.1 p.2 hp).1, e]; simp)
  cases e : m.H0 a with
  | none =>
    rcases r with r | ⟨o, r⟩
    · exact .inl (vw_iff.mpr ⟨n1, n2, .inr ⟨e, r⟩⟩)
    · exact .inr ⟨o, vw_iff.mpr ⟨n1, n2, .inr ⟨e, r⟩⟩⟩
  | some u =>
    have q := R.fr a u e nm
    have r0 : Rd m.H0 a (.tup xs) := by
      rcases r with r | ⟨o, r⟩
      · rw [q] at r; cases r; exact .inl e
      · rw [q] at r; cases r; exact .inr ⟨o, e⟩
    rcases R.zt a xs r0 with z | ⟨o, z⟩
    · exact .inl (vw_iff.mpr ⟨n1, n2, .inl ⟨z, by rw [e]; rfl⟩⟩)
    · exact .inr ⟨o, vw_iff.mpr ⟨n1, n2, .inl ⟨z, by rw [e]; rfl⟩⟩⟩
end
end Dn
/-! Dn2: results, steps, the judgement of expressions. -/
namespace Dn
open PySem PySem.Spec PyProof.Rows L2

structure Stp (m : Fm) (H : Hp) (f : Nat → List Addr) (B : List Addr) (H' : Hp) (f' : Nat → List Addr) (B' : List Addr) : Prop where
  le : RdLe (vw m H f B) (vw m H' f' B')
  held : ∀ a ∈ B, ∀ o, H a = some o → H' a = some o
  sub : ∀ i a, a ∈ f i → a ∈ f' i
  nw : ∀ i a, a ∈ f' i → a ∈ f i ∨ H a = none
  nb : ∀ a ∈ B, a ∈ B'
  nb' : ∀ a ∈ B', a ∈ B ∨ H a = none
  dom : ∀ a, (H a).isSome = true → (H' a).isSome = true
theorem none_of_dom {H H' : Hp} (d : ∀ a, (H a).isSome = true → (H' a).isSome = true) {a : Addr} (h : H' a = none) : H a = none := by
  cases e : H a with
  | none => rfl
  | some o =>
    have := d a (by rw [e]; rfl)
    rw [h] at this
    cases this
theorem Stp.refl {m : Fm} {H : Hp} {f : Nat → List Addr} {B : List Addr} : Stp m H f B H f B := ⟨.refl _, fun _ _ _ h => h, fun _ _ h => h, fun _ _ h => .inl h, fun _ h => h, fun _ h => .inl h, fun _ h => h⟩
theorem Stp.trans {m : Fm} {H H1 H2 : Hp} {f f1 f2 : Nat → List Addr} {B B1 B2 : List Addr} (a : Stp m H f B H1 f1 B1) (b : Stp m H1 f1 B1 H2 f2 B2) : Stp m H f B H2 f2 B2 where
  le := a.le.trans b.le
  held := fun x h o e => b.held x (a.nb x h) o (a.held x h o e)
  sub := fun i x h => b.sub i x (a.sub i x h)
  nw := fun i x h => (b.nw i x h).elim (fun z => a.nw i x z) fun z => .inr (none_of_dom a.dom z)
  nb := fun x h => b.nb x (a.nb x h)
  nb' := fun x h => (b.nb' x h).elim (fun z => a.nb' x z) fun z => .inr (none_of_dom a.dom z)
  dom := fun x h => b.dom x (a.dom x h)

inductive Rs where
  | fz (d : PyData)
  | var (i : Nat)
  | ol (ds : List PyData)
  | od (es : List (PyData × PyData))
  | odl (es : List (PyData × List PyData))
def Rs.isVar : Rs → Bool
  | .var _ => true
  | _ => false
@[simp] theorem isVar_fz (d : PyData) : Rs.isVar (.fz d) = false := rfl
@[simp] theorem isVar_ol (d : List PyData) : Rs.isVar (.ol d) = false := rfl
@[simp] theorem isVar_od (d : List (PyData × PyData)) : Rs.isVar (.od d) = false := rfl
@[simp] theorem isVar_odl (d : List (PyData × List PyData)) : Rs.isVar (.odl d) = false := rfl
@[simp] theorem isVar_var (i : Nat) : Rs.isVar (.var i) = true := rfl
def dl (es : List (PyData × List PyData)) : List (PyData × PyData) := es.map fun p => (p.1, .list p.2)
@[simp] def Rs.data (ρ : List Slot) : Rs → Option PyData
  | .fz d => some d
  | .ol ds => some (.list ds)
  | .od es => some (.dict es)
  | .odl es => some (.dict (dl es))
  | .var i => match ρ[i]? with
    | some (.ol ds) => some (.list ds)
    | some (.pm ds) => some (.list ds)
    | some (.od es) => some (.dict es)
    | some (.odl es) => some (.dict (dl es))
    | _ => none
@[simp] def Rs.imm : Rs → Bool
  | .fz d => Dn.imm d
  | .ol ds => immAll ds
  | .od es => immAll (es.map (·.2))
  | _ => false
def RsOk (m : Fm) (σ : L2.St) (H : Hp) (f : Nat → List Addr) (B Br : List Addr) (v : V) : Rs → Prop
  | .fz d => Br = [] ∧ Rp m.K (vw m H f B) v d
  | .var i => Br = [] ∧ σ[i]? = some (some v) ∧ f i ≠ []
  | .ol ds => ∃ a xs, v = .ref a ∧ Br = [a] ∧ H a = some (.lst xs) ∧ RpAll m.K (vw m H f B) xs ds
  | .od es => ∃ a kvs, v = .ref a ∧ Br = [a] ∧ DVw H a kvs ∧ RpKV m.K (vw m H f B) kvs es
  | .odl es => ∃ a kvs ls, v = .ref a ∧ Br = a :: ls ∧ (a :: ls).Nodup ∧ DVw H a kvs ∧ OwL m.K (vw m H f B) H kvs es ls

theorem DVw.rd {H : Hp} {a : Addr} {kvs : List (PyData × V)} (h : DVw H a kvs) : DVr H a kvs := by
  rcases h with ⟨kk, h, e⟩ | ⟨kk, h, e⟩
  · exact .inl ⟨kk, .inl h, e⟩
  · exact .inr ⟨kk, .inl h, e⟩
theorem DVw.up {H H' : Hp} {a : Addr} {kvs : List (PyData × V)} (h : DVw H a kvs) (k : ∀ o, H a = some o → H' a = some o) : DVw H' a kvs := by
  rcases h with ⟨kk, h, e⟩ | ⟨kk, h, e⟩
  · exact .inl ⟨kk, k _ h, e⟩
  · exact .inr ⟨kk, k _ h, e⟩
theorem OwL.rd {K : PySem.W.Frag} {F H : Hp} (l : RdLe F H) {kvs : List (PyData × V)} {es : List (PyData × List PyData)} {ls : List Addr} (h : OwL K F H kvs es ls) : RpKV K H kvs (dl es) := by
  induction h with
  | nil => exact .nil
  | cons h1 h2 h3 ih => exact .cons (.lst (SqL.of h1) (h2.up l)) ih
theorem OwL.up {K : PySem.W.Frag} {F F' H H' : Hp} (l : RdLe F F') {kvs : List (PyData × V)} {es : List (PyData × List PyData)} {ls : List Addr} (h : OwL K F H kvs es ls) (k : ∀ a ∈ ls, ∀ o, H a = some o → H' a = some o) : OwL K F' H' kvs es ls := by
  induction h with
  | nil => exact .nil
  | cons h1 h2 h3 ih => exact .cons (k _ (by simp) _ h1) (h2.up l) (ih fun b hb => k b (List.mem_cons_of_mem _ hb))

section
variable {m : Fm} {σ : L2.St} {H H' : Hp} {ρ : List Slot} {f f' : Nat → List Addr} {B B' Br : List Addr} {v : V} {r : Rs} {d : PyData}
/-- a result can be read -/
theorem RsOk.rd (R : Rl m σ H ρ f B) (h : RsOk m σ H f B Br v r) (e : r.data ρ = some d) : Rp m.K H v d := by
  cases r with
  | fz d' =>
    cases e
    exact h.2.up R.le
  | ol ds =>
    cases e
    obtain ⟨a, xs, rfl, _, e1, q⟩ := h
    exact .lst (SqL.of e1) (q.up R.le)
  | od es =>
    cases e
    obtain ⟨a, kvs, rfl, _, e1, q⟩ := h
    exact .dct e1.rd (q.up R.le)
  | odl es =>
    cases e
    obtain ⟨a, kvs, ls, rfl, _, _, e1, q⟩ := h
    exact .dct e1.rd (q.rd R.le)
  | var i =>
    obtain ⟨_, e1, e2⟩ := h
    simp only [Rs.data] at e
    cases q : ρ[i]? with
    | none => rw [q] at e; cases e
    | some s =>
      have z := R.sl i s q
      rw [q] at e
      rw [e1] at z
      cases s with
      | un => cases e
      | fz d' => cases e
      | ol ds =>
        cases e
        obtain ⟨a, xs, e3, _, e4, r⟩ := z
        cases e3
        exact .lst (SqL.of e4) (r.up R.le)
      | pm ds =>
        cases e
        obtain ⟨a, xs, e3, _, e4, r⟩ := z
        cases e3
        exact .lst (SqL.of e4) (r.up R.le)
      | od es =>
        cases e
        obtain ⟨a, kvs, e3, _, e4, r⟩ := z
        cases e3
        exact .dct e4.rd (r.up R.le)
      | odl es =>
        cases e
        obtain ⟨a, kvs, ls, e3, _, _, e4, r⟩ := z
        cases e3
        exact .dct e4.rd (r.rd R.le)
theorem vw_new {m : Fm} {H' : Hp} {f : Nat → List Addr} {B : List Addr} {a : Addr} {o : HO} (h0 : m.H0 a = none) (hf : ∀ i, a ∉ f i) (hb : a ∉ B) (e : H' a = some o) : vw m H' f B a = some o := vw_iff.mpr ⟨hb, hf, .inr ⟨h0, e⟩⟩
/-- behind an expression: r its result, v its value, Br what it made and nobody else knows -/
structure Post (m : Fm) (σ : L2.St) (H : Hp) (f : Nat → List Addr) (B : List Addr) (r : Rs) (ρ' : List Slot) (v : V) (H' : Hp) (f' : Nat → List Addr) (Br : List Addr) : Prop where
  rl : Rl m σ H' ρ' f' (Br ++ B)
  ok : RsOk m σ H' f' (Br ++ B) Br v r
  st : Stp m H f B H' f' (Br ++ B)
  dis : ∀ a ∈ Br, a ∉ B
theorem Post.rd (P : Post m σ H f B r ρ v H' f' Br) (e : r.data ρ = some d) : Rp m.K H' v d := P.ok.rd P.rl e
theorem OwL.rdv {K : PySem.W.Frag} {F F' H : Hp} (l : RdLe F F') {kvs : List (PyData × V)} {es : List (PyData × List PyData)} {ls : List Addr} (h : OwL K F H kvs es ls) (k : ∀ a ∈ ls, ∀ o, H a = some o → F' a = some o) : RpKV K F' kvs (dl es) := by
  induction h with
  | nil => exact .nil
  | cons h1 h2 h3 ih => exact .cons (.lst (SqL.of (k _ (by simp) _ h1)) (h2.up l)) (ih fun b hb => k b (List.mem_cons_of_mem _ hb))
/-- where the result is not a name's own object: read in the view, once it is let go -/
theorem Post.fzn (P : Post m σ H f B r ρ v H' f' Br) (e : r.data ρ = some d) (nv : r.isVar = false) : Rp m.K (vw m H' f' B) v d := by
  have l : RdLe (vw m H' f' (Br ++ B)) (vw m H' f' B) := vw_less fun a z => List.mem_append_right _ z
  have nn : ∀ a ∈ Br, ∀ o, H' a = some o → vw m H' f' B a = some o := fun a ha o q =>
    vw_new (P.rl.bn a (List.mem_append_left _ ha)).1 (fun i z => P.rl.bf i a z (List.mem_append_left _ ha)) (P.dis a ha) q
  have h := P.ok
  cases r with
  | fz d' =>
    cases e
    exact h.2.up l
  | ol ds =>
    cases e
    obtain ⟨a, xs, rfl, e0, e1, q⟩ := h
    exact .lst (SqL.of (nn a (by rw [e0]; simp) _ e1)) (q.up l)
  | od es =>
    cases e
    obtain ⟨a, kvs, rfl, e0, e1, q⟩ := h
    exact .dct (e1.up fun o => nn a (by rw [e0]; simp) o).rd (q.up l)
  | odl es =>
    cases e
    obtain ⟨a, kvs, ls, rfl, e0, _, e1, q⟩ := h
    exact .dct (e1.up fun o => nn a (by rw [e0]; simp) o).rd (q.rdv l fun b hb o => nn b (by rw [e0]; simp [hb]) o)
  | var i => cases nv
/-- from a post to what comes next, the result read and let go -/
theorem Post.next (P : Post m σ H f B r ρ v H' f' Br) : Rl m σ H' ρ f' B := P.rl.drop
theorem Post.step (P : Post m σ H f B r ρ v H' f' Br) : Stp m H f B H' f' B where
  le := P.st.le.trans (vw_less fun a z => List.mem_append_right _ z)
  held := P.st.held
  sub := P.st.sub
  nw := P.st.nw
  nb := fun _ h => h
  nb' := fun _ h => .inl h
  dom := P.st.dom
/-- a result stands over a later step -/
theorem Post.later {ρ2 : List Slot} {H2 : Hp} {f2 : Nat → List Addr} {B2 : List Addr} (P : Post m σ H f B r ρ v H' f' Br) (S : Stp m H' f' (Br ++ B) H2 f2 (B2 ++ (Br ++ B))) : RsOk m σ H2 f2 (B2 ++ (Br ++ B)) Br v r := by
  have h := P.ok
  cases r with
  | fz d => exact ⟨h.1, h.2.up S.le⟩
  | ol ds =>
    obtain ⟨a, xs, rfl, e0, e1, q⟩ := h
    exact ⟨a, xs, rfl, e0, S.held a (List.mem_append_left _ (by rw [e0]; simp)) _ e1, q.up S.le⟩
  | od es =>
    obtain ⟨a, kvs, rfl, e0, e1, q⟩ := h
    exact ⟨a, kvs, rfl, e0, e1.up fun o => S.held a (List.mem_append_left _ (by rw [e0]; simp)) o, q.up S.le⟩
  | odl es =>
    obtain ⟨a, kvs, ls, rfl, e0, nd, e1, q⟩ := h
    exact ⟨a, kvs, ls, rfl, e0, nd, e1.up fun o => S.held a (List.mem_append_left _ (by rw [e0]; simp)) o, q.up S.le fun b hb o => S.held b (List.mem_append_left _ (by rw [e0]; simp [hb])) o⟩
  | var i =>
    refine ⟨h.1, h.2.1, fun z => h.2.2 ?_⟩
    cases e : f' i with
    | nil => rfl
    | cons a t =>
      have q := S.sub i a (by rw [e]; simp)
      rw [z] at q
      cases q
end

/-! ### the judgements -/
abbrev WE := List Slot → (Rs → List Slot → Prop) → Prop
abbrev WT := List Slot → (Bool → List Slot → Prop) → Prop
abbrev WA := List Slot → (List Rs → List Slot → Prop) → Prop
structure DE (X : Cx) (e : Expr) (w : WE) : Prop where
  ex : ∃ t : TE, PE X e t ∧ ∀ (m : Fm) (σ : L2.St) (H : Hp) (ρ : List Slot) (f : Nat → List Addr) (B : List Addr) (R : Rs → List Slot → Prop) (Q : VK), m.K = X.K → Rl m σ H ρ f B → w ρ R →
    (∀ r ρ' v H' f' Br, R r ρ' → Post m σ H f B r ρ' v H' f' Br → Q v H') → t σ H Q
/-- behind a test -/
structure PostT (m : Fm) (σ : L2.St) (H : Hp) (f : Nat → List Addr) (B : List Addr) (ρ' : List Slot) (H' : Hp) (f' : Nat → List Addr) : Prop where
  rl : Rl m σ H' ρ' f' B
  st : Stp m H f B H' f' B
structure DT (X : Cx) (e : Expr) (w : WT) : Prop where
  ex : ∃ t : TT, PT X e t ∧ ∀ (m : Fm) (σ : L2.St) (H : Hp) (ρ : List Slot) (f : Nat → List Addr) (B : List Addr) (R : Bool → List Slot → Prop) (Q : Bool → Hp → Prop), m.K = X.K → Rl m σ H ρ f B → w ρ R →
    (∀ b ρ' H' f', R b ρ' → PostT m σ H f B ρ' H' f' → Q b H') → t σ H Q
/-- behind an argument list: results with their values, each with what it made -/
inductive RsAll (m : Fm) (σ : L2.St) (H : Hp) (f : Nat → List Addr) (B : List Addr) : List (List Addr) → List V → List Rs → Prop
  | nil : RsAll m σ H f B [] [] []
  | cons {Br : List Addr} {Bs : List (List Addr)} {v : V} {vs : List V} {r : Rs} {rs : List Rs} : RsOk m σ H f B Br v r → RsAll m σ H f B Bs vs rs → RsAll m σ H f B (Br :: Bs) (v :: vs) (r :: rs)
structure PostA (m : Fm) (σ : L2.St) (H : Hp) (f : Nat → List Addr) (B : List Addr) (rs : List Rs) (ρ' : List Slot) (vs : List V) (H' : Hp) (f' : Nat → List Addr) (Bs : List (List Addr)) : Prop where
  rl : Rl m σ H' ρ' f' (Bs.reverse.flatten ++ B)
  ok : RsAll m σ H' f' (Bs.reverse.flatten ++ B) Bs vs rs
  st : Stp m H f B H' f' (Bs.reverse.flatten ++ B)
  dis : ∀ a ∈ Bs.reverse.flatten, a ∉ B
  nd : Bs.Pairwise fun b c => ∀ a ∈ b, a ∉ c
structure DA (X : Cx) (es : List Expr) (w : WA) : Prop where
  ex : ∃ t : TA, PA X es t ∧ ∀ (m : Fm) (σ : L2.St) (H : Hp) (ρ : List Slot) (f : Nat → List Addr) (B : List Addr) (R : List Rs → List Slot → Prop) (Q : List V → Hp → Prop), m.K = X.K → Rl m σ H ρ f B → w ρ R →
    (∀ rs ρ' vs H' f' Bs, R rs ρ' → PostA m σ H f B rs ρ' vs H' f' Bs → Q vs H') → t σ H Q

section
variable {m : Fm} {σ : L2.St} {H H' : Hp} {ρ : List Slot} {f f' : Nat → List Addr} {B B' Br : List Addr} {v : V} {r : Rs} {d : PyData}
theorem Post.same (R : Rl m σ H ρ f B) (h : Rp m.K (vw m H f B) v d) : Post m σ H f B (.fz d) ρ v H f [] := ⟨R, ⟨rfl, h⟩, .refl, fun _ z => by cases z⟩
theorem Post.imm (R : Rl m σ H ρ f B) (h : Rp m.K H v d) (i : imm d = true) : Post m σ H f B (.fz d) ρ v H f [] := .same R (Rp.imm R.tups d i h)
end
end Dn
/-! Dn3: rules of expressions. -/
namespace Dn
open PySem PySem.Spec PyProof.Rows L2

/-- what a callee may read (F), and what came since (H to H'), but not what stands at B -/
def nxx (F H H' : Hp) (B : List Addr) : Hp := fun a => if a ∈ B then none else if (H a).isSome = true then F a else H' a
theorem nxx_iff {F H H' : Hp} {B : List Addr} {a : Addr} {o : HO} : nxx F H H' B a = some o ↔ a ∉ B ∧ ((F a = some o ∧ (H a).isSome = true) ∨ (H a = none ∧ H' a = some o)) := by
  unfold nxx
  by_cases h1 : a ∈ B
  · rw [if_pos h1]; constructor
    · intro h; cases h
    · intro h; exact absurd h1 h.1
  · rw [if_neg h1]
    by_cases h2 : (H a).isSome = true
    · rw [if_pos h2]
      constructor
      · intro h; exact ⟨h1, .inl ⟨h, h2⟩⟩
      · rintro ⟨_, h | h⟩
        · exact h.1
        · rw [h.1] at h2; cases h2
    · rw [if_neg h2]
      have h3 : H a = none := by
        cases e : H a with
        | none => rfl
        | some o => rw [e] at h2; simp at h2
      constructor
      · intro h; exact ⟨h1, .inr ⟨h3, h⟩⟩
      · rintro ⟨_, h | h⟩
        · exact absurd h.2 h2
        · exact h.2
/-- the result of a call by values: what it is made of -/
def ResOk (K : PySem.W.Frag) (F H H' : Hp) (v : V) : Rs → Prop
  | .fz d => Rp K (nxx F H H' []) v d
  | .var _ => False
  | .ol ds => ∃ a xs, v = .ref a ∧ H a = none ∧ H' a = some (.lst xs) ∧ RpAll K (nxx F H H' [a]) xs ds
  | .od es => ∃ a kvs, v = .ref a ∧ H a = none ∧ DVw H' a kvs ∧ RpKV K (nxx F H H' [a]) kvs es
  | .odl es => ∃ a kvs ls, v = .ref a ∧ (a :: ls).Nodup ∧ (∀ b ∈ a :: ls, H b = none) ∧ DVw H' a kvs ∧ OwL K (nxx F H H' (a :: ls)) H' kvs es ls

section
variable {m : Fm} {σ : L2.St} {H H' : Hp} {ρ : List Slot} {f f' : Nat → List Addr} {B B' Br : List Addr} {v : V} {r : Rs} {d : PyData}
theorem Rl.new0 (R : Rl m σ H ρ f B) {a : Addr} (h : H a = none) : m.H0 a = none := by
  cases e : m.H0 a with
  | none => rfl
  | some o =>
    exfalso
    by_cases hm : ∃ p ∈ m.M, a = p.2
    · obtain ⟨p, hp, rfl⟩ := hm
      obtain ⟨o', e', _⟩ := R.con p.1 p.2 (by rw [(R.pin p.1 p.2 hp).1]; simp)
      rw [h] at e'; cases e'
    · have := R.fr a o e fun p hp z => hm ⟨p, hp, z⟩
      rw [h] at this; cases this
theorem Rl.newf (R : Rl m σ H ρ f B) {a : Addr} (h : H a = none) (i : Nat) : a ∉ f i := fun z => by
  obtain ⟨o', e', _⟩ := R.con i a z
  rw [h] at e'; cases e'
theorem Rl.newB (R : Rl m σ H ρ f B) {a : Addr} (h : H a = none) : a ∉ B := fun z => by
  obtain ⟨_, o', e', _⟩ := R.bn a z
  rw [h] at e'; cases e'
theorem vw_ext (R : Rl m σ H ρ f B) (S : Same H H') (hn : ∀ a ∈ Br, H a = none) : ∀ a o, vw m H f B a = some o → vw m H' f (Br ++ B) a = some o := fun a o q => by
  have hH := R.vwH a o q
  obtain ⟨h1, h2, h3⟩ := vw_iff.mp q
  refine vw_iff.mpr ⟨fun z => ?_, h2, h3.imp id fun z => ⟨z.1, S _ _ z.2⟩⟩
  rcases List.mem_append.mp z with z | z
  · rw [hn a z] at hH; cases hH
  · exact h1 z
/-- new objects come, nothing changes -/
theorem Rl.ext (R : Rl m σ H ρ f B) (S : Same H H') (hn : ∀ a ∈ Br, H a = none ∧ ∃ o, H' a = some o ∧ isCon o = true) : Rl m σ H' ρ f (Br ++ B) where
  len := R.len
  zs := R.zs
  zm := R.zm
  zt := R.zt
  fr := fun a o h hm => S _ _ (R.fr a o h hm)
  dj := R.dj
  bf := fun i a h z => (List.mem_append.mp z).elim (fun z => R.newf (hn a z).1 i h) (R.bf i a h)
  bn := fun a h => (List.mem_append.mp h).elim (fun z => ⟨R.new0 (hn a z).1, (hn a z).2⟩) fun z => by
    obtain ⟨h1, o, h2, h3⟩ := R.bn a z
    exact ⟨h1, o, S _ _ h2, h3⟩
  ow := R.ow
  pin := R.pin
  out := R.out
  sl := fun i s e => (R.sl i s e).up (.of (vw_ext R S fun a z => (hn a z).1)) fun a _ o q => S a o q
theorem Stp.ext (R : Rl m σ H ρ f B) (S : Same H H') (hn : ∀ a ∈ Br, H a = none) : Stp m H f B H' f (Br ++ B) where
  le := .of (vw_ext R S hn)
  held := fun a _ o q => S a o q
  sub := fun _ _ h => h
  nw := fun _ _ h => .inl h
  nb := fun _ h => List.mem_append_right _ h
  nb' := fun a h => (List.mem_append.mp h).elim (fun z => .inr (hn a z)) .inl
  dom := fun a h => by
    cases e : H a with
    | none => rw [e] at h; cases h
    | some o => rw [S a o e]; rfl
theorem nxx_vw (R : Rl m σ H ρ f B) (S : Same H H') (hn : ∀ a ∈ Br, H a = none) : RdLe (nxx (vw m H f B) H H' Br) (vw m H' f (Br ++ B)) := .of fun a o q => by
  obtain ⟨h1, h2 | h2⟩ := nxx_iff.mp q
  · exact vw_ext R S hn a o h2.1
  · exact vw_iff.mpr ⟨fun z => (List.mem_append.mp z).elim h1 (R.newB h2.1), R.newf h2.1, .inr ⟨R.new0 h2.1, h2.2⟩⟩
theorem nxx_tup (R : Rl m σ H ρ f B) (S : Same H H') (hn : ∀ a ∈ Br, H a = none ∧ ∃ o, H' a = some o ∧ isCon o = true) : TupLe (nxx H H H' Br) (vw m H' f (Br ++ B)) := fun a xs q => by
  refine (R.ext S hn).tups a xs ?_
  have k : ∀ o, nxx H H H' Br a = some o → H' a = some o := fun o q => by
    obtain ⟨h1, h2 | h2⟩ := nxx_iff.mp q
    · exact S _ _ h2.1
    · exact h2.2
  rcases q with q | ⟨o, q⟩
  · exact .inl (k _ q)
  · exact .inr ⟨o, k _ q⟩
theorem RpKV.imm {K : PySem.W.Frag} {F F' : Hp} (l : TupLe F F') {kvs : List (PyData × V)} {es : List (PyData × PyData)} (h : RpKV K F kvs es) (i : immAll (es.map (·.2)) = true) : RpKV K F' kvs es := by
  induction es generalizing kvs with
  | nil => cases h; exact .nil
  | cons p es ih =>
    cases h with
    | cons h1 h2 =>
      simp only [List.map_cons, immAll_cons, Bool.and_eq_true] at i
      have i' := i
      exact .cons (Rp.imm l _ i'.1 h1) (ih h2 i'.2)
/-- from a call by values to the state behind it: F the view, or the whole heap where the result does not change -/
theorem Post.ofRes {F : Hp} (R : Rl m σ H ρ f B) (S : Same H H') (hF : F = vw m H f B ∨ (F = H ∧ r.imm = true)) (h : ResOk m.K F H H' v r) : ∃ Br, Post m σ H f B r ρ v H' f Br := by
  cases r with
  | var i => exact h.elim
  | fz d =>
    have q : Rp m.K (vw m H' f ([] ++ B)) v d := by
      rcases hF with rfl | ⟨rfl, i⟩
      · exact h.up (nxx_vw R S (by simp))
      · exact Rp.imm (nxx_tup R S (by simp)) d i h
    exact ⟨[], R.ext S (by simp), ⟨rfl, q⟩, .ext R S (by simp), by simp⟩
  | ol ds =>
    obtain ⟨a, xs, rfl, h0, h1, h2⟩ := h
    have hn : ∀ b ∈ [a], H b = none ∧ ∃ o, H' b = some o ∧ isCon o = true := fun b hb => by
      obtain rfl : b = a := by simpa using hb
      exact ⟨h0, _, h1, rfl⟩
    refine ⟨[a], R.ext S hn, ⟨a, xs, rfl, rfl, h1, ?_⟩, .ext R S fun b hb => (hn b hb).1, fun b hb => R.newB (hn b hb).1⟩
    rcases hF with rfl | ⟨rfl, i⟩
    · exact h2.up (nxx_vw R S fun b hb => (hn b hb).1)
    · exact RpAll.imm (nxx_tup R S hn) ds i h2
  | od es =>
    obtain ⟨a, kvs, rfl, h0, h1, h2⟩ := h
    have hn : ∀ b ∈ [a], H b = none ∧ ∃ o, H' b = some o ∧ isCon o = true := fun b hb => by
      obtain rfl : b = a := by simpa using hb
      exact ⟨h0, h1.con⟩
    refine ⟨[a], R.ext S hn, ⟨a, kvs, rfl, rfl, h1, ?_⟩, .ext R S fun b hb => (hn b hb).1, fun b hb => R.newB (hn b hb).1⟩
    rcases hF with rfl | ⟨rfl, i⟩
    · exact h2.up (nxx_vw R S fun b hb => (hn b hb).1)
    · exact h2.imm (nxx_tup R S hn) i
  | odl es =>
    obtain ⟨a, kvs, ls, rfl, nd, h0, h1, h2⟩ := h
    have hn : ∀ b ∈ a :: ls, H b = none ∧ ∃ o, H' b = some o ∧ isCon o = true := fun b hb => by
      refine ⟨h0 b hb, ?_⟩
      rcases List.mem_cons.mp hb with rfl | z
      · exact h1.con
      · exact h2.con b z
    refine ⟨a :: ls, R.ext S hn, ⟨a, kvs, ls, rfl, rfl, nd, h1, ?_⟩, .ext R S fun b hb => (hn b hb).1, fun b hb => R.newB (hn b hb).1⟩
    rcases hF with rfl | ⟨rfl, i⟩
    · exact h2.up (nxx_vw R S fun b hb => (hn b hb).1) fun _ _ _ q => q
    · cases i
end

/-! ### names, constants -/
section
variable {X : Cx} {pos : Pos}
@[simp] def wName (i : Nat) : WE := fun ρ R => match ρ[i]? with
  | some (.fz d) => R (.fz d) ρ
  | some (.ol _) => R (.var i) ρ
  | some (.pm _) => R (.var i) ρ
  | some (.od _) => R (.var i) ρ
  | some (.odl _) => R (.var i) ρ
  | _ => False
theorem de_name (i : Nat) {e : Expr} (h : PE X e (tVar i)) : DE X e (wName i) := by
  refine ⟨_, h, fun m σ H ρ f B R Q hK rl hw k => ?_⟩
  unfold wName at hw
  cases q : ρ[i]? with
  | none => rw [q] at hw; exact hw.elim
  | some s =>
    rw [q] at hw
    have z := rl.sl i s q
    have var : ∀ {a : Addr}, σ[i]? = some (some (.ref a)) → f i ≠ [] → R (.var i) ρ → tVar i σ H Q := fun {a} e n hw =>
      ⟨_, e, k _ _ _ _ _ [] hw ⟨rl, ⟨rfl, e, n⟩, .refl, fun _ z => by cases z⟩⟩
    cases s with
    | un => exact hw.elim
    | fz d =>
      obtain ⟨_, v, e, r⟩ := z
      exact ⟨v, e, k _ _ _ _ _ _ hw (Post.same rl r)⟩
    | ol ds => obtain ⟨a, xs, e, e1, _⟩ := z; exact var e (by rw [e1]; simp) hw
    | pm ds => obtain ⟨a, xs, e, e1, _⟩ := z; exact var e (by rw [e1]; simp) hw
    | od ds => obtain ⟨a, xs, e, e1, _⟩ := z; exact var e (by rw [e1]; simp) hw
    | odl ds => obtain ⟨a, kvs, xs, e, e1, _⟩ := z; exact var e (by rw [e1]; simp) hw
@[simp] def wC (d : PyData) : WE := fun ρ R => R (.fz d) ρ
theorem de_const {e : Expr} {v : V} {d : PyData} (h : PE X e (tC v)) (r : ∀ K F, Rp K F v d) : DE X e (wC d) :=
  ⟨_, h, fun m σ H ρ f B R Q hK rl hw k => k _ _ _ _ _ _ hw (Post.same rl (r _ _))⟩
theorem de_int {i j} : DE X (.Constant (.int i) j pos) (wC (.int i)) := de_const pe_int fun _ _ => .int i
theorem de_bl {i j} : DE X (.Constant (.bool i) j pos) (wC (.bool i)) := de_const pe_bl fun _ _ => .bl i
theorem de_non {j} : DE X (.Constant .none j pos) (wC .none) := de_const pe_non fun _ _ => .non
theorem de_str {i j} : DE X (.Constant (.str i) j pos) (wC (.str i)) := de_const pe_str fun _ _ => .str i
theorem de_globI {x : Str} {i : Int} {t : Tok} (hg : Gl X x) (hm : X.mg x = some (.int i t)) (hd : (x == ("__debug__" : Str)) = false := by decide) : DE X (.Name x pos) (wC (.int i)) := de_const (v := .int i) (pe_glob hg hm ⟨t, rfl⟩ hd) fun _ _ => .int i
theorem de_globS {x : Str} {i : Str} {t : Tok} (hg : Gl X x) (hm : X.mg x = some (.str i t)) (hd : (x == ("__debug__" : Str)) = false := by decide) : DE X (.Name x pos) (wC (.str i)) := de_const (v := .str i) (pe_glob hg hm ⟨t, rfl⟩ hd) fun _ _ => .str i
theorem de_globN {x : Str} (hg : Gl X x) (hm : X.mg x = some .none) (hd : (x == ("__debug__" : Str)) = false := by decide) : DE X (.Name x pos) (wC .none) := de_const (v := .non) (pe_glob hg hm rfl hd) fun _ _ => .non
end

/-! ### two in a row -/
@[simp] def dat (ρ : List Slot) (r : Rs) (k : PyData → Prop) : Prop := match r.data ρ with
  | some d => k d
  | none => False
theorem dat_iff {ρ : List Slot} {r : Rs} {k : PyData → Prop} : dat ρ r k ↔ ∃ d, r.data ρ = some d ∧ k d := by
  unfold dat
  cases r.data ρ with
  | none => exact ⟨False.elim, fun ⟨_, h, _⟩ => by cases h⟩
  | some d => exact ⟨fun h => ⟨d, rfl, h⟩, fun ⟨d', h, q⟩ => by cases h; exact q⟩
/-- a result may be kept: of what was no name's own object, or of what does not change -/
@[simp] def okR (rs : List Rs) (r : Rs) : Prop := (rs.all fun r => !r.isVar) = true ∨ r.imm = true
abbrev O2 := PyData → PyData → (Rs → Prop) → Prop
abbrev O1 := PyData → (Rs → Prop) → Prop
def OpD (X : Cx) (g : Value → Value → Sem Value) (o : O2) : Prop := ∃ r : R2, OpR X g r ∧ ∀ (F H : Hp) (x y : V) (d e : PyData) (R : Rs → Prop) (Q : VK), Same F H → Rp X.K F x d → Rp X.K F y e → o d e R →
  (∀ z v H', R z → Same H H' → ResOk X.K F H H' v z → Q v H') → r x y H Q
section
variable {X : Cx} {pos : Pos} {a b : Expr} {wa wb : WE}
@[simp] def w2 (o : O2) (wa wb : WE) : WE := fun ρ R => wa ρ fun r1 ρ1 => wb ρ1 fun r2 ρ2 => dat ρ2 r1 fun d => dat ρ2 r2 fun e => o d e fun r => okR [r1, r2] r ∧ R r ρ2
/-- two results, then something by their values -/
theorem two {ta tb : TE} {m : Fm} {σ : L2.St} {H : Hp} {ρ : List Slot} {f : Nat → List Addr} {B : List Addr} {Q : V → V → Hp → Prop} {K : Rs → List Slot → Rs → List Slot → Prop}
    (ha : ∀ (R : Rs → List Slot → Prop) (Q : VK), wa ρ R → (∀ r ρ' v H' f' Br, R r ρ' → Post m σ H f B r ρ' v H' f' Br → Q v H') → ta σ H Q)
    (hb : ∀ (H : Hp) (ρ : List Slot) (f : Nat → List Addr) (B : List Addr) (R : Rs → List Slot → Prop) (Q : VK), Rl m σ H ρ f B → wb ρ R → (∀ r ρ' v H' f' Br, R r ρ' → Post m σ H f B r ρ' v H' f' Br → Q v H') → tb σ H Q)
    (hw : wa ρ fun r1 ρ1 => wb ρ1 fun r2 ρ2 => K r1 ρ1 r2 ρ2)
    (k : ∀ r1 ρ1 x H1 f1 B1 r2 ρ2 y H2 f2 B2, K r1 ρ1 r2 ρ2 → Post m σ H f B r1 ρ1 x H1 f1 B1 → Post m σ H1 f1 (B1 ++ B) r2 ρ2 y H2 f2 B2 → Q x y H2) :
    ta σ H fun x H1 => tb σ H1 fun y H2 => Q x y H2 := by
  refine ha _ _ hw fun r1 ρ1 x H1 f1 B1 h1 P1 => ?_
  exact hb _ _ _ _ _ _ P1.rl h1 fun r2 ρ2 y H2 f2 B2 h2 P2 => k _ _ _ _ _ _ _ _ _ _ _ _ h2 P1 P2
section
variable {m : Fm} {σ : L2.St} {H H1 H2 H' : Hp} {ρ ρ1 ρ2 : List Slot} {f f1 f2 : Nat → List Addr} {B B1 B2 : List Addr} {x y v : V} {r1 r2 r : Rs} {d e : PyData}
theorem Stp.cut {B' : List Addr} (S : Stp m H f B H' f1 B') : Stp m H f B H' f1 B where
  le := S.le.trans (vw_less S.nb)
  held := S.held
  sub := S.sub
  nw := S.nw
  nb := fun _ h => h
  nb' := fun _ h => .inl h
  dom := S.dom
theorem Post.comp (st : Stp m H f B H2 f2 B) (P : Post m σ H2 f2 B r ρ v H' f1 Br) : Post m σ H f B r ρ v H' f1 Br := ⟨P.rl, P.ok, st.trans P.st, P.dis⟩
theorem RsOk.less (h : RsOk m σ H f (B' ++ B) Br v r) : RsOk m σ H f B Br v r := by
  have l : RdLe (vw m H f (B' ++ B)) (vw m H f B) := vw_less fun a z => List.mem_append_right _ z
  cases r with
  | fz d => exact ⟨h.1, h.2.up l⟩
  | ol ds =>
    obtain ⟨a, xs, q1, q2, q3, q4⟩ := h
    exact ⟨a, xs, q1, q2, q3, q4.up l⟩
  | od ds =>
    obtain ⟨a, xs, q1, q2, q3, q4⟩ := h
    exact ⟨a, xs, q1, q2, q3, q4.up l⟩
  | odl ds =>
    obtain ⟨a, xs, ls, q1, q2, q0, q3, q4⟩ := h
    exact ⟨a, xs, ls, q1, q2, q0, q3, q4.up l fun _ _ _ q => q⟩
  | var i => exact h
/-- the first result, behind the second -/
theorem Post.first (P1 : Post m σ H f B r1 ρ1 x H1 f1 B1) (P2 : Post m σ H1 f1 (B1 ++ B) r2 ρ2 y H2 f2 B2) : Post m σ H f B r1 ρ2 x H2 f2 B1 :=
  ⟨P2.rl.drop, RsOk.less (B' := B2) (P1.later (ρ2 := ρ2) P2.st), P1.st.trans P2.step, P1.dis⟩
/-- both read where both may be kept -/
theorem Post.both (P1 : Post m σ H f B r1 ρ1 x H1 f1 B1) (P2 : Post m σ H1 f1 (B1 ++ B) r2 ρ2 y H2 f2 B2) (e1 : r1.data ρ2 = some d) (e2 : r2.data ρ2 = some e) :
    Rp m.K H2 x d ∧ Rp m.K H2 y e ∧ ((([r1, r2] : List Rs).all fun r => !r.isVar) = true → Rp m.K (vw m H2 f2 B) x d ∧ Rp m.K (vw m H2 f2 B) y e) := by
  have Q1 := P1.first P2
  have l : RdLe (vw m H2 f2 (B1 ++ B)) (vw m H2 f2 B) := vw_less fun a z => List.mem_append_right _ z
  refine ⟨Q1.rd e1, P2.rd e2, fun h => ?_⟩
  simp only [List.all_cons, List.all_nil, Bool.and_true, Bool.and_eq_true, Bool.not_eq_true'] at h
  exact ⟨Q1.fzn e1 h.1, (P2.fzn e2 h.2).up l⟩
/-- the view, or the whole heap: what a call by values may lean on -/
theorem pickF {rs : List Rs} {K : PySem.W.Frag} {P : Hp → Prop} (R : Rl m σ H ρ f B) (hH : P H) (hV : (rs.all fun r => !r.isVar) = true → P (vw m H f B)) : ∃ F, Same F H ∧ P F ∧ ∀ r, okR rs r → F = vw m H f B ∨ (F = H ∧ r.imm = true) := by
  by_cases h : (rs.all fun r => !r.isVar) = true
  · exact ⟨_, R.vwH, hV h, fun r _ => .inl rfl⟩
  · exact ⟨H, .refl _, hH, fun r o => .inr ⟨rfl, o.resolve_left h⟩⟩
end
/-- an operator between two expressions, by its rule on values: how the readings go -/
theorem op_read {r : R2} {o : O2} {ta tb : TE} {m : Fm} {σ : L2.St} {H : Hp} {ρ : List Slot} {f : Nat → List Addr} {B : List Addr} {R : Rs → List Slot → Prop} {Q : VK} (hK : m.K = X.K)
    (ho : ∀ (F H : Hp) (x y : V) (d e : PyData) (R : Rs → Prop) (Q : VK), Same F H → Rp X.K F x d → Rp X.K F y e → o d e R → (∀ z v H', R z → Same H H' → ResOk X.K F H H' v z → Q v H') → r x y H Q)
    (ha : ∀ (R : Rs → List Slot → Prop) (Q : VK), wa ρ R → (∀ r ρ' v H' f' Br, R r ρ' → Post m σ H f B r ρ' v H' f' Br → Q v H') → ta σ H Q)
    (hb : ∀ (H : Hp) (ρ : List Slot) (f : Nat → List Addr) (B : List Addr) (R : Rs → List Slot → Prop) (Q : VK), Rl m σ H ρ f B → wb ρ R → (∀ r ρ' v H' f' Br, R r ρ' → Post m σ H f B r ρ' v H' f' Br → Q v H') → tb σ H Q)
    (hw : w2 o wa wb ρ R) (k : ∀ r ρ' v H' f' Br, R r ρ' → Post m σ H f B r ρ' v H' f' Br → Q v H') : tOp r ta tb σ H Q := by
  refine two ha hb hw fun r1 ρ1 x H1 f1 B1 r2 ρ2 y H2 f2 B2 h P1 P2 => ?_
  obtain ⟨d, e1, h⟩ := dat_iff.mp h
  obtain ⟨e, e2, h⟩ := dat_iff.mp h
  obtain ⟨q1, q2, q3⟩ := Post.both P1 P2 e1 e2
  have rl2 : Rl m σ H2 ρ2 f2 B := P2.rl.drop.drop
  have st : Stp m H f B H2 f2 B := (P1.st.trans P2.st).cut
  obtain ⟨F, sF, ⟨p1, p2⟩, okF⟩ := pickF (K := m.K) (rs := [r1, r2]) (P := fun F => Rp m.K F x d ∧ Rp m.K F y e) rl2 ⟨q1, q2⟩ q3
  rw [hK] at p1 p2
  refine ho F H2 x y d e _ Q sF p1 p2 h fun z v H' ⟨ok, hz⟩ S res => ?_
  rw [← hK] at res
  obtain ⟨Br, P⟩ := Post.ofRes rl2 S (okF z ok) res
  exact k _ _ _ _ _ _ hz (P.comp st)
theorem de_op {op : Operator} {o : O2} (ho : OpD X (binaryOp op) o) (ha : DE X a wa) (hb : DE X b wb) : DE X (.BinOp a op b pos) (w2 o wa wb) := by
  obtain ⟨r, hr, ho⟩ := ho
  obtain ⟨ta, pa, ha⟩ := ha.ex
  obtain ⟨tb, pb, hb⟩ := hb.ex
  exact ⟨_, pe_op hr pa pb, fun m σ H ρ f B R Q hK rl hw k => op_read hK ho (fun R Q => ha m σ H ρ f B R Q hK rl) (fun H ρ f B R Q rl => hb m σ H ρ f B R Q hK rl) hw k⟩
theorem de_cmp {op : CmpOp} {o : O2} (ho : OpD X (compareOp op) o) (ha : DE X a wa) (hb : DE X b wb) (hm : behindInMarks op b = false := by first | exact nobehind _ (by decide) (by decide) | rfl) : DE X (.Compare a [op] [b] pos) (w2 o wa wb) := by
  obtain ⟨r, hr, ho⟩ := ho
  obtain ⟨ta, pa, ha⟩ := ha.ex
  obtain ⟨tb, pb, hb⟩ := hb.ex
  exact ⟨_, pe_cmpR hr pa pb hm, fun m σ H ρ f B R Q hK rl hw k => op_read hK ho (fun R Q => ha m σ H ρ f B R Q hK rl) (fun H ρ f B R Q rl => hb m σ H ρ f B R Q hK rl) hw k⟩
theorem de_ix {o : O2} (ho : ∃ r : R2, IxR X r ∧ ∀ (F H : Hp) (x y : V) (d e : PyData) (R : Rs → Prop) (Q : VK), Same F H → Rp X.K F x d → Rp X.K F y e → o d e R → (∀ z v H', R z → Same H H' → ResOk X.K F H H' v z → Q v H') → r x y H Q)
    (ha : DE X a wa) (hb : DE X b wb) (hs : PlainIx b := by exact fun _ _ => rfl) : DE X (.Subscript a b pos) (w2 o wa wb) := by
  obtain ⟨r, hr, ho⟩ := ho
  obtain ⟨ta, pa, ha⟩ := ha.ex
  obtain ⟨tb, pb, hb⟩ := hb.ex
  exact ⟨_, pe_ix hr pa pb hs, fun m σ H ρ f B R Q hK rl hw k => op_read hK ho (fun R Q => ha m σ H ρ f B R Q hK rl) (fun H ρ f B R Q rl => hb m σ H ρ f B R Q hK rl) hw k⟩

/-! ### tests -/
@[simp] def wBool (w : WE) : WT := fun ρ R => w ρ fun r ρ' => match r with
  | .fz (.bool b) => R b ρ'
  | _ => False
theorem Rp.bool {K : PySem.W.Frag} {F : Hp} {v : V} {b : Bool} (h : Rp K F v (.bool b)) : v = .bl b := by cases h; rfl
theorem dt_val (ha : DE X a wa) (he : ∀ whole, isTrue a X.env whole = (do let v ← whole; standAt a.pos; holding [v] (truthy v)) := by intro _; rfl) : DT X a (wBool wa) := by
  obtain ⟨ta, pa, ha⟩ := ha.ex
  refine ⟨_, pt_val pa he, fun m σ H ρ f B R Q hK rl hw k => ?_⟩
  refine ha m σ H ρ f B _ _ hK rl hw fun r ρ' v H' f' Br h P => ?_
  cases r with
  | fz d =>
    cases d with
    | bool b =>
      have e : v = .bl b := (P.rd (d := .bool b) rfl).bool
      exact ⟨b, e, k _ _ _ _ h ⟨P.rl.drop, P.step⟩⟩
    | _ => exact h.elim
  | _ => exact h.elim
theorem dt_cmp {op : CmpOp} {o : O2} (ho : OpD X (compareOp op) o) (ha : DE X a wa) (hb : DE X b wb) (hm : behindInMarks op b = false := by first | exact nobehind _ (by decide) (by decide) | rfl) : DT X (.Compare a [op] [b] pos) (wBool (w2 o wa wb)) := by
  obtain ⟨r, hr, ho⟩ := ho
  obtain ⟨ta, pa, ha⟩ := ha.ex
  obtain ⟨tb, pb, hb⟩ := hb.ex
  refine ⟨_, pt_cmpR hr pa pb hm, fun m σ H ρ f B R Q hK rl hw k => ?_⟩
  refine op_read hK ho (fun R Q => ha m σ H ρ f B R Q hK rl) (fun H ρ f B R Q rl => hb m σ H ρ f B R Q hK rl) hw fun r ρ' v H' f' Br h P => ?_
  cases r with
  | fz d =>
    cases d with
    | bool b =>
      have e : v = .bl b := (P.rd (d := .bool b) rfl).bool
      exact ⟨b, e, k _ _ _ _ h ⟨P.rl.drop, P.step⟩⟩
    | _ => exact h.elim
  | _ => exact h.elim
@[simp] def wNot (w : WT) : WT := fun ρ R => w ρ fun b ρ' => R (!b) ρ'
theorem dt_not {wt : WT} (ha : DT X a wt) : DT X (.UnaryOp .Not a pos) (wNot wt) := by
  obtain ⟨ta, pa, ha⟩ := ha.ex
  exact ⟨_, pt_not pa, fun m σ H ρ f B R Q hK rl hw k => ha m σ H ρ f B _ _ hK rl hw fun b ρ' H' f' h P => k _ _ _ _ h P⟩
/-- and, or, not, if: as values -/
@[simp] def wAnd (wa wb : WE) : WE := fun ρ R => wBool wa ρ fun b ρ1 => if b = true then wb ρ1 R else R (.fz (.bool false)) ρ1
@[simp] def wOr (wa wb : WE) : WE := fun ρ R => wBool wa ρ fun b ρ1 => if b = true then R (.fz (.bool true)) ρ1 else wb ρ1 R
@[simp] def wNotE (wa : WE) : WE := fun ρ R => wBool wa ρ fun b ρ1 => R (.fz (.bool (!b))) ρ1
@[simp] def wIf (wt : WT) (wa wb : WE) : WE := fun ρ R => wt ρ fun b ρ1 => if b = true then wa ρ1 R else wb ρ1 R
section
variable {rest : List Expr} {m : Fm} {σ : L2.St} {H : Hp} {ρ : List Slot} {f : Nat → List Addr} {B : List Addr}
theorem wBool_read {ta : TE} {R : Bool → List Slot → Prop} {Q : VK} (ha : ∀ (R : Rs → List Slot → Prop) (Q : VK), wa ρ R → (∀ r ρ' v H' f' Br, R r ρ' → Post m σ H f B r ρ' v H' f' Br → Q v H') → ta σ H Q)
    (hw : wBool wa ρ R) (k : ∀ b ρ' H' f', R b ρ' → Rl m σ H' ρ' f' B → Stp m H f B H' f' B → Q (.bl b) H') : ta σ H Q := by
  refine ha _ _ hw fun r ρ' v H' f' Br h P => ?_
  cases r with
  | fz d =>
    cases d with
    | bool b =>
      have e : v = .bl b := (P.rd (d := .bool b) rfl).bool
      rw [e]
      exact k _ _ _ _ h P.rl.drop P.step
    | _ => exact h.elim
  | _ => exact h.elim
end
theorem Post.bool {m : Fm} {σ : L2.St} {H : Hp} {ρ : List Slot} {f : Nat → List Addr} {B : List Addr} (R : Rl m σ H ρ f B) (b : Bool) : Post m σ H f B (.fz (.bool b)) ρ (.bl b) H f [] := .same R (.bl b)
theorem de_one {op} (ha : DE X a wa) : DE X (.BoolOp op [a] pos) wa := by
  obtain ⟨ta, pa, ha⟩ := ha.ex
  exact ⟨_, pe_one pa, ha⟩
theorem de_and {rest : List Expr} (ha : DE X a wa) (hb : DE X (.BoolOp .And (b :: rest) pos) wb) : DE X (.BoolOp .And (a :: b :: rest) pos) (wAnd wa wb) := by
  obtain ⟨ta, pa, ha⟩ := ha.ex
  obtain ⟨tb, pb, hb⟩ := hb.ex
  refine ⟨_, pe_and pa pb, fun m σ H ρ f B R Q hK rl hw k => ?_⟩
  refine wBool_read (ta := ta) (fun R Q => ha m σ H ρ f B R Q hK rl) hw fun c ρ' H' f' h rl' st => ⟨c, rfl, ?_⟩
  cases c with
  | true => exact hb m σ H' ρ' f' B R Q hK rl' h fun r ρ2 v H2 f2 Br h2 P => k _ _ _ _ _ _ h2 (P.comp st)
  | false => exact k _ _ _ _ _ _ h ((Post.bool rl' false).comp st)
theorem de_or {rest : List Expr} (ha : DE X a wa) (hb : DE X (.BoolOp .Or (b :: rest) pos) wb) : DE X (.BoolOp .Or (a :: b :: rest) pos) (wOr wa wb) := by
  obtain ⟨ta, pa, ha⟩ := ha.ex
  obtain ⟨tb, pb, hb⟩ := hb.ex
  refine ⟨_, pe_or pa pb, fun m σ H ρ f B R Q hK rl hw k => ?_⟩
  refine wBool_read (ta := ta) (fun R Q => ha m σ H ρ f B R Q hK rl) hw fun c ρ' H' f' h rl' st => ⟨c, rfl, ?_⟩
  cases c with
  | false => exact hb m σ H' ρ' f' B R Q hK rl' h fun r ρ2 v H2 f2 Br h2 P => k _ _ _ _ _ _ h2 (P.comp st)
  | true => exact k _ _ _ _ _ _ h ((Post.bool rl' true).comp st)
theorem de_not (ha : DE X a wa) : DE X (.UnaryOp .Not a pos) (wNotE wa) := by
  obtain ⟨ta, pa, ha⟩ := ha.ex
  refine ⟨_, pe_not pa, fun m σ H ρ f B R Q hK rl hw k => ?_⟩
  exact wBool_read (ta := ta) (fun R Q => ha m σ H ρ f B R Q hK rl) hw fun c ρ' H' f' h rl' st => ⟨c, rfl, k _ _ _ _ _ _ h ((Post.bool rl' (!c)).comp st)⟩
theorem de_if {c : Expr} {wt : WT} (hc : DT X c wt) (ha : DE X a wa) (hb : DE X b wb) : DE X (.IfExp c a b pos) (wIf wt wa wb) := by
  obtain ⟨tc, pc, hc⟩ := hc.ex
  obtain ⟨ta, pa, ha⟩ := ha.ex
  obtain ⟨tb, pb, hb⟩ := hb.ex
  refine ⟨_, pe_ifExp pc pa pb, fun m σ H ρ f B R Q hK rl hw k => ?_⟩
  refine hc m σ H ρ f B _ _ hK rl hw fun c ρ' H' f' h P => ?_
  cases c with
  | true => exact ha m σ H' ρ' f' B R Q hK P.rl h fun r ρ2 v H2 f2 Br h2 P2 => k _ _ _ _ _ _ h2 (P2.comp P.st)
  | false => exact hb m σ H' ρ' f' B R Q hK P.rl h fun r ρ2 v H2 f2 Br h2 P2 => k _ _ _ _ _ _ h2 (P2.comp P.st)
/-- and, or as tests -/
@[simp] def wAndT (wa wb : WT) : WT := fun ρ R => wa ρ fun b ρ1 => if b = true then wb ρ1 R else R false ρ1
@[simp] def wOrT (wa wb : WT) : WT := fun ρ R => wa ρ fun b ρ1 => if b = true then R true ρ1 else wb ρ1 R
structure DW (X : Cx) (e : Expr) (w : WT) : Prop where
  ex : ∃ t : TT, PW X e t ∧ ∀ (m : Fm) (σ : L2.St) (H : Hp) (ρ : List Slot) (f : Nat → List Addr) (B : List Addr) (R : Bool → List Slot → Prop) (Q : Bool → Hp → Prop), m.K = X.K → Rl m σ H ρ f B → w ρ R →
    (∀ b ρ' H' f', R b ρ' → PostT m σ H f B ρ' H' f' → Q b H') → t σ H Q
theorem DW.dt {w : WT} (h : DW X a w) : DT X a w := by
  obtain ⟨t, p, h⟩ := h.ex
  exact ⟨t, p.pt, h⟩
theorem PostT.comp {m : Fm} {σ : L2.St} {H H2 H' : Hp} {ρ : List Slot} {f f2 f' : Nat → List Addr} {B : List Addr} (st : Stp m H f B H2 f2 B) (P : PostT m σ H2 f2 B ρ H' f') : PostT m σ H f B ρ H' f' := ⟨P.rl, st.trans P.st⟩
theorem dw_and1 {w : WT} (ha : DT X a w) : DW X (.BoolOp .And [a] pos) w := by
  obtain ⟨ta, pa, ha⟩ := ha.ex
  exact ⟨_, pw_and1 pa, ha⟩
theorem dw_or1 {w : WT} (ha : DT X a w) : DW X (.BoolOp .Or [a] pos) w := by
  obtain ⟨ta, pa, ha⟩ := ha.ex
  exact ⟨_, pw_or1 pa, ha⟩
theorem dw_and {rest : List Expr} {va vb : WT} (ha : DT X a va) (hb : DW X (.BoolOp .And (b :: rest) pos) vb) : DW X (.BoolOp .And (a :: b :: rest) pos) (wAndT va vb) := by
  obtain ⟨ta, pa, ha⟩ := ha.ex
  obtain ⟨tb, pb, hb⟩ := hb.ex
  refine ⟨_, pw_and pa pb, fun m σ H ρ f B R Q hK rl hw k => ?_⟩
  refine ha m σ H ρ f B _ _ hK rl hw fun c ρ' H' f' h P => ?_
  cases c with
  | true => exact hb m σ H' ρ' f' B R Q hK P.rl h fun b ρ2 H2 f2 h2 P2 => k _ _ _ _ h2 (P2.comp P.st)
  | false => exact k _ _ _ _ h P
theorem dw_or {rest : List Expr} {va vb : WT} (ha : DT X a va) (hb : DW X (.BoolOp .Or (b :: rest) pos) vb) : DW X (.BoolOp .Or (a :: b :: rest) pos) (wOrT va vb) := by
  obtain ⟨ta, pa, ha⟩ := ha.ex
  obtain ⟨tb, pb, hb⟩ := hb.ex
  refine ⟨_, pw_or pa pb, fun m σ H ρ f B R Q hK rl hw k => ?_⟩
  refine ha m σ H ρ f B _ _ hK rl hw fun c ρ' H' f' h P => ?_
  cases c with
  | false => exact hb m σ H' ρ' f' B R Q hK P.rl h fun b ρ2 H2 f2 h2 P2 => k _ _ _ _ h2 (P2.comp P.st)
  | true => exact k _ _ _ _ h P
end
end Dn
/-! Dn4: chains, argument lists, displays, calls. -/
namespace Dn
open PySem PySem.Spec PyProof.Rows L2

/-! ### chains of ints -/
@[simp] def iCmp : CmpOp → Int → Int → Option Bool
  | .Lt, i, j => some (decide (i < j))
  | .LtE, i, j => some (decide (i ≤ j))
  | .Gt, i, j => some (decide (j < i))
  | .GtE, i, j => some (decide (j ≤ i))
  | _, _, _ => none
theorem op_iCmp {X : Cx} {op : CmpOp} (h : ∃ k, iCmp op 0 0 = some k) : OpR X (compareOp op) (fun x y H Q => ∃ i j k, x = .int i ∧ y = .int j ∧ iCmp op i j = some k ∧ Q (.bl k) H) := by
  intro pins s σ H x y v u Q I rx ry hq
  obtain ⟨i, j, k, rfl, rfl, e, q⟩ := hq
  cases op with
  | Lt => cases e; exact op_lt pins s σ H _ _ v u Q I rx ry ⟨i, j, rfl, rfl, q⟩
  | LtE => cases e; exact op_le pins s σ H _ _ v u Q I rx ry ⟨i, j, rfl, rfl, q⟩
  | Gt => cases e; exact op_gt pins s σ H _ _ v u Q I rx ry ⟨i, j, rfl, rfl, q⟩
  | GtE => cases e; exact op_ge pins s σ H _ _ v u Q I rx ry ⟨i, j, rfl, rfl, q⟩
  | _ => cases e
@[simp] def intR (ρ : List Slot) (r : Rs) (k : Int → Prop) : Prop := match r with
  | .fz (.int i) => k i
  | _ => False
@[simp] def wChain (op op' : CmpOp) (wa wb wc : WE) : WE := fun ρ R => wa ρ fun r1 ρ1 => wb ρ1 fun r2 ρ2 => intR ρ2 r1 fun i => intR ρ2 r2 fun j => match iCmp op i j with
  | some true => wc ρ2 fun r3 ρ3 => intR ρ3 r3 fun k => match iCmp op' j k with
    | some b => R (.fz (.bool b)) ρ3
    | none => False
  | some false => R (.fz (.bool false)) ρ2
  | none => False
theorem Rp.intv {K : PySem.W.Frag} {F : Hp} {v : V} {b : Int} (h : Rp K F v (.int b)) : v = .int b := by cases h; rfl
theorem intR_iff {ρ : List Slot} {r : Rs} {k : Int → Prop} (h : intR ρ r k) : ∃ i, r = .fz (.int i) ∧ k i := by
  unfold intR at h
  split at h
  · exact ⟨_, rfl, h⟩
  · exact h.elim
section
variable {X : Cx} {pos : Pos} {a b c : Expr} {wa wb wc : WE}
theorem chain_read {op op' : CmpOp} {ta tb tc : TE} {m : Fm} {σ : L2.St} {H : Hp} {ρ : List Slot} {f : Nat → List Addr} {B : List Addr} {R : Rs → List Slot → Prop} {Q : VK}
    (rl : Rl m σ H ρ f B)
    (ha : ∀ (H : Hp) (ρ : List Slot) (f : Nat → List Addr) (B : List Addr) (R : Rs → List Slot → Prop) (Q : VK), Rl m σ H ρ f B → wa ρ R → (∀ r ρ' v H' f' Br, R r ρ' → Post m σ H f B r ρ' v H' f' Br → Q v H') → ta σ H Q)
    (hb : ∀ (H : Hp) (ρ : List Slot) (f : Nat → List Addr) (B : List Addr) (R : Rs → List Slot → Prop) (Q : VK), Rl m σ H ρ f B → wb ρ R → (∀ r ρ' v H' f' Br, R r ρ' → Post m σ H f B r ρ' v H' f' Br → Q v H') → tb σ H Q)
    (hc : ∀ (H : Hp) (ρ : List Slot) (f : Nat → List Addr) (B : List Addr) (R : Rs → List Slot → Prop) (Q : VK), Rl m σ H ρ f B → wc ρ R → (∀ r ρ' v H' f' Br, R r ρ' → Post m σ H f B r ρ' v H' f' Br → Q v H') → tc σ H Q)
    (hw : wChain op op' wa wb wc ρ R) (k : ∀ b ρ' H' f', R (.fz (.bool b)) ρ' → Rl m σ H' ρ' f' B → Stp m H f B H' f' B → Q (.bl b) H') :
    tChain (fun x y H Q => ∃ i j k, x = .int i ∧ y = .int j ∧ iCmp op i j = some k ∧ Q (.bl k) H) (fun x y H Q => ∃ i j k, x = .int i ∧ y = .int j ∧ iCmp op' i j = some k ∧ Q (.bl k) H) ta tb tc σ H Q := by
  refine ha _ _ _ _ _ _ rl hw fun r1 ρ1 x H1 f1 B1 h0 P1 => ?_
  refine hb _ _ _ _ _ _ P1.rl.drop h0 fun r2 ρ2 y H2 f2 B2 h2 P2 => ?_
  obtain ⟨i, e1, h3⟩ := intR_iff h2
  obtain ⟨j, e2, h⟩ := intR_iff h3
  subst e1
  subst e2
  have ex := Rp.intv (P1.ok.2)
  have ey := Rp.intv (P2.ok.2)
  subst ex ey
  have rl2 : Rl m σ H2 ρ2 f2 B := P2.rl.drop
  have st2 : Stp m H f B H2 f2 B := P1.step.trans P2.step
  cases e : iCmp op i j with
  | none => rw [e] at h; exact h.elim
  | some z =>
    rw [e] at h
    refine ⟨i, j, z, rfl, rfl, e, z, rfl, ?_⟩
    cases z with
    | false => exact k _ _ _ _ h rl2 st2
    | true =>
      refine hc _ _ _ _ _ _ rl2 h fun r3 ρ3 w H3 f3 B3 h5 P3 => ?_
      obtain ⟨l, e3, h6⟩ := intR_iff h5
      subst e3
      have ew := Rp.intv (P3.ok.2)
      subst ew
      cases e' : iCmp op' j l with
      | none => rw [e'] at h6; exact h6.elim
      | some z =>
        rw [e'] at h6
        exact ⟨j, l, z, rfl, rfl, e', k _ _ _ _ h6 P3.rl.drop (st2.trans P3.step)⟩
theorem de_chain {op op' : CmpOp} (ha : DE X a wa) (hb : DE X b wb) (hc : DE X c wc) (h1 : ∃ k, iCmp op 0 0 = some k := by exact ⟨_, rfl⟩) (h2 : ∃ k, iCmp op' 0 0 = some k := by exact ⟨_, rfl⟩)
    (hm : lastMarks [op, op'] [b, c] = false := by with_unfolding_all rfl) : DE X (.Compare a [op, op'] [b, c] pos) (wChain op op' wa wb wc) := by
  obtain ⟨ta, pa, ha⟩ := ha.ex
  obtain ⟨tb, pb, hb⟩ := hb.ex
  obtain ⟨tc, pc, hc⟩ := hc.ex
  refine ⟨_, pe_chain (op_iCmp h1) (op_iCmp h2) pa pb pc hm, fun m σ H ρ f B R Q hK rl hw k => ?_⟩
  exact chain_read rl (fun H ρ f B R Q rl => ha m σ H ρ f B R Q hK rl) (fun H ρ f B R Q rl => hb m σ H ρ f B R Q hK rl) (fun H ρ f B R Q rl => hc m σ H ρ f B R Q hK rl) hw fun b ρ' H' f' h rl' st => k _ _ _ _ _ _ h ((Post.bool rl' b).comp st)
theorem dt_chain {op op' : CmpOp} (ha : DE X a wa) (hb : DE X b wb) (hc : DE X c wc) (h1 : ∃ k, iCmp op 0 0 = some k := by exact ⟨_, rfl⟩) (h2 : ∃ k, iCmp op' 0 0 = some k := by exact ⟨_, rfl⟩)
    (hm : lastMarks [op, op'] [b, c] = false := by with_unfolding_all rfl) : DT X (.Compare a [op, op'] [b, c] pos) (wBool (wChain op op' wa wb wc)) := by
  obtain ⟨ta, pa, ha⟩ := ha.ex
  obtain ⟨tb, pb, hb⟩ := hb.ex
  obtain ⟨tc, pc, hc⟩ := hc.ex
  refine ⟨_, pt_chain (op_iCmp h1) (op_iCmp h2) pa pb pc hm, fun m σ H ρ f B R Q hK rl hw k => ?_⟩
  exact chain_read rl (fun H ρ f B R Q rl => ha m σ H ρ f B R Q hK rl) (fun H ρ f B R Q rl => hb m σ H ρ f B R Q hK rl) (fun H ρ f B R Q rl => hc m σ H ρ f B R Q hK rl) hw fun b ρ' H' f' h rl' st => ⟨b, rfl, k _ _ _ _ h ⟨rl', st⟩⟩
end

/-! ### argument lists -/
@[simp] def dats (ρ : List Slot) : List Rs → Option (List PyData)
  | [] => some []
  | r :: rs => match r.data ρ with
    | some d => match dats ρ rs with
      | some ds => some (d :: ds)
      | none => none
    | none => none
@[simp] def datA (ρ : List Slot) (rs : List Rs) (k : List PyData → Prop) : Prop := match dats ρ rs with
  | some ds => k ds
  | none => False
theorem datA_iff {ρ : List Slot} {rs : List Rs} {k : List PyData → Prop} (h : datA ρ rs k) : ∃ ds, dats ρ rs = some ds ∧ k ds := by
  unfold datA at h
  cases e : dats ρ rs with
  | none => rw [e] at h; exact h.elim
  | some ds => rw [e] at h; exact ⟨ds, rfl, h⟩
section
variable {m : Fm} {σ : L2.St} {H H' : Hp} {ρ : List Slot} {f f' : Nat → List Addr} {B : List Addr}
theorem RsAll.rd (R : Rl m σ H ρ f B) : ∀ {Bs : List (List Addr)} {vs : List V} {rs : List Rs} {ds : List PyData}, RsAll m σ H f B Bs vs rs → dats ρ rs = some ds → RpAll m.K H vs ds
  | _, _, _, _, .nil, e => by cases e; exact .nil
  | _, _, r :: rs, ds, .cons h t, e => by
    unfold dats at e
    cases e1 : r.data ρ with
    | none => rw [e1] at e; cases e
    | some d =>
      cases e2 : dats ρ rs with
      | none => rw [e1, e2] at e; cases e
      | some ds' =>
        rw [e1, e2] at e
        cases e
        exact .cons (h.rd R e1) (RsAll.rd R t e2)
theorem fzn_of {B0 Br : List Addr} {v : V} {r : Rs} {d : PyData} (R : Rl m σ H ρ f B) (h : RsOk m σ H f B Br v r) (hb : ∀ a ∈ Br, a ∈ B ∧ a ∉ B0) (hs : ∀ a ∈ B0, a ∈ B) (e : r.data ρ = some d) (nv : r.isVar = false) : Rp m.K (vw m H f B0) v d := by
  have l : RdLe (vw m H f B) (vw m H f B0) := vw_less hs
  have nn : ∀ a ∈ Br, ∀ o, H a = some o → vw m H f B0 a = some o := fun a ha o q => vw_new (R.bn a (hb a ha).1).1 (fun i z => R.bf i a z (hb a ha).1) (hb a ha).2 q
  cases r with
  | fz d' => cases e; exact h.2.up l
  | ol ds =>
    cases e
    obtain ⟨a, xs, rfl, e0, e1, q⟩ := h
    exact .lst (SqL.of (nn a (by rw [e0]; simp) _ e1)) (q.up l)
  | od es =>
    cases e
    obtain ⟨a, kvs, rfl, e0, e1, q⟩ := h
    exact .dct (e1.up fun o => nn a (by rw [e0]; simp) o).rd (q.up l)
  | odl es =>
    cases e
    obtain ⟨a, kvs, ls, rfl, e0, _, e1, q⟩ := h
    exact .dct (e1.up fun o => nn a (by rw [e0]; simp) o).rd (q.rdv l fun b hb o => nn b (by rw [e0]; simp [hb]) o)
  | var i => cases nv
theorem RsAll.fzn {B0 : List Addr} (R : Rl m σ H ρ f B) (hs : ∀ a ∈ B0, a ∈ B) : ∀ {Bs : List (List Addr)} {vs : List V} {rs : List Rs} {ds : List PyData}, RsAll m σ H f B Bs vs rs → (∀ b ∈ Bs, ∀ a ∈ b, a ∈ B ∧ a ∉ B0) → dats ρ rs = some ds → (rs.all fun r => !r.isVar) = true → RpAll m.K (vw m H f B0) vs ds
  | _, _, _, _, .nil, _, e, _ => by cases e; exact .nil
  | Br :: Bs, _, r :: rs, ds, .cons h t, hb, e, nv => by
    unfold dats at e
    simp only [List.all_cons, Bool.and_eq_true, Bool.not_eq_true'] at nv
    cases e1 : r.data ρ with
    | none => rw [e1] at e; cases e
    | some d =>
      cases e2 : dats ρ rs with
      | none => rw [e1, e2] at e; cases e
      | some ds' =>
        rw [e1, e2] at e
        cases e
        exact .cons (fzn_of R h (hb Br (by simp)) hs e1 nv.1) (RsAll.fzn R hs t (fun b z => hb b (List.mem_cons_of_mem _ z)) e2 (by simpa using nv.2))
theorem PostA.fzn {rs : List Rs} {vs : List V} {Bs : List (List Addr)} {ds : List PyData} (P : PostA m σ H f B rs ρ vs H' f' Bs) (e : dats ρ rs = some ds) (nv : (rs.all fun r => !r.isVar) = true) : RpAll m.K (vw m H' f' B) vs ds :=
  RsAll.fzn P.rl (fun a h => List.mem_append_right _ h) P.ok (fun b hb a ha => by
    have : a ∈ Bs.reverse.flatten := List.mem_flatten.mpr ⟨b, by simpa using hb, ha⟩
    exact ⟨List.mem_append_left _ this, P.dis a this⟩) e nv
theorem PostA.rd {rs : List Rs} {vs : List V} {Bs : List (List Addr)} {ds : List PyData} (P : PostA m σ H f B rs ρ vs H' f' Bs) (e : dats ρ rs = some ds) : RpAll m.K H' vs ds := RsAll.rd P.rl P.ok e
end
section
variable {X : Cx} {pos : Pos} {a b c : Expr} {es : List Expr} {wa wb wc : WE} {ws : WA}
@[simp] def wNil : WA := fun ρ R => R [] ρ
@[simp] def wCons (wa : WE) (ws : WA) : WA := fun ρ R => wa ρ fun r ρ1 => ws ρ1 fun rs ρ2 => R (r :: rs) ρ2
theorem da_nil : DA X [] wNil := ⟨_, pa_nil, fun m σ H ρ f B R Q hK rl hw k => k [] ρ [] H f [] hw ⟨rl, .nil, .refl, by simp, .nil⟩⟩
theorem da_cons (ha : DE X a wa) (hr : DA X es ws) (hs : starEach (a :: es) X.env = (false, eval a X.env) :: starEach es X.env := by rfl) : DA X (a :: es) (wCons wa ws) := by
  obtain ⟨ta, pa, ha⟩ := ha.ex
  obtain ⟨tr, pr, hr⟩ := hr.ex
  refine ⟨_, pa_cons pa pr hs, fun m σ H ρ f B R Q hK rl hw k => ?_⟩
  refine ha m σ H ρ f B _ _ hK rl hw fun r ρ1 x H1 f1 B1 h P1 => ?_
  refine hr m σ H1 ρ1 f1 (B1 ++ B) _ _ hK P1.rl h fun rs ρ2 vs H2 f2 Bs h P2 => ?_
  have e : (B1 :: Bs).reverse.flatten ++ B = Bs.reverse.flatten ++ (B1 ++ B) := by simp [List.append_assoc]
  refine k _ _ _ _ f2 (B1 :: Bs) h ⟨?_, ?_, ?_, ?_, ?_⟩
  · rw [e]; exact P2.rl
  · rw [e]; exact .cons (P1.later (ρ2 := ρ2) P2.st) P2.ok
  · rw [e]; exact P1.st.trans P2.st
  · intro y hy
    simp only [List.reverse_cons, List.flatten_append, List.flatten_cons, List.flatten_nil, List.append_nil, List.mem_append] at hy
    rcases hy with hy | hy
    · exact fun z => P2.dis y hy (List.mem_append_right _ z)
    · exact P1.dis y hy
  · refine .cons (fun d hd y hy z => ?_) P2.nd
    exact P2.dis y (List.mem_flatten.mpr ⟨d, by simpa using hd, z⟩) (List.mem_append_left _ hy)
/-- behind the arguments: the state, all let go -/
theorem PostA.next {m : Fm} {σ : L2.St} {H H' : Hp} {ρ : List Slot} {f f' : Nat → List Addr} {B : List Addr} {rs : List Rs} {vs : List V} {Bs : List (List Addr)} (P : PostA m σ H f B rs ρ vs H' f' Bs) : Rl m σ H' ρ f' B ∧ Stp m H f B H' f' B := ⟨P.rl.drop, P.st.cut⟩

/-! ### displays -/
@[simp] def wTup (ws : WA) : WE := fun ρ R => ws ρ fun rs ρ' => datA ρ' rs fun ds => (rs.all fun r => !r.isVar) = true ∧ ds.length ≤ sizeLine ∧ R (.fz (.tuple ds)) ρ'
@[simp] def wLst (ws : WA) : WE := fun ρ R => ws ρ fun rs ρ' => datA ρ' rs fun ds => (rs.all fun r => !r.isVar) = true ∧ ds.length ≤ sizeLine ∧ R (.ol ds) ρ'
theorem same_upd {H : Hp} {p : Addr} {o : HO} (h : H p = none) : Same H (upd H p o) := fun b u e => by rw [upd_ne (ne_of_none e h)]; exact e
theorem nxx_of {F H H' : Hp} {B : List Addr} (s : Same F H) (hB : ∀ a ∈ B, H a = none) : RdLe F (nxx F H H' B) := .of fun a o q => nxx_iff.mpr ⟨fun z => (by
  have w := s a o q
  rw [hB a z] at w
  cases w), Or.inl ⟨q, (by rw [s a o q]; rfl)⟩⟩
theorem de_tup {x1} (h : DA X es ws) : DE X (.Tuple es x1 pos) (wTup ws) := by
  obtain ⟨ta, pa, ha⟩ := h.ex
  refine ⟨_, pe_tup pa, fun m σ H ρ f B R Q hK rl hw k => ?_⟩
  refine ha m σ H ρ f B _ _ hK rl hw fun rs ρ' vs H' f' Bs h P => ?_
  obtain ⟨ds, e, nv, hl, h⟩ := datA_iff h
  obtain ⟨rl', st⟩ := P.next
  have q := P.fzn e nv
  refine ⟨by rw [q.length]; exact hl, fun p hp => ?_⟩
  have s : Same (vw m H' f' B) H' := rl'.vwH
  obtain ⟨Br, P2⟩ := Post.ofRes (F := vw m H' f' B) (H' := upd H' p (.tup vs)) (v := .ref p) (r := .fz (.tuple ds)) rl' (same_upd hp) (.inl rfl) (.tup (SqT.of (nxx_iff.mpr ⟨by simp, .inr ⟨hp, upd_same⟩⟩)) (q.up (nxx_of s (by simp))))
  exact k _ _ _ _ _ _ h (P2.comp st)
theorem de_lst (h : DA X es ws) : DE X (.List es pos) (wLst ws) := by
  obtain ⟨ta, pa, ha⟩ := h.ex
  refine ⟨_, pe_lst pa, fun m σ H ρ f B R Q hK rl hw k => ?_⟩
  refine ha m σ H ρ f B _ _ hK rl hw fun rs ρ' vs H' f' Bs h P => ?_
  obtain ⟨ds, e, nv, hl, h⟩ := datA_iff h
  obtain ⟨rl', st⟩ := P.next
  have q := P.fzn e nv
  refine ⟨by rw [q.length]; exact hl, fun p hp => ?_⟩
  have s : Same (vw m H' f' B) H' := rl'.vwH
  obtain ⟨Br, P2⟩ := Post.ofRes (F := vw m H' f' B) (H' := upd H' p (.lst vs)) (v := .ref p) (r := .ol ds) rl' (same_upd hp) (.inl rfl) ⟨p, vs, rfl, hp, upd_same, q.up (nxx_of s (by simp [hp]))⟩
  exact k _ _ _ _ _ _ h (P2.comp st)
theorem de_dnewK : DE X (.Dict [] [] pos) (fun ρ R => R (.od []) ρ) := by
  refine ⟨_, pe_dnewK, fun m σ H ρ f B R Q hK rl hw k => ?_⟩
  intro d hd
  obtain ⟨Br, P2⟩ := Post.ofRes (F := vw m H f B) (H' := upd H d (.dK [])) (v := .ref d) (r := .od []) rl (same_upd hd) (.inl rfl) ⟨d, [], rfl, hd, .inl ⟨[], upd_same, rfl⟩, .nil⟩
  exact k _ _ _ _ _ _ hw P2
theorem de_dnewT : DE X (.Dict [] [] pos) (fun ρ R => R (.od []) ρ) := by
  refine ⟨_, pe_dnewT, fun m σ H ρ f B R Q hK rl hw k => ?_⟩
  intro d hd
  obtain ⟨Br, P2⟩ := Post.ofRes (F := vw m H f B) (H' := upd H d (.dT [])) (v := .ref d) (r := .od []) rl (same_upd hd) (.inl rfl) ⟨d, [], rfl, hd, .inr ⟨[], upd_same, rfl⟩, .nil⟩
  exact k _ _ _ _ _ _ hw P2

/-! ### built-ins -/
abbrev OA := List PyData → (Rs → Prop) → Prop
def CallD (X : Cx) (g : Value) (o : OA) : Prop := ∃ r : List V → Hp → VK → Prop, CallR X g r ∧ ∀ (F H : Hp) (vs : List V) (ds : List PyData) (R : Rs → Prop) (Q : VK), Same F H → TupLe H F → RpAll X.K F vs ds → o ds R →
  (∀ z v H', R z → Same H H' → ResOk X.K F H H' v z → Q v H') → r vs H Q
@[simp] def wCall (o : OA) (ws : WA) : WE := fun ρ R => ws ρ fun rs ρ' => datA ρ' rs fun ds => o ds fun r => okR rs r ∧ R r ρ'
theorem call_read {r : List V → Hp → VK → Prop} {o : OA} {t : TA} {m : Fm} {σ : L2.St} {H : Hp} {ρ : List Slot} {f : Nat → List Addr} {B : List Addr} {R : Rs → List Slot → Prop} {Q : VK} (hK : m.K = X.K)
    (ho : ∀ (F H : Hp) (vs : List V) (ds : List PyData) (R : Rs → Prop) (Q : VK), Same F H → TupLe H F → RpAll X.K F vs ds → o ds R → (∀ z v H', R z → Same H H' → ResOk X.K F H H' v z → Q v H') → r vs H Q)
    (ha : ∀ (R : List Rs → List Slot → Prop) (Q : List V → Hp → Prop), ws ρ R → (∀ rs ρ' vs H' f' Bs, R rs ρ' → PostA m σ H f B rs ρ' vs H' f' Bs → Q vs H') → t σ H Q)
    (hw : wCall o ws ρ R) (k : ∀ r ρ' v H' f' Br, R r ρ' → Post m σ H f B r ρ' v H' f' Br → Q v H') : t σ H fun vs H1 => r vs H1 Q := by
  refine ha _ _ hw fun rs ρ' vs H' f' Bs h P => ?_
  obtain ⟨ds, e, h⟩ := datA_iff h
  obtain ⟨rl', st⟩ := P.next
  obtain ⟨F, sF, ⟨p1, p2⟩, okF⟩ := pickF (K := m.K) (rs := rs) (P := fun F => RpAll m.K F vs ds ∧ TupLe H' F) rl' ⟨P.rd e, fun _ _ h => h⟩ fun nv => ⟨P.fzn e nv, rl'.tups⟩
  rw [hK] at p1
  refine ho F H' vs ds _ Q sF p2 p1 h fun z v H2 ⟨ok, hz⟩ S res => ?_
  rw [← hK] at res
  obtain ⟨Br, P2⟩ := Post.ofRes rl' S (okF z ok) res
  exact k _ _ _ _ _ _ hz (P2.comp st)
theorem de_callB {x : Str} {id : String} {o : OA} {p : Pos} (hc : CallD X (.builtin id) o) (hg : Gl X x) (hm : X.mg x = none) (hv : bootBuiltins x = some (.builtin id)) (ha : DA X (a :: es) ws) (hn : x ≠ "__name__" := by decide) (hdb : (x == ("__debug__" : Str)) = false := by decide)
    (he : starEach (a :: es) X.env = (false, eval a X.env) :: starEach es X.env := by rfl) (hpl : (backTo pos (starEach es X.env)).any (·.1) = false := by rfl) : DE X (.Call (.Name x p) (a :: es) [] pos) (wCall o ws) := by
  obtain ⟨r, hr, ho⟩ := hc
  obtain ⟨t, pa, ha⟩ := ha.ex
  exact ⟨_, pe_callB hr hg hm hv pa hn hdb he hpl, fun m σ H ρ f B R Q hK rl hw k => call_read hK ho (fun R Q => ha m σ H ρ f B R Q hK rl) hw k⟩
theorem de_callTy {x : Str} {T : String} {o : OA} {p : Pos} (hc : CallD X (.type T) o) (hg : Gl X x) (hm : X.mg x = none) (hv : bootBuiltins x = some (.type T)) (ha : DA X (a :: es) ws) (hn : x ≠ "__name__" := by decide) (hdb : (x == ("__debug__" : Str)) = false := by decide)
    (he : starEach (a :: es) X.env = (false, eval a X.env) :: starEach es X.env := by rfl) (hpl : (backTo pos (starEach es X.env)).any (·.1) = false := by rfl) : DE X (.Call (.Name x p) (a :: es) [] pos) (wCall o ws) := by
  obtain ⟨r, hr, ho⟩ := hc
  obtain ⟨t, pa, ha⟩ := ha.ex
  exact ⟨_, pe_callTy hr hg hm hv pa hn hdb he hpl, fun m σ H ρ f B R Q hK rl hw k => call_read hK ho (fun R Q => ha m σ H ρ f B R Q hK rl) hw k⟩

end
end Dn
/-! Dn5: what changes; statements. -/
namespace Dn
open PySem PySem.Spec PyProof.Rows L2

section
variable {m : Fm} {σ : L2.St} {H H' : Hp} {ρ : List Slot} {f f' : Nat → List Addr} {B Br : List Addr} {i : Nat} {s s' : Slot}
/-- the slot i's own objects change (and may become more), new ones come at Br -/
theorem Rl.chg (R : Rl m σ H ρ f B) (hi : i < ρ.length) (hf : ∀ j, j ≠ i → f' j = f j) (hsub : ∀ a ∈ f i, a ∈ f' i) (hnew : ∀ a ∈ f' i, a ∈ f i ∨ (H a = none ∧ a ∉ Br)) (fr : ∀ b o, b ∉ f i → H b = some o → H' b = some o)
    (hn : ∀ a ∈ Br, H a = none ∧ ∃ o, H' a = some o ∧ isCon o = true) (hsl : SlOk m.K (vw m H' f' (Br ++ B)) H' σ[i]? s' (f' i)) (pin : ∀ p, (i, p) ∈ m.M → f' i = [p] ∧ ∃ ds, s' = .pm ds) :
    Rl m σ H' (ρ.set i s') f' (Br ++ B) ∧ Stp m H f B H' f' (Br ++ B) := by
  have le : ∀ a o, vw m H f B a = some o → vw m H' f' (Br ++ B) a = some o := fun a o q => by
    have hH := R.vwH a o q
    obtain ⟨h1, h2, h3⟩ := vw_iff.mp q
    refine vw_iff.mpr ⟨fun z => ?_, fun j z => ?_, h3.imp id fun z => ⟨z.1, fr a o (h2 i) hH⟩⟩
    · rcases List.mem_append.mp z with z | z
      · rw [(hn a z).1] at hH; cases hH
      · exact h1 z
    · by_cases e : j = i
      · subst e
        rcases hnew a z with z | z
        · exact h2 j z
        · rw [z.1] at hH; cases hH
      · rw [hf j e] at z; exact h2 j z
  have keep : ∀ j, j ≠ i → ∀ a ∈ f j, ∀ o, H a = some o → H' a = some o := fun j e a h o q => fr a o (fun z => e (R.dj j i a h z)) q
  have keepB : ∀ a ∈ B, ∀ o, H a = some o → H' a = some o := fun a h o q => fr a o (fun z => R.bf i a z h) q
  refine ⟨⟨by rw [List.length_set]; exact R.len, R.zs, R.zm, R.zt, fun a o h hm => ?_, fun j k a h1 h2 => ?_, fun j a h z => ?_, fun a h => ?_, fun j a h => ?_, fun j p hp => ?_, fun j h => ?_, fun j t e => ?_⟩, ?_⟩
  · refine fr a o (fun z => ?_) (R.fr a o h hm)
    rcases R.ow i a z with w | w
    · rw [h] at w; cases w
    · exact hm _ w rfl
  · by_cases e1 : j = i
    · by_cases e2 : k = i
      · rw [e1, e2]
      · rw [hf k e2] at h2
        subst e1
        rcases hnew a h1 with z | z
        · exact R.dj _ _ a z h2
        · exact absurd h2 (R.newf z.1 k)
    · rw [hf j e1] at h1
      by_cases e2 : k = i
      · subst e2
        rcases hnew a h2 with z | z
        · exact R.dj _ _ a h1 z
        · exact absurd h1 (R.newf z.1 j)
      · rw [hf k e2] at h2
        exact R.dj _ _ a h1 h2
  · have q : a ∈ f j ∨ (H a = none ∧ a ∉ Br) := by
      by_cases e : j = i
      · subst e; exact hnew a h
      · rw [hf j e] at h; exact .inl h
    rcases List.mem_append.mp z with z | z
    · rcases q with q | q
      · exact R.newf (hn a z).1 j q
      · exact q.2 z
    · rcases q with q | q
      · exact R.bf j a q z
      · exact R.newB q.1 z
  · rcases List.mem_append.mp h with z | z
    · exact ⟨R.new0 (hn a z).1, (hn a z).2⟩
    · obtain ⟨h1, o, h2, h3⟩ := R.bn a z
      exact ⟨h1, o, keepB a z o h2, h3⟩
  · by_cases e : j = i
    · subst e
      rcases hnew a h with z | z
      · exact R.ow j a z
      · exact .inl (R.new0 z.1)
    · rw [hf j e] at h; exact R.ow j a h
  · by_cases e : j = i
    · subst e
      obtain ⟨h1, ds, h2⟩ := pin p hp
      exact ⟨h1, ds, by rw [List.getElem?_set_self hi, h2]⟩
    · rw [hf j e]
      obtain ⟨h1, ds, h2⟩ := R.pin j p hp
      exact ⟨h1, ds, by rw [List.getElem?_set_ne (Ne.symm e)]; exact h2⟩
  · rw [List.length_set] at h
    rw [hf j (by omega)]
    exact R.out j h
  · by_cases e1 : j = i
    · subst e1
      rw [List.getElem?_set_self hi] at e
      cases e
      exact hsl
    · rw [List.getElem?_set_ne (Ne.symm e1)] at e
      rw [hf j e1]
      exact (R.sl j t e).up (.of le) (keep j e1)
  · refine ⟨.of le, keepB, fun j a h => ?_, fun j a h => ?_, fun a h => List.mem_append_right _ h, fun a h => (List.mem_append.mp h).elim (fun z => .inr (hn a z).1) .inl, fun a h => ?_⟩
    · by_cases e : j = i
      · subst e; exact hsub a h
      · rw [hf j e]; exact h
    · by_cases e : j = i
      · subst e; exact (hnew a h).imp id fun z => z.1
      · rw [hf j e] at h; exact .inl h
    · by_cases hm : a ∈ f i
      · obtain ⟨o, e, _⟩ := hsl.con a (hsub a hm)
        rw [e]; rfl
      · cases e : H a with
        | none => rw [e] at h; cases h
        | some o => rw [fr a o hm e]; rfl
/-- a held object changes, of its kind -/
theorem Rl.updB {a : Addr} {o : HO} (R : Rl m σ H ρ f B) (ha : a ∈ B) (hc : isCon o = true) : Rl m σ (upd H a o) ρ f B ∧ ∀ b u, vw m H f B b = some u → vw m (upd H a o) f B b = some u := by
  have le : ∀ b u, vw m H f B b = some u → vw m (upd H a o) f B b = some u := fun b u q => by
    obtain ⟨h1, h2, h3⟩ := vw_iff.mp q
    have ne : b ≠ a := fun e => h1 (e ▸ ha)
    exact vw_iff.mpr ⟨h1, h2, h3.imp id fun z => ⟨z.1, by rw [upd_ne ne]; exact z.2⟩⟩
  refine ⟨⟨R.len, R.zs, R.zm, R.zt, fun b u h hm => ?_, R.dj, R.bf, fun b h => ?_, R.ow, R.pin, R.out, fun j t e => ?_⟩, le⟩
  · have q := R.fr b u h hm
    have ne : b ≠ a := fun e => by
      rw [e] at h
      rw [(R.bn a ha).1] at h
      cases h
    rw [upd_ne ne]; exact q
  · obtain ⟨h1, u, h2, h3⟩ := R.bn b h
    refine ⟨h1, ?_⟩
    by_cases e : b = a
    · subst e; exact ⟨o, upd_same, hc⟩
    · exact ⟨u, by rw [upd_ne e]; exact h2, h3⟩
  · exact (R.sl j t e).up (.of le) fun b h u q => by
      have ne : b ≠ a := fun e => R.bf j b h (e ▸ ha)
      rw [upd_ne ne]; exact q

@[simp] def slotOf : Rs → Slot
  | .fz d => .fz d
  | .var _ => .un
  | .ol ds => .ol ds
  | .od es => .od es
  | .odl es => .odl es
def fset (f : Nat → List Addr) (i : Nat) (g : List Addr) : Nat → List Addr := fun j => if j = i then g else f j
theorem fset_same {f : Nat → List Addr} {i : Nat} {g : List Addr} : fset f i g i = g := by unfold fset; rw [if_pos rfl]
theorem fset_ne {f : Nat → List Addr} {i j : Nat} {g : List Addr} (h : j ≠ i) : fset f i g j = f j := by unfold fset; rw [if_neg h]
def Slot.isPm : Slot → Bool
  | .pm _ => true
  | _ => false
@[simp] theorem isPm_un : Slot.isPm .un = false := rfl
@[simp] theorem isPm_fz (d : PyData) : Slot.isPm (.fz d) = false := rfl
@[simp] theorem isPm_ol (d : List PyData) : Slot.isPm (.ol d) = false := rfl
@[simp] theorem isPm_od (d : List (PyData × PyData)) : Slot.isPm (.od d) = false := rfl
@[simp] theorem isPm_odl (d : List (PyData × List PyData)) : Slot.isPm (.odl d) = false := rfl
@[simp] theorem isPm_pm (d : List PyData) : Slot.isPm (.pm d) = true := rfl
theorem Rl.notPin (R : Rl m σ H ρ f B) (e : ρ[i]? = some s) (h : s.isPm = false) : ∀ p, (i, p) ∉ m.M := fun p hp => by
  obtain ⟨_, ds, q⟩ := R.pin i p hp
  rw [e] at q; cases q; cases h
/-- a value is put into a slot -/
theorem Rl.put {v : V} {r : Rs} (R : Rl m σ H ρ f (Br ++ B)) (ok : RsOk m σ H f (Br ++ B) Br v r) (hb : ∀ a ∈ Br, a ∉ B) (nv : r.isVar = false) (e : ρ[i]? = some s) (h : s.isPm = false) :
    Rl m (σ.set i (some v)) H (ρ.set i (slotOf r)) (fset f i Br) B ∧ RdLe (vw m H f (Br ++ B)) (vw m H (fset f i Br) B) := by
  have np := R.notPin e h
  have hi : i < ρ.length := (List.getElem?_eq_some_iff.mp e).1
  have le : ∀ a o, vw m H f (Br ++ B) a = some o → vw m H (fset f i Br) B a = some o := fun a o q => by
    obtain ⟨h1, h2, h3⟩ := vw_iff.mp q
    refine vw_iff.mpr ⟨fun z => h1 (List.mem_append_right _ z), fun j z => ?_, h3⟩
    by_cases e : j = i
    · subst e; rw [fset_same] at z; exact h1 (List.mem_append_left _ z)
    · rw [fset_ne e] at z; exact h2 j z
  refine ⟨⟨by rw [List.length_set, List.length_set]; exact R.len, R.zs, R.zm, R.zt, R.fr, fun j k a h1 h2 => ?_, fun j a h z => ?_, fun a h => R.bn a (List.mem_append_right _ h), fun j a h => ?_, fun j p hp => ?_, fun j h => ?_, fun j t e1 => ?_⟩, .of le⟩
  · by_cases e1 : j = i
    · by_cases e2 : k = i
      · rw [e1, e2]
      · rw [e1, fset_same] at h1
        rw [fset_ne e2] at h2
        exact absurd (List.mem_append_left _ h1) (R.bf k a h2)
    · rw [fset_ne e1] at h1
      by_cases e2 : k = i
      · rw [e2, fset_same] at h2
        exact absurd (List.mem_append_left _ h2) (R.bf j a h1)
      · rw [fset_ne e2] at h2; exact R.dj _ _ a h1 h2
  · by_cases e1 : j = i
    · rw [e1, fset_same] at h; exact hb a h z
    · rw [fset_ne e1] at h; exact R.bf j a h (List.mem_append_right _ z)
  · by_cases e1 : j = i
    · rw [e1, fset_same] at h; exact .inl (R.bn a (List.mem_append_left _ h)).1
    · rw [fset_ne e1] at h; exact R.ow j a h
  · have e1 : j ≠ i := fun e1 => np p (e1 ▸ hp)
    rw [fset_ne e1, List.getElem?_set_ne (Ne.symm e1)]
    exact R.pin j p hp
  · rw [List.length_set] at h
    rw [fset_ne (by omega)]
    exact R.out j h
  · by_cases e2 : j = i
    · subst e2
      rw [List.getElem?_set_self hi] at e1
      cases e1
      rw [fset_same, List.getElem?_set_self (by rw [R.len]; exact hi)]
      cases r with
      | fz d => exact ⟨ok.1, v, rfl, ok.2.up (.of le)⟩
      | var k => cases nv
      | ol ds =>
        obtain ⟨a, xs, rfl, q2, q3, q4⟩ := ok
        exact ⟨a, xs, rfl, q2, q3, q4.up (.of le)⟩
      | od ds =>
        obtain ⟨a, xs, rfl, q2, q3, q4⟩ := ok
        exact ⟨a, xs, rfl, q2, q3, q4.up (.of le)⟩
      | odl ds =>
        obtain ⟨a, xs, ls, rfl, q2, q0, q3, q4⟩ := ok
        exact ⟨a, xs, ls, rfl, q2, q0, q3, q4.up (.of le) fun _ _ _ q => q⟩
    · rw [List.getElem?_set_ne (Ne.symm e2)] at e1
      rw [List.getElem?_set_ne (Ne.symm e2), fset_ne e2]
      exact (R.sl j t e1).up (.of le) fun _ _ _ q => q
/-- a slot's own object from now on stays as it is -/
@[simp] def Slot.frz : Slot → Slot
  | .ol ds => .fz (.list ds)
  | .od es => .fz (.dict es)
  | .odl es => .fz (.dict (dl es))
  | s => s
theorem Rl.frz (R : Rl m σ H ρ f B) (e : ρ[i]? = some s) (h : s.isPm = false) : Rl m σ H (ρ.set i s.frz) (fset f i []) B ∧ RdLe (vw m H f B) (vw m H (fset f i []) B) := by
  have np := R.notPin e h
  have hi : i < ρ.length := (List.getElem?_eq_some_iff.mp e).1
  have le : ∀ a o, vw m H f B a = some o → vw m H (fset f i []) B a = some o := fun a o q => by
    obtain ⟨h1, h2, h3⟩ := vw_iff.mp q
    refine vw_iff.mpr ⟨h1, fun j z => ?_, h3⟩
    by_cases e : j = i
    · subst e; rw [fset_same] at z; cases z
    · rw [fset_ne e] at z; exact h2 j z
  have own : ∀ a ∈ f i, ∀ o, H a = some o → vw m H (fset f i []) B a = some o := fun a ha o q => by
    refine vw_iff.mpr ⟨R.bf i a ha, fun j z => ?_, .inr ⟨(R.ow i a ha).resolve_right (np a), q⟩⟩
    by_cases e : j = i
    · subst e; rw [fset_same] at z; cases z
    · rw [fset_ne e] at z; exact e (R.dj j i a z ha)
  refine ⟨⟨by rw [List.length_set]; exact R.len, R.zs, R.zm, R.zt, R.fr, fun j k a h1 h2 => ?_, fun j a h z => ?_, R.bn, fun j a h => ?_, fun j p hp => ?_, fun j h => ?_, fun j t e1 => ?_⟩, .of le⟩
  · by_cases e1 : j = i
    · rw [e1, fset_same] at h1; cases h1
    · by_cases e2 : k = i
      · rw [e2, fset_same] at h2; cases h2
      · rw [fset_ne e1] at h1; rw [fset_ne e2] at h2; exact R.dj _ _ a h1 h2
  · by_cases e1 : j = i
    · rw [e1, fset_same] at h; cases h
    · rw [fset_ne e1] at h; exact R.bf j a h z
  · by_cases e1 : j = i
    · rw [e1, fset_same] at h; cases h
    · rw [fset_ne e1] at h; exact R.ow j a h
  · have e1 : j ≠ i := fun e1 => np p (e1 ▸ hp)
    rw [fset_ne e1, List.getElem?_set_ne (Ne.symm e1)]
    exact R.pin j p hp
  · rw [List.length_set] at h
    rw [fset_ne (by omega)]
    exact R.out j h
  · by_cases e2 : j = i
    · subst e2
      rw [List.getElem?_set_self hi] at e1
      cases e1
      rw [fset_same]
      have z := R.sl j s e
      cases s with
      | un => rfl
      | fz d => exact ⟨rfl, z.2.choose, z.2.choose_spec.1, z.2.choose_spec.2.up (.of le)⟩
      | pm ds => cases h
      | ol ds =>
        obtain ⟨a, xs, q1, q2, q3, q4⟩ := z
        exact ⟨rfl, _, q1, .lst (SqL.of (own a (by rw [q2]; simp) _ q3)) (q4.up (.of le))⟩
      | od ds =>
        obtain ⟨a, xs, q1, q2, q3, q4⟩ := z
        exact ⟨rfl, _, q1, .dct (q3.up fun o => own a (by rw [q2]; simp) o).rd (q4.up (.of le))⟩
      | odl ds =>
        obtain ⟨a, kvs, ls, q1, q2, q0, q3, q4⟩ := z
        exact ⟨rfl, _, q1, .dct (q3.up fun o => own a (by rw [q2]; simp) o).rd (q4.rdv (.of le) fun b hb o => own b (by rw [q2]; simp [hb]) o)⟩
    · rw [List.getElem?_set_ne (Ne.symm e2)] at e1
      rw [fset_ne e2]
      exact (R.sl j t e1).up (.of le) fun _ _ _ q => q
/-- a slot's own object is taken out: a result of its own -/
@[simp] def Slot.res : Slot → Option Rs
  | .ol ds => some (.ol ds)
  | .od es => some (.od es)
  | .odl es => some (.odl es)
  | _ => none
theorem Rl.take {r : Rs} {v : V} (R : Rl m σ H ρ f B) (e : ρ[i]? = some s) (hr : s.res = some r) (hv : σ[i]? = some (some v)) :
    Rl m σ H (ρ.set i .un) (fset f i []) (f i ++ B) ∧ RsOk m σ H (fset f i []) (f i ++ B) (f i) v r ∧ RdLe (vw m H f B) (vw m H (fset f i []) (f i ++ B)) ∧ r.isVar = false := by
  have h : s.isPm = false := by cases s <;> first | rfl | cases hr
  have np := R.notPin e h
  have hi : i < ρ.length := (List.getElem?_eq_some_iff.mp e).1
  have le : ∀ a o, vw m H f B a = some o → vw m H (fset f i []) (f i ++ B) a = some o := fun a o q => by
    obtain ⟨h1, h2, h3⟩ := vw_iff.mp q
    refine vw_iff.mpr ⟨fun z => (List.mem_append.mp z).elim (h2 i) h1, fun j z => ?_, h3⟩
    by_cases e : j = i
    · subst e; rw [fset_same] at z; cases z
    · rw [fset_ne e] at z; exact h2 j z
  refine ⟨⟨by rw [List.length_set]; exact R.len, R.zs, R.zm, R.zt, R.fr, fun j k a h1 h2 => ?_, fun j a h z => ?_, fun a h => ?_, fun j a h => ?_, fun j p hp => ?_, fun j h => ?_, fun j t e1 => ?_⟩, ?_, .of le, ?_⟩
  · by_cases e1 : j = i
    · rw [e1, fset_same] at h1; cases h1
    · by_cases e2 : k = i
      · rw [e2, fset_same] at h2; cases h2
      · rw [fset_ne e1] at h1; rw [fset_ne e2] at h2; exact R.dj _ _ a h1 h2
  · by_cases e1 : j = i
    · rw [e1, fset_same] at h; cases h
    · rw [fset_ne e1] at h
      rcases List.mem_append.mp z with z | z
      · exact e1 (R.dj j i a h z)
      · exact R.bf j a h z
  · rcases List.mem_append.mp h with z | z
    · exact ⟨(R.ow i a z).resolve_right (np a), R.con i a z⟩
    · exact R.bn a z
  · by_cases e1 : j = i
    · rw [e1, fset_same] at h; cases h
    · rw [fset_ne e1] at h; exact R.ow j a h
  · have e1 : j ≠ i := fun e1 => np p (e1 ▸ hp)
    rw [fset_ne e1, List.getElem?_set_ne (Ne.symm e1)]
    exact R.pin j p hp
  · rw [List.length_set] at h
    rw [fset_ne (by omega)]
    exact R.out j h
  · by_cases e2 : j = i
    · subst e2
      rw [List.getElem?_set_self hi] at e1
      cases e1
      exact fset_same
    · rw [List.getElem?_set_ne (Ne.symm e2)] at e1
      rw [fset_ne e2]
      exact (R.sl j t e1).up (.of le) fun _ _ _ q => q
  · have z := R.sl i s e
    rw [hv] at z
    cases s with
    | un => cases hr
    | fz d => cases hr
    | pm d => cases hr
    | ol ds =>
      cases hr
      obtain ⟨a, xs, q1, q2, q3, q4⟩ := z
      cases q1
      exact ⟨a, xs, rfl, q2, q3, q4.up (.of le)⟩
    | od ds =>
      cases hr
      obtain ⟨a, xs, q1, q2, q3, q4⟩ := z
      cases q1
      exact ⟨a, xs, rfl, q2, q3, q4.up (.of le)⟩
    | odl ds =>
      cases hr
      obtain ⟨a, xs, ls, q1, q2, q0, q3, q4⟩ := z
      cases q1
      exact ⟨a, xs, ls, rfl, q2, q0, q3, q4.up (.of le) fun _ _ _ q => q⟩
  · cases s <;> first | (cases hr; rfl) | cases hr
end

/-! ### statements -/
structure EndsD where
  nx : List Slot → Prop
  rt : Rs → List Slot → Prop
  bk : List Slot → Prop := fun _ => False
  ct : List Slot → Prop := fun _ => False
abbrev WS := EndsD → List Slot → Prop
structure Lift (m : Fm) (V : Hp) (E : EndsD) (D : Ends) : Prop where
  nx : ∀ σ H ρ f, Rl m σ H ρ f [] → RdLe V (vw m H f []) → E.nx ρ → D.nx σ H
  bk : ∀ σ H ρ f, Rl m σ H ρ f [] → RdLe V (vw m H f []) → E.bk ρ → D.bk σ H
  ct : ∀ σ H ρ f, Rl m σ H ρ f [] → RdLe V (vw m H f []) → E.ct ρ → D.ct σ H
  rt : ∀ σ H ρ f Br v r, Rl m σ H ρ f Br → RsOk m σ H f Br Br v r → r.isVar = false → RdLe V (vw m H f Br) → E.rt r ρ → D.rt v H
theorem Lift.up {m : Fm} {V V' : Hp} {E : EndsD} {D : Ends} (l : RdLe V V') (L : Lift m V E D) : Lift m V' E D :=
  ⟨fun σ H ρ f R h => L.nx σ H ρ f R (l.trans h), fun σ H ρ f R h => L.bk σ H ρ f R (l.trans h), fun σ H ρ f R h => L.ct σ H ρ f R (l.trans h), fun σ H ρ f Br v r R o n h => L.rt σ H ρ f Br v r R o n (l.trans h)⟩
structure DS (X : Cx) (st : Stmt) (w : WS) : Prop where
  ex : ∃ t : TS, PS X st t ∧ ∀ (m : Fm) (σ : L2.St) (H : Hp) (ρ : List Slot) (f : Nat → List Addr) (E : EndsD) (D : Ends), m.K = X.K → Rl m σ H ρ f [] → w E ρ → Lift m (vw m H f []) E D → t D σ H
structure DSs (X : Cx) (st : List Stmt) (w : WS) : Prop where
  ex : ∃ t : TS, PSs X st t ∧ ∀ (m : Fm) (σ : L2.St) (H : Hp) (ρ : List Slot) (f : Nat → List Addr) (E : EndsD) (D : Ends), m.K = X.K → Rl m σ H ρ f [] → w E ρ → Lift m (vw m H f []) E D → t D σ H
section
variable {X : Cx} {pos : Pos} {st : Stmt} {rest : List Stmt} {w u : WS} {e : Expr} {we : WE}
@[simp] def wNext : WS := fun E ρ => E.nx ρ
@[simp] def wSeq (w u : WS) : WS := fun E ρ => w { E with nx := u E } ρ
theorem dss_nil : DSs X [] wNext := ⟨_, pss_nil, fun m σ H ρ f E D hK rl hw L => L.nx _ _ _ _ rl (.refl _) hw⟩
theorem dss_cons (h1 : DS X st w) (h2 : DSs X rest u) : DSs X (st :: rest) (wSeq w u) := by
  obtain ⟨t1, p1, h1⟩ := h1.ex
  obtain ⟨t2, p2, h2⟩ := h2.ex
  refine ⟨_, pss_cons p1 p2, fun m σ H ρ f E D hK rl hw L => ?_⟩
  exact h1 m σ H ρ f _ _ hK rl hw ⟨fun σ' H' ρ' f' rl' le q => h2 m σ' H' ρ' f' E D hK rl' q (L.up le), L.bk, L.ct, L.rt⟩
theorem dss_one (h1 : DS X st w) : DSs X [st] w := by
  obtain ⟨t1, p1, h1⟩ := h1.ex
  exact ⟨_, pss_one p1, h1⟩
theorem ds_pass : DS X (.Pass pos) wNext := ⟨_, ps_pass, fun m σ H ρ f E D hK rl hw L => L.nx _ _ _ _ rl (.refl _) hw⟩
theorem ds_break : DS X (.Break pos) (fun E ρ => E.bk ρ) := ⟨_, ps_break, fun m σ H ρ f E D hK rl hw L => L.bk _ _ _ _ rl (.refl _) hw⟩
theorem ds_continue : DS X (.Continue pos) (fun E ρ => E.ct ρ) := ⟨_, ps_continue, fun m σ H ρ f E D hK rl hw L => L.ct _ _ _ _ rl (.refl _) hw⟩
theorem ds_never : DS X st (fun _ _ => False) := ⟨_, ps_never, fun m σ H ρ f E D hK rl hw L => hw.elim⟩
theorem dss_never : DSs X rest (fun _ _ => False) := ⟨_, pss_never, fun m σ H ρ f E D hK rl hw L => hw.elim⟩
@[simp] def wIfS (wt : WT) (w u : WS) : WS := fun E ρ => wt ρ fun b ρ1 => if b = true then w E ρ1 else u E ρ1
theorem ds_if {c : Expr} {p q : List Stmt} {wt : WT} (hc : DT X c wt) (ha : DSs X p w) (hb : DSs X q u) : DS X (.If c p q pos) (wIfS wt w u) := by
  obtain ⟨tc, pc, hc⟩ := hc.ex
  obtain ⟨ta, pa, ha⟩ := ha.ex
  obtain ⟨tb, pb, hb⟩ := hb.ex
  refine ⟨_, ps_if pc pa pb, fun m σ H ρ f E D hK rl hw L => ?_⟩
  refine hc m σ H ρ f [] _ _ hK rl hw fun b ρ1 H1 f1 h P => ?_
  cases b with
  | true => exact ha m σ H1 ρ1 f1 E D hK P.rl h (L.up P.st.le)
  | false => exact hb m σ H1 ρ1 f1 E D hK P.rl h (L.up P.st.le)
/-- a slot's object is frozen ahead of a statement -/
@[simp] def wFrz (i : Nat) (w : WS) : WS := fun E ρ => match ρ[i]? with
  | some (.pm _) => False
  | some s => w E (ρ.set i s.frz)
  | none => False
theorem ds_frz (i : Nat) (h : DS X st w) : DS X st (wFrz i w) := by
  obtain ⟨t, p, h⟩ := h.ex
  refine ⟨_, p, fun m σ H ρ f E D hK rl hw L => ?_⟩
  unfold wFrz at hw
  cases e : ρ[i]? with
  | none => rw [e] at hw; exact hw.elim
  | some s =>
    rw [e] at hw
    have nf : s.isPm = false := by cases s <;> first | rfl | exact hw.elim
    have hw' : w E (ρ.set i s.frz) := by cases s <;> first | exact hw | cases nf
    obtain ⟨rl', le⟩ := rl.frz e nf
    exact h m σ H _ _ E D hK rl' hw' (L.up le)
/-- the slot may be put into -/
@[simp] def npAt (i : Nat) (ρ : List Slot) : Prop := match ρ[i]? with
  | some s => s.isPm = false
  | none => False
theorem npAt_iff {i : Nat} {ρ : List Slot} (h : npAt i ρ) : ∃ s, ρ[i]? = some s ∧ s.isPm = false := by
  unfold npAt at h
  cases e : ρ[i]? with
  | none => rw [e] at h; exact h.elim
  | some s => rw [e] at h; exact ⟨s, rfl, h⟩
/-- a result into a slot -/
@[simp] def putK (i : Nat) (ρ : List Slot) (r : Rs) (k : List Slot → Prop) : Prop := r.isVar = false ∧ npAt i ρ ∧ k (ρ.set i (slotOf r))
theorem putK_iff {i : Nat} {ρ : List Slot} {r : Rs} {k : List Slot → Prop} (h : putK i ρ r k) : r.isVar = false ∧ ∃ s, ρ[i]? = some s ∧ s.isPm = false ∧ k (ρ.set i (slotOf r)) := by
  obtain ⟨h1, h2, h3⟩ := h
  obtain ⟨s, e, p⟩ := npAt_iff h2
  exact ⟨h1, s, e, p, h3⟩
@[simp] def wSet (i : Nat) (we : WE) : WS := fun E ρ => we ρ fun r ρ1 => putK i ρ1 r E.nx
theorem set_read {i : Nat} {te : TE} {m : Fm} {σ : L2.St} {H : Hp} {ρ : List Slot} {f : Nat → List Addr} {E : EndsD} {D : Ends} (rl : Rl m σ H ρ f [])
    (he : ∀ (R : Rs → List Slot → Prop) (Q : VK), we ρ R → (∀ r ρ' v H' f' Br, R r ρ' → Post m σ H f [] r ρ' v H' f' Br → Q v H') → te σ H Q) (hw : wSet i we E ρ) (L : Lift m (vw m H f []) E D) : tAsg te (gName i) D σ H := by
  refine he _ _ hw fun r ρ1 v H1 f1 Br h P => ?_
  obtain ⟨nv, s, e, np, q⟩ := putK_iff h
  obtain ⟨rl', le⟩ := P.rl.put P.ok P.dis nv e np
  exact L.nx _ _ _ _ rl' (P.st.le.trans le) q
theorem ds_set (i : Nat) {x : Str} {pos' : Pos} (hN : X.N.Nodup) (hi : X.N[i]? = some x) (hx : Loc X.env.scope x) (he : DE X e we) (hs : swapsWith e (some (.Name x pos')) pos.line X.env = pure false := by rfl) (hf : X.fn x = true ∨ X.env.scope.names.lookup x = some .local := by first | exact .inl rfl | exact .inr rfl | assumption) :
    DS X (.Assign [.Name x pos'] e pos) (wSet i we) := by
  obtain ⟨te, pe, he⟩ := he.ex
  exact ⟨_, ps_set hN hi hx pe hs hf, fun m σ H ρ f E D hK rl hw L => set_read rl (fun R Q => he m σ H ρ f [] R Q hK rl) hw L⟩
/-- return -/
@[simp] def retK (ρ : List Slot) (r : Rs) (k : Rs → List Slot → Prop) : Prop := match r with
  | .var i => match ρ[i]? with
    | some s => match s.res with
      | some r => k r (ρ.set i .un)
      | none => False
    | none => False
  | r => k r ρ
theorem ret_read {te : TE} {m : Fm} {σ : L2.St} {H : Hp} {ρ : List Slot} {f : Nat → List Addr} {E : EndsD} {D : Ends} (rl : Rl m σ H ρ f [])
    (he : ∀ (R : Rs → List Slot → Prop) (Q : VK), we ρ R → (∀ r ρ' v H' f' Br, R r ρ' → Post m σ H f [] r ρ' v H' f' Br → Q v H') → te σ H Q) (hw : we ρ fun r ρ1 => retK ρ1 r E.rt) (L : Lift m (vw m H f []) E D) : tRet te D σ H := by
  refine he _ _ hw fun r ρ1 v H1 f1 Br h P => ?_
  have base : r.isVar = false → E.rt r ρ1 → D.rt v H1 := fun nv h => by
    have rl' := P.rl
    have ok := P.ok
    have le := P.st.le
    rw [List.append_nil] at rl' ok le
    exact L.rt _ _ _ _ _ _ _ rl' ok nv le h
  cases r with
  | fz d => exact base rfl h
  | ol d => exact base rfl h
  | od d => exact base rfl h
  | odl d => exact base rfl h
  | var i =>
    unfold retK at h
    cases e : ρ1[i]? with
    | none => simp only [e] at h
    | some s =>
      simp only [e] at h
      cases q : s.res with
      | none => simp only [q] at h
      | some r =>
        simp only [q] at h
        obtain ⟨h1, h2, h3⟩ := P.ok
        subst h1
        obtain ⟨rl', ok, le, nv⟩ := P.rl.take e q h2
        rw [List.nil_append] at rl' ok le
        rw [List.append_nil] at rl' ok le
        exact L.rt _ _ _ _ _ _ _ rl' ok nv (P.st.le.trans le) h
theorem ds_ret (he : DE X e we) : DS X (.Return (some e) pos) (fun E ρ => we ρ fun r ρ1 => retK ρ1 r E.rt) := by
  obtain ⟨te, pe, he⟩ := he.ex
  exact ⟨_, ps_ret pe, fun m σ H ρ f E D hK rl hw L => ret_read rl (fun R Q => he m σ H ρ f [] R Q hK rl) hw L⟩
theorem ds_retN : DS X (.Return none pos) (fun E ρ => E.rt (.fz .none) ρ) :=
  ⟨_, ps_retN, fun m σ H ρ f E D hK rl hw L => L.rt _ _ _ _ [] _ (.fz .none) rl ⟨rfl, .non⟩ rfl (.refl _) hw⟩
theorem ds_expr (he : DE X e we) (hs : swapsWith e none pos.line X.env = pure false := by rfl) : DS X (.Expr e pos) (fun E ρ => we ρ fun _ ρ1 => E.nx ρ1) := by
  obtain ⟨te, pe, he⟩ := he.ex
  refine ⟨_, ps_expr pe hs, fun m σ H ρ f E D hK rl hw L => ?_⟩
  exact he m σ H ρ f [] _ _ hK rl hw fun r ρ1 v H1 f1 Br h P => L.nx _ _ _ _ P.rl.drop P.step.le h
end

/-! ### a def's promise from its body -/
@[simp] def entry (ds : List PyData) (n : Nat) : List Slot := ds.map Slot.fz ++ List.replicate n .un
theorem rl_entry {K : PySem.W.Frag} {F H : Hp} {vs : List V} {ds : List PyData} {N : List Str} (s : Same F H) (tl : TupLe H F) (r : RpAll K F vs ds) (hl : vs.length ≤ N.length) :
    Rl ⟨K, H, F, []⟩ (L2.start N vs) H (entry ds (N.length - ds.length)) (fun _ => []) [] := by
  have hv := r.length
  have le : ∀ a o, F a = some o → vw ⟨K, H, F, []⟩ H (fun _ => []) [] a = some o := fun a o q => vw_iff.mpr ⟨by simp, by simp, .inl ⟨q, by show (H a).isSome = true; rw [s a o q]; rfl⟩⟩
  refine ⟨?_, s, by simp, tl, fun a o h _ => h, by simp, by simp, by simp, by simp, by simp, by simp, fun i t e => ?_⟩
  · unfold L2.start entry
    simp only [List.length_append, List.length_map, List.length_replicate]
    omega
  · unfold entry at e
    unfold L2.start
    by_cases h : i < ds.length
    · rw [List.getElem?_append_left (by simpa using h), List.getElem?_map] at e
      cases q : ds[i]? with
      | none => rw [q] at e; cases e
      | some d =>
        rw [q] at e
        cases e
        obtain ⟨v, h1, h2⟩ := r.at' q
        refine ⟨rfl, v, ?_, h2.up (.of le)⟩
        rw [List.getElem?_append_left (by rw [List.length_map]; omega), List.getElem?_map, h1]
        rfl
    · rw [List.getElem?_append_right (by simpa using h), List.getElem?_replicate] at e
      split at e
      · cases e; rfl
      · cases e
theorem ret_ok {K : PySem.W.Frag} {F H H' : Hp} {σ : L2.St} {ρ : List Slot} {f : Nat → List Addr} {Br : List Addr} {v : V} {r : Rs} (s : Same F H) (R : Rl ⟨K, H, F, []⟩ σ H' ρ f Br) (ok : RsOk ⟨K, H, F, []⟩ σ H' f Br Br v r) (nv : r.isVar = false) :
    Same H H' ∧ ResOk K F H H' v r := by
  have le : RdLe (vw ⟨K, H, F, []⟩ H' f Br) (nxx F H H' Br) := .of fun a o q => by
    obtain ⟨h1, _, h3⟩ := vw_iff.mp q
    exact nxx_iff.mpr ⟨h1, h3⟩
  refine ⟨fun a o h => R.fr a o h (by simp), ?_⟩
  cases r with
  | var i => cases nv
  | fz d =>
    obtain ⟨rfl, h⟩ := ok
    exact h.up le
  | ol ds =>
    obtain ⟨a, xs, rfl, rfl, h1, h2⟩ := ok
    exact ⟨a, xs, rfl, (R.bn a (by simp)).1, h1, h2.up le⟩
  | od ds =>
    obtain ⟨a, xs, rfl, rfl, h1, h2⟩ := ok
    exact ⟨a, xs, rfl, (R.bn a (by simp)).1, h1, h2.up le⟩
  | odl ds =>
    obtain ⟨a, xs, ls, rfl, rfl, nd, h1, h2⟩ := ok
    exact ⟨a, xs, ls, rfl, nd, fun b hb => (R.bn b hb).1, h1, h2.up le fun _ _ _ q => q⟩
end Dn
/-! Dn6: what is walked. -/
namespace Dn
open PySem PySem.Spec PyProof.Rows L2 RZ

/-! ### enumerate(tuple) -/
def IteT (K : PySem.W.Frag) (a : Addr) : It :=
  ⟨fun i H => ∃ (xs : List V) (x : V), SqT K H a xs ∧ xs[i]? = some x, fun i H v H' => ∃ T x, v = .ref T ∧ H T = none ∧ H' = upd H T (.tup [.int (i : Nat), x]) ∧ ∀ xs, SqT K H a xs → xs[i]? = some x, fun i H => ∃ xs : List V, SqT K H a xs ∧ xs.length ≤ i⟩
theorem turn_enumT {P : Program} {w : World} {K : PySem.W.Frag} {elts : List Expr} {kk : Nat} {tpos : Pos} (a e it : Addr) :
    Turn P w K (.Tuple elts kk tpos) (IteT K a) [e, it] e (fun i h => (∃ old, IsEnum h e it ((i : Nat) : Int) old) ∧ h.IsTupleIter it a i ∧ e ≠ it ∧ a ≠ it ∧ a ≠ e) where
  mem := by simp
  obj := fun i h st b hb => by
    obtain ⟨⟨old, he⟩, ⟨o, ho, hc, hd⟩, _⟩ := st
    have e' : b = e ∨ b = it := by simpa using hb
    rcases e' with z | z
    · rw [z]; exact ⟨_, he, fun v q => nomatch q⟩
    · rw [z]; exact ⟨o, ho, fun v q => by rw [hd] at q; cases q⟩
  keep := fun i h h' st k => let ⟨⟨old, he⟩, hi, hne⟩ := st; ⟨⟨old, k e (by simp) _ he⟩, hi.at fun o q => k it (by simp) o q, hne⟩
  item := by
    intro X hP hw hK hc i pins s σ H E I hf st hg
    subst hP hw hK
    obtain ⟨⟨old, he⟩, hit, hne, hai, hae⟩ := st
    obtain ⟨xs, x, hq, hx⟩ := hg
    obtain ⟨its, rv, p, hz⟩ := I.tuple hq
    obtain ⟨u, hu, ru⟩ := rv.get hx
    have hel : e < s.heap.objs.size := Heap.lt_size he
    have hil : it < s.heap.objs.size := by obtain ⟨_, q, _⟩ := hit; exact Heap.lt_size q
    have hlt : i < its.toArray.size := by
      have := (List.getElem?_eq_some_iff.mp hu).1
      simpa using this
    refine wpAny_pyNext_enum_itemD (Draws.tuple (prog := X.prog) (w := X.w) (A := X.A.in1) (I.ok.hd hc) it a hai its.toArray) he ⟨hit, p⟩ hlt hne (by simp [hne, Ne.symm hae]) fun x' h' tk hx' ho hst hT hsz hk => ?_
    have ex : x' = u := by
      have q : its.toArray[i]? = some u := by simpa using hu
      have hx' : its.toArray[i]? = some x' := hx'
      rw [q] at hx'
      exact (Option.some.inj hx').symm
    subst ex
    refine ⟨_, rfl, wpAny_letOwnedTupleGo_enum (s := { s with heap := h', toks := tk + 1 }) ho fun h'' he' sb => ?_⟩
    have hT2 : h''.get? s.heap.objs.size = some { cls := .type "tuple", data := .seq #[.int i tk, x'] } := (sb.2 _ (Nat.ne_of_gt hel)).trans hT
    have new : ObjOk X.prog X.w (upd H s.heap.objs.size (.tup [.int (i : Nat), x])) h'' s.heap.objs.size (.tup [.int (i : Nat), x]) :=
      ⟨by show 2 ≤ sizeLine; decide, [.int i tk, x'], .cons ⟨_, rfl⟩ (.cons ru .nil), ⟨_, hT2, rfl, _, rfl⟩⟩
    have I1 : Inv X pins σ (upd H s.heap.objs.size (.tup [.int (i : Nat), x])) { s with heap := h'', toks := tk + 1 } :=
      I.turnedNew (ch := [e, it]) (fun b ob hb q => (sb.2 b (fun z => hb (by simp [z]))).trans (hk b ob (fun z => hb (by simp [z])) (fun z => hb (by simp [z])) q)) hf (Nat.le_refl _) new
    refine ⟨.ref s.heap.objs.size, _, I1, rfl, ⟨_, x, rfl, I.hok.fresh (Nat.le_refl _), rfl, fun ys hy => by rw [I.tuple_inj hy hq]; exact hx⟩, ⟨⟨x', ?_⟩, hst.1.at fun o q => (sb.2 it (Ne.symm hne)).trans q, hne, hai, hae⟩, fun b hb => ?_⟩
    · have e1 : ((i + 1 : Nat) : Int) = (i : Int) + 1 := by omega
      rw [e1]; exact he'
    · have hb' : b < s.heap.objs.size := by
        have e' : b = e ∨ b = it := by simpa using hb
        rcases e' with z | z
        · rw [z]; exact hel
        · rw [z]; exact hil
      rw [upd_ne (Nat.ne_of_lt hb')]
      exact (hf b hb).1
  done := by
    intro X hP hw hK hc i pins s σ H E I hf st hg
    subst hP hw hK
    obtain ⟨⟨old, he⟩, hit, hne, hai, hae⟩ := st
    obtain ⟨xs, hq, hx⟩ := hg
    obtain ⟨its, rv, p, hz⟩ := I.tuple hq
    obtain ⟨f0, f1, f2, f3, f4, f5⟩ := hf it (by simp)
    have hl := rv.length
    have hT : s.TypeIs (.ref e) "enumerate" := ⟨_, he, rfl⟩
    unfold pyNext
    refine wpAny_bind (wpAny_attempt (wpAny_callSpecial?_slot (name := Str.ofString "__next__") hT F.slot_enumerate_next
      (wpAny_call_entry F.slot_enumerate_next hT F.entry_enumerate_next ?_ (F.args_enumerate_next_1 _))))
    show wpAny _ _ (field (.ref e) 2 >>= _) _ _ _
    refine wpAny_bind (wpAny_field he rfl (x := .ref it) rfl ?_)
    refine wpAny_bind (wpAny_nextOf_tuple_end (I.ok.hd hc) hit p (by simp; omega) fun h' x he' hx' => ?_)
    obtain ⟨o, ho, hcl⟩ := hx'
    refine wpAny_bind (wpAny_isInstance (T := "StopIteration") (b := true) ⟨o, ho, hcl⟩ isSubtype_stop ?_)
    exact wpAny_pure ⟨rfl, I.turned (t' := s.toks) (fun b o hb q => he' b o hb q) f0 f1 f3 f4 f5⟩
  self := fun A i s Q E st h => let ⟨⟨_, he⟩, _⟩ := st; wpAny_pyIter_enum he h
theorem meets_enumerate_newT (l : Addr) (items : Array Value) (n : Nat) (dct : Option Addr) (sl : Array (Option Value)) :
    Meets (Builtin.«enumerate.__new__» ⟨[.type "enumerate", .ref l], []⟩) (fun _ R s => s.heap.get? l = some { cls := .type "tuple", dict := dct, data := .seq items n, slots := sl } ∧
      R (.ok (.ret (.ref (s.heap.push { cls := .type "tuple_iterator", data := .fields #[.ref l, .int 0 0] }).objs.size)))
        { s with heap := (s.heap.push { cls := .type "tuple_iterator", data := .fields #[.ref l, .int 0 0] }).push { cls := .type "enumerate", data := .fields #[.none, .bool false, .ref s.heap.objs.size, rawInt 0, .none, .none] } }) :=
  .of_wp fun prog w A R s h => by
    obtain ⟨hp, g, d, tk, os⟩ := s; obtain ⟨hl, h⟩ := h
    have hsub := sub_enumerate
    have hL : Heap.IsTuple (Shared.heap ⟨hp, g, d, tk, os⟩) l items := ⟨_, hl, rfl, n, rfl⟩
    wp_walk using AutoSeq1.wpAny_loadPart' hl
    refine wpAny_stack_any fun st => wpAny_pure ?_
    split
    · rename_i c _ _ _ _ _
      cases (c == Value.type "enumerate")
      · wp_walk using AutoSeq1.wpAny_loadPart' hl, wpAny_pyIter_tuple hL
        exact ⟨_, rfl, h⟩
      · wp_walk using AutoSeq1.wpAny_loadPart' hl, wpAny_pyIter_tuple hL
        exact ⟨_, rfl, h⟩
    · wp_walk using AutoSeq1.wpAny_loadPart' hl, wpAny_pyIter_tuple hL
      exact ⟨_, rfl, h⟩
section
variable {prog : Program} {w : World} {A : Around} {E : Value → Shared → Prop} {s : Shared}
theorem call_enumerate_tuple {l : Addr} {items : Array Value} {Q : Value → Shared → Prop} (hL : s.heap.IsTuple l items)
    (h : ∀ h', IsEnum h' (s.heap.objs.size + 1) s.heap.objs.size 0 .none → h'.IsTupleIter s.heap.objs.size l 0 → h'.objs.size = s.heap.objs.size + 2 →
      (∀ b o, s.heap.get? b = some o → h'.get? b = some o) → Q (.ref (s.heap.objs.size + 1)) { s with heap := h' }) :
    wpAny (model prog w) A (call (.type "enumerate") [.ref l]) Q E s := by
  obtain ⟨⟨c, dct, dt, sl⟩, hl, hc, n, hd⟩ := hL
  replace hc : c = .type "tuple" := hc
  replace hd : dt = .seq items n := hd
  subst hc hd
  refine callType_new F.called_enumerate (by decide) (F.typeCall_enumerate_1 _) (F.newCall_enumerate_1 _) (fun obj => F.args_object_init_2 obj _) F.entry_enumerate_new
    (meets_enumerate_newT l items n dct sl) ⟨hl, ?_⟩
  have hz : (s.heap.push { cls := .type "tuple_iterator", data := .fields #[.ref l, .int 0 0] }).objs.size = s.heap.objs.size + 1 := Heap.size_push ..
  show _ ∧ _
  rw [hz]
  have he : IsEnum ((s.heap.push { cls := .type "tuple_iterator", data := .fields #[.ref l, .int 0 0] }).push
      { cls := .type "enumerate", data := .fields #[.none, .bool false, .ref s.heap.objs.size, rawInt 0, .none, .none] }) (s.heap.objs.size + 1) s.heap.objs.size 0 .none := by
    have := Heap.get?_push_size (s.heap.push { cls := .type "tuple_iterator", data := .fields #[.ref l, .int 0 0] })
      (o := { cls := .type "enumerate", data := .fields #[.none, .bool false, .ref s.heap.objs.size, rawInt 0, .none, .none] }) rfl
    rw [hz] at this; exact this
  refine ⟨⟨_, he, rfl⟩, h _ he ⟨_, Heap.get?_push_of_some _ (Heap.get?_push_size _ rfl), rfl, rfl⟩ (by rw [Heap.size_push, hz]) fun b o x => Heap.get?_push_of_some _ (Heap.get?_push_of_some _ x)⟩
end
/-! ### a list or a tuple; enumerate of either -/
def iSeq (K : PySem.W.Frag) (tl : TE) : TI := fun σ H R => tl σ H fun x H1 => ∃ a, x = .ref a ∧ (((∃ xs, SqL K H1 a xs) ∧ R (Itl K a) H1) ∨ ((∃ xs, SqT K H1 a xs) ∧ R (Itt K a) H1))
theorem pi_seq {X : Cx} {tg l : Expr} {tl : TE} (hl : PE X l tl) : PI X tg l (iSeq X.K tl) := by
  refine ⟨fun pins s σ H R I h => ?_⟩
  refine thn (hl.run pins s σ H _ I h) fun v s1 ⟨x, H1, I1, r1, q1⟩ => ?_
  obtain ⟨a, e, q1⟩ := q1
  subst e
  cases r1
  rcases q1 with ⟨⟨xs, hq⟩, q⟩ | ⟨⟨xs, hq⟩, q⟩
  · obtain ⟨its, rv, p, hz⟩ := I1.list hq
    refine wpAny_pyIter_list p.isList ?_
    refine ⟨s1.heap.objs.size, [s1.heap.objs.size], _, _, H1, rfl, I1.kept (t' := s1.toks) fun b o e => Heap.get?_push_of_some _ e, turn_list a _, ⟨_, Heap.get?_push_size _ rfl, rfl, rfl⟩, fun b hb => ?_, q⟩
    have e : b = s1.heap.objs.size := by simpa using hb
    subst e
    exact I1.fpOk (Nat.le_refl _) (I1.hok.fresh (Nat.le_refl _))
  · obtain ⟨its, rv, p, hz⟩ := I1.tuple hq
    refine wpAny_pyIter_tuple (show s1.heap.IsTuple a its.toArray from p) ?_
    refine ⟨s1.heap.objs.size, [s1.heap.objs.size], _, _, H1, rfl, I1.kept (t' := s1.toks) fun b o e => Heap.get?_push_of_some _ e, turn_tuple a _, ⟨_, Heap.get?_push_size _ rfl, rfl, rfl⟩, fun b hb => ?_, q⟩
    have e : b = s1.heap.objs.size := by simpa using hb
    subst e
    exact I1.fpOk (Nat.le_refl _) (I1.hok.fresh (Nat.le_refl _))
def iEnumA (K : PySem.W.Frag) (ta : TA) : TI := fun σ H R => ta σ H fun vs H1 => ∃ a, vs = [.ref a] ∧ (((∃ xs, SqL K H1 a xs) ∧ R (Ite K a) H1) ∨ ((∃ xs, SqT K H1 a xs) ∧ R (IteT K a) H1))
theorem pi_enumA {X : Cx} {e : Expr} {ta : TA} {p pos tpos : Pos} {elts : List Expr} {kk : Nat} (hg : Gl X "enumerate") (hm : X.mg "enumerate" = none) (ha : PA X [e] ta) (hs : starEach [e] X.env = [(false, eval e X.env)] := by rfl) :
    PI X (.Tuple elts kk tpos) (.Call (.Name "enumerate" p) [e] [] pos) (iEnumA X.K ta) := by
  refine ⟨fun pins s σ H R I h => ?_⟩
  refine Call_ (ld_blt I hg hm boot_enumerate (PyProof.Rows.callWith_type1 (thn (ha.run pos pins s σ H _ I h) fun us s1 ⟨vs, H1, I1, r1, q1⟩ => ?_) hs rfl))
  obtain ⟨a, ex, q1⟩ := q1
  subst ex
  cases r1 with
  | cons r rr =>
    cases rr
    cases r
    have fp : ∀ b ∈ [s1.heap.objs.size + 1, s1.heap.objs.size], FpOk X pins H1 b := fun b hb => by
      have e' : b = s1.heap.objs.size + 1 ∨ b = s1.heap.objs.size := by simpa using hb
      have hle : s1.heap.objs.size ≤ b := by
        rcases e' with z | z
        · rw [z]; exact Nat.le_add_right _ _
        · rw [z]; exact Nat.le_refl _
      exact I1.fpOk hle (I1.hok.fresh hle)
    rcases q1 with ⟨⟨xs, hq⟩, q⟩ | ⟨⟨xs, hq⟩, q⟩
    · obtain ⟨its, rv, p', hz⟩ := I1.list hq
      refine call_enumerate_list p'.isList fun h' he hit hsz hk => wpAny_pyIter_enum he ?_
      have I2 : Inv X pins σ H1 { s1 with heap := h' } := I1.kept (t' := s1.toks) hk
      exact ⟨s1.heap.objs.size + 1, [s1.heap.objs.size + 1, s1.heap.objs.size], _, _, H1, rfl, I2, turn_enum a (s1.heap.objs.size + 1) s1.heap.objs.size, ⟨⟨.none, he⟩, hit, Nat.succ_ne_self _⟩, fp, q⟩
    · obtain ⟨its, rv, p', hz⟩ := I1.tuple hq
      have hal : a < s1.heap.objs.size := p'.lt
      refine call_enumerate_tuple p' fun h' he hit hsz hk => wpAny_pyIter_enum he ?_
      have I2 : Inv X pins σ H1 { s1 with heap := h' } := I1.kept (t' := s1.toks) hk
      exact ⟨s1.heap.objs.size + 1, [s1.heap.objs.size + 1, s1.heap.objs.size], _, _, H1, rfl, I2, turn_enumT a (s1.heap.objs.size + 1) s1.heap.objs.size, ⟨⟨.none, he⟩, hit, Nat.succ_ne_self _, Nat.ne_of_lt hal, Nat.ne_of_lt (Nat.lt_succ_of_lt hal)⟩, fp, q⟩
theorem walk_enumT {K : PySem.W.Frag} {a : Addr} {xs : List V} : Walk (IteT K a) xs.length (fun H => SqT K H a xs) (YPair (fun i => some (.int (i : Nat))) fun i => xs[i]?) where
  goes := fun i H hi h => ⟨xs, xs[i], h, by simp [hi]⟩
  stops := fun H h => ⟨xs, h, Nat.le_refl _⟩
  yields := fun i H x H' hi h y => by
    obtain ⟨T, x, e1, e2, e3, e4⟩ := y
    exact ⟨T, _, x, e1, e2, e3, rfl, e4 xs h⟩
theorem walk_enumL {K : PySem.W.Frag} {a : Addr} {xs : List V} : Walk (Ite K a) xs.length (fun H => SqL K H a xs) (YPair (fun i => some (.int (i : Nat))) fun i => xs[i]?) where
  goes := fun i H hi h => ⟨xs, xs[i], h, by simp [hi]⟩
  stops := fun H h => ⟨xs, h, Nat.le_refl _⟩
  yields := fun i H x H' hi h y => by
    obtain ⟨T, x, e1, e2, e3, e4⟩ := y
    exact ⟨T, _, x, e1, e2, e3, rfl, e4 xs h⟩
theorem walk_zipL {K : PySem.W.Frag} {a b : Addr} {xs ys : List V} : Walk (Itz K a b) (min xs.length ys.length) (fun H => SqL K H a xs ∧ SqL K H b ys) (YPair (fun i => xs[i]?) fun i => ys[i]?) where
  goes := fun i H hi h => ⟨xs, ys, xs[i]'(by omega), ys[i]'(by omega), h.1, h.2, by simp, by simp⟩
  stops := fun H h => ⟨xs, ys, h.1, h.2, by omega⟩
  yields := fun i H x H' hi h y => by
    obtain ⟨T, x, z, e1, e2, e3, e4, e5⟩ := y
    exact ⟨T, x, z, e1, e2, e3, e4 xs h.1, e5 ys h.2⟩
theorem walk_zipT {K : PySem.W.Frag} {a b : Addr} {xs ys : List V} : Walk (ItzT K a b) (min xs.length ys.length) (fun H => SqT K H a xs ∧ SqT K H b ys) (YPair (fun i => xs[i]?) fun i => ys[i]?) where
  goes := fun i H hi h => ⟨xs, ys, xs[i]'(by omega), ys[i]'(by omega), h.1, h.2, by simp, by simp⟩
  stops := fun H h => ⟨xs, ys, h.1, h.2, by omega⟩
  yields := fun i H x H' hi h y => by
    obtain ⟨T, x, z, e1, e2, e3, e4, e5⟩ := y
    exact ⟨T, x, z, e1, e2, e3, e4 xs h.1, e5 ys h.2⟩
end Dn
/-! Dn7: loops and comprehensions. -/
namespace Dn
open PySem PySem.Spec PyProof.Rows L2 RZ

/-- the items ds come one by one, as long as V stays readable and C holds of the slots; σ: the slots' values where these matter -/
def Wlk (K : PySem.W.Frag) (S : Fm → L2.St → Prop) (U : Hp) (J : It) (ds : List PyData) (C : List Slot → Prop) : Prop :=
  ∃ G Y, Walk J ds.length G Y ∧ (∀ (m : Fm) (σ : L2.St) (H : Hp) (ρ : List Slot) (f : Nat → List Addr) (B : List Addr), m.K = K → S m σ → Rl m σ H ρ f B → RdLe U (vw m H f B) → C ρ → G H) ∧
    ∀ (i : Nat) (m : Fm) (σ : L2.St) (H H' : Hp) (ρ : List Slot) (f : Nat → List Addr) (B : List Addr) (x : V), i < ds.length → m.K = K → S m σ → Rl m σ H ρ f B → RdLe U (vw m H f B) → C ρ → Y i H x H' → Same H H' ∧ ∃ d, ds[i]? = some d ∧ Rp m.K (nxx (vw m H f B) H H' []) x d
abbrev WI := List Slot → (List PyData → List Slot → Prop) → Prop
/-- what a for walks -/
structure DI (X : Cx) (tg iter : Expr) (w : WI) : Prop where
  ex : ∃ t : TI, PI X tg iter t ∧ ∀ (m : Fm) (σ : L2.St) (H : Hp) (ρ : List Slot) (f : Nat → List Addr) (B : List Addr) (R : List PyData → List Slot → Prop) (Q : It → Hp → Prop), m.K = X.K → Rl m σ H ρ f B → w ρ R →
    (∀ ds ρ' J H' f', R ds ρ' → Rl m σ H' ρ' f' B → Stp m H f B H' f' B → Wlk X.K (fun _ _ => True) (vw m H' f' B) J ds (fun _ => True) → Q J H') → t σ H Q
def Slot.own : Slot → Bool
  | .ol _ => true
  | .pm _ => true
  | .od _ => true
  | .odl _ => true
  | _ => false
@[simp] theorem own_un : Slot.own .un = false := rfl
@[simp] theorem own_fz (d : PyData) : Slot.own (.fz d) = false := rfl
@[simp] theorem own_ol (d : List PyData) : Slot.own (.ol d) = true := rfl
@[simp] theorem own_pm (d : List PyData) : Slot.own (.pm d) = true := rfl
@[simp] theorem own_od (d : List (PyData × PyData)) : Slot.own (.od d) = true := rfl
@[simp] theorem own_odl (d : List (PyData × List PyData)) : Slot.own (.odl d) = true := rfl
abbrev WIc := List Slot → (List PyData → (List Slot → Prop) → List Slot → Prop) → Prop
/-- what a comprehension walks: also a slot's own list -/
structure DIc (X : Cx) (tg iter : Expr) (w : WIc) : Prop where
  ex : ∃ t : TI, PI X tg iter t ∧ ∀ (m : Fm) (σ : L2.St) (H : Hp) (ρ : List Slot) (f : Nat → List Addr) (B : List Addr) (R : List PyData → (List Slot → Prop) → List Slot → Prop) (Q : It → Hp → Prop), m.K = X.K → Rl m σ H ρ f B → w ρ R →
    (∀ ds C ρ' J H' f', R ds C ρ' → Rl m σ H' ρ' f' B → Stp m H f B H' f' B → Wlk X.K (fun _ σ' => ∀ (j : Nat) (t : Slot), ρ'[j]? = some t → t.own = true → σ'[j]? = σ[j]?) (vw m H' f' B) J ds C → Q J H') → t σ H Q
section
variable {K : PySem.W.Frag} {a b : Addr} {xs ys : List V} {ds es : List PyData} {S : Fm → L2.St → Prop} {C : List Slot → Prop}
theorem wlk_list {U : Hp} (h : SqL K U a xs) (r : RpAll K U xs ds) : Wlk K S U (Itl K a) ds C := by
  refine ⟨_, _, r.length ▸ walk_list (K := K) (a := a) (xs := xs), fun m σ H ρ f B hK _ rl le _ => (le.trans rl.le).seqL h, fun i m σ H H' ρ f B x hi hK _ rl le _ hy => ?_⟩
  obtain ⟨rfl, hx⟩ := hy
  obtain ⟨d, h1, h2⟩ := r.at hx
  exact ⟨.refl _, d, h1, by rw [hK]; exact (h2.up le).up (nxx_of rl.vwH (by simp))⟩
theorem wlk_tup {U : Hp} (h : SqT K U a xs) (r : RpAll K U xs ds) : Wlk K S U (Itt K a) ds C := by
  refine ⟨_, _, r.length ▸ walk_tup (K := K) (a := a) (xs := xs), fun m σ H ρ f B hK _ rl le _ => (le.trans rl.le).seqT h, fun i m σ H H' ρ f B x hi hK _ rl le _ hy => ?_⟩
  obtain ⟨rfl, hx⟩ := hy
  obtain ⟨d, h1, h2⟩ := r.at hx
  exact ⟨.refl _, d, h1, by rw [hK]; exact (h2.up le).up (nxx_of rl.vwH (by simp))⟩
/-- a new pair -/
theorem rp_pair {F H : Hp} {T : Addr} {x y : V} {d e : PyData} (sF : Same F H) (hT : H T = none) (h1 : Rp K F x d) (h2 : Rp K F y e) : Rp K (nxx F H (upd H T (.tup [x, y])) []) (.ref T) (.tuple [d, e]) := by
  have le := nxx_of (H' := upd H T (.tup [x, y])) sF (B := []) (by simp)
  exact .tup (SqT.of (nxx_iff.mpr ⟨by simp, .inr ⟨hT, upd_same⟩⟩)) (.cons (h1.up le) (.cons (h2.up le) .nil))
def enumD (n : Nat) : List PyData → List PyData
  | [] => []
  | d :: ds => .tuple [.int n, d] :: enumD (n + 1) ds
theorem enumD_length : ∀ (ds : List PyData) (n : Nat), (enumD n ds).length = ds.length
  | [], _ => rfl
  | d :: ds, n => by simp [enumD, enumD_length ds]
theorem enumD_get : ∀ (ds : List PyData) (n i : Nat), (enumD n ds)[i]? = ds[i]?.map fun d => .tuple [.int ((n + i : Nat) : Int), d]
  | [], _, _ => by simp [enumD]
  | d :: ds, n, 0 => by simp [enumD]
  | d :: ds, n, i + 1 => by
    simp only [enumD, List.getElem?_cons_succ, enumD_get ds (n + 1) i]
    rw [show n + 1 + i = n + (i + 1) by omega]
theorem wlk_enumL {U : Hp} (h : SqL K U a xs) (r : RpAll K U xs ds) : Wlk K S U (Ite K a) (enumD 0 ds) C := by
  refine ⟨_, _, (show xs.length = (enumD 0 ds).length by rw [enumD_length, r.length]) ▸ walk_enumL (K := K) (a := a) (xs := xs), fun m σ H ρ f B hK _ rl le _ => (le.trans rl.le).seqL h, fun i m σ H H' ρ f B x hi hK _ rl le _ hy => ?_⟩
  obtain ⟨T, u, y, rfl, hT, rfl, e1, e2⟩ := hy
  cases e1
  obtain ⟨d, h1, h2⟩ := r.at e2
  exact ⟨same_upd hT, _, by rw [enumD_get, h1]; rfl, rp_pair rl.vwH hT (by simpa using Rp.int (K := m.K) (i : Int)) (by rw [hK]; exact h2.up le)⟩
theorem wlk_enumT {U : Hp} (h : SqT K U a xs) (r : RpAll K U xs ds) : Wlk K S U (IteT K a) (enumD 0 ds) C := by
  refine ⟨_, _, (show xs.length = (enumD 0 ds).length by rw [enumD_length, r.length]) ▸ walk_enumT (K := K) (a := a) (xs := xs), fun m σ H ρ f B hK _ rl le _ => (le.trans rl.le).seqT h, fun i m σ H H' ρ f B x hi hK _ rl le _ hy => ?_⟩
  obtain ⟨T, u, y, rfl, hT, rfl, e1, e2⟩ := hy
  cases e1
  obtain ⟨d, h1, h2⟩ := r.at e2
  exact ⟨same_upd hT, _, by rw [enumD_get, h1]; rfl, rp_pair rl.vwH hT (by simpa using Rp.int (K := m.K) (i : Int)) (by rw [hK]; exact h2.up le)⟩
def zipD (ds es : List PyData) : List PyData := List.zipWith (fun d e => .tuple [d, e]) ds es
theorem zipD_get {i : Nat} {d e : PyData} (h1 : ds[i]? = some d) (h2 : es[i]? = some e) : (zipD ds es)[i]? = some (.tuple [d, e]) := by
  unfold zipD
  rw [List.getElem?_zipWith, h1, h2]
theorem wlk_zipL {U : Hp} (h : SqL K U a xs) (r : RpAll K U xs ds) (h' : SqL K U b ys) (r' : RpAll K U ys es) : Wlk K S U (Itz K a b) (zipD ds es) C := by
  refine ⟨_, _, (show min xs.length ys.length = (zipD ds es).length by rw [zipD, List.length_zipWith, r.length, r'.length]) ▸ walk_zipL (K := K) (a := a) (b := b) (xs := xs) (ys := ys), fun m σ H ρ f B hK _ rl le _ => ⟨(le.trans rl.le).seqL h, (le.trans rl.le).seqL h'⟩, fun i m σ H H' ρ f B x hi hK _ rl le _ hy => ?_⟩
  obtain ⟨T, u, y, rfl, hT, rfl, e1, e2⟩ := hy
  obtain ⟨d, h1, h2⟩ := r.at e1
  obtain ⟨e, h3, h4⟩ := r'.at e2
  exact ⟨same_upd hT, _, zipD_get h1 h3, rp_pair rl.vwH hT (by rw [hK]; exact h2.up le) (by rw [hK]; exact h4.up le)⟩
theorem wlk_zipT {U : Hp} (h : SqT K U a xs) (r : RpAll K U xs ds) (h' : SqT K U b ys) (r' : RpAll K U ys es) : Wlk K S U (ItzT K a b) (zipD ds es) C := by
  refine ⟨_, _, (show min xs.length ys.length = (zipD ds es).length by rw [zipD, List.length_zipWith, r.length, r'.length]) ▸ walk_zipT (K := K) (a := a) (b := b) (xs := xs) (ys := ys), fun m σ H ρ f B hK _ rl le _ => ⟨(le.trans rl.le).seqT h, (le.trans rl.le).seqT h'⟩, fun i m σ H H' ρ f B x hi hK _ rl le _ hy => ?_⟩
  obtain ⟨T, u, y, rfl, hT, rfl, e1, e2⟩ := hy
  obtain ⟨d, h1, h2⟩ := r.at e1
  obtain ⟨e, h3, h4⟩ := r'.at e2
  exact ⟨same_upd hT, _, zipD_get h1 h3, rp_pair rl.vwH hT (by rw [hK]; exact h2.up le) (by rw [hK]; exact h4.up le)⟩
def rngD (a b : Int) : List PyData := (List.range (b - a).toNat).map fun i => .int (a + (i : Nat))
theorem wlk_range {U : Hp} (lo hi : Int) : Wlk K S U (Itr lo (hi - lo).toNat) (rngD lo hi) C := by
  have hn : (rngD lo hi).length = (hi - lo).toNat := by simp [rngD]
  refine ⟨_, _, by rw [hn]; exact walk_range (lo := lo) (n := (hi - lo).toNat), fun m σ H ρ f B hK _ rl le _ => trivial, fun i m σ H H' ρ f B x hl hK _ rl le _ hy => ?_⟩
  obtain ⟨rfl, rfl⟩ := hy
  have hl' : i < (hi - lo).toNat := by simpa [rngD] using hl
  exact ⟨.refl _, .int (lo + (i : Nat)), by simp [rngD, hl'], .int _⟩
/-- a slot's own list, as long as the slot stays -/
theorem wlk_var {U : Hp} {σ0 : L2.St} {i : Nat} (hs : σ0[i]? = some (some (.ref a))) : Wlk K (fun m' σ' => σ'[i]? = σ0[i]?) U (Itl K a) ds (fun ρ => ρ[i]? = some (.ol ds) ∨ ρ[i]? = some (.pm ds)) := by
  have get : ∀ (m : Fm) (σ : L2.St) (H : Hp) (ρ : List Slot) (f : Nat → List Addr) (B : List Addr), m.K = K → σ[i]? = σ0[i]? → Rl m σ H ρ f B → (ρ[i]? = some (.ol ds) ∨ ρ[i]? = some (.pm ds)) → ∃ xs, H a = some (.lst xs) ∧ RpAll K (vw m H f B) xs ds := by
    intro m σ H ρ f B hK e rl hc
    have z : SlOk m.K (vw m H f B) H σ[i]? (.ol ds) (f i) := by
      rcases hc with hc | hc
      · exact rl.sl i _ hc
      · exact (rl.sl i (.pm ds) hc : SlOk m.K (vw m H f B) H σ[i]? (.pm ds) (f i))
    rw [e, hs] at z
    obtain ⟨a', xs, e1, _, e2, r⟩ := z
    cases e1
    exact ⟨xs, e2, hK ▸ r⟩
  refine ⟨fun H => ∃ xs, H a = some (.lst xs) ∧ xs.length = ds.length, fun j H x H' => H' = H ∧ ∀ xs, H a = some (.lst xs) → xs[j]? = some x, ⟨?_, ?_, ?_⟩, ?_, ?_⟩
  · rintro j H hj ⟨xs, e, hl⟩
    exact ⟨xs, xs[j]'(by omega), SqL.of e, by simp⟩
  · rintro H ⟨xs, e, hl⟩
    exact ⟨xs, SqL.of e, by omega⟩
  · rintro j H x H' hj _ ⟨rfl, hy⟩
    exact ⟨rfl, fun xs e => hy xs (SqL.of e)⟩
  · intro m σ H ρ f B hK e rl le hc
    obtain ⟨xs, h1, h2⟩ := get m σ H ρ f B hK e rl hc
    exact ⟨xs, h1, h2.length⟩
  · intro j m σ H H' ρ f B x hj hK e rl le hc hy
    obtain ⟨rfl, hy⟩ := hy
    obtain ⟨xs, h1, h2⟩ := get m σ H' ρ f B hK e rl hc
    obtain ⟨d, h3, h4⟩ := h2.at (hy xs h1)
    exact ⟨.refl _, d, h3, by rw [hK]; exact h4.up (nxx_of rl.vwH (by simp))⟩
end
/-- the items of a list or a tuple -/
@[simp] def items : PyData → Option (List PyData)
  | .list ds => some ds
  | .tuple ds => some ds
  | _ => none
@[simp] def wSeqI (we : WE) : WI := fun ρ R => we ρ fun r ρ1 => r.isVar = false ∧ dat ρ1 r fun d => match items d with
  | some ds => R ds ρ1
  | none => False
theorem seq_cases {K : PySem.W.Frag} {F : Hp} {v : V} {d : PyData} {ds : List PyData} (h : Rp K F v d) (e : items d = some ds) : (∃ a xs, v = .ref a ∧ SqL K F a xs ∧ RpAll K F xs ds) ∨ ∃ a xs, v = .ref a ∧ SqT K F a xs ∧ RpAll K F xs ds := by
  cases d with
  | list es =>
    cases e
    cases h with
    | lst h1 h2 => exact .inl ⟨_, _, rfl, h1, h2⟩
  | tuple es =>
    cases e
    cases h with
    | tup h1 h2 => exact .inr ⟨_, _, rfl, h1, h2⟩
  | _ => cases e
section
variable {X : Cx} {tg e e2 : Expr} {we we2 : WE} {pos : Pos}
theorem di_seq (he : DE X e we) : DI X tg e (wSeqI we) := by
  obtain ⟨t, p, he⟩ := he.ex
  refine ⟨_, pi_seq p, fun m σ H ρ f B R Q hK rl hw k => ?_⟩
  refine he m σ H ρ f B _ _ hK rl hw fun r ρ1 v H1 f1 Br ⟨nv, h⟩ P => ?_
  obtain ⟨d, e1, h⟩ := dat_iff.mp h
  cases e2 : items d with
  | none => rw [e2] at h; exact h.elim
  | some ds =>
    rw [e2] at h
    have q := P.fzn e1 nv
    rw [hK] at q
    have rl1 := P.rl.drop
    rcases seq_cases q e2 with ⟨a, xs, rfl, h1, h2⟩ | ⟨a, xs, rfl, h1, h2⟩
    · exact ⟨a, rfl, .inl ⟨⟨xs, rl1.le.seqL h1⟩, k _ _ _ _ _ h rl1 P.step (wlk_list h1 h2)⟩⟩
    · exact ⟨a, rfl, .inr ⟨⟨xs, rl1.le.seqT h1⟩, k _ _ _ _ _ h rl1 P.step (wlk_tup h1 h2)⟩⟩
theorem DI.c {w : WI} (h : DI X tg e w) : DIc X tg e (fun ρ R => w ρ fun ds ρ' => R ds (fun _ => True) ρ') := by
  obtain ⟨t, p, h⟩ := h.ex
  refine ⟨t, p, fun m σ H ρ f B R Q hK rl hw k => h m σ H ρ f B _ Q hK rl hw fun ds ρ' J H' f' h2 rl' st wl => k _ _ _ _ _ _ h2 rl' st ?_⟩
  obtain ⟨G, Y, h1, h2, h3⟩ := wl
  exact ⟨G, Y, h1, fun m σ H ρ f B a _ c d e => h2 m σ H ρ f B a trivial c d e, fun i m σ H H' ρ f B x a b _ c d e => h3 i m σ H H' ρ f B x a b trivial c d e⟩
/-- a slot's own list -/
def wVarI (i : Nat) : WIc := fun ρ R => match ρ[i]? with
  | some (.ol ds) => R ds (fun ρ => ρ[i]? = some (.ol ds) ∨ ρ[i]? = some (.pm ds)) ρ
  | some (.pm ds) => R ds (fun ρ => ρ[i]? = some (.ol ds) ∨ ρ[i]? = some (.pm ds)) ρ
  | _ => False
theorem dic_var (i : Nat) (he : PE X e (tVar i)) : DIc X tg e (wVarI i) := by
  refine ⟨_, pi_list he, fun m σ H ρ f B R Q hK rl hw k => ?_⟩
  unfold wVarI at hw
  cases e1 : ρ[i]? with
  | none => rw [e1] at hw; exact hw.elim
  | some s =>
    rw [e1] at hw
    have z := rl.sl i s e1
    have fin : ∀ ds a xs, s.own = true → σ[i]? = some (some (.ref a)) → H a = some (.lst xs) → R ds (fun ρ => ρ[i]? = some (.ol ds) ∨ ρ[i]? = some (.pm ds)) ρ → iList X.K (tVar i) σ H Q := by
      intro ds a xs hs e2 e3 hr
      refine ⟨_, e2, a, rfl, ⟨xs, SqL.of e3⟩, k _ _ _ _ _ _ hr rl .refl ?_⟩
      obtain ⟨G, Y, h1, h2, h3⟩ := wlk_var (K := X.K) (U := vw m H f B) (ds := ds) e2
      exact ⟨G, Y, h1, fun m σ H ρ f B a q c d e => h2 m σ H ρ f B a (q i s e1 hs) c d e, fun j m σ H H' ρ f B x a b q c d e => h3 j m σ H H' ρ f B x a b (q i s e1 hs) c d e⟩
    cases s with
    | ol ds =>
      obtain ⟨a, xs, h1, _, h2, _⟩ := z
      exact fin ds a xs rfl h1 h2 hw
    | pm ds =>
      obtain ⟨a, xs, h1, _, h2, _⟩ := z
      exact fin ds a xs rfl h1 h2 hw
    | _ => exact hw.elim
/-- range -/
@[simp] def wRng1 (we : WE) : WI := fun ρ R => we ρ fun r ρ1 => intR ρ1 r fun n => -(2 ^ 62) ≤ n ∧ n < 2 ^ 62 ∧ R (rngD 0 n) ρ1
@[simp] def wRng2 (wa wb : WE) : WI := fun ρ R => wa ρ fun r1 ρ1 => wb ρ1 fun r2 ρ2 => intR ρ2 r1 fun a => intR ρ2 r2 fun b => (-(2 ^ 62) ≤ a ∧ a < 2 ^ 62 ∧ -(2 ^ 62) ≤ b ∧ b < 2 ^ 62) ∧ R (rngD a b) ρ2
theorem di_rng1 {p : Pos} (hg : Gl X "range") (hm : X.mg "range" = none) (ha : DE X e we) (hs : starEach [e] X.env = [(false, eval e X.env)] := by rfl) (hs0 : starEach [e] X.env = (false, eval e X.env) :: starEach [] X.env := by rfl) : DI X tg (.Call (.Name "range" p) [e] [] pos) (wRng1 we) := by
  obtain ⟨t, pa, ha⟩ := ha.ex
  refine ⟨_, pi_range1 hg hm (pa_cons pa pa_nil hs0) hs, fun m σ H ρ f B R Q hK rl hw k => ?_⟩
  refine ha m σ H ρ f B _ _ hK rl hw fun r ρ1 v H1 f1 Br h P => ?_
  obtain ⟨n, e1, h1, h2, h3⟩ := intR_iff h
  subst e1
  have ev := Rp.intv P.ok.2
  subst ev
  refine ⟨n, rfl, h1, h2, k _ _ _ _ _ h3 P.rl.drop P.step ?_⟩
  have := wlk_range (K := X.K) (U := vw m H1 f1 B) (S := fun _ _ => True) (C := fun _ => True) 0 n
  simpa using this
theorem di_rng2 {p : Pos} (hg : Gl X "range") (hm : X.mg "range" = none) (ha : DE X e we) (hb : DE X e2 we2) (hs : starEach [e, e2] X.env = [(false, eval e X.env), (false, eval e2 X.env)] := by rfl) (hs2 : starEach [e2] X.env = [(false, eval e2 X.env)] := by rfl)
    (hs3 : starEach [e, e2] X.env = (false, eval e X.env) :: starEach [e2] X.env := by rfl) (hs4 : starEach [e2] X.env = (false, eval e2 X.env) :: starEach [] X.env := by rfl) : DI X tg (.Call (.Name "range" p) [e, e2] [] pos) (wRng2 we we2) := by
  obtain ⟨t, pa, ha⟩ := ha.ex
  obtain ⟨t2, pb, hb⟩ := hb.ex
  refine ⟨_, pi_range2 hg hm (pa_cons pa (pa_cons pb pa_nil hs4) hs3) hs hs2, fun m σ H ρ f B R Q hK rl hw k => ?_⟩
  refine ha m σ H ρ f B _ _ hK rl hw fun r ρ1 v H1 f1 Br h P => ?_
  refine hb m σ H1 ρ1 f1 B _ _ hK P.rl.drop h fun r2 ρ2 v2 H2 f2 Br2 h' P2 => ?_
  obtain ⟨n, e1, h1⟩ := intR_iff h'
  obtain ⟨n2, e2', hb1, h3⟩ := intR_iff h1
  subst e1 e2'
  have ev := Rp.intv P.ok.2
  have ev2 := Rp.intv P2.ok.2
  subst ev ev2
  exact ⟨n, n2, rfl, hb1, k _ _ _ _ _ h3 P2.rl.drop (P.step.trans P2.step) (wlk_range (K := X.K) (U := vw m H2 f2 B) (S := fun _ _ => True) (C := fun _ => True) n n2)⟩
@[simp] def wEnum (we : WE) : WI := fun ρ R => wSeqI we ρ fun ds ρ1 => R (enumD 0 ds) ρ1
theorem di_enum {p tpos : Pos} {elts : List Expr} {kk : Nat} (hg : Gl X "enumerate") (hm : X.mg "enumerate" = none) (he : DE X e we) (hs : starEach [e] X.env = [(false, eval e X.env)] := by rfl) (hs0 : starEach [e] X.env = (false, eval e X.env) :: starEach [] X.env := by rfl) :
    DI X (.Tuple elts kk tpos) (.Call (.Name "enumerate" p) [e] [] pos) (wEnum we) := by
  obtain ⟨t, pa, he⟩ := he.ex
  refine ⟨_, pi_enumA hg hm (pa_cons pa pa_nil hs0) hs, fun m σ H ρ f B R Q hK rl hw k => ?_⟩
  refine he m σ H ρ f B _ _ hK rl hw fun r ρ1 v H1 f1 Br ⟨nv, h⟩ P => ?_
  obtain ⟨d, e1, h⟩ := dat_iff.mp h
  cases e2 : items d with
  | none => rw [e2] at h; exact h.elim
  | some ds =>
    rw [e2] at h
    have q := P.fzn e1 nv
    rw [hK] at q
    have rl1 := P.rl.drop
    rcases seq_cases q e2 with ⟨a, xs, rfl, h1, h2⟩ | ⟨a, xs, rfl, h1, h2⟩
    · exact ⟨a, rfl, .inl ⟨⟨xs, rl1.le.seqL h1⟩, k _ _ _ _ _ h rl1 P.step (wlk_enumL h1 h2)⟩⟩
    · exact ⟨a, rfl, .inr ⟨⟨xs, rl1.le.seqT h1⟩, k _ _ _ _ _ h rl1 P.step (wlk_enumT h1 h2)⟩⟩
/-- zip of two lists, of two tuples -/
@[simp] def wZip (ws : WA) : WI := fun ρ R => ws ρ fun rs ρ1 => (rs.all fun r => !r.isVar) = true ∧ datA ρ1 rs fun ds => match ds with
  | [.list xs, .list ys] => R (zipD xs ys) ρ1
  | [.tuple xs, .tuple ys] => R (zipD xs ys) ρ1
  | _ => False
theorem di_zip {p tpos : Pos} {elts : List Expr} {kk : Nat} {ws : WA} (hg : Gl X "zip") (hm : X.mg "zip" = none) (ha : DA X [e, e2] ws) (hs : starEach [e, e2] X.env = (false, eval e X.env) :: starEach [e2] X.env := by rfl) (hpl : (backTo pos (starEach [e2] X.env)).any (·.1) = false := by rfl) :
    DI X (.Tuple elts kk tpos) (.Call (.Name "zip" p) [e, e2] [] pos) (wZip ws) := by
  obtain ⟨t, pa, ha⟩ := ha.ex
  refine ⟨_, pi_zipA hg hm pa hs hpl, fun m σ H ρ f B R Q hK rl hw k => ?_⟩
  refine ha m σ H ρ f B _ _ hK rl hw fun rs ρ1 vs H1 f1 Bs ⟨nv, h⟩ P => ?_
  obtain ⟨ds, e1, h⟩ := datA_iff h
  have q := P.fzn e1 nv
  obtain ⟨rl1, st⟩ := P.next
  rw [hK] at q
  split at h
  · cases q with
    | cons q1 q =>
      cases q with
      | cons q2 q =>
        cases q
        cases q1 with
        | lst h1 h2 =>
          cases q2 with
          | lst h3 h4 => exact ⟨_, _, _, _, rfl, .inl ⟨rl1.le.seqL h1, rl1.le.seqL h3, k _ _ _ _ _ h rl1 st (wlk_zipL h1 h2 h3 h4)⟩⟩
  · cases q with
    | cons q1 q =>
      cases q with
      | cons q2 q =>
        cases q
        cases q1 with
        | tup h1 h2 =>
          cases q2 with
          | tup h3 h4 => exact ⟨_, _, _, _, rfl, .inr ⟨rl1.le.seqT h1, rl1.le.seqT h3, k _ _ _ _ _ h rl1 st (wlk_zipT h1 h2 h3 h4)⟩⟩
  · exact h.elim
end

/-! ### targets -/
abbrev WG := PyData → List Slot → (List Slot → Prop) → Prop
/-- what a target changes: the slots ts alone -/
structure Tch (ts : List Nat) (σ σ' : L2.St) (f f' : Nat → List Addr) : Prop where
  len : σ'.length = σ.length
  old : ∀ j, j ∉ ts → σ'[j]? = σ[j]? ∧ f' j = f j
  new : ∀ j ∈ ts, f' j = []
structure DG (X : Cx) (tg : Expr) (ts : List Nat) (w : WG) : Prop where
  ex : ∃ g : TG, PG X tg g ∧ ∀ (m : Fm) (σ : L2.St) (H : Hp) (ρ : List Slot) (f : Nat → List Addr) (B : List Addr) (v : V) (d : PyData) (R : List Slot → Prop) (Q : L2.St → Hp → Prop), m.K = X.K → Rl m σ H ρ f B → Rp m.K (vw m H f B) v d → w d ρ R →
    (∀ σ' ρ' f', R ρ' → Rl m σ' H ρ' f' B → RdLe (vw m H f B) (vw m H f' B) → Tch ts σ σ' f f' → Q σ' H) → g v σ H Q
structure DGs (X : Cx) (tgs : List Expr) (ts : List Nat) (w : List PyData → List Slot → (List Slot → Prop) → Prop) : Prop where
  ex : ∃ g : TGs, PGs X tgs g ∧ ∀ (m : Fm) (σ : L2.St) (H : Hp) (ρ : List Slot) (f : Nat → List Addr) (B : List Addr) (vs : List V) (ds : List PyData) (R : List Slot → Prop) (Q : L2.St → Hp → Prop), m.K = X.K → Rl m σ H ρ f B → RpAll m.K (vw m H f B) vs ds → w ds ρ R →
    (∀ σ' ρ' f', R ρ' → Rl m σ' H ρ' f' B → RdLe (vw m H f B) (vw m H f' B) → Tch ts σ σ' f f' → Q σ' H) → g vs σ H Q
section
variable {X : Cx} {tg e : Expr} {es : List Expr} {pos : Pos} {ts us : List Nat} {w : WG} {u : List PyData → List Slot → (List Slot → Prop) → Prop}
@[simp] def gPut (i : Nat) : WG := fun d ρ R => npAt i ρ ∧ R (ρ.set i (.fz d))
theorem dg_name (i : Nat) {x : Str} (hN : X.N.Nodup) (hi : X.N[i]? = some x) (hx : Loc X.env.scope x) (hf : X.fn x = true ∨ X.env.scope.names.lookup x = some .local := by first | exact .inl rfl | exact .inr rfl | assumption) : DG X (.Name x pos) [i] (gPut i) := by
  refine ⟨_, pg_name hN hi hx hf, fun m σ H ρ f B v d R Q hK rl r hw k => ?_⟩
  obtain ⟨hn, hw'⟩ := hw
  obtain ⟨s, e, np⟩ := npAt_iff hn
  · skip
    obtain ⟨rl', le⟩ := Rl.put (Br := []) (r := .fz d) rl ⟨rfl, r⟩ (by simp) rfl e np
    refine k _ _ _ hw' rl' le ⟨List.length_set, fun j hj => ?_, fun j hj => ?_⟩
    · have ne : j ≠ i := by simpa using hj
      exact ⟨List.getElem?_set_ne (Ne.symm ne), fset_ne ne⟩
    · obtain rfl : j = i := by simpa using hj
      exact fset_same
theorem dgs_nil : DGs X [] [] (fun ds ρ R => ds = [] ∧ R ρ) := by
  refine ⟨_, pgs_nil, fun m σ H ρ f B vs ds R Q hK rl r hw k => ?_⟩
  obtain ⟨rfl, h⟩ := hw
  cases r
  exact ⟨rfl, k _ _ _ h rl (.refl _) ⟨rfl, fun _ _ => ⟨rfl, rfl⟩, by simp⟩⟩
theorem dgs_cons (h1 : DG X e ts w) (h2 : DGs X es us u) (hs : (assignEach (e :: es) X.env).map (·.2) = assign e X.env :: (assignEach es X.env).map (·.2) := by rfl) :
    DGs X (e :: es) (ts ++ us) (fun ds ρ R => match ds with
      | d :: ds => w d ρ fun ρ1 => u ds ρ1 R
      | [] => False) := by
  obtain ⟨g1, p1, h1⟩ := h1.ex
  obtain ⟨g2, p2, h2⟩ := h2.ex
  refine ⟨_, pgs_cons p1 p2 hs, fun m σ H ρ f B vs ds R Q hK rl r hw k => ?_⟩
  cases r with
  | nil => exact hw.elim
  | cons r1 r2 =>
    refine ⟨_, _, rfl, ?_⟩
    refine h1 m σ H ρ f B _ _ _ _ hK rl r1 hw fun σ1 ρ1 f1 hw1 rl1 le1 t1 => ?_
    refine h2 m σ1 H ρ1 f1 B _ _ R Q hK rl1 (r2.up le1) hw1 fun σ2 ρ2 f2 hw2 rl2 le2 t2 => k _ _ _ hw2 rl2 (le1.trans le2) ⟨t2.len.trans t1.len, fun j hj => ?_, fun j hj => ?_⟩
    · have n1 : j ∉ ts := fun z => hj (List.mem_append_left _ z)
      have n2 : j ∉ us := fun z => hj (List.mem_append_right _ z)
      exact ⟨(t2.old j n2).1.trans (t1.old j n1).1, (t2.old j n2).2.trans (t1.old j n1).2⟩
    · by_cases h : j ∈ us
      · exact t2.new j h
      · rw [(t2.old j h).2]
        exact t1.new j ((List.mem_append.mp hj).resolve_right h)
theorem dg_tup {k : Nat} {n : Nat} (hc : X.calm = true) (h : DGs X es ts u) (hn : (assignEach es X.env).length = n := by rfl) (hst : (assignEach es X.env).findIdx? (·.1) = none := by rfl) :
    DG X (.Tuple es k pos) ts (fun d ρ R => match d with
      | .tuple ds => ds.length = n ∧ u ds ρ R
      | _ => False) := by
  obtain ⟨g, p, h⟩ := h.ex
  refine ⟨_, pg_tup hc p hn hst, fun m σ H ρ f B v d R Q hK rl r hw k => ?_⟩
  cases r with
  | tup h1 h2 => exact ⟨_, _, rfl, hK ▸ rl.le.seqT h1, h2.length.trans hw.1, h m σ H ρ f B _ _ R Q hK rl h2 hw.2 k⟩
  | _ => exact hw.elim
end
end Dn
/-! Dn8: for, while, comprehensions. -/
namespace Dn
open PySem PySem.Spec PyProof.Rows L2

section
variable {X : Cx} {pos : Pos} {tg iter : Expr} {body : List Stmt} {wi : WI} {wg : WG} {wb : WS}
def wFor (wi : WI) (wg : WG) (wb : WS) : WS := fun E ρ => wi ρ fun ds ρ1 => ∃ Inv : Nat → List Slot → Prop, Inv 0 ρ1 ∧
  (∀ i d ρ, ds[i]? = some d → Inv i ρ → wg d ρ fun ρ' => wb { E with nx := Inv (i + 1), ct := Inv (i + 1), bk := E.nx } ρ') ∧ ∀ ρ, Inv ds.length ρ → E.nx ρ
theorem ds_for (hp : PassesOwn (model X.prog X.w) X.A X.env X.xe) (hc : X.calm = true) (hi : DI X tg iter wi) {ts : List Nat} (hg : DG X tg ts wg) (hb : DSs X body wb) (hs : ∀ x, foldedSetIterable iter X.env x = pure x := by intro _; rfl) : DS X (.For tg iter body [] pos) (wFor wi wg wb) := by
  obtain ⟨ti, pi, hi⟩ := hi.ex
  obtain ⟨g, pg, hg⟩ := hg.ex
  obtain ⟨tb, pb, hb⟩ := hb.ex
  refine ⟨_, ps_for hp hc pi pg pb hs, fun m σ H ρ f E D hK rl hw L => ?_⟩
  refine hi m σ H ρ f [] _ _ hK rl hw fun ds ρ1 J H1 f1 ⟨Iv, h0, hs, hd⟩ rl1 st wl => ?_
  obtain ⟨G, Y, W, wg, wy⟩ := wl
  refine for_it W (fun i σ H => ∃ ρ f, Rl m σ H ρ f [] ∧ RdLe (vw m H1 f1 []) (vw m H f []) ∧ Iv i ρ) ⟨ρ1, f1, rl1, .refl _, h0⟩ (fun i σ H _ ⟨ρ, f, rl, le, _⟩ => wg m σ H ρ f [] hK trivial rl le trivial) ?_ ?_
  · rintro i x σ2 H2 H3 hi ⟨ρ2, f2, rl2, le2, h2⟩ hy
    obtain ⟨sm, d, e, r⟩ := wy i m σ2 H2 H3 ρ2 f2 [] x hi hK trivial rl2 le2 trivial hy
    have rl3 : Rl m σ2 H3 ρ2 f2 [] := rl2.ext (Br := []) sm (by simp)
    have le3 : RdLe (vw m H2 f2 []) (vw m H3 f2 []) := .of (vw_ext (Br := []) rl2 sm (by simp))
    have r3 : Rp m.K (vw m H3 f2 []) x d := r.up (nxx_vw (Br := []) rl2 sm (by simp))
    refine hg m σ2 H3 ρ2 f2 [] x d _ _ hK rl3 r3 (hs i d ρ2 e h2) fun σ4 ρ4 f4 h4 rl4 le4 _ => ?_
    have le : RdLe (vw m H1 f1 []) (vw m H3 f4 []) := (le2.trans le3).trans le4
    refine hb m σ4 H3 ρ4 f4 _ _ hK rl4 h4 ⟨fun σ5 H5 ρ5 f5 rl5 le5 q => ⟨ρ5, f5, rl5, le.trans le5, q⟩, fun σ5 H5 ρ5 f5 rl5 le5 q => L.nx _ _ _ _ rl5 ((st.le.trans le).trans le5) q,
      fun σ5 H5 ρ5 f5 rl5 le5 q => ⟨ρ5, f5, rl5, le.trans le5, q⟩, fun σ5 H5 ρ5 f5 Br v r rl5 ok nv le5 q => L.rt _ _ _ _ _ _ _ rl5 ok nv ((st.le.trans le).trans le5) q⟩
  · rintro σ2 H2 ⟨ρ2, f2, rl2, le2, h2⟩
    exact L.nx _ _ _ _ rl2 (st.le.trans le2) (hd ρ2 h2)
def wWhile (wt : WT) (wb : WS) : WS := fun E ρ => ∃ Inv : Nat → List Slot → Prop, (∃ n, Inv n ρ) ∧ ∀ n ρ, Inv n ρ → wt ρ fun b ρ1 => if b = true then wb { E with nx := fun ρ' => ∃ n', n' < n ∧ Inv n' ρ', ct := fun ρ' => ∃ n', n' < n ∧ Inv n' ρ', bk := E.nx } ρ1 else E.nx ρ1
theorem ds_while {c : Expr} {wt : WT} (hp : PassesOwn (model X.prog X.w) X.A X.env X.xe) (hc : DT X c wt) (hb : DSs X body wb) : DS X (.While c body [] pos) (wWhile wt wb) := by
  obtain ⟨tc, pc, hc⟩ := hc.ex
  obtain ⟨tb, pb, hb⟩ := hb.ex
  refine ⟨_, ps_while hp pc pb, fun m σ H ρ f E D hK rl hw L => ?_⟩
  obtain ⟨Iv, ⟨n, h0⟩, turn⟩ := hw
  refine ⟨fun n σ' H' => ∃ ρ' f', Rl m σ' H' ρ' f' [] ∧ RdLe (vw m H f []) (vw m H' f' []) ∧ Iv n ρ', ⟨n, ρ, f, rl, .refl _, h0⟩, ?_⟩
  rintro n σ2 H2 ⟨ρ2, f2, rl2, le2, h2⟩
  refine hc m σ2 H2 ρ2 f2 [] _ _ hK rl2 (turn n ρ2 h2) fun b ρ3 H3 f3 h3 P => ?_
  cases b with
  | false =>
    rw [if_neg Bool.false_ne_true]
    rw [if_neg Bool.false_ne_true] at h3
    exact L.nx _ _ _ _ P.rl (le2.trans P.st.le) h3
  | true =>
    rw [if_pos rfl]
    rw [if_pos rfl] at h3
    have le : RdLe (vw m H f []) (vw m H3 f3 []) := le2.trans P.st.le
    refine ⟨fun σ' H' => ∃ n', n' < n ∧ ∃ ρ' f', Rl m σ' H' ρ' f' [] ∧ RdLe (vw m H f []) (vw m H' f' []) ∧ Iv n' ρ', fun σ' H' ⟨n', hn, q⟩ => ⟨n', hn, q⟩, ?_⟩
    exact hb m σ2 H3 ρ3 f3 _ _ hK P.rl h3 ⟨fun σ5 H5 ρ5 f5 rl5 le5 ⟨n', hn, q⟩ => ⟨n', hn, ρ5, f5, rl5, le.trans le5, q⟩, fun σ5 H5 ρ5 f5 rl5 le5 q => L.nx _ _ _ _ rl5 (le.trans le5) q,
      fun σ5 H5 ρ5 f5 rl5 le5 ⟨n', hn, q⟩ => ⟨n', hn, ρ5, f5, rl5, le.trans le5, q⟩, fun σ5 H5 ρ5 f5 Br v r rl5 ok nv le5 q => L.rt _ _ _ _ _ _ _ rl5 ok nv (le.trans le5) q⟩
end

/-! ### comprehensions -/
/-- the block's own slots forgotten; given back -/
@[simp] def blank (ρ : List Slot) : List Nat → List Slot
  | [] => ρ
  | v :: vs => (blank ρ vs).set v .un
@[simp] def giveB (ρ0 ρ : List Slot) : List Nat → List Slot
  | [] => ρ
  | v :: vs => (giveB ρ0 ρ vs).set v (ρ0.getD v .un)
@[simp] def loose (ρ : List Slot) (vs : List Nat) : Prop := ∀ v ∈ vs, match ρ[v]? with
  | some s => s.own = false
  | none => True
section
variable {m : Fm} {σ : L2.St} {H : Hp} {ρ : List Slot} {f : Nat → List Addr} {B : List Addr}
theorem Rl.un1 (R : Rl m σ H ρ f B) {i : Nat} (h : ∀ s, ρ[i]? = some s → s.own = false) : Rl m (σ.set i none) H (ρ.set i .un) f B := by
  have fi : f i = [] := by
    cases e : ρ[i]? with
    | none => exact R.out i (List.getElem?_eq_none_iff.mp e)
    | some s =>
      have z := R.sl i s e
      have q := h s e
      cases s with
      | un => exact z
      | fz d => exact z.1
      | _ => cases q
  have np : ∀ p, (i, p) ∉ m.M := fun p hp => by
    obtain ⟨_, ds, e⟩ := R.pin i p hp
    have q := h _ e
    cases q
  refine ⟨by rw [List.length_set, List.length_set]; exact R.len, R.zs, R.zm, R.zt, R.fr, R.dj, R.bf, R.bn, R.ow, fun j p hp => ?_, fun j h => R.out j (by rw [List.length_set] at h; exact h), fun j t e => ?_⟩
  · have ne : j ≠ i := fun e => np p (e ▸ hp)
    rw [List.getElem?_set_ne (Ne.symm ne)]
    exact R.pin j p hp
  · by_cases ej : j = i
    · subst ej
      by_cases hl : j < ρ.length
      · rw [List.getElem?_set_self hl] at e
        cases e
        exact fi
      · rw [List.getElem?_eq_none (by simpa using hl)] at e; cases e
    · rw [List.getElem?_set_ne (Ne.symm ej)] at e
      rw [List.getElem?_set_ne (Ne.symm ej)]
      exact R.sl j t e
theorem blank_get {i : Nat} : ∀ (vs : List Nat), i ∉ vs → (blank ρ vs)[i]? = ρ[i]?
  | [], _ => rfl
  | v :: vs, h => by
    have h1 : v ≠ i := fun e => h (by simp [e])
    unfold blank
    rw [List.getElem?_set_ne h1]
    exact blank_get vs fun z => h (List.mem_cons_of_mem _ z)
theorem blank_length : ∀ (vs : List Nat), (blank ρ vs).length = ρ.length
  | [] => rfl
  | v :: vs => by unfold blank; rw [List.length_set, blank_length vs]
theorem blank_in {i : Nat} : ∀ (vs : List Nat), i ∈ vs → i < ρ.length → (blank ρ vs)[i]? = some .un
  | v :: vs, h, hl => by
    unfold blank
    by_cases e : v = i
    · subst e; rw [List.getElem?_set_self (by rw [blank_length]; exact hl)]
    · rw [List.getElem?_set_ne e]
      exact blank_in vs (by
        rcases List.mem_cons.mp h with z | z
        · exact absurd z.symm e
        · exact z) hl
theorem Rl.blank (R : Rl m σ H ρ f B) : ∀ (vs : List Nat), loose ρ vs → Rl m (wipe σ vs) H (blank ρ vs) f B
  | [], _ => R
  | v :: vs, h => by
    have ih := Rl.blank R vs fun u hu => h u (List.mem_cons_of_mem _ hu)
    refine Rl.un1 ih fun s e => ?_
    have q := h v (by simp)
    by_cases hv : v ∈ vs
    · by_cases hl : v < ρ.length
      · rw [blank_in vs hv hl] at e; cases e; rfl
      · rw [List.getElem?_eq_none (by rw [blank_length]; omega)] at e; cases e
    · rw [blank_get vs hv] at e
      rw [e] at q
      exact q
theorem giveB_length {ρ0 : List Slot} : ∀ (vs : List Nat), (giveB ρ0 ρ vs).length = ρ.length
  | [] => rfl
  | v :: vs => by unfold giveB; rw [List.length_set, giveB_length vs]
theorem giveB_get {ρ0 : List Slot} {i : Nat} : ∀ (vs : List Nat), i ∉ vs → (giveB ρ0 ρ vs)[i]? = ρ[i]?
  | [], _ => rfl
  | v :: vs, h => by
    have h1 : v ≠ i := fun e => h (by simp [e])
    unfold giveB
    rw [List.getElem?_set_ne h1]
    exact giveB_get vs fun z => h (List.mem_cons_of_mem _ z)
theorem giveB_in {ρ0 : List Slot} {i : Nat} : ∀ (vs : List Nat), i ∈ vs → i < ρ.length → (giveB ρ0 ρ vs)[i]? = some (ρ0.getD i .un)
  | v :: vs, h, hl => by
    unfold giveB
    by_cases e : v = i
    · subst e; rw [List.getElem?_set_self (by rw [giveB_length]; exact hl)]
    · rw [List.getElem?_set_ne e]
      exact giveB_in vs (by
        rcases List.mem_cons.mp h with z | z
        · exact absurd z.symm e
        · exact z) hl
theorem wipe_get {i : Nat} : ∀ (vs : List Nat), i ∉ vs → (wipe σ vs)[i]? = σ[i]?
  | [], _ => rfl
  | v :: vs, h => by
    have h1 : v ≠ i := fun e => h (by simp [e])
    unfold wipe
    rw [List.getElem?_set_ne h1]
    exact wipe_get vs fun z => h (List.mem_cons_of_mem _ z)
/-- behind the block: the outer slots again -/
theorem Rl.give {σ2 : L2.St} {H2 : Hp} {ρ2 : List Slot} {f2 : Nat → List Addr} {B2 : List Addr} {vs : List Nat} (R0 : Rl m σ H ρ f B) (lo : loose ρ vs) (R : Rl m σ2 H2 ρ2 f2 B2) (lo2 : loose ρ2 vs) (e : wipe σ2 vs = wipe σ vs) (le : RdLe (vw m H f B) (vw m H2 f2 B2)) :
    Rl m σ H2 (giveB ρ ρ2 vs) f2 B2 := by
  have hl : σ2.length = σ.length := by
    have := congrArg List.length e
    rw [wipe_length, wipe_length] at this
    exact this
  have hl2 : ρ2.length = ρ.length := by rw [← R.len, hl, R0.len]
  have nf : ∀ i ∈ vs, f2 i = [] := fun i hi => by
    cases e : ρ2[i]? with
    | none => exact R.out i (List.getElem?_eq_none_iff.mp e)
    | some s =>
      have z := R.sl i s e
      have q := lo2 i hi
      rw [e] at q
      cases s with
      | un => exact z
      | fz d => exact z.1
      | _ => cases q
  refine ⟨by rw [giveB_length, hl2]; exact R0.len, R.zs, R.zm, R.zt, R.fr, R.dj, R.bf, R.bn, R.ow, fun j p hp => ?_, fun j h => R.out j (by rw [giveB_length] at h; exact h), fun j t e1 => ?_⟩
  · obtain ⟨h1, ds, h2⟩ := R.pin j p hp
    by_cases hj : j ∈ vs
    · rw [nf j hj] at h1; cases h1
    · exact ⟨h1, ds, by rw [giveB_get vs hj]; exact h2⟩
  · by_cases hj : j ∈ vs
    · have hjl : j < ρ2.length := by
        have := (List.getElem?_eq_some_iff.mp e1).1
        rw [giveB_length] at this
        exact this
      rw [giveB_in vs hj hjl] at e1
      cases e1
      rw [nf j hj]
      rw [hl2] at hjl
      obtain ⟨s0, e0⟩ : ∃ s0, ρ[j]? = some s0 := ⟨ρ[j], List.getElem?_eq_getElem hjl⟩
      have eg : ρ.getD j .un = s0 := by rw [List.getD_eq_getElem?_getD, e0]; rfl
      rw [eg]
      have z := R0.sl j s0 e0
      have q := lo j hj
      rw [e0] at q
      cases s0 with
      | un => rfl
      | fz d => exact ⟨rfl, z.2.choose, z.2.choose_spec.1, z.2.choose_spec.2.up le⟩
      | _ => cases q
    · rw [giveB_get vs hj] at e1
      have z := R.sl j t e1
      have es : σ2[j]? = σ[j]? := by rw [← wipe_get vs hj, e, wipe_get vs hj]
      rw [es] at z
      exact z
end

section
variable {X : Cx} {pos : Pos} {tg iter elt : Expr} {ifs : List Expr} {scope : Scope} {own : List (Str × Nat)} {wi : WIc} {wg : WG} {wt : WT} {we : WE}
structure DTs (X : Cx) (ifs : List Expr) (w : WT) : Prop where
  ex : ∃ t : TT, PTs X ifs t ∧ ∀ (m : Fm) (σ : L2.St) (H : Hp) (ρ : List Slot) (f : Nat → List Addr) (B : List Addr) (R : Bool → List Slot → Prop) (Q : Bool → Hp → Prop), m.K = X.K → Rl m σ H ρ f B → w ρ R →
    (∀ b ρ' H' f', R b ρ' → PostT m σ H f B ρ' H' f' → Q b H') → t σ H Q
@[simp] def wYes : WT := fun ρ R => R true ρ
theorem dts_nil : DTs X [] wYes := ⟨_, pts_nil, fun m σ H ρ f B R Q hK rl hw k => k _ _ _ _ hw ⟨rl, .refl⟩⟩
theorem dts_one {c : Expr} (h : DT X c wt) : DTs X [c] wt := by
  obtain ⟨t, p, h⟩ := h.ex
  exact ⟨t, pts_one p, h⟩
/-- [elt for tg in iter if ..]: Inv by the turn, what is made so far, and the outer slots -/
def LcIn (wg : WG) (wt : WT) (we : WE) (vs : List Nat) (R : Rs → List Slot → Prop) (ds : List PyData) (C : List Slot → Prop) (ρ1 : List Slot) : Prop :=
  ds.length ≤ sizeLine ∧ loose ρ1 vs ∧ ∃ Inv : Nat → List PyData → List Slot → Prop, Inv 0 [] ρ1 ∧ (∀ i acc ρ, Inv i acc ρ → C ρ ∧ loose ρ vs) ∧
  (∀ i d acc ρ, ds[i]? = some d → Inv i acc ρ → wg d (blank ρ vs) fun ρ2 => wt ρ2 fun b ρ3 => if b = true then we ρ3 fun r ρ4 => r.isVar = false ∧ dat ρ4 r fun e => loose ρ4 vs ∧ Inv (i + 1) (acc ++ [e]) (giveB ρ1 ρ4 vs) else loose ρ3 vs ∧ Inv (i + 1) acc (giveB ρ1 ρ3 vs)) ∧
  ∀ acc ρ, Inv ds.length acc ρ → R (.ol acc) ρ
@[simp] def wLc (wi : WIc) (wg : WG) (wt : WT) (we : WE) (vs : List Nat) : WE := fun ρ R => wi ρ fun ds C ρ1 => LcIn wg wt we vs R ds C ρ1
/-! families of contexts -/
theorem PE.weak {e : Expr} {t t' : TE} (h : PE X e t) (w : ∀ σ H Q, t' σ H Q → t σ H Q) : PE X e t' := ⟨fun pins s σ H Q I q => h.run pins s σ H Q I (w σ H Q q)⟩
theorem DE.fam {ι : Type} {Xs : ι → Cx} {K : PySem.W.Frag} (hK : ∀ i, (Xs i).K = K) (h : ∀ i, DE (Xs i) elt we) : ∃ t : TE, (∀ i, PE (Xs i) elt t) ∧ ∀ (m : Fm) (σ : L2.St) (H : Hp) (ρ : List Slot) (f : Nat → List Addr) (B : List Addr) (R : Rs → List Slot → Prop) (Q : VK), m.K = K → Rl m σ H ρ f B → we ρ R →
    (∀ r ρ' v H' f' Br, R r ρ' → Post m σ H f B r ρ' v H' f' Br → Q v H') → t σ H Q := by
  refine ⟨fun σ H Q => ∀ i, (h i).ex.choose σ H Q, fun i => ⟨fun pins s σ H Q I q => (h i).ex.choose_spec.1.run pins s σ H Q I (q i)⟩, fun m σ H ρ f B R Q hm rl hw k i => ?_⟩
  exact (h i).ex.choose_spec.2 m σ H ρ f B R Q (hm.trans (hK i).symm) rl hw k
theorem DTs.fam {ι : Type} {Xs : ι → Cx} {K : PySem.W.Frag} (hK : ∀ i, (Xs i).K = K) (h : ∀ i, DTs (Xs i) ifs wt) : ∃ t : TT, (∀ i, PTs (Xs i) ifs t) ∧ ∀ (m : Fm) (σ : L2.St) (H : Hp) (ρ : List Slot) (f : Nat → List Addr) (B : List Addr) (R : Bool → List Slot → Prop) (Q : Bool → Hp → Prop), m.K = K → Rl m σ H ρ f B → wt ρ R →
    (∀ b ρ' H' f', R b ρ' → PostT m σ H f B ρ' H' f' → Q b H') → t σ H Q := by
  refine ⟨fun σ H Q => ∀ i, (h i).ex.choose σ H Q, fun i => ⟨fun pins s σ H Q I q => (h i).ex.choose_spec.1.run pins s σ H Q I (q i)⟩, fun m σ H ρ f B R Q hm rl hw k i => ?_⟩
  exact (h i).ex.choose_spec.2 m σ H ρ f B R Q (hm.trans (hK i).symm) rl hw k
theorem DG.fam {ι : Type} {Xs : ι → Cx} {K : PySem.W.Frag} {ts : List Nat} (hK : ∀ i, (Xs i).K = K) (h : ∀ i, DG (Xs i) tg ts wg) : ∃ g : TG, (∀ i, PG (Xs i) tg g) ∧ ∀ (m : Fm) (σ : L2.St) (H : Hp) (ρ : List Slot) (f : Nat → List Addr) (B : List Addr) (v : V) (d : PyData) (R : List Slot → Prop) (Q : L2.St → Hp → Prop), m.K = K → Rl m σ H ρ f B → Rp m.K (vw m H f B) v d → wg d ρ R →
    (∀ σ' ρ' f', R ρ' → Rl m σ' H ρ' f' B → RdLe (vw m H f B) (vw m H f' B) → Tch ts σ σ' f f' → Q σ' H) → g v σ H Q := by
  refine ⟨fun v σ H Q => ∀ i, (h i).ex.choose v σ H Q, fun i => ⟨fun pins s σ H v u Q I r q => (h i).ex.choose_spec.1.run pins s σ H v u Q I r (q i)⟩, fun m σ H ρ f B v d R Q hm rl r hw k i => ?_⟩
  exact (h i).ex.choose_spec.2 m σ H ρ f B v d R Q (hm.trans (hK i).symm) rl r hw k
theorem wipe_eq {σ σ2 : L2.St} {vs : List Nat} (hl : σ2.length = σ.length) (h : ∀ j, j ∉ vs → σ2[j]? = σ[j]?) : wipe σ2 vs = wipe σ vs := by
  apply List.ext_getElem?
  intro j
  by_cases hj : j ∈ vs
  · have z : ∀ (τ : L2.St) (us : List Nat), j ∈ us → (wipe τ us)[j]? = if j < τ.length then some none else none := by
      intro τ us
      induction us with
      | nil => intro h; cases h
      | cons u us ih =>
        intro hu
        unfold wipe
        by_cases e : u = j
        · subst e
          by_cases hl : u < τ.length
          · rw [if_pos hl, List.getElem?_set_self (by rw [wipe_length]; exact hl)]
          · rw [if_neg hl, List.getElem?_eq_none (by rw [List.length_set, wipe_length]; omega)]
        · rw [List.getElem?_set_ne e]
          refine ih ?_
          rcases List.mem_cons.mp hu with z | z
          · exact absurd z.symm e
          · exact z
    rw [z σ2 vs hj, z σ vs hj, hl]
  · rw [wipe_get vs hj, wipe_get vs hj, h j hj]
theorem loose_f {m : Fm} {σ : L2.St} {H : Hp} {ρ : List Slot} {f : Nat → List Addr} {B : List Addr} {vs : List Nat} (R : Rl m σ H ρ f B) (lo : loose ρ vs) : ∀ i ∈ vs, f i = [] := fun i hi => by
  cases e : ρ[i]? with
  | none => exact R.out i (List.getElem?_eq_none_iff.mp e)
  | some s =>
    have z := R.sl i s e
    have q := lo i hi
    rw [e] at q
    cases s with
    | un => exact z
    | fz d => exact z.1
    | _ => cases q
theorem lc_read {ti : TI} {g : TG} {tt : TT} {te : TE} {ts vs : List Nat} {m : Fm} {σ : L2.St} {H : Hp} {ρ : List Slot} {f : Nat → List Addr} {B : List Addr} {R : Rs → List Slot → Prop} {Q : VK} (hK : m.K = X.K) (hts : ∀ j ∈ ts, j ∈ vs)
    (hi : ∀ (R : List PyData → (List Slot → Prop) → List Slot → Prop) (Q : It → Hp → Prop), wi ρ R →
      (∀ ds C ρ' J H' f', R ds C ρ' → Rl m σ H' ρ' f' B → Stp m H f B H' f' B → Wlk X.K (fun _ σ' => ∀ (j : Nat) (t : Slot), ρ'[j]? = some t → t.own = true → σ'[j]? = σ[j]?) (vw m H' f' B) J ds C → Q J H') → ti σ H Q)
    (hg : ∀ (m : Fm) (σ : L2.St) (H : Hp) (ρ : List Slot) (f : Nat → List Addr) (B : List Addr) (v : V) (d : PyData) (R : List Slot → Prop) (Q : L2.St → Hp → Prop), m.K = X.K → Rl m σ H ρ f B → Rp m.K (vw m H f B) v d → wg d ρ R →
      (∀ σ' ρ' f', R ρ' → Rl m σ' H ρ' f' B → RdLe (vw m H f B) (vw m H f' B) → Tch ts σ σ' f f' → Q σ' H) → g v σ H Q)
    (ht : ∀ (m : Fm) (σ : L2.St) (H : Hp) (ρ : List Slot) (f : Nat → List Addr) (B : List Addr) (R : Bool → List Slot → Prop) (Q : Bool → Hp → Prop), m.K = X.K → Rl m σ H ρ f B → wt ρ R → (∀ b ρ' H' f', R b ρ' → PostT m σ H f B ρ' H' f' → Q b H') → tt σ H Q)
    (he : ∀ (m : Fm) (σ : L2.St) (H : Hp) (ρ : List Slot) (f : Nat → List Addr) (B : List Addr) (R : Rs → List Slot → Prop) (Q : VK), m.K = X.K → Rl m σ H ρ f B → we ρ R → (∀ r ρ' v H' f' Br, R r ρ' → Post m σ H f B r ρ' v H' f' Br → Q v H') → te σ H Q)
    (hw : wLc wi wg wt we vs ρ R) (k : ∀ r ρ' v H' f' Br, R r ρ' → Post m σ H f B r ρ' v H' f' Br → Q v H') : tLc ti g tt te vs σ H Q := by
  refine hi _ _ hw fun ds C ρ1 J H1 f1 ⟨hlen, lo1, Iv, h0, hC, hs, hd⟩ rl1 st1 wl => ?_
  intro D hD
  obtain ⟨G, Y, W, wG, wy⟩ := wl
  have hDB : D ∉ B := rl1.newB hD
  have rl1' : Rl m σ (upd H1 D (.lst [])) ρ1 f1 ([D] ++ B) := rl1.ext (same_upd hD) fun a ha => by
    obtain rfl : a = D := by simpa using ha
    exact ⟨hD, _, upd_same, rfl⟩
  have st1' : Stp m H1 f1 B (upd H1 D (.lst [])) f1 ([D] ++ B) := .ext rl1 (same_upd hD) fun a ha => by
    obtain rfl : a = D := by simpa using ha
    exact hD
  refine lc_it W (fun i H' => ∃ ρ' f' xs acc, H' D = some (.lst xs) ∧ Rl m σ H' ρ' f' ([D] ++ B) ∧ RpAll m.K (vw m H' f' ([D] ++ B)) xs acc ∧ xs.length ≤ i ∧ Stp m H1 f1 B H' f' ([D] ++ B) ∧ Iv i acc ρ')
    ⟨ρ1, f1, [], [], upd_same, rl1', .nil, Nat.le_refl _, st1', h0⟩ (fun i H' _ ⟨ρ', f', xs, acc, _, rl', _, _, st', q⟩ => wG m σ H' ρ' f' _ hK (fun _ _ _ _ => rfl) rl' st'.le (hC _ _ _ q).1) ?_ ?_
  · rintro i x H2 H3 hi2 ⟨ρ2, f2, xs, acc, hx, rl2, rx, hl, st2, q2⟩ hy
    obtain ⟨C2, lo2⟩ := hC _ _ _ q2
    obtain ⟨sm, d, e, r⟩ := wy i m σ H2 H3 ρ2 f2 _ x hi2 hK (fun _ _ _ _ => rfl) rl2 st2.le C2 hy
    have rl3 : Rl m σ H3 ρ2 f2 ([D] ++ B) := rl2.ext (Br := []) sm (by simp)
    have st3 : Stp m H2 f2 ([D] ++ B) H3 f2 ([D] ++ B) := .ext (Br := []) rl2 sm (by simp)
    have r3 : Rp m.K (vw m H3 f2 ([D] ++ B)) x d := r.up (nxx_vw (Br := []) rl2 sm (by simp))
    have rlb := rl3.blank vs lo2
    have fn := loose_f rl2 lo2
    refine hg m (wipe σ vs) H3 (blank ρ2 vs) f2 _ x d _ _ hK rlb r3 (hs i d acc ρ2 e q2) fun σ4 ρ4 f4 h4 rl4 le4 t4 => ?_
    have ew : wipe σ4 vs = wipe σ vs := by
      have e1 : wipe σ4 vs = wipe (wipe σ vs) vs := wipe_eq t4.len fun j hj => (t4.old j fun z => hj (hts j z)).1
      have e2 : wipe (wipe σ vs) vs = wipe σ vs := wipe_eq (wipe_length σ vs) fun j hj => wipe_get vs hj
      exact e1.trans e2
    have ef : ∀ j, f4 j = f2 j := fun j => by
      by_cases hj : j ∈ ts
      · rw [t4.new j hj, fn j (hts j hj)]
      · exact (t4.old j hj).2
    have st4 : Stp m H3 f2 ([D] ++ B) H3 f4 ([D] ++ B) := ⟨le4, fun _ _ _ h => h, fun j a h => by rw [ef j]; exact h, fun j a h => by rw [ef j] at h; exact .inl h, fun _ h => h, fun _ h => .inl h, fun _ h => h⟩
    refine ⟨ew, ht m σ4 H3 ρ4 f4 _ _ _ hK rl4 h4 fun b ρ5 H5 f5 h5 P5 => ?_⟩
    have stA : Stp m H2 f2 ([D] ++ B) H5 f5 ([D] ++ B) := (st3.trans st4).trans P5.st
    have hx5 : H5 D = some (.lst xs) := stA.held D (by simp) _ hx
    have rx5 : RpAll m.K (vw m H5 f5 ([D] ++ B)) xs acc := rx.up stA.le
    cases b with
    | false =>
      rw [if_neg Bool.false_ne_true]
      rw [if_neg Bool.false_ne_true] at h5
      refine ⟨_, f5, xs, acc, hx5, rl1.give lo1 P5.rl h5.1 ew ?_, rx5, by omega, st2.trans stA, h5.2⟩
      exact (st2.trans stA).le
    | true =>
      rw [if_pos rfl]
      rw [if_pos rfl] at h5
      refine he m σ4 H5 ρ5 f5 _ _ _ hK P5.rl h5 fun r6 ρ6 y H6 f6 Br h6 P6 => ?_
      obtain ⟨nv, h6⟩ := h6
      obtain ⟨ed, e6, lo6, q6⟩ := dat_iff.mp h6
      have ry := P6.fzn e6 nv
      have stB := stA.trans P6.step
      have hx6 : H6 D = some (.lst xs) := stB.held D (by simp) _ hx
      refine ⟨xs, hx6, by omega, ?_⟩
      obtain ⟨rl7, le7⟩ := P6.rl.drop.updB (a := D) (o := .lst (xs ++ [y])) (by simp) rfl
      have stC := st2.trans stB
      have st7 : Stp m H1 f1 B (upd H6 D (.lst (xs ++ [y]))) f6 ([D] ++ B) := ⟨stC.le.trans (.of le7), fun a ha o q => by
        have ne : a ≠ D := fun z => by rw [z] at ha; exact hDB ha
        rw [upd_ne ne]; exact stC.held a ha o q, stC.sub, stC.nw, stC.nb, stC.nb', fun a h => by
        by_cases z : a = D
        · rw [z, upd_same]; rfl
        · rw [upd_ne z]; exact stC.dom a h⟩
      refine ⟨_, f6, xs ++ [y], acc ++ [ed], upd_same, rl1.give lo1 rl7 lo6 ew st7.le, ?_, by rw [List.length_append, List.length_singleton]; omega, st7, q6⟩
      exact ((rx5.up P6.step.le).up (.of le7)).append (.one (ry.up (.of le7)))
  · rintro H2 ⟨ρ2, f2, xs, acc, hx, rl2, rx, hl, st2, q2⟩
    refine k _ _ _ _ _ [D] (hd acc ρ2 q2) ⟨rl2, ⟨D, xs, rfl, rfl, hx, rx⟩, st1.trans st2, fun a ha => ?_⟩
    obtain rfl : a = D := by simpa using ha
    exact hDB
abbrev blkX (X : Cx) (scope : Scope) (i : Shared × Hp × Addr × List (Str × Addr) × List Addr) : Cx := X.blk i.1 i.2.1 scope (compEnvC scope i.2.2.2.1 i.2.2.1 X.env) i.2.2.2.2
theorem de_lc {ts : List Nat} (hc : X.calm = true) (hN : X.N.Nodup) (hi : DIc X tg iter wi) (ok : BlkOk X.N X.env.scope scope own) (hts : ∀ j ∈ ts, j ∈ own.map (·.2)) (hg : ∀ i, DG (blkX X scope i) tg ts wg) (ht : ∀ i, DTs (blkX X scope i) ifs wt) (he : ∀ i, DE (blkX X scope i) elt we)
    (hs : ∀ x, foldedSetIterable iter X.env x = pure x := by intro _; rfl) : DE X (.ListComp elt [⟨tg, iter, ifs, 0⟩] scope pos) (wLc wi wg wt we (own.map (·.2))) := by
  obtain ⟨ti, pi, hi⟩ := hi.ex
  obtain ⟨g, pg, hg⟩ := DG.fam (Xs := blkX X scope) (K := X.K) (fun _ => rfl) hg
  obtain ⟨tt, pt, ht⟩ := DTs.fam (Xs := blkX X scope) (K := X.K) (fun _ => rfl) ht
  obtain ⟨te, pe, he⟩ := DE.fam (Xs := blkX X scope) (K := X.K) (fun _ => rfl) he
  refine ⟨_, pe_lc hc hN pi ok (fun s H C cl fp => pg (s, H, C, cl, fp)) (fun s H C cl fp => pt (s, H, C, cl, fp)) (fun s H C cl fp => pe (s, H, C, cl, fp)) hs, fun m σ H ρ f B R Q hK rl hw k => ?_⟩
  exact lc_read hK hts (fun R Q => hi m σ H ρ f B R Q hK rl) hg ht he hw k
theorem ds_setLc {ts : List Nat} (i : Nat) {y : Str} {py spos : Pos} (hc : X.calm = true) (hN : X.N.Nodup) (hy : X.N[i]? = some y) (hyl : X.env.scope.names.lookup y = some .local) (hsw : swapsWith (.ListComp elt [⟨tg, iter, ifs, 0⟩] scope pos) (some (.Name y py)) spos.line X.env = pure true)
    (hi : DIc X tg iter wi) (ok : BlkOk X.N X.env.scope scope own) (hts : ∀ j ∈ ts, j ∈ own.map (·.2)) (hg : ∀ i, DG (blkX X scope i) tg ts wg) (ht : ∀ i, DTs (blkX X scope i) ifs wt) (he : ∀ i, DE (blkX X scope i) elt we)
    (hs : ∀ x, foldedSetIterable iter X.env x = pure x := by intro _; rfl) : DS X (.Assign [.Name y py] (.ListComp elt [⟨tg, iter, ifs, 0⟩] scope pos) spos) (wSet i (wLc wi wg wt we (own.map (·.2)))) := by
  obtain ⟨ti, pi, hi⟩ := hi.ex
  obtain ⟨g, pg, hg⟩ := DG.fam (Xs := blkX X scope) (K := X.K) (fun _ => rfl) hg
  obtain ⟨tt, pt, ht⟩ := DTs.fam (Xs := blkX X scope) (K := X.K) (fun _ => rfl) ht
  obtain ⟨te, pe, he⟩ := DE.fam (Xs := blkX X scope) (K := X.K) (fun _ => rfl) he
  refine ⟨_, ps_setLc hc hN hy hyl hsw pi ok (fun s H C cl fp => pg (s, H, C, cl, fp)) (fun s H C cl fp => pt (s, H, C, cl, fp)) (fun s H C cl fp => pe (s, H, C, cl, fp)) hs, fun m σ H ρ f E D hK rl hw L => ?_⟩
  exact set_read rl (fun R Q hw k => lc_read hK hts (fun R Q => hi m σ H ρ f [] R Q hK rl) hg ht he hw k) hw L
/-- a comprehension that changes nothing: kept by p, made by h -/
theorem lc_pure {vs : List Nat} {ρ1 : List Slot} {R : Rs → List Slot → Prop} {ds : List PyData} {C : List Slot → Prop} (p : PyData → Bool) (h : PyData → PyData) (hl : ds.length ≤ sizeLine) (lo : loose ρ1 vs) (hC : C ρ1)
    (turn : ∀ (i : Nat) (d : PyData), ds[i]? = some d → wg d (blank ρ1 vs) fun ρ2 => wt ρ2 fun b ρ3 => if b = true then we ρ3 fun r ρ4 => r.isVar = false ∧ dat ρ4 r fun e => loose ρ4 vs ∧ (p d = true ∧ e = h d ∧ giveB ρ1 ρ4 vs = ρ1) else loose ρ3 vs ∧ (p d = false ∧ giveB ρ1 ρ3 vs = ρ1))
    (mono : ∀ d ρ (A B : List Slot → Prop), (∀ ρ, A ρ → B ρ) → wg d ρ A → wg d ρ B) (monoT : ∀ ρ (A B : Bool → List Slot → Prop), (∀ b ρ, A b ρ → B b ρ) → wt ρ A → wt ρ B) (monoE : ∀ ρ (A B : Rs → List Slot → Prop), (∀ b ρ, A b ρ → B b ρ) → we ρ A → we ρ B)
    (hR : R (.ol ((ds.filter p).map h)) ρ1) : LcIn wg wt we vs R ds C ρ1 := by
  refine ⟨hl, lo, fun i acc ρ => ρ = ρ1 ∧ acc = ((ds.take i).filter p).map h, ⟨rfl, by simp⟩, ?_, ?_, ?_⟩
  · rintro i acc ρ ⟨rfl, _⟩
    exact ⟨hC, lo⟩
  · rintro i d acc ρ e ⟨rfl, rfl⟩
    have tk : ds.take (i + 1) = ds.take i ++ [d] := by rw [List.take_add_one, e]; rfl
    refine mono _ _ _ _ (fun ρ2 h2 => monoT _ _ _ (fun b ρ3 h3 => ?_) h2) (turn i d e)
    cases b with
    | false =>
      rw [if_neg Bool.false_ne_true] at h3 ⊢
      obtain ⟨l, e1, e2⟩ := h3
      exact ⟨l, e2, by rw [tk, List.filter_append]; simp [e1]⟩
    | true =>
      rw [if_pos rfl] at h3 ⊢
      refine monoE _ _ _ (fun r ρ4 h4 => ?_) h3
      obtain ⟨nv, h4⟩ := h4
      obtain ⟨ed, e1, l, e2, e3, e4⟩ := dat_iff.mp h4
      exact ⟨nv, dat_iff.mpr ⟨ed, e1, l, e4, by rw [tk, List.filter_append]; simp [e2, e3]⟩⟩
  · rintro acc ρ ⟨rfl, rfl⟩
    rw [List.take_length]
    exact hR
end
end Dn
/-! Dn9: operators by data. -/
namespace Dn
open PySem PySem.Spec PyProof.Rows L2

section
variable {X : Cx}
theorem opr_or {g : Value → Value → Sem Value} {r1 r2 : R2} (h1 : OpR X g r1) (h2 : OpR X g r2) : OpR X g (fun x y H Q => r1 x y H Q ∨ r2 x y H Q) := by
  intro pins s σ H x y v u Q I rx ry h
  rcases h with h | h
  · exact h1 pins s σ H x y v u Q I rx ry h
  · exact h2 pins s σ H x y v u Q I rx ry h
theorem Rp.strv {K : PySem.W.Frag} {F : Hp} {v : V} {b : Str} (h : Rp K F v (.str b)) : v = .str b := by cases h; rfl
theorem Rp.nonv {K : PySem.W.Frag} {F : Hp} {v : V} (h : Rp K F v .none) : v = .non := by cases h; rfl
/-! to the kit's own reading of data -/
mutual
theorem Rp.dp {K : PySem.W.Frag} {F : Hp} : ∀ (d : PyData) {v : V}, d.canLay0 = true → Rp K F v d → Dp K F v d
  | .none, _, _, h => by cases h; exact .non
  | .bool b, _, _, h => by cases h; exact .bl b
  | .int i, _, _, h => by cases h; exact .int i
  | .str x, _, _, h => by cases h; exact .str x
  | .list ds, _, c, h => by
    cases h with
    | lst hs ha => exact .lst hs (RpAll.dp ds (by simpa [PyData.canLay0] using c) ha)
  | .tuple ds, _, c, h => by
    cases h with
    | tup hs ha => exact .tup hs (RpAll.dp ds (by simpa [PyData.canLay0] using c) ha)
  | .dict es, _, c, h => by simp [PyData.canLay0] at c
theorem RpAll.dp {K : PySem.W.Frag} {F : Hp} : ∀ (ds : List PyData) {vs : List V}, PyData.canLayAll0 ds = true → RpAll K F vs ds → DpAll K F vs ds
  | [], _, _, h => by cases h; exact .nil
  | d :: ds, _, c, h => by
    have c' : d.canLay0 = true ∧ PyData.canLayAll0 ds = true := by simpa [PyData.canLayAll0] using c
    cases h with
    | cons h1 h2 => exact .cons (Rp.dp d c'.1 h1) (RpAll.dp ds c'.2 h2)
end
theorem shaped_lay {d : PyData} (h : SeqAt.shaped d = true) : d.canLay0 = true := by
  have h' : (d.canLay0 && decide (d.depth ≤ 64)) = true := h
  rw [Bool.and_eq_true] at h'
  exact h'.1

/-! + -/
theorem op_catL : OpR X (binaryOp .Add) (fun x y H Q => ∃ a b xs ys, x = .ref a ∧ y = .ref b ∧ SqL X.K H a xs ∧ SqL X.K H b ys ∧ xs.length + ys.length ≤ sizeLine ∧ ∀ p, H p = none → Q (.ref p) (upd H p (.lst (xs ++ ys)))) := by
  intro pins s σ H x y v u Q I rx ry h
  obtain ⟨a, b, xs, ys, rfl, rfl, ha, hb, hz, q⟩ := h
  cases rx
  cases ry
  obtain ⟨its, r1, ⟨⟨c1, d1, t1, s1⟩, n1, o1, e1, e2, e3⟩, _⟩ := I.list ha
  obtain ⟨its2, r2, ⟨⟨c2, d2, t2, s2⟩, n2, o2, e4, e5, e6⟩, _⟩ := I.list hb
  simp only at e1 e2 e3 e4 e5 e6
  subst e1 e2 e3 e4 e5 e6
  have hl1 := r1.length
  have hl2 := r2.length
  refine concat_meets ⟨_, o1, rfl⟩ ⟨_, o2, rfl⟩ noFill_list_add seq_list_add PySem.F.slot_list_add PySem.F.entry_list_add (PySem.F.args_list_add_2 _ _) (list_addW a b its.toArray its2.toArray n1 n2 _ _ s1 s2 (by rw [List.size_toArray, List.size_toArray]; omega)) ⟨o1, o2, ?_⟩
  have ea : its.toArray ++ its2.toArray = (its ++ its2).toArray := by simp
  rw [ea]
  exact ⟨.ref _, _, I.lnew (t' := s.toks) (r1.append r2) (by rw [List.length_append]; omega), rfl, q _ I.fresh⟩
@[simp] def oAdd : O2 := fun d e R => match d, e with
  | .int i, .int j => R (.fz (.int (i + j)))
  | .str x, .str y => x.length + y.length ≤ sizeLine ∧ R (.fz (.str (x ++ y)))
  | .list xs, .list ys => xs.length + ys.length ≤ sizeLine ∧ R (.ol (xs ++ ys))
  | .tuple xs, .tuple ys => xs.length + ys.length ≤ sizeLine ∧ R (.fz (.tuple (xs ++ ys)))
  | _, _ => False
theorem oAdd_ok : OpD X (binaryOp .Add) oAdd := by
  refine ⟨_, opr_or op_add (opr_or op_add_str (opr_or op_catL op_catA)), fun F H x y d e R Q s h1 h2 ho k => ?_⟩
  unfold oAdd at ho
  split at ho
  · rename_i i j
    exact .inl ⟨i, j, h1.intv, h2.intv, k _ _ _ ho (.refl _) (.int _)⟩
  · rename_i i j
    exact .inr (.inl ⟨i, j, h1.strv, h2.strv, ho.1, k _ _ _ ho.2 (.refl _) (.str _)⟩)
  · rename_i ds es
    cases h1 with
    | lst hs1 ha1 =>
      cases h2 with
      | lst hs2 ha2 =>
        have q1 := ha1.length
        have q2 := ha2.length
        have le : RdLe F H := .of s
        refine .inr (.inr (.inl ⟨_, _, _, _, rfl, rfl, le.seqL hs1, le.seqL hs2, by omega, fun p hp => ?_⟩))
        exact k _ _ _ ho.2 (same_upd hp) ⟨p, _, rfl, hp, upd_same, (ha1.append ha2).up (nxx_of s (by simp [hp]))⟩
  · rename_i ds es
    cases h1 with
    | tup hs1 ha1 =>
      cases h2 with
      | tup hs2 ha2 =>
        rename_i a xs b ys
        have q1 := ha1.length
        have q2 := ha2.length
        have le : RdLe F H := .of s
        have n0 : RdLe F (nxx F H H []) := nxx_of s (by simp)
        refine .inr (.inr (.inr ⟨_, _, _, _, rfl, rfl, le.seqT hs1, le.seqT hs2, by omega, fun z => ?_, fun z1 z2 => ?_, fun z1 z2 p hp => ?_⟩))
        · subst z
          cases ha1
          exact k _ _ _ ho.2 (.refl _) (.tup (n0.seqT hs2) (ha2.up n0))
        · subst z2
          cases ha2
          rw [List.append_nil] at ho
          exact k _ _ _ ho.2 (.refl _) (.tup (n0.seqT hs1) (ha1.up n0))
        · refine k _ _ _ ho.2 (same_upd hp) (.tup (SqT.of (nxx_iff.mpr ⟨by simp, .inr ⟨hp, upd_same⟩⟩)) ((ha1.append ha2).up (nxx_of s (by simp))))
  · exact ho.elim

/-! - * // % ** -/
@[simp] def oI (c : Int → Int → Prop) (g : Int → Int → Int) : O2 := fun d e R => match d, e with
  | .int i, .int j => c i j ∧ R (.fz (.int (g i j)))
  | _, _ => False
theorem oI_iff {c : Int → Int → Prop} {g : Int → Int → Int} {d e : PyData} {R : Rs → Prop} (h : oI c g d e R) : ∃ i j, d = .int i ∧ e = .int j ∧ c i j ∧ R (.fz (.int (g i j))) := by
  unfold oI at h
  split at h
  · exact ⟨_, _, rfl, rfl, h.1, h.2⟩
  · exact h.elim
theorem oI_of {c : Int → Int → Prop} {g : Int → Int → Int} {f : Value → Value → Sem Value} (h : OpR X f (rI c fun i j => .int (g i j))) : OpD X f (oI c g) := by
  refine ⟨_, h, fun F H x y d e R Q s h1 h2 ho k => ?_⟩
  obtain ⟨i, j, rfl, rfl, hc, hr⟩ := oI_iff ho
  exact ⟨i, j, h1.intv, h2.intv, hc, k _ _ _ hr (.refl _) (.int _)⟩
theorem oI_of0 {g : Int → Int → Int} {f : Value → Value → Sem Value} (h : OpR X f (rI0 fun i j => .int (g i j))) : OpD X f (oI (fun _ _ => True) g) := by
  refine ⟨_, h, fun F H x y d e R Q s h1 h2 ho k => ?_⟩
  obtain ⟨i, j, rfl, rfl, hc, hr⟩ := oI_iff ho
  exact ⟨i, j, h1.intv, h2.intv, k _ _ _ hr (.refl _) (.int _)⟩
@[simp] def oSub : O2 := oI (fun _ _ => True) fun i j => i - j
theorem oSub_ok : OpD X (binaryOp .Sub) oSub := oI_of0 op_sub
@[simp] def oMul : O2 := oI (fun i j => CMul i j ∨ CMulW i j) fun i j => i * j
theorem oMul_ok : OpD X (binaryOp .Mult) oMul := by
  refine oI_of fun pins s σ H x y v u Q I rx ry h => ?_
  obtain ⟨i, j, e1, e2, hc, q⟩ := h
  rcases hc with hc | hc
  · exact op_mul pins s σ H x y v u Q I rx ry ⟨i, j, e1, e2, hc, q⟩
  · exact op_mulW pins s σ H x y v u Q I rx ry ⟨i, j, e1, e2, hc, q⟩
/-- // : a small divisor not 0, or a great one above 0 -/
def cDiv (i j : Int) : Prop := CDivN i j ∨ CDivW i j
@[simp] def oDiv : O2 := oI cDiv fun i j => i.fdiv j
theorem oDiv_ok : OpD X (binaryOp .FloorDiv) oDiv := by
  refine oI_of fun pins s σ H x y v u Q I rx ry h => ?_
  obtain ⟨i, j, e1, e2, hc, q⟩ := h
  rcases hc with hc | hc
  · exact op_fdivN pins s σ H x y v u Q I rx ry ⟨i, j, e1, e2, hc, q⟩
  · exact op_fdivW pins s σ H x y v u Q I rx ry ⟨i, j, e1, e2, hc, by
      have h1 : (0 : Int) < j := hc.1
      have e := Int.fdiv_eq_ediv_of_nonneg i (b := j) (by omega)
      show Q (V.int (i / j)) H
      rw [← e]
      exact q⟩
@[simp] def oMod : O2 := oI (fun _ j => j ≠ 0) fun i j => i.fmod j
theorem oMod_ok : OpD X (binaryOp .Mod) oMod := oI_of op_modN
theorem op_powW : OpR X (binaryOp .Pow) (rI (fun i j => 0 ≤ j ∧ (Builtin.Int.intBits i : Int) * j ≤ 2 ^ 27) fun i j => .int (i ^ j.toNat)) := by
  intro pins s σ H x y v u Q I rx ry h
  obtain ⟨i, j, rfl, rfl, ⟨h0, h1⟩, q⟩ := h
  obtain ⟨t, rfl⟩ := rx
  obtain ⟨t', rfl⟩ := ry
  exact pow_int h0 h1 ⟨.int _, H, I.tok _, ⟨_, rfl⟩, q⟩
@[simp] def oPow : O2 := oI (fun i j => 0 ≤ j ∧ (Builtin.Int.intBits i : Int) * j ≤ 2 ^ 27) fun i j => i ^ j.toNat
theorem oPow_ok : OpD X (binaryOp .Pow) oPow := oI_of op_powW

/-! comparisons -/
@[simp] def oCmp (op : CmpOp) : O2 := fun d e R => match d, e with
  | .int i, .int j => match iCmp op i j with
    | some b => R (.fz (.bool b))
    | none => False
  | _, _ => False
theorem oCmp_ok {op : CmpOp} (h : ∃ k, iCmp op 0 0 = some k := by exact ⟨_, rfl⟩) : OpD X (compareOp op) (oCmp op) := by
  refine ⟨_, op_iCmp h, fun F H x y d e R Q s h1 h2 ho k => ?_⟩
  unfold oCmp at ho
  split at ho
  · rename_i i j
    split at ho
    · rename_i b q
      exact ⟨i, j, b, h1.intv, h2.intv, q, k _ _ _ ho (.refl _) (.bl _)⟩
    · exact ho.elim
  · exact ho.elim
@[simp] def oEq : O2 := fun d e R => SeqAt.shaped d = true ∧ SeqAt.shaped e = true ∧ R (.fz (.bool (PyData.eqv d e)))
@[simp] def oNe : O2 := fun d e R => SeqAt.shaped d = true ∧ SeqAt.shaped e = true ∧ R (.fz (.bool (!PyData.eqv d e)))
theorem oEq_ok (hu : X.A.units + 64 < cLine) : OpD X (compareOp .Eq) oEq := by
  refine ⟨_, op_eqD hu, fun F H x y d e R Q s h1 h2 ho k => ?_⟩
  have le : RdLe F H := .of s
  exact ⟨d, e, (h1.up le).dp d (shaped_lay ho.1), (h2.up le).dp e (shaped_lay ho.2.1), ho.1, ho.2.1, k _ _ _ ho.2.2 (.refl _) (.bl _)⟩
theorem oNe_ok (hu : X.A.units + 64 < cLine) : OpD X (compareOp .NotEq) oNe := by
  refine ⟨_, op_neD hu, fun F H x y d e R Q s h1 h2 ho k => ?_⟩
  have le : RdLe F H := .of s
  exact ⟨d, e, (h1.up le).dp d (shaped_lay ho.1), (h2.up le).dp e (shaped_lay ho.2.1), ho.1, ho.2.1, k _ _ _ ho.2.2 (.refl _) (.bl _)⟩
/-! is -/
@[simp] def isNon : PyData → Bool
  | .none => true
  | _ => false
@[simp] def oIs : O2 := fun d e R => match d, e with
  | .bool a, .bool b => R (.fz (.bool (decide (a = b))))
  | .none, .none => R (.fz (.bool true))
  | .int _, .none => R (.fz (.bool false))
  | .str _, .none => R (.fz (.bool false))
  | .tuple _, .none => R (.fz (.bool false))
  | .list _, .none => R (.fz (.bool false))
  | .dict _, .none => R (.fz (.bool false))
  | _, _ => False
@[simp] def oIsnt : O2 := fun d e R => oIs d e fun r => match r with
  | .fz (.bool b) => R (.fz (.bool (!b)))
  | _ => False
theorem oIs_iff {d e : PyData} {R : Rs → Prop} (h : oIs d e R) : (∃ a b, d = .bool a ∧ e = .bool b ∧ R (.fz (.bool (decide (a = b))))) ∨ (e = .none ∧ (d = .none ∨ (∀ b, d ≠ .bool b) ∧ d ≠ .none) ∧ R (.fz (.bool (isNon d)))) := by
  unfold oIs at h
  split at h
  · exact .inl ⟨_, _, rfl, rfl, h⟩
  · exact .inr ⟨rfl, .inl rfl, h⟩
  all_goals first | exact .inr ⟨rfl, .inr ⟨(by intro b z; cases z), (by intro z; cases z)⟩, h⟩ | exact h.elim
theorem Rp.isN {K : PySem.W.Frag} {F : Hp} {v : V} {d : PyData} (h : Rp K F v d) : decide (v = V.non) = isNon d := by cases h <;> rfl
theorem oIs_ok : OpD X (compareOp .Is) oIs := by
  refine ⟨_, opr_or op_isBl op_isN, fun F H x y d e R Q s h1 h2 ho k => ?_⟩
  rcases oIs_iff ho with ⟨a, b, rfl, rfl, hr⟩ | ⟨rfl, _, hr⟩
  · exact .inl ⟨a, b, h1.bool, h2.bool, k _ _ _ hr (.refl _) (.bl _)⟩
  · exact .inr ⟨h2.nonv, by rw [h1.isN]; exact k _ _ _ hr (.refl _) (.bl _)⟩
theorem oIsnt_ok : OpD X (compareOp .IsNot) oIsnt := by
  refine ⟨_, opr_or op_notBl op_notN, fun F H x y d e R Q s h1 h2 ho k => ?_⟩
  rcases oIs_iff ho with ⟨a, b, rfl, rfl, hr⟩ | ⟨rfl, _, hr⟩
  · exact .inl ⟨a, b, h1.bool, h2.bool, k _ _ _ hr (.refl _) (.bl _)⟩
  · exact .inr ⟨h2.nonv, by rw [h1.isN]; exact k _ _ _ hr (.refl _) (.bl _)⟩
end
end Dn
/-! DnG: promises of defs that run where no guard is under way (so a repr may be read). -/
namespace Dn
open PySem PySem.Spec PyProof.Rows L2

def Clear (A : Around) : Prop := A.guards = some []
theorem clear_deeper {A : Around} {env : Env} (h : Clear A) : Clear (A.deeper env) := h
structure FnG (P : Program) (w : World) (K : PySem.W.Frag) (mg : Str → Option Value) (base : Heap)
    (k : Nat) (f : Addr) (fd : FuncData) (ps : List Str) (sp : Sp) : Prop where
  many : ∀ vs H Q, sp vs H Q E0 → vs.length = ps.length
  go : ∀ (A : Around) (out : List Env) (s : Shared) (H : Hp) (ar : Args) (us : List Value) (vs : List V) (Q : VK),
    Room k A → Clear A → Env0 P w K mg base A out s H → BindsTo s fd ar (ps.zip us) → Vals vs us →
    sp vs H Q E0 → codeAny (model P w) A (.call (.ref f) ar) (CR CX0 out P w H s Q E0) s
section
variable {P : Program} {w : World} {K : PySem.W.Frag} {mg : Str → Option Value} {base : Heap}
theorem FnG.mono {j k : Nat} {f : Addr} {fd : FuncData} {ps : List Str} {sp : Sp} (F : FnG P w K mg base j f fd ps sp) (h : j ≤ k) : FnG P w K mg base k f fd ps sp :=
  ⟨F.many, fun A out s H ar us vs Q hr hc => F.go A out s H ar us vs Q (hr.mono h) hc⟩
/-- THE RULE for a def -/
theorem Fun.okG {x q : Str} {st : Stmt} {f : Addr} {fd : FuncData} {N ps : List Str} {k : Nat} {sp : Sp} (F : Fun K x q st f fd) (S : FnScope N ps (defScope st))
    (many : ∀ vs H Q, sp vs H Q E0 → vs.length = ps.length)
    (body : ∀ (cdv : Value) (A : Around) (out : List Env) (s : Shared) (H : Hp) (vs : List V) (Q : VK),
      Room k (A.deeper (envOfC q (defScope st) s.heap.objs.size f cdv)) → Clear A → sp vs H Q E0 →
      ∃ t, PSs (cxOf CX0 P w K mg base N q (defScope st) f cdv A out s H E0).nox (defBody st) t ∧
        t { nx := fun _ H' => Q .non H', rt := Q } (L2.start N vs) H) :
    FnG P w K mg base (k + 1) f fd ps sp := by
  obtain ⟨oc, od, kV, doc, pm, an, cdv, ct, osl, rfl, lk, code⟩ := F.ex
  refine ⟨many, ?_⟩
  intro A out s H ar us vs Q room clear e0 bound rv want
  have len := many vs H Q want
  have kin : K.In s.heap := e0.mod.kin.keeps fun b o z => (e0.bs b o z).1
  have unl : s.heap.NoLimit := e0.mod.nolimit.keeps fun b o z => (e0.bs b o z).1
  have kinds : ∀ y ∈ ps.zip us, (defScope st).names.lookup y.1 = some .local ∨
      ((defScope st).names.lookup y.1 = some .cell ∧ ((cellsFrom (s.heap.objs.size + 1) (defScope st).names []).lookup y.1).isSome = true) := by
    rintro ⟨n, v⟩ mem
    cases S.par n (List.of_mem_zip mem).1 with
    | inl z => exact .inl z
    | inr z => exact .inr ⟨z, PySem.W.cellsFrom_some _ _ _ (.inl z)⟩
  have got := kin _ _ lk
  apply codeAny_call_function room.depth got rfl S.co S.gen rfl
  · exact PySem.W.codeRec_of kin code
  · apply bound
    apply wpAny_newFunctionEnv_cells S.kind kinds
    rintro env rfl s1 inCall
    refine ⟨unl.keeps inCall.toInCall.keep, codeAny_func ?_⟩
    obtain ⟨t, ht, rd⟩ := body cdv A out s H vs Q (room.deeper _) clear want
    have inv : L2.Inv (cxOf CX0 P w K mg base N q (defScope st) f cdv A out s H E0) [] (L2.start N vs) H s1 := inv_start S room.hd e0 len rv inCall
    have run := (ht.nox).run [] s1 (L2.start N vs) H _ inv rd
    refine wpAny_mono run ?_ fun e s' z => z
    intro fl s' z
    cases fl with
    | brk => exact (show False from z.choose_spec.choose_spec.2).elim
    | cont => exact (show False from z.choose_spec.choose_spec.2).elim
    | ret u =>
      obtain ⟨v, σ', H', J, r, qq⟩ := z
      exact ⟨v, H', J.os, J.bare, J.base, J.hok, r, qq⟩
    | next =>
      obtain ⟨σ', H', J, qq⟩ := z
      exact ⟨V.non, H', J.os, J.bare, J.base, J.hok, rfl, qq⟩
end
section
variable {X : Cx} {k : Nat} {f : Addr} {fd : FuncData} {ps : List Str} {sp : Sp} {x : Str} {p pos : Pos} {e : Expr} {es : List Expr} {t : TA}
theorem pe_callG {n : Nat} (F : FnG X.prog X.w X.K X.mg X.base k f fd ps sp) (room : Room k X.A) (clear : Clear X.A) (hg : Gl X x) (hm : X.mg x = some (.ref f)) (kept : PySem.W.keepIn X.K (.ref f) = true)
    (binds : Binds X.K fd ps []) (ha : PA X (e :: es) t)
    (hdb : (x == ("__debug__" : Str)) = false := by decide) (he : starEach (e :: es) X.env = (false, eval e X.env) :: starEach es X.env := by rfl) (hpl : (backTo pos (starEach es X.env)).any (·.1) = false := by rfl) :
    PE X (.Call (.Name x p) (e :: es) [] pos) (fun σ H Q => t σ H fun vs H1 => sp vs H1 Q E0) := by
  constructor
  intro pins s σ H Q I want
  apply wpAny_Call_Name_kw
  refine ld_glob I hg hm ?_ hdb
  refine PySem.W.callWith_K (h₀ := X.base) I.ok.mod.kin kept ?_ he hpl
  refine wpAny_mono (ha.run pos pins s σ H _ I want) ?_ fun e s' z => z
  rintro us s1 ⟨vs, H1, I1, r, rd⟩
  refine ⟨I1.kIn, wpAny_call ?_⟩
  have hl : us.length = ps.length := r.length.symm.trans (F.many _ _ _ rd)
  have bd := binds s1 us I1.kIn (by rw [List.append_nil]; exact hl)
  rw [List.append_nil] at bd
  refine codeAny_mono (F.go X.A X.stack s1 H1 ⟨us, []⟩ us vs Q room clear I1.env0 bd r rd) fun r' s' z => ?_
  cases r' with
  | error e => exact (show False from z).elim
  | ok fl =>
    cases fl with
    | ret u => exact I1.after z
    | next => exact z
    | brk => exact z
    | cont => exact z
end
end Dn
/-! DnC: defs of the text: what they promise, their calls. -/
namespace Dn
open PySem PySem.Spec PyProof.Rows L2

/-! ### promises -/
/-- data that do not lie on the heap -/
@[simp] def flt : PyData → Bool
  | .none | .bool _ | .int _ | .str _ => true
  | _ => false
theorem Rp.flt {K : PySem.W.Frag} {F F' : Hp} {v : V} {d : PyData} (f : Dn.flt d = true) (h : Rp K F v d) : Rp K F' v d := by
  cases h with
  | non => exact .non
  | bl b => exact .bl b
  | int i => exact .int i
  | str x => exact .str x
  | lst _ _ => cases f
  | tup _ _ => cases f
  | dct _ _ => cases f
theorem RpAll.flt {K : PySem.W.Frag} {F F' : Hp} {vs : List V} : ∀ {ds : List PyData} {vs : List V}, ds.all Dn.flt = true → RpAll K F vs ds → RpAll K F' vs ds
  | [], _, _, h => by cases h; exact .nil
  | d :: ds, _, f, h => by
    rw [List.all_cons, Bool.and_eq_true] at f
    cases h with
    | cons h1 h2 => exact .cons (h1.flt f.1) (RpAll.flt (vs := vs) f.2 h2)
/-- a def that changes nothing: from data to a result -/
def spD (K : PySem.W.Frag) (n : Nat) (W : OA) : Sp := fun vs H Q _ => ∃ (F : Hp) (ds : List PyData) (R : Rs → Prop), vs.length = n ∧ Same F H ∧ TupLe H F ∧ RpAll K F vs ds ∧ W ds R ∧ ∀ z v H', R z → Same H H' → ResOk K F H H' v z → Q v H'
/-- a def that changes the list of its first parameter (of data that do not lie on the heap) -/
abbrev OM := List PyData → List PyData → (Rs → List PyData → Prop) → Prop
def spM (K : PySem.W.Frag) (n : Nat) (W : OM) : Sp := fun vs H Q _ => ∃ (F : Hp) (p : Addr) (xs : List V) (d0 : List PyData) (ws : List V) (ds : List PyData) (R : Rs → List PyData → Prop), vs = .ref p :: ws ∧ vs.length = n ∧ Same F H ∧ TupLe H F ∧ F p = none ∧ H p = some (.lst xs) ∧
  d0.all flt = true ∧ RpAll K F xs d0 ∧ RpAll K F ws ds ∧ W d0 ds R ∧ ∀ z d1 xs1 v H', R z d1 → (∀ b o, b ≠ p → H b = some o → H' b = some o) → H' p = some (.lst xs1) → d1.all flt = true → RpAll K F xs1 d1 → ResOk K F H H' v z → Q v H'
/-- where a def stands and what it promises -/
def Ok (P : Program) (w : World) (K : PySem.W.Frag) (mg : Str → Option Value) (base : Heap) (k : Nat) (x : Str) (st : Stmt) (ps : List Str) (sp : Sp) : Prop :=
  ∃ f fd, mg x = some (.ref f) ∧ Fun K x x st f fd ∧ Binds K fd ps [] ∧ FnG P w K mg base k f fd ps sp
theorem Ok.mono {P : Program} {w : World} {K : PySem.W.Frag} {mg : Str → Option Value} {base : Heap} {j k : Nat} {x : Str} {st : Stmt} {ps : List Str} {sp : Sp} (h : Ok P w K mg base j x st ps sp) (l : j ≤ k) : Ok P w K mg base k x st ps sp := by
  obtain ⟨f, fd, a, b, c, d⟩ := h
  exact ⟨f, fd, a, b, c, d.mono l⟩

/-! ### a call that changes nothing -/
section
variable {X : Cx} {pos p : Pos} {a : Expr} {es : List Expr} {ws : WA} {x : Str} {st : Stmt} {ps : List Str} {k n : Nat}
theorem spD_read {W : OA} {t : TA} {m : Fm} {σ : L2.St} {H : Hp} {ρ : List Slot} {f : Nat → List Addr} {B : List Addr} {R : Rs → List Slot → Prop} {Q : VK} (hK : m.K = X.K)
    (ha : ∀ (R : List Rs → List Slot → Prop) (Q : List V → Hp → Prop), ws ρ R → (∀ rs ρ' vs H' f' Bs, R rs ρ' → PostA m σ H f B rs ρ' vs H' f' Bs → Q vs H') → t σ H Q)
    (hw : wCall (fun ds R => ds.length = n ∧ W ds R) ws ρ R) (k : ∀ r ρ' v H' f' Br, R r ρ' → Post m σ H f B r ρ' v H' f' Br → Q v H') : t σ H fun vs H1 => spD X.K n W vs H1 Q E0 :=
  call_read (r := fun vs H1 Q => spD X.K n W vs H1 Q E0) hK (fun F H vs ds R Q s tl r ⟨hl, h⟩ k => ⟨F, ds, R, r.length.trans hl, s, tl, r, h, k⟩) ha hw k
@[simp] def wDef (n : Nat) (W : OA) (ws : WA) : WE := wCall (fun ds R => ds.length = n ∧ W ds R) ws
theorem de_call {W : OA} (F : Ok X.prog X.w X.K X.mg X.base k x st ps (spD X.K n W)) (hr : Room k X.A) (hc : Clear X.A) (hg : Gl X x) (ha : DA X (a :: es) ws)
    (hdb : (x == ("__debug__" : Str)) = false := by decide) (he : starEach (a :: es) X.env = (false, eval a X.env) :: starEach es X.env := by rfl) (hpl : (backTo pos (starEach es X.env)).any (·.1) = false := by rfl) :
    DE X (.Call (.Name x p) (a :: es) [] pos) (wDef n W ws) := by
  obtain ⟨f, fd, hm, hF, hb, ok⟩ := F
  obtain ⟨t, pa, ha⟩ := ha.ex
  exact ⟨_, pe_callG (n := n) ok hr hc hg hm hF.kp hb pa hdb he hpl, fun m σ H ρ f B R Q hK rl hw k => spD_read hK (fun R Q => ha m σ H ρ f B R Q hK rl) hw k⟩

/-! keyword arguments -/
structure DK (X : Cx) (kws : List Keyword) (w : WA) : Prop where
  ex : ∃ t : TA, PK X kws t ∧ ∀ (m : Fm) (σ : L2.St) (H : Hp) (ρ : List Slot) (f : Nat → List Addr) (B : List Addr) (R : List Rs → List Slot → Prop) (Q : List V → Hp → Prop), m.K = X.K → Rl m σ H ρ f B → w ρ R →
    (∀ rs ρ' vs H' f' Bs, R rs ρ' → PostA m σ H f B rs ρ' vs H' f' Bs → Q vs H') → t σ H Q
theorem dk_nil : DK X [] wNil := ⟨_, pk_nil, fun m σ H ρ f B R Q hK rl hw k => k [] ρ [] H f [] hw ⟨rl, .nil, .refl, by simp, .nil⟩⟩
theorem dk_cons {wa : WE} {kws : List Keyword} {nm : Option Str} {kp : Pos} (ha : DE X a wa) (hr : DK X kws ws) : DK X (⟨nm, a, kp⟩ :: kws) (wCons wa ws) := by
  obtain ⟨ta, pa, ha⟩ := ha.ex
  obtain ⟨tr, pr, hr⟩ := hr.ex
  refine ⟨_, pk_cons pa pr, fun m σ H ρ f B R Q hK rl hw k => ?_⟩
  refine ha m σ H ρ f B _ _ hK rl hw fun r ρ1 x H1 f1 B1 h P1 => ?_
  refine hr m σ H1 ρ1 f1 (B1 ++ B) _ _ hK P1.rl h fun rs ρ2 vs H2 f2 Bs h P2 => ?_
  have e : (B1 :: Bs).reverse.flatten ++ B = Bs.reverse.flatten ++ (B1 ++ B) := by simp [List.append_assoc]
  refine k _ _ _ _ f2 (B1 :: Bs) h ⟨by rw [e]; exact P2.rl, by rw [e]; exact .cons (P1.later (ρ2 := ρ2) P2.st) P2.ok, by rw [e]; exact P1.st.trans P2.st, ?_, ?_⟩
  · intro y hy
    simp only [List.reverse_cons, List.flatten_append, List.flatten_cons, List.flatten_nil, List.append_nil, List.mem_append] at hy
    rcases hy with hy | hy
    · exact fun z => P2.dis y hy (List.mem_append_right _ z)
    · exact P1.dis y hy
  · exact .cons (fun d hd y hy z => P2.dis y (List.mem_flatten.mpr ⟨d, by simpa using hd, z⟩) (List.mem_append_left _ hy)) P2.nd
/-- f(k = v, ..), all parameters given so: g puts the values in the parameters' order -/
theorem pe_callGK {t : TA} {kws : List Keyword} {ks : List Str} {f : Addr} {fd : FuncData} {sp : Sp} (g : {α : Type} → List α → List α) (F : FnG X.prog X.w X.K X.mg X.base k f fd ps sp) (room : Room k X.A) (clear : Clear X.A) (hg : Gl X x) (hm : X.mg x = some (.ref f)) (kept : PySem.W.keepIn X.K (.ref f) = true)
    (binds : ∀ (s : Shared) (us : List Value), us.length = ks.length → BindsTo s fd ⟨[], ks.zip us⟩ (ps.zip (g us))) (rel : ∀ {vs : List V} {us : List Value}, Vals vs us → vs.length = ks.length → Vals (g vs) (g us)) (ha : PK X kws t)
    (hall : (backToKw pos (keywordEach kws X.env)).all (·.1.isSome) = true := by rfl) (hks : (backToKw pos (keywordEach kws X.env)).filterMap (·.1) = ks := by rfl)
    (hdb : (x == ("__debug__" : Str)) = false := by decide) (hpl : ((backTo pos (starEach [] X.env)).any (·.1) || (backToKw pos (keywordEach kws X.env)).any (·.1.isNone)) = false := by rfl) :
    PE X (.Call (.Name x p) [] kws pos) (fun σ H Q => t σ H fun vs H1 => vs.length = ks.length ∧ sp (g vs) H1 Q E0) := by
  constructor
  intro pins s σ H Q I want
  apply wpAny_Call_Name_kw
  refine ld_glob I hg hm ?_ hdb
  refine PySem.W.callWith_KW0 (h₀ := X.base) I.ok.mod.kin kept hall ?_ hpl
  refine wpAny_mono (ha.run pos pins s σ H _ I want) ?_ fun e s' z => z
  rintro us s1 ⟨vs, H1, I1, r, len, rd⟩
  rw [hks]
  refine ⟨I1.kIn, wpAny_call ?_⟩
  refine codeAny_mono (F.go X.A X.stack s1 H1 ⟨[], ks.zip us⟩ (g us) (g vs) Q room clear I1.env0 (binds s1 us (r.length.symm.trans len)) (rel r len) rd) fun r' s' z => ?_
  cases r' with
  | error e => exact (show False from z).elim
  | ok fl =>
    cases fl with
    | ret u => exact I1.after z
    | next => exact z
    | brk => exact z
    | cont => exact z
/-- the values by places -/
@[simp] def pk (idx : List Nat) {α : Type} (l : List α) : List α := idx.filterMap fun i => l[i]?
theorem pk_rp {K : PySem.W.Frag} {F : Hp} {vs : List V} {ds : List PyData} (r : RpAll K F vs ds) : ∀ idx : List Nat, RpAll K F (pk idx vs) (pk idx ds)
  | [] => .nil
  | i :: idx => by
    have ih := pk_rp r idx
    unfold pk at ih ⊢
    rw [List.filterMap_cons, List.filterMap_cons]
    cases e : vs[i]? with
    | none =>
      have e2 : ds[i]? = none := by
        rw [List.getElem?_eq_none_iff] at e ⊢
        rw [← r.length]; exact e
      rw [e2]; exact ih
    | some v =>
      obtain ⟨d, e2, q⟩ := r.at e
      rw [e2]
      exact .cons q ih
theorem vals_at {vs : List V} {us : List Value} (r : Vals vs us) : ∀ i : Nat, (vs[i]? = none ∧ us[i]? = none) ∨ ∃ v u, vs[i]? = some v ∧ us[i]? = some u ∧ L2.RelV v u := by
  induction r with
  | nil => intro i; exact .inl ⟨rfl, rfl⟩
  | cons h t ih =>
    intro i
    cases i with
    | zero => exact .inr ⟨_, _, rfl, rfl, h⟩
    | succ i => simpa using ih i
theorem pk_vals {vs : List V} {us : List Value} (r : Vals vs us) : ∀ idx : List Nat, Vals (pk idx vs) (pk idx us)
  | [] => .nil
  | i :: idx => by
    have ih := pk_vals r idx
    unfold pk at ih ⊢
    rw [List.filterMap_cons, List.filterMap_cons]
    rcases vals_at r i with ⟨e1, e2⟩ | ⟨v, u, e1, e2, q⟩
    · rw [e1, e2]; exact ih
    · rw [e1, e2]; exact .cons q ih
@[simp] def wDefK (n l : Nat) (idx : List Nat) (W : OA) (ws : WA) : WE := wCall (fun ds R => ds.length = l ∧ (pk idx ds).length = n ∧ W (pk idx ds) R) ws
theorem de_callK {W : OA} {kws : List Keyword} {ks : List Str} (idx : List Nat) (F : Ok X.prog X.w X.K X.mg X.base k x st ps (spD X.K n W)) (hr : Room k X.A) (hc : Clear X.A) (hg : Gl X x) (ha : DK X kws ws)
    (bind : ∀ (kV doc pm : Value) (an : Option Addr) (cdv ct : Value) (us : List Value), us.length = ks.length → bindArgs (PySem.W.fnOf x x (defArgs st) (defBody st) (defScope st) .none kV doc pm an cdv ct) ⟨[], ks.zip us⟩ = pure (ps.zip (pk idx us)))
    (hall : (backToKw pos (keywordEach kws X.env)).all (·.1.isSome) = true := by rfl) (hks : (backToKw pos (keywordEach kws X.env)).filterMap (·.1) = ks := by rfl)
    (hdb : (x == ("__debug__" : Str)) = false := by decide) (hpl : ((backTo pos (starEach [] X.env)).any (·.1) || (backToKw pos (keywordEach kws X.env)).any (·.1.isNone)) = false := by rfl) :
    DE X (.Call (.Name x p) [] kws pos) (wDefK n ks.length idx W ws) := by
  obtain ⟨f, fd, hm, hF, hb, ok⟩ := F
  obtain ⟨t, pa, ha⟩ := ha.ex
  refine ⟨_, pe_callGK (pk idx) ok hr hc hg hm hF.kp (fun s us hl => ?_) (fun r _ => pk_vals r idx) pa hall hks hdb hpl, fun m σ H ρ f B R Q hK rl hw k => ?_⟩
  · obtain ⟨oc, od, kV, doc, pm, an, cdv, ct, osl, rfl, _, _⟩ := hF.ex
    exact .of_eq (bind kV doc pm an cdv ct us hl)
  · refine call_read (r := fun vs H1 Q => vs.length = ks.length ∧ spD X.K n W (pk idx vs) H1 Q E0) hK (fun F H vs ds R Q s tl r ⟨hl, hn, h⟩ k => ?_) (fun R Q => ha m σ H ρ f B R Q hK rl) hw k
    exact ⟨r.length.trans hl, F, pk idx ds, R, (pk_rp r idx).length.trans hn, s, tl, pk_rp r idx, h, k⟩
end

/-! ### a def of the text, by what stands behind the top -/
structure Df (K : PySem.W.Frag) (mg : Str → Option Value) (x : Str) (st : Stmt) (ps : List Str) : Prop where
  ex : ∃ f fd, mg x = some (.ref f) ∧ Fun K x x st f fd ∧ Binds K fd ps []
/-- the context of a def's body -/
abbrev cx (P : Program) (w : World) (K : PySem.W.Frag) (mg : Str → Option Value) (base : Heap) (N : List Str) (x : Str) (st : Stmt) (f : Addr) (cdv : Value) (A : Around) (out : List Env) (s : Shared) (H : Hp) : Cx :=
  (cxOf CX0 P w K mg base N x (defScope st) f cdv A out s H E0).nox
section
variable {P : Program} {w : World} {K : PySem.W.Frag} {mg : Str → Option Value} {base : Heap} {x : Str} {st : Stmt} {N ps : List Str} {k n : Nat}
/-- THE RULE: a def without changes keeps its promise -/
theorem Df.ok {W : OA} (F : Df K mg x st ps) (S : FnScope N ps (defScope st)) (hn : n = ps.length) (hN : ps.length ≤ N.length)
    (hbody : ∀ (f : Addr) (cdv : Value) (A : Around) (out : List Env) (s : Shared) (H : Hp), Room k (cx P w K mg base N x st f cdv A out s H).A → Clear (cx P w K mg base N x st f cdv A out s H).A →
      ∃ ws, DSs (cx P w K mg base N x st f cdv A out s H) (defBody st) ws ∧ ∀ ds R, W ds R → ds.length = n → ws { nx := fun _ => R (.fz .none), rt := fun r _ => R r } (entry ds (N.length - ds.length))) :
    Ok P w K mg base (k + 1) x st ps (spD K n W) := by
  obtain ⟨f, fd, hm, hF, hb⟩ := F.ex
  refine ⟨f, fd, hm, hF, hb, Fun.okG hF S (fun vs H Q h => ?_) (fun cdv A outer s H vs Q hr hc h => ?_)⟩
  · obtain ⟨_, _, _, hl, _⟩ := h
    rw [hl, hn]
  · obtain ⟨F, ds, R, hl, sF, tl, r, hW, k⟩ := h
    obtain ⟨ws, hd, hw⟩ := hbody f cdv A outer s H hr hc
    obtain ⟨t, pt, hd⟩ := hd.ex
    refine ⟨t, pt, hd ⟨K, H, F, []⟩ _ H _ _ _ _ rfl (rl_entry sF tl r (by omega)) (hw ds R hW (by rw [← r.length]; exact hl)) ⟨fun σ' H' ρ' f' rl _ q => ?_, fun _ _ _ _ _ _ q => q.elim, fun _ _ _ _ _ _ q => q.elim, fun σ' H' ρ' f' Br v r rl ok nv _ q => ?_⟩⟩
    · have z := ret_ok (r := .fz .none) (v := .non) sF rl ⟨rfl, .non⟩ rfl
      exact k _ _ _ q z.1 z.2
    · have z := ret_ok sF rl ok nv
      exact k _ _ _ q z.1 z.2

/-! ### a def that changes the list of its first parameter -/
@[simp] def entryM (d0 ds : List PyData) (n : Nat) : List Slot := .pm d0 :: entry ds n
theorem rl_entryM {F H : Hp} {p : Addr} {xs : List V} {d0 : List PyData} {vs : List V} {ds : List PyData} (s : Same F H) (tl : TupLe H F) (fp : F p = none) (hp : H p = some (.lst xs)) (r0 : RpAll K F xs d0) (r : RpAll K F vs ds) (hl : vs.length + 1 ≤ N.length) :
    Rl ⟨K, H, F, [(0, p)]⟩ (L2.start N (.ref p :: vs)) H (entryM d0 ds (N.length - (ds.length + 1))) (fun i => if i = 0 then [p] else []) [] := by
  have hv := r.length
  have le : ∀ a o, F a = some o → vw ⟨K, H, F, [(0, p)]⟩ H (fun i => if i = 0 then [p] else []) [] a = some o := fun a o q => by
    have ne : a ≠ p := fun e => by rw [e, fp] at q; cases q
    refine vw_iff.mpr ⟨by simp, fun i z => ?_, .inl ⟨q, by show (H a).isSome = true; rw [s a o q]; rfl⟩⟩
    by_cases h : i = 0
    · rw [if_pos h] at z; exact ne (by simpa using z)
    · rw [if_neg h] at z; cases z
  refine ⟨?_, s, ?_, tl, fun a o h _ => h, fun i j a h1 h2 => ?_, by simp, by simp, fun i a h => ?_, fun i q h => ?_, fun i h => ?_, fun i t e => ?_⟩
  · unfold L2.start entryM entry
    simp only [List.length_cons, List.length_append, List.length_map, List.length_replicate]
    omega
  · intro q hq
    obtain rfl : q = (0, p) := by simpa using hq
    exact fp
  · by_cases q1 : i = 0
    · by_cases q2 : j = 0
      · rw [q1, q2]
      · rw [if_neg q2] at h2; cases h2
    · rw [if_neg q1] at h1; cases h1
  · by_cases q1 : i = 0
    · rw [if_pos q1] at h
      right
      rw [q1]
      simpa using h
    · rw [if_neg q1] at h; cases h
  · have e : i = 0 ∧ q = p := by simpa using h
    obtain ⟨rfl, rfl⟩ := e
    exact ⟨rfl, d0, rfl⟩
  · have : i ≠ 0 := by
      unfold entryM at h
      simp only [List.length_cons] at h
      omega
    rw [if_neg this]
  · cases i with
    | zero =>
      cases e
      exact ⟨p, xs, rfl, rfl, hp, r0.up (.of le)⟩
    | succ i =>
      have e' : (entry ds (N.length - (ds.length + 1)))[i]? = some t := by simpa [entryM] using e
      unfold entry at e'
      have g0 : (if i + 1 = 0 then [p] else [] : List Addr) = [] := if_neg (by omega)
      have hs : (L2.start N (.ref p :: vs))[i + 1]? = (vs.map some ++ List.replicate (N.length - (vs.length + 1)) (none : Option V))[i]? := by
        unfold L2.start
        simp
      by_cases h : i < ds.length
      · rw [List.getElem?_append_left (by simpa using h), List.getElem?_map] at e'
        cases q : ds[i]? with
        | none => rw [q] at e'; cases e'
        | some d =>
          rw [q] at e'
          cases e'
          obtain ⟨v, h1, h2⟩ := r.at' q
          refine ⟨g0, v, ?_, h2.up (.of le)⟩
          rw [hs, List.getElem?_append_left (by rw [List.length_map]; omega), List.getElem?_map, h1]
          rfl
      · rw [List.getElem?_append_right (by simpa using h), List.getElem?_replicate] at e'
        split at e'
        · cases e'; exact g0
        · cases e'
/-- at the end: the first slot's list -/
@[simp] def atM (R : Rs → List PyData → Prop) (r : Rs) (ρ : List Slot) : Prop := match ρ.head? with
  | some (.pm d1) => d1.all flt = true ∧ R r d1
  | _ => False
theorem ret_okM {F H H' : Hp} {p : Addr} {σ : L2.St} {ρ : List Slot} {f : Nat → List Addr} {Br : List Addr} {v : V} {r : Rs} {R : Rs → List PyData → Prop} (R' : Rl ⟨K, H, F, [(0, p)]⟩ σ H' ρ f Br) (ok : RsOk ⟨K, H, F, [(0, p)]⟩ σ H' f Br Br v r) (nv : r.isVar = false) (q : atM R r ρ) :
    ∃ d1 xs1, R r d1 ∧ (∀ b o, b ≠ p → H b = some o → H' b = some o) ∧ H' p = some (.lst xs1) ∧ d1.all flt = true ∧ RpAll K F xs1 d1 ∧ ResOk K F H H' v r := by
  obtain ⟨f0, d1, e1⟩ := R'.pin 0 p (by simp)
  have e0 : ρ.head? = some (.pm d1) := by rw [← e1]; cases ρ <;> rfl
  unfold atM at q
  rw [e0] at q
  obtain ⟨a, xs1, _, e2, e3, r1⟩ := R'.sl 0 _ e1
  rw [f0] at e2
  obtain rfl : a = p := by simpa using e2.symm
  have le : RdLe (vw ⟨K, H, F, [(0, a)]⟩ H' f Br) (nxx F H H' Br) := .of fun b o h => by
    obtain ⟨h1, _, h3⟩ := vw_iff.mp h
    exact nxx_iff.mpr ⟨h1, h3⟩
  refine ⟨d1, xs1, q.2, fun b o nb h => R'.fr b o h (by simpa using nb), e3, q.1, RpAll.flt (vs := xs1) q.1 r1, ?_⟩
  cases r with
  | var i => cases nv
  | fz d =>
    obtain ⟨rfl, h⟩ := ok
    exact h.up le
  | ol ds =>
    obtain ⟨a, xs, rfl, rfl, h1, h2⟩ := ok
    exact ⟨a, xs, rfl, (R'.bn a (by simp)).1, h1, h2.up le⟩
  | od es =>
    obtain ⟨a, xs, rfl, rfl, h1, h2⟩ := ok
    exact ⟨a, xs, rfl, (R'.bn a (by simp)).1, h1, h2.up le⟩
  | odl es =>
    obtain ⟨a, xs, ls, rfl, rfl, nd, h1, h2⟩ := ok
    exact ⟨a, xs, ls, rfl, nd, fun b hb => (R'.bn b hb).1, h1, h2.up le fun _ _ _ q => q⟩
theorem Df.okM {W : OM} (F : Df K mg x st ps) (S : FnScope N ps (defScope st)) (hn : n = ps.length) (hN : ps.length ≤ N.length)
    (hbody : ∀ (f : Addr) (cdv : Value) (A : Around) (out : List Env) (s : Shared) (H : Hp), Room k (cx P w K mg base N x st f cdv A out s H).A → Clear (cx P w K mg base N x st f cdv A out s H).A →
      ∃ ws, DSs (cx P w K mg base N x st f cdv A out s H) (defBody st) ws ∧ ∀ d0 ds R, W d0 ds R → d0.all flt = true → ds.length + 1 = n → ws { nx := fun ρ => atM R (.fz .none) ρ, rt := fun r ρ => atM R r ρ } (entryM d0 ds (N.length - (ds.length + 1)))) :
    Ok P w K mg base (k + 1) x st ps (spM K n W) := by
  obtain ⟨f, fd, hm, hF, hb⟩ := F.ex
  refine ⟨f, fd, hm, hF, hb, Fun.okG hF S (fun vs H Q h => ?_) (fun cdv A outer s H vs Q hr hc h => ?_)⟩
  · obtain ⟨_, _, _, _, _, _, _, _, hl, _⟩ := h
    rw [hl, hn]
  · obtain ⟨F, p, xs, d0, us, ds, R, rfl, hl, sF, tl, fp, hp, fl, r0, r, hW, k⟩ := h
    rw [List.length_cons] at hl
    obtain ⟨ws, hd, hw⟩ := hbody f cdv A outer s H hr hc
    obtain ⟨t, pt, hd⟩ := hd.ex
    refine ⟨t, pt, hd ⟨K, H, F, [(0, p)]⟩ _ H _ _ _ _ rfl (rl_entryM sF tl fp hp r0 r (by omega)) (hw d0 ds R hW fl (by rw [← r.length]; exact hl)) ⟨fun σ' H' ρ' f' rl _ q => ?_, fun _ _ _ _ _ _ q => q.elim, fun _ _ _ _ _ _ q => q.elim, fun σ' H' ρ' f' Br v r rl ok nv _ q => ?_⟩⟩
    · obtain ⟨d1, xs1, a1, a2, a3, a4, a5, a6⟩ := ret_okM (r := .fz .none) (v := .non) rl ⟨rfl, .non⟩ rfl q
      exact k _ _ _ _ _ a1 a2 a3 a4 a5 a6
    · obtain ⟨d1, xs1, a1, a2, a3, a4, a5, a6⟩ := ret_okM rl ok nv q
      exact k _ _ _ _ _ a1 a2 a3 a4 a5 a6
end
end Dn
/-! DnM: calls that change a slot's own list. -/
namespace Dn
open PySem PySem.Spec PyProof.Rows L2

/-- the heap without p -/
def mn (H : Hp) (p : Addr) : Hp := fun a => if a = p then none else H a
theorem mn_iff {H : Hp} {p a : Addr} {o : HO} : mn H p a = some o ↔ a ≠ p ∧ H a = some o := by
  unfold mn
  by_cases e : a = p
  · rw [if_pos e]; exact ⟨fun z => (nomatch z), fun z => absurd e z.1⟩
  · rw [if_neg e]; exact ⟨fun z => ⟨e, z⟩, fun z => z.2⟩
@[simp] def notV (i : Nat) : Rs → Bool
  | .var j => j != i
  | _ => true
section
variable {m : Fm} {σ : L2.St} {H H' : Hp} {ρ : List Slot} {f f' : Nat → List Addr} {B Br : List Addr} {v : V} {r : Rs} {d : PyData} {i : Nat} {p : Addr}
theorem RsOk.rdx (R : Rl m σ H ρ f B) (hp : p ∈ f i) (hb : ∀ a ∈ Br, a ∈ B) (nv : notV i r = true) (h : RsOk m σ H f B Br v r) (e : r.data ρ = some d) : Rp m.K (mn H p) v d := by
  have le : RdLe (vw m H f B) (mn H p) := .of fun a o q => mn_iff.mpr ⟨fun z => (vw_iff.mp q).2.1 i (z ▸ hp), R.vwH a o q⟩
  have nb : ∀ a ∈ Br, a ≠ p := fun a ha z => R.bf i p hp (z ▸ hb a ha)
  have up : ∀ a, a ≠ p → ∀ o, H a = some o → mn H p a = some o := fun a n o q => mn_iff.mpr ⟨n, q⟩
  cases r with
  | fz d' => cases e; exact h.2.up le
  | ol ds =>
    cases e
    obtain ⟨a, xs, rfl, e0, e1, q⟩ := h
    exact .lst (SqL.of (up a (nb a (by rw [e0]; simp)) _ e1)) (q.up le)
  | od es =>
    cases e
    obtain ⟨a, kvs, rfl, e0, e1, q⟩ := h
    exact .dct (e1.up (up a (nb a (by rw [e0]; simp)))).rd (q.up le)
  | odl es =>
    cases e
    obtain ⟨a, kvs, ls, rfl, e0, _, e1, q⟩ := h
    exact .dct (e1.up (up a (nb a (by rw [e0]; simp)))).rd (q.rdv le fun b hb o => up b (nb b (by rw [e0]; simp [hb])) o)
  | var j =>
    have ne : j ≠ i := by simpa [notV] using nv
    have nf : ∀ a ∈ f j, a ≠ p := fun a ha z => ne (R.dj j i a ha (z ▸ hp))
    obtain ⟨_, e1, e2⟩ := h
    simp only [Rs.data] at e
    cases q : ρ[j]? with
    | none => rw [q] at e; cases e
    | some s =>
      have z := R.sl j s q
      rw [q] at e
      rw [e1] at z
      cases s with
      | un => cases e
      | fz d' => cases e
      | ol ds =>
        cases e
        obtain ⟨a, xs, e3, e4, e5, r⟩ := z
        cases e3
        exact .lst (SqL.of (up a (nf a (by rw [e4]; simp)) _ e5)) (r.up le)
      | pm ds =>
        cases e
        obtain ⟨a, xs, e3, e4, e5, r⟩ := z
        cases e3
        exact .lst (SqL.of (up a (nf a (by rw [e4]; simp)) _ e5)) (r.up le)
      | od es =>
        cases e
        obtain ⟨a, kvs, e3, e4, e5, r⟩ := z
        cases e3
        exact .dct (e5.up (up a (nf a (by rw [e4]; simp)))).rd (r.up le)
      | odl es =>
        cases e
        obtain ⟨a, kvs, ls, e3, e4, _, e5, r⟩ := z
        cases e3
        exact .dct (e5.up (up a (nf a (by rw [e4]; simp)))).rd (r.rdv le fun b hb o => up b (nf b (by rw [e4]; simp [hb])) o)
theorem RsAll.rdx (R : Rl m σ H ρ f B) (hp : p ∈ f i) : ∀ {Bs : List (List Addr)} {vs : List V} {rs : List Rs} {ds : List PyData}, (∀ b ∈ Bs, ∀ a ∈ b, a ∈ B) → rs.all (notV i) = true → RsAll m σ H f B Bs vs rs → dats ρ rs = some ds → RpAll m.K (mn H p) vs ds
  | _, _, _, _, _, _, .nil, e => by cases e; exact .nil
  | Br :: Bs, _, r :: rs, ds, hb, nv, .cons h t, e => by
    rw [List.all_cons, Bool.and_eq_true] at nv
    unfold dats at e
    cases e1 : r.data ρ with
    | none => rw [e1] at e; cases e
    | some d =>
      cases e2 : dats ρ rs with
      | none => rw [e1, e2] at e; cases e
      | some ds' =>
        rw [e1, e2] at e
        cases e
        exact .cons (h.rdx R hp (hb Br (by simp)) nv.1 e1) (RsAll.rdx R hp (fun b z => hb b (List.mem_cons_of_mem _ z)) nv.2 t e2)
/-- a call's result: what it has made, and how it stands in any view that sees enough -/
theorem ResOk.split {K : PySem.W.Frag} {F : Hp} (h : ResOk K F H H' v r) : ∃ Br, (∀ a ∈ Br, H a = none ∧ ∃ o, H' a = some o ∧ isCon o = true) ∧ r.isVar = false ∧
    ∀ (m : Fm) (σ : L2.St) (f : Nat → List Addr) (B : List Addr), m.K = K → (RdLe (nxx F H H' Br) (vw m H' f B) ∨ (TupLe (nxx F H H' Br) (vw m H' f B) ∧ r.imm = true)) → RsOk m σ H' f B Br v r := by
  cases r with
  | var i => exact h.elim
  | fz d =>
    refine ⟨[], by simp, rfl, fun m σ f B hK hv => ⟨rfl, ?_⟩⟩
    subst hK
    rcases hv with l | ⟨l, i⟩
    · exact h.up l
    · exact Rp.imm l d i h
  | ol ds =>
    obtain ⟨a, xs, rfl, h0, h1, h2⟩ := h
    refine ⟨[a], ?_, rfl, fun m σ f B hK hv => ⟨a, xs, rfl, rfl, h1, ?_⟩⟩
    · intro b hb
      obtain rfl : b = a := by simpa using hb
      exact ⟨h0, _, h1, rfl⟩
    · subst hK
      rcases hv with l | ⟨l, i⟩
      · exact h2.up l
      · exact RpAll.imm l ds i h2
  | od es =>
    obtain ⟨a, kvs, rfl, h0, h1, h2⟩ := h
    refine ⟨[a], ?_, rfl, fun m σ f B hK hv => ⟨a, kvs, rfl, rfl, h1, ?_⟩⟩
    · intro b hb
      obtain rfl : b = a := by simpa using hb
      exact ⟨h0, h1.con⟩
    · subst hK
      rcases hv with l | ⟨l, i⟩
      · exact h2.up l
      · exact h2.imm l i
  | odl es =>
    obtain ⟨a, kvs, ls, rfl, nd, h0, h1, h2⟩ := h
    refine ⟨a :: ls, ?_, rfl, fun m σ f B hK hv => ⟨a, kvs, ls, rfl, rfl, nd, h1, ?_⟩⟩
    · intro b hb
      refine ⟨h0 b hb, ?_⟩
      rcases List.mem_cons.mp hb with rfl | z
      · exact h1.con
      · exact h2.con b z
    · subst hK
      rcases hv with l | ⟨l, i⟩
      · exact h2.up l fun _ _ _ q => q
      · cases i
/-- the slot with another list, of its kind -/
def Slot.put : Slot → List PyData → Option Slot
  | .ol _, ds => some (.ol ds)
  | .pm _, ds => some (.pm ds)
  | _, _ => none
def lst? : Slot → Option (List PyData)
  | .ol ds => some ds
  | .pm ds => some ds
  | _ => none
@[simp] def lstK (i : Nat) (ρ : List Slot) (k : List PyData → Prop) : Prop := match ρ[i]? with
  | some (.ol ds) => k ds
  | some (.pm ds) => k ds
  | _ => False
theorem lstK_iff {k : List PyData → Prop} (h : lstK i ρ k) : ∃ s ds, ρ[i]? = some s ∧ lst? s = some ds ∧ k ds := by
  unfold lstK at h
  split at h
  · rename_i e; exact ⟨_, _, e, rfl, h⟩
  · rename_i e; exact ⟨_, _, e, rfl, h⟩
  · exact h.elim
@[simp] def putL (i : Nat) (ρ : List Slot) (ds : List PyData) : List Slot := match ρ[i]? with
  | some (.ol _) => ρ.set i (.ol ds)
  | some (.pm _) => ρ.set i (.pm ds)
  | _ => ρ
theorem lst_at (R : Rl m σ H ρ f B) {s : Slot} {ds : List PyData} (e : ρ[i]? = some s) (l : lst? s = some ds) : ∃ a xs, σ[i]? = some (some (.ref a)) ∧ f i = [a] ∧ H a = some (.lst xs) ∧ RpAll m.K (vw m H f B) xs ds := by
  have z := R.sl i s e
  cases s with
  | ol es => cases l; exact z
  | pm es => cases l; exact z
  | _ => cases l
/-- behind a change of the slot's list, by whoever changed it, and a result -/
theorem Rl.setL {F : Hp} {s : Slot} {ds ds' : List PyData} {xs' : List V} (R : Rl m σ H ρ f B) (e : ρ[i]? = some s) (l : lst? s = some ds) (fi : f i = [p]) (hs : σ[i]? = some (some (.ref p))) (fr : ∀ b o, b ≠ p → H b = some o → H' b = some o) (hp : H' p = some (.lst xs'))
    (rp : ∀ F', RpAll m.K F' xs' ds' ∨ True) (hF : F = vw m H f B ∨ (F = mn H p ∧ r.imm = true)) (cont : ∀ Br, (∀ a ∈ Br, H a = none) → RpAll m.K (vw m H' f (Br ++ B)) xs' ds') (res : ResOk m.K F H H' v r) :
    ∃ Br, Post m σ H f B r (putL i ρ ds') v H' f Br := by
  obtain ⟨Br, hn, nv, ok⟩ := res.split
  have hi : i < ρ.length := (List.getElem?_eq_some_iff.mp e).1
  have es : ∃ s', putL i ρ ds' = ρ.set i s' ∧ ((∃ z, s = .ol z) ∧ s' = .ol ds' ∨ (∃ z, s = .pm z) ∧ s' = .pm ds') := by
    unfold putL
    rw [e]
    cases s with
    | ol z => exact ⟨_, rfl, .inl ⟨⟨z, rfl⟩, rfl⟩⟩
    | pm z => exact ⟨_, rfl, .inr ⟨⟨z, rfl⟩, rfl⟩⟩
    | _ => cases l
  obtain ⟨s', es, kind⟩ := es
  have ct := cont Br fun a ha => (hn a ha).1
  obtain ⟨R', st⟩ := R.chg (f' := f) (H' := H') (s' := s') (Br := Br) hi (fun _ _ => rfl) (fun _ h => h) (fun _ h => .inl h) (fun b o nb q => fr b o (fun z => nb (by rw [fi, z]; simp)) q) hn (by
      rcases kind with ⟨_, rfl⟩ | ⟨_, rfl⟩
      · exact ⟨p, xs', hs, fi, hp, ct⟩
      · exact ⟨p, xs', hs, fi, hp, ct⟩) (fun q hq => by
      obtain ⟨h1, es', h2⟩ := R.pin i q hq
      rw [e] at h2
      rcases kind with ⟨⟨z, rfl⟩, _⟩ | ⟨_, rfl⟩
      · cases h2
      · exact ⟨h1, ds', rfl⟩)
  refine ⟨Br, by rw [es]; exact R', ok m σ f (Br ++ B) rfl ?_, st, fun a ha => R.newB (hn a ha).1⟩
  have ne : ∀ a, (∀ j, a ∉ f j) → a ≠ p := fun a h z => h i (by rw [fi, z]; simp)
  rcases hF with rfl | ⟨rfl, im⟩
  · left
    refine .of fun a o q => ?_
    obtain ⟨h1, ⟨h2, _⟩ | ⟨h2, h3⟩⟩ := nxx_iff.mp q
    · obtain ⟨g1, g2, g3⟩ := vw_iff.mp h2
      refine vw_iff.mpr ⟨fun z => (List.mem_append.mp z).elim h1 g1, g2, g3.imp id fun z => ⟨z.1, fr a o (ne a g2) z.2⟩⟩
    · exact vw_iff.mpr ⟨fun z => (List.mem_append.mp z).elim h1 (R.newB h2), R.newf h2, .inr ⟨R.new0 h2, h3⟩⟩
  · right
    refine ⟨fun a ys q => R'.tups a ys ?_, im⟩
    have k : ∀ o, nxx (mn H p) H H' Br a = some o → H' a = some o := fun o q => by
      obtain ⟨h1, ⟨h2, _⟩ | ⟨h2, h3⟩⟩ := nxx_iff.mp q
      · obtain ⟨g1, g2⟩ := mn_iff.mp h2
        exact fr a o g1 g2
      · exact h3
    rcases q with q | ⟨o, q⟩
    · exact .inl (k _ q)
    · exact .inr ⟨o, k _ q⟩
end
section
variable {X : Cx} {pos p : Pos} {a : Expr} {es : List Expr} {ws : WA} {x : Str} {st : Stmt} {ps : List Str} {k n : Nat}
/-- f(own list, ..) -/
@[simp] def wDefM (i n : Nat) (W : OM) (ws : WA) : WE := fun ρ R => lstK i ρ fun _ => ws ρ fun rs ρ1 => rs.all (notV i) = true ∧ datA ρ1 rs fun ds => ds.length + 1 = n ∧ lstK i ρ1 fun d0 => d0.all flt = true ∧ W d0 ds fun r d1 => okR rs r ∧ R r (putL i ρ1 d1)
theorem de_callM (i : Nat) {W : OM} (F : Ok X.prog X.w X.K X.mg X.base k x st ps (spM X.K n W)) (hr : Room k X.A) (hc : Clear X.A) (hg : Gl X x) (hv : PE X a (tVar i)) (ha : DA X es ws)
    (hs : starEach (a :: es) X.env = (false, eval a X.env) :: starEach es X.env := by rfl) (hdb : (x == ("__debug__" : Str)) = false := by decide) (he : starEach (a :: es) X.env = (false, eval a X.env) :: starEach es X.env := by rfl) (hpl : (backTo pos (starEach es X.env)).any (·.1) = false := by rfl) :
    DE X (.Call (.Name x p) (a :: es) [] pos) (wDefM i n W ws) := by
  obtain ⟨f, fd, hm, hF, hb, ok⟩ := F
  obtain ⟨t, pa, ha⟩ := ha.ex
  refine ⟨_, pe_callG (n := n) ok hr hc hg hm hF.kp hb (pa_cons hv pa hs) hdb he hpl, fun m σ H ρ f B R Q hK rl hw k => ?_⟩
  obtain ⟨s0, d00, e0, l0, hw⟩ := lstK_iff hw
  obtain ⟨q0, _, hs0, _⟩ := lst_at rl e0 l0
  refine ⟨_, hs0, ?_⟩
  refine ha m σ H ρ f B _ _ hK rl hw fun rs ρ1 vs H1 f1 Bs h P => ?_
  obtain ⟨nvI, h⟩ := h
  obtain ⟨ds, ed, hn, h⟩ := datA_iff h
  obtain ⟨s1, d0, e1, l1, fl, h⟩ := lstK_iff h
  obtain ⟨q1, xs, hs1, f1i, hx, rx⟩ := lst_at P.rl e1 l1
  rw [hs0] at hs1
  cases hs1
  obtain ⟨rl', st⟩ := P.next
  have mem : q0 ∈ f1 i := by rw [f1i]; simp
  have hbs : ∀ b ∈ Bs, ∀ a ∈ b, a ∈ Bs.reverse.flatten ++ B := fun b hb a ha => List.mem_append_left _ (List.mem_flatten.mpr ⟨b, by simpa using hb, ha⟩)
  have pick : ∃ F, Same F H1 ∧ TupLe H1 F ∧ F q0 = none ∧ RpAll m.K F vs ds ∧ ∀ r, okR rs r → F = vw m H1 f1 B ∨ (F = mn H1 q0 ∧ r.imm = true) := by
    by_cases nv : (rs.all fun r => !r.isVar) = true
    · refine ⟨vw m H1 f1 B, rl'.vwH, rl'.tups, ?_, P.fzn ed nv, fun r _ => .inl rfl⟩
      cases e : vw m H1 f1 B q0 with
      | none => rfl
      | some o => exact absurd mem ((vw_iff.mp e).2.1 i)
    · refine ⟨mn H1 q0, fun a o q => (mn_iff.mp q).2, fun a ys q => ?_, by unfold mn; rw [if_pos rfl], RsAll.rdx P.rl mem hbs nvI P.ok ed, fun r o => .inr ⟨rfl, o.resolve_left nv⟩⟩
      have ne : a ≠ q0 := fun z => by rw [z] at q; exact con_tup hx rfl ys q
      rcases q with q | ⟨o, q⟩
      · exact .inl (mn_iff.mpr ⟨ne, q⟩)
      · exact .inr ⟨o, mn_iff.mpr ⟨ne, q⟩⟩
  obtain ⟨F, sF, tF, nF, rF, okF⟩ := pick
  refine ⟨F, q0, xs, d0, vs, ds, _, rfl, ?_, sF, tF, nF, hx, fl, ?_, ?_, h, fun z d1 xs1 v H2 ⟨ok, hz⟩ fr hp fl1 r1 res => ?_⟩
  · rw [List.length_cons, rF.length]; exact hn
  · rw [← hK]; exact RpAll.flt (vs := xs) fl rx
  · rw [← hK]; exact rF
  · rw [← hK] at res r1
    obtain ⟨Br, P2⟩ := rl'.setL (r := z) (v := v) e1 l1 f1i hs0 fr hp (fun _ => .inr trivial) (okF z ok) (fun Br _ => RpAll.flt (vs := xs1) fl1 r1) res
    exact k _ _ _ _ _ _ hz (P2.comp st)
end
end Dn
/-! DnL: a slot's own list changes. -/
namespace Dn
open PySem PySem.Spec PyProof.Rows L2

section
variable {m : Fm} {σ : L2.St} {H H' : Hp} {ρ : List Slot} {f f' : Nat → List Addr} {B Br : List Addr} {v : V} {r : Rs} {d : PyData} {i : Nat} {p : Addr} {s : Slot} {ds ds' : List PyData} {xs' : List V}
theorem Rl.updL (R : Rl m σ H ρ f B) (e : ρ[i]? = some s) (l : lst? s = some ds) (fi : f i = [p]) (hs : σ[i]? = some (some (.ref p))) (hH : ∃ o, H p = some o) (rx : RpAll m.K (vw m H f B) xs' ds') :
    Rl m σ (upd H p (.lst xs')) (putL i ρ ds') f B ∧ Stp m H f B (upd H p (.lst xs')) f B ∧ RdLe (vw m H f B) (vw m (upd H p (.lst xs')) f B) := by
  have fr : ∀ b o, b ≠ p → H b = some o → upd H p (.lst xs') b = some o := fun b o n q => by rw [upd_ne n]; exact q
  have le : ∀ a o, vw m H f B a = some o → vw m (upd H p (.lst xs')) f B a = some o := fun a o q => by
    obtain ⟨h1, h2, h3⟩ := vw_iff.mp q
    have ne : a ≠ p := fun z => h2 i (by rw [fi, z]; simp)
    exact vw_iff.mpr ⟨h1, h2, h3.imp id fun z => ⟨z.1, fr a o ne z.2⟩⟩
  obtain ⟨o, hp⟩ := hH
  obtain ⟨Br, P⟩ := R.setL (r := .fz .none) (v := .non) (F := vw m H f B) (ds' := ds') (xs' := xs') e l fi hs fr upd_same (fun _ => .inr trivial) (.inl rfl) (fun Br hn => by
    refine rx.up ((RdLe.of le).trans (.of fun a o q => ?_))
    obtain ⟨h1, h2, h3⟩ := vw_iff.mp q
    refine vw_iff.mpr ⟨fun z => ?_, h2, h3⟩
    rcases List.mem_append.mp z with z | z
    · have ha := hn a z
      have ne : a ≠ p := fun y => by rw [y, hp] at ha; cases ha
      rcases h3 with ⟨h3, h4⟩ | ⟨_, h3⟩
      · rw [R.new0 ha] at h4; cases h4
      · rw [upd_ne ne, ha] at h3; cases h3
    · exact h1 z) .non
  exact ⟨P.rl.drop, P.st.cut, .of le⟩
end
section
variable {X : Cx} {pos p : Pos} {a e o : Expr} {es : List Expr} {we wi : WE} {i : Nat}
theorem tyL {K : PySem.W.Frag} {H : Hp} {a : Addr} {xs : List V} (h : H a = some (.lst xs)) : tyV K "list" (.ref a) H := .inl ⟨rfl, xs, SqL.of h⟩
/-- xs.append(e) -/
@[simp] def wApp (i : Nat) (we : WE) : WE := fun ρ R => lstK i ρ fun _ => we ρ fun r ρ1 => r.isVar = false ∧ dat ρ1 r fun d => lstK i ρ1 fun ds => ds.length < sizeLine ∧ R (.fz .none) (putL i ρ1 (ds ++ [d]))
theorem de_app (i : Nat) {apos : Pos} (ho : PE X o (tVar i)) (he : DE X e we) (hbase : attributeBase o "append" X.env (eval o X.env) = eval o X.env := by rfl)
    (hfew : ((backTo pos (starEach (e :: []) X.env)).all (fun x => !x.1) && (backToKw pos (keywordEach [] X.env)).all (fun x => x.1.isSome) && decide ((e :: [] : List Expr).length + ([] : List Keyword).length + (if ([] : List Keyword).isEmpty then 0 else 1) < 30)) = true := by rfl)
    (hline : (apos.endLine == pos.line) = true := by rfl) (hs : starEach (e :: []) X.env = (false, eval e X.env) :: starEach [] X.env := by rfl) (hpl : (backTo pos (starEach [] X.env)).any (·.1) = false := by rfl) :
    DE X (.Call (.Attribute o "append" apos) [e] [] pos) (wApp i we) := by
  obtain ⟨t, pa, he⟩ := he.ex
  refine ⟨_, pe_bm PySem.F.plainAttrs_list PySem.F.slot_list_append PySem.F.type_list_append mt_append ho (pa_cons pa pa_nil hs) hbase hfew hline hs hpl, fun m σ H ρ f B R Q hK rl hw k => ?_⟩
  obtain ⟨s0, d0, e0, l0, hw⟩ := lstK_iff hw
  obtain ⟨q0, x0, hs0, fi, hx0, _⟩ := lst_at rl e0 l0
  refine ⟨_, hs0, tyL hx0, ?_⟩
  refine he m σ H ρ f B _ _ hK rl hw fun r ρ1 y H1 f1 Br ⟨nv, h⟩ P => ?_
  obtain ⟨d, ed, h⟩ := dat_iff.mp h
  obtain ⟨s1, ds, e1, l1, hl, h⟩ := lstK_iff h
  have rl1 := P.rl.drop
  obtain ⟨q1, xs, hs1, fi1, hx, rx⟩ := lst_at rl1 e1 l1
  rw [hs0] at hs1
  cases hs1
  have ry := P.fzn ed nv
  obtain ⟨rl2, st2, le2⟩ := rl1.updL e1 l1 fi1 hs0 ⟨_, hx⟩ (rx.append (.one ry))
  refine ⟨q0, xs, y, rfl, rfl, hx, by rw [rx.length]; exact hl, ?_⟩
  exact k _ _ _ _ _ [] h ⟨rl2, ⟨rfl, .non⟩, P.step.trans st2, fun _ z => by cases z⟩
/-- the general extend: a list or a tuple -/
theorem ext_listW (l : Addr) (its : Array Value) (n : Nat) (b : Addr) (it2 : Array Value) (n2 : Nat) (d2 : Option Addr) (s2 : Array (Option Value)) (h0 : ¬(!its.isEmpty && Builtin.List.listTooLong (its.size + it2.size)) = true) (h1 : its.size ≤ sizeLine) (h2 : its.size + it2.size ≤ sizeLine + 1) :
    Meets (Builtin.«list.extend» ⟨[.ref l, .ref b], []⟩) (fun _ R s => s.heap.get? l = some { cls := .type "list", dict := none, data := .seq its n, slots := #[] } ∧
      s.heap.get? b = some { cls := .type "list", dict := d2, data := .seq it2 n2, slots := s2 } ∧ R (.ok (.ret Value.none)) { s with heap := s.heap.update l (Obj.mapSeq fun x => x ++ it2), toks := s.toks }) := by
  refine .of_wp fun prog w A R s h => ?_
  obtain ⟨hp, g, d, tk, os⟩ := s
  obtain ⟨hl, hb, h⟩ := h
  have f1 := AutoSeq1.idx_int
  have f2 := AutoSeq1.sub_tuple_tuple
  have f3 := AutoSeq1.sub_list_list
  have f4 := AutoSeq1.sub_tuple_list
  have f5 := AutoSeq1.sub_list_tuple
  have hz : (its ++ it2).size ≤ sizeLine + 1 := by rw [Array.size_append]; exact h2
  wp_walk using (wpAny_updateSeq hl rfl (hz := h1) (_hz' := hz)), AutoSeq1.wpAny_loadPart' hl, AutoSeq1.wpAny_loadPart' hb
  exact ⟨_, rfl, h⟩
theorem ext_tupW (l : Addr) (its : Array Value) (n : Nat) (b : Addr) (it2 : Array Value) (n2 : Nat) (d2 : Option Addr) (s2 : Array (Option Value)) (h0 : ¬(!its.isEmpty && Builtin.List.listTooLong (its.size + it2.size)) = true) (h1 : its.size ≤ sizeLine) (h2 : its.size + it2.size ≤ sizeLine + 1) :
    Meets (Builtin.«list.extend» ⟨[.ref l, .ref b], []⟩) (fun _ R s => s.heap.get? l = some { cls := .type "list", dict := none, data := .seq its n, slots := #[] } ∧
      s.heap.get? b = some { cls := .type "tuple", dict := d2, data := .seq it2 n2, slots := s2 } ∧ R (.ok (.ret Value.none)) { s with heap := s.heap.update l (Obj.mapSeq fun x => x ++ it2), toks := s.toks }) := by
  refine .of_wp fun prog w A R s h => ?_
  obtain ⟨hp, g, d, tk, os⟩ := s
  obtain ⟨hl, hb, h⟩ := h
  have f1 := AutoSeq1.idx_int
  have f2 := AutoSeq1.sub_tuple_tuple
  have f3 := AutoSeq1.sub_list_list
  have f4 := AutoSeq1.sub_tuple_list
  have f5 := AutoSeq1.sub_list_tuple
  have hz : (its ++ it2).size ≤ sizeLine + 1 := by rw [Array.size_append]; exact h2
  wp_walk using (wpAny_updateSeq hl rfl (hz := h1) (_hz' := hz)), AutoSeq1.wpAny_loadPart' hl, AutoSeq1.wpAny_loadPart' hb
  exact ⟨_, rfl, h⟩
def rExtW (K : PySem.W.Frag) : V → List V → Hp → VK → Prop := fun x vs H Q => ∃ l b xs zs, x = .ref l ∧ vs = [.ref b] ∧ H l = some (.lst xs) ∧ (SqL K H b zs ∨ SqT K H b zs) ∧ xs.length + zs.length ≤ sizeLine ∧ Q .non (upd H l (.lst (xs ++ zs)))
theorem mt_extW : MtM X "list.extend" (rExtW X.K) := by
  intro pins s σ H x vs v us Q I rx rv h
  obtain ⟨l, b, xs, zs, rfl, rfl, hH, hB, hz, q⟩ := h
  cases rx
  obtain ⟨u, rfl, ru⟩ := rv.one
  cases ru
  obtain ⟨z, its, n, r, hl, e⟩ := I.lstM hH
  rcases hB with hB | hB
  · obtain ⟨it2, r2, ⟨⟨c2, d2, t2, s2⟩, n2, o2, q1, q2, q3⟩, _⟩ := I.list hB
    simp only at q1 q2 q3
    subst q1 q2 q3
    have h2 := r2.length
    have big : ¬ (!its.toArray.isEmpty && Builtin.List.listTooLong (its.toArray.size + it2.toArray.size)) = true := by
      rw [notLongL (by rw [List.size_toArray, List.size_toArray]; omega), Bool.and_false]
      exact Bool.false_ne_true
    refine call_meets F.slot_list_extend ⟨_, e, rfl⟩ F.entry_list_extend (F.args_list_extend_2 _ _) (ext_listW l its.toArray n b it2.toArray n2 _ s2 big (by rw [List.size_toArray]; omega) (by rw [List.size_toArray, List.size_toArray]; omega)) ⟨e, o2, ?_⟩
    exact ⟨.non, _, I.lset (its' := its ++ it2) hH e (by simp) (r.append r2) (by rw [List.length_append]; omega), rfl, q⟩
  · obtain ⟨it2, r2, ⟨⟨c2, d2, t2, s2⟩, o2, q1, n2, q3⟩, _⟩ := I.tuple hB
    simp only at q1 q3
    subst q1 q3
    have h2 := r2.length
    have big : ¬ (!its.toArray.isEmpty && Builtin.List.listTooLong (its.toArray.size + it2.toArray.size)) = true := by
      rw [notLongL (by rw [List.size_toArray, List.size_toArray]; omega), Bool.and_false]
      exact Bool.false_ne_true
    refine call_meets F.slot_list_extend ⟨_, e, rfl⟩ F.entry_list_extend (F.args_list_extend_2 _ _) (ext_tupW l its.toArray n b it2.toArray n2 _ s2 big (by rw [List.size_toArray]; omega) (by rw [List.size_toArray, List.size_toArray]; omega)) ⟨e, o2, ?_⟩
    exact ⟨.non, _, I.lset (its' := its ++ it2) hH e (by simp) (r.append r2) (by rw [List.length_append]; omega), rfl, q⟩
/-- xs.extend(e), e no name's own list -/
@[simp] def wExt (i : Nat) (we : WE) : WE := fun ρ R => lstK i ρ fun _ => we ρ fun r ρ1 => r.isVar = false ∧ dat ρ1 r fun d => match items d with
  | some es => lstK i ρ1 fun ds => ds.length + es.length ≤ sizeLine ∧ R (.fz .none) (putL i ρ1 (ds ++ es))
  | none => False
theorem de_ext (i : Nat) {apos : Pos} (ho : PE X o (tVar i)) (he : DE X e we) (hbase : attributeBase o "extend" X.env (eval o X.env) = eval o X.env := by rfl)
    (hfew : ((backTo pos (starEach (e :: []) X.env)).all (fun x => !x.1) && (backToKw pos (keywordEach [] X.env)).all (fun x => x.1.isSome) && decide ((e :: [] : List Expr).length + ([] : List Keyword).length + (if ([] : List Keyword).isEmpty then 0 else 1) < 30)) = true := by rfl)
    (hline : (apos.endLine == pos.line) = true := by rfl) (hs : starEach (e :: []) X.env = (false, eval e X.env) :: starEach [] X.env := by rfl) (hpl : (backTo pos (starEach [] X.env)).any (·.1) = false := by rfl) :
    DE X (.Call (.Attribute o "extend" apos) [e] [] pos) (wExt i we) := by
  obtain ⟨t, pa, he⟩ := he.ex
  refine ⟨_, pe_bm PySem.F.plainAttrs_list PySem.F.slot_list_extend PySem.F.type_list_extend mt_extW ho (pa_cons pa pa_nil hs) hbase hfew hline hs hpl, fun m σ H ρ f B R Q hK rl hw k => ?_⟩
  obtain ⟨s0, d0, e0, l0, hw⟩ := lstK_iff hw
  obtain ⟨q0, x0, hs0, fi, hx0, _⟩ := lst_at rl e0 l0
  refine ⟨_, hs0, tyL hx0, ?_⟩
  refine he m σ H ρ f B _ _ hK rl hw fun r ρ1 y H1 f1 Br ⟨nv, h⟩ P => ?_
  obtain ⟨d, ed, h⟩ := dat_iff.mp h
  cases ei : items d with
  | none => rw [ei] at h; exact h.elim
  | some zs =>
    rw [ei] at h
    obtain ⟨s1, ds, e1, l1, hl, h⟩ := lstK_iff h
    have rl1 := P.rl.drop
    obtain ⟨q1, xs, hs1, fi1, hx, rx⟩ := lst_at rl1 e1 l1
    rw [hs0] at hs1
    cases hs1
    have ry := P.fzn ed nv
    have fin : ∀ (b : Addr) (ws : List V), y = .ref b → (SqL X.K H1 b ws ∨ SqT X.K H1 b ws) → RpAll m.K (vw m H1 f1 B) ws zs → rExtW X.K (.ref q0) [y] H1 Q := fun b ws ey sq ra => by
      obtain ⟨rl2, st2, le2⟩ := rl1.updL e1 l1 fi1 hs0 ⟨_, hx⟩ (rx.append ra)
      refine ⟨q0, b, xs, ws, rfl, by rw [ey], hx, sq, by rw [rx.length, ra.length]; exact hl, ?_⟩
      exact k _ _ _ _ _ [] h ⟨rl2, ⟨rfl, .non⟩, P.step.trans st2, fun _ z => by cases z⟩
    rcases seq_cases ry ei with ⟨b, ws, ey, h1, h2⟩ | ⟨b, ws, ey, h1, h2⟩
    · exact fin b ws ey (.inl (hK ▸ rl1.le.seqL h1)) h2
    · exact fin b ws ey (.inr (hK ▸ rl1.le.seqT h1)) h2
/-- xs.pop() -/
@[simp] def wPop (i : Nat) : WE := fun ρ R => lstK i ρ fun ds => match ds[ds.length - 1]? with
  | some d => R (.fz d) (putL i ρ ds.dropLast)
  | none => False
theorem RpAll.dropLast {K : PySem.W.Frag} {F : Hp} {vs : List V} {ds : List PyData} (h : RpAll K F vs ds) : RpAll K F vs.dropLast ds.dropLast := by
  rw [List.dropLast_eq_take, List.dropLast_eq_take, h.length]
  exact h.take _
theorem de_pop (i : Nat) {apos : Pos} (ho : PE X o (tVar i)) (hbase : attributeBase o "pop" X.env (eval o X.env) = eval o X.env := by rfl) (hline : (apos.endLine == pos.line) = true := by rfl) :
    DE X (.Call (.Attribute o "pop" apos) [] [] pos) (wPop i) := by
  refine ⟨_, pe_bm0 PySem.F.plainAttrs_list PySem.F.slot_list_pop PySem.F.type_list_pop mt_pop ho hbase hline, fun m σ H ρ f B R Q hK rl hw k => ?_⟩
  obtain ⟨s0, ds, e0, l0, hw⟩ := lstK_iff hw
  obtain ⟨q0, xs, hs0, fi, hx, rx⟩ := lst_at rl e0 l0
  refine ⟨_, hs0, tyL hx, ?_⟩
  cases ed : ds[ds.length - 1]? with
  | none => rw [ed] at hw; exact hw.elim
  | some d =>
    rw [ed] at hw
    obtain ⟨y, ey, ry⟩ := rx.at' ed
    obtain ⟨rl2, st2, le2⟩ := rl.updL e0 l0 fi hs0 ⟨_, hx⟩ rx.dropLast
    refine ⟨q0, xs, y, rfl, rfl, hx, by rw [rx.length]; exact ey, ?_⟩
    exact k _ _ _ _ _ [] hw ⟨rl2, ⟨rfl, ry.up le2⟩, st2, fun _ z => by cases z⟩
/-- xs.pop(e) -/
@[simp] def wPopAt (i : Nat) (we : WE) : WE := fun ρ R => lstK i ρ fun _ => we ρ fun r ρ1 => intR ρ1 r fun j => lstK i ρ1 fun ds => (-(2 ^ 63) ≤ j ∧ j < 2 ^ 63) ∧ match ixN ds.length j with
  | some n => (match ds[n]? with
    | some d => R (.fz d) (putL i ρ1 (ds.eraseIdx n))
    | none => False)
  | none => False
theorem de_popAt (i : Nat) {apos : Pos} (ho : PE X o (tVar i)) (he : DE X e we) (hbase : attributeBase o "pop" X.env (eval o X.env) = eval o X.env := by rfl)
    (hfew : ((backTo pos (starEach (e :: []) X.env)).all (fun x => !x.1) && (backToKw pos (keywordEach [] X.env)).all (fun x => x.1.isSome) && decide ((e :: [] : List Expr).length + ([] : List Keyword).length + (if ([] : List Keyword).isEmpty then 0 else 1) < 30)) = true := by rfl)
    (hline : (apos.endLine == pos.line) = true := by rfl) (hs : starEach (e :: []) X.env = (false, eval e X.env) :: starEach [] X.env := by rfl) (hpl : (backTo pos (starEach [] X.env)).any (·.1) = false := by rfl) :
    DE X (.Call (.Attribute o "pop" apos) [e] [] pos) (wPopAt i we) := by
  obtain ⟨t, pa, he⟩ := he.ex
  refine ⟨_, pe_bm PySem.F.plainAttrs_list PySem.F.slot_list_pop PySem.F.type_list_pop mt_popAt ho (pa_cons pa pa_nil hs) hbase hfew hline hs hpl, fun m σ H ρ f B R Q hK rl hw k => ?_⟩
  obtain ⟨s0, d0, e0, l0, hw⟩ := lstK_iff hw
  obtain ⟨q0, x0, hs0, fi, hx0, _⟩ := lst_at rl e0 l0
  refine ⟨_, hs0, tyL hx0, ?_⟩
  refine he m σ H ρ f B _ _ hK rl hw fun r ρ1 y H1 f1 Br h P => ?_
  obtain ⟨j, er, h⟩ := intR_iff h
  subst er
  have ey := Rp.intv P.ok.2
  subst ey
  obtain ⟨s1, ds, e1, l1, hj, h⟩ := lstK_iff h
  have rl1 := P.rl.drop
  obtain ⟨q1, xs, hs1, fi1, hx, rx⟩ := lst_at rl1 e1 l1
  rw [hs0] at hs1
  cases hs1
  cases en : ixN ds.length j with
  | none => rw [en] at h; exact h.elim
  | some n =>
    rw [en] at h
    cases ed : ds[n]? with
    | none => simp only [ed] at h
    | some d =>
      simp only [ed] at h
      obtain ⟨y, ey, ry⟩ := rx.at' ed
      obtain ⟨rl2, st2, le2⟩ := rl1.updL e1 l1 fi1 hs0 ⟨_, hx⟩ (rx.eraseIdx n)
      refine ⟨q0, xs, j, n, y, rfl, rfl, hx, hj.1, hj.2, by rw [rx.length]; exact (ixN_seq en).1, ey, ?_⟩
      exact k _ _ _ _ _ [] h ⟨rl2, ⟨rfl, ry.up le2⟩, P.step.trans st2, fun _ z => by cases z⟩
/-- xs[i] = e: e first, then i -/
@[simp] def wSetI (i : Nat) (we wi : WE) : WS := fun E ρ => we ρ fun r ρ1 => r.isVar = false ∧ dat ρ1 r fun d => lstK i ρ1 fun _ => wi ρ1 fun ri ρ2 => intR ρ2 ri fun j => lstK i ρ2 fun ds => match ixN ds.length j with
  | some n => E.nx (putL i ρ2 (ds.set n d))
  | none => False
theorem Rs.data_nv {r : Rs} (h : r.isVar = false) (ρ ρ' : List Slot) : r.data ρ = r.data ρ' := by cases r <;> first | rfl | cases h
theorem ds_setI (i : Nat) {tpos : Pos} {ix : Expr} (he : DE X e we) (ho : PE X o (tVar i)) (hi : DE X ix wi)
    (hsw : swapsWithSole [.Subscript o ix tpos] e pos.line X.env = pure false := by rfl) (hst : swappedStores [.Subscript o ix tpos] e X.env = pure none := by rfl) (hat : (assignEach [.Subscript o ix tpos] X.env).map (·.2) = [assign (.Subscript o ix tpos) X.env] := by rfl)
    (hasg : ∀ v, assign (.Subscript o ix tpos) X.env v = (do
      let ov ← holding [v] (eval o X.env)
      let iv ← holding [v, ov] (eval ix X.env)
      standAt tpos
      holding [v, ov, iv] (setItem ov iv v)
      release [v, ov, iv] []) := by intro _; rfl) : DS X (.Assign [.Subscript o ix tpos] e pos) (wSetI i we wi) := by
  obtain ⟨te, pe, he⟩ := he.ex
  obtain ⟨ti, pi, hi⟩ := hi.ex
  refine ⟨_, ps_asg pe (pg_sub ho pi set_list hasg) hsw hst hat, fun m σ H ρ f E D hK rl hw L => ?_⟩
  refine he m σ H ρ f [] _ _ hK rl hw fun r ρ1 y H1 f1 Br ⟨nv, h⟩ P => ?_
  obtain ⟨d, ed, h⟩ := dat_iff.mp h
  obtain ⟨s0, d0, e0, l0, h⟩ := lstK_iff h
  obtain ⟨q0, x0, hs0, fi, hx0, _⟩ := lst_at P.rl e0 l0
  refine ⟨_, hs0, ?_⟩
  refine hi m σ H1 ρ1 f1 (Br ++ []) _ _ hK P.rl h fun ri ρ2 z H2 f2 Br2 h P2 => ?_
  obtain ⟨j, er, h⟩ := intR_iff h
  subst er
  have ez := Rp.intv P2.ok.2
  subst ez
  obtain ⟨s1, ds, e1, l1, h⟩ := lstK_iff h
  have Q1 := P.first P2
  have rl2 := Q1.rl.drop
  obtain ⟨q1, xs, hs1, fi1, hx, rx⟩ := lst_at rl2 e1 l1
  rw [hs0] at hs1
  cases hs1
  have ry := Q1.fzn (show r.data ρ2 = some d by rw [← ed]; exact Rs.data_nv nv _ _) nv
  cases en : ixN ds.length j with
  | none => rw [en] at h; exact h.elim
  | some n =>
    rw [en] at h
    obtain ⟨rl3, st3, le3⟩ := rl2.updL e1 l1 fi1 hs0 ⟨_, hx⟩ (RpAll.set ry n rx)
    refine ⟨q0, xs, j, n, rfl, rfl, hx, by rw [rx.length]; exact en, ?_⟩
    exact L.nx _ _ _ _ rl3 ((Q1.step.trans st3).le) h
end
end Dn
/-! DnB: built-ins by data. -/
namespace Dn
open PySem PySem.Spec PyProof.Rows L2 PySem.W

section
variable {X : Cx}
theorem cr_or {g : Value} {r1 r2 : List V → Hp → VK → Prop} (h1 : CallR X g r1) (h2 : CallR X g r2) : CallR X g (fun vs H Q => r1 vs H Q ∨ r2 vs H Q) := by
  intro pins s σ H vs us Q I r h
  rcases h with h | h
  · exact h1 pins s σ H vs us Q I r h
  · exact h2 pins s σ H vs us Q I r h
theorem RpAll.one1 {K : PySem.W.Frag} {F : Hp} {vs : List V} {d : PyData} (h : RpAll K F vs [d]) : ∃ v, vs = [v] ∧ Rp K F v d := by
  cases h with
  | cons h1 h2 => cases h2; exact ⟨_, rfl, h1⟩
theorem RpAll.two2 {K : PySem.W.Frag} {F : Hp} {vs : List V} {d e : PyData} (h : RpAll K F vs [d, e]) : ∃ v w, vs = [v, w] ∧ Rp K F v d ∧ Rp K F w e := by
  cases h with
  | cons h1 h2 =>
    obtain ⟨w, rfl, h3⟩ := h2.one1
    exact ⟨_, w, rfl, h1, h3⟩
/-! len -/
@[simp] def oLen : OA := fun ds R => match ds with
  | [.list xs] => R (.fz (.int (xs.length : Nat)))
  | [.tuple xs] => R (.fz (.int (xs.length : Nat)))
  | [.str x] => x.length ≤ sizeLine ∧ R (.fz (.int (x.length : Nat)))
  | _ => False
theorem oLen_ok : CallD X (.builtin "len") oLen := by
  refine ⟨_, call_len, fun F H vs ds R Q s tl r ho k => ?_⟩
  have le : RdLe F H := .of s
  unfold oLen at ho
  split at ho
  · obtain ⟨v, rfl, rv⟩ := r.one1
    cases rv with
    | lst h1 h2 => exact ⟨_, _, rfl, .inl ⟨_, le.seqL h1, rfl⟩, by rw [h2.length]; exact k _ _ _ ho (.refl _) (.int _)⟩
  · obtain ⟨v, rfl, rv⟩ := r.one1
    cases rv with
    | tup h1 h2 => exact ⟨_, _, rfl, .inr ⟨_, le.seqT h1, rfl⟩, by rw [h2.length]; exact k _ _ _ ho (.refl _) (.int _)⟩
  · obtain ⟨v, rfl, rv⟩ := r.one1
    have e := rv.strv
    subst e
    exact ⟨_, _, rfl, ⟨ho.1, rfl⟩, k _ _ _ ho.2 (.refl _) (.int _)⟩
  · exact ho.elim
/-! tuple, list -/
@[simp] def oTup : OA := fun ds R => match ds with
  | [.list xs] => R (.fz (.tuple xs))
  | [.tuple xs] => R (.fz (.tuple xs))
  | _ => False
theorem oTup_ok : CallD X (.type "tuple") oTup := by
  refine ⟨_, call_tuple_of, fun F H vs ds R Q s tl r ho k => ?_⟩
  have le : RdLe F H := .of s
  unfold oTup at ho
  split at ho
  · obtain ⟨v, rfl, rv⟩ := r.one1
    cases rv with
    | lst h1 h2 => exact ⟨_, _, rfl, .inl ⟨le.seqL h1, fun l hl => k _ _ _ ho (same_upd hl) (.tup (SqT.of (nxx_iff.mpr ⟨by simp, .inr ⟨hl, upd_same⟩⟩)) (h2.up (nxx_of s (by simp))))⟩⟩
  · obtain ⟨v, rfl, rv⟩ := r.one1
    cases rv with
    | tup h1 h2 =>
      have n0 : RdLe F (nxx F H H []) := nxx_of s (by simp)
      exact ⟨_, _, rfl, .inr ⟨le.seqT h1, k _ _ _ ho (.refl _) (.tup (n0.seqT h1) (h2.up n0))⟩⟩
  · exact ho.elim
@[simp] def oLst : OA := fun ds R => match ds with
  | [.list xs] => R (.ol xs)
  | [.tuple xs] => R (.ol xs)
  | _ => False
theorem oLst_ok : CallD X (.type "list") oLst := by
  refine ⟨_, call_list_of, fun F H vs ds R Q s tl r ho k => ?_⟩
  have le : RdLe F H := .of s
  unfold oLst at ho
  split at ho
  · obtain ⟨v, rfl, rv⟩ := r.one1
    cases rv with
    | lst h1 h2 => exact ⟨_, _, rfl, .inl (le.seqL h1), fun l hl => k _ _ _ ho (same_upd hl) ⟨l, _, rfl, hl, upd_same, h2.up (nxx_of s (by simp [hl]))⟩⟩
  · obtain ⟨v, rfl, rv⟩ := r.one1
    cases rv with
    | tup h1 h2 => exact ⟨_, _, rfl, .inr (le.seqT h1), fun l hl => k _ _ _ ho (same_upd hl) ⟨l, _, rfl, hl, upd_same, h2.up (nxx_of s (by simp [hl]))⟩⟩
  · exact ho.elim
/-! all, any, sum, max, min of a list -/
@[simp] def isB : PyData → Bool
  | .bool _ => true
  | _ => false
@[simp] def toB : PyData → Bool
  | .bool b => b
  | _ => false
@[simp] def isI : PyData → Bool
  | .int _ => true
  | _ => false
@[simp] def toI : PyData → Int
  | .int i => i
  | _ => 0
theorem RpAll.bools {K : PySem.W.Frag} {F : Hp} : ∀ {ds : List PyData} {vs : List V}, ds.all isB = true → RpAll K F vs ds → vs = (ds.map toB).map V.bl
  | [], _, _, h => by cases h; rfl
  | d :: ds, _, b, h => by
    rw [List.all_cons, Bool.and_eq_true] at b
    cases h with
    | cons h1 h2 =>
      rw [RpAll.bools b.2 h2]
      cases d <;> first | (cases h1; rfl) | (cases b.1)
theorem RpAll.intsI {K : PySem.W.Frag} {F : Hp} : ∀ {ds : List PyData} {vs : List V}, ds.all isI = true → RpAll K F vs ds → vs = (ds.map toI).map V.int
  | [], _, _, h => by cases h; rfl
  | d :: ds, _, b, h => by
    rw [List.all_cons, Bool.and_eq_true] at b
    cases h with
    | cons h1 h2 =>
      rw [RpAll.intsI b.2 h2]
      cases d <;> first | (cases h1; rfl) | (cases b.1)
@[simp] def oAll : OA := fun ds R => match ds with
  | [.list xs] => xs.all isB = true ∧ R (.fz (.bool (xs.all toB)))
  | _ => False
@[simp] def oAny : OA := fun ds R => match ds with
  | [.list xs] => xs.all isB = true ∧ R (.fz (.bool (xs.any toB)))
  | _ => False
theorem oAll_ok (hc : X.calm = true) : CallD X (.builtin "all") oAll := by
  refine ⟨_, cr_all hc, fun F H vs ds R Q s tl r ho k => ?_⟩
  unfold oAll at ho
  split at ho
  · obtain ⟨v, rfl, rv⟩ := r.one1
    cases rv with
    | lst h1 h2 =>
      rename_i xs a ys
      refine ⟨a, xs.map toB, rfl, h2.bools ho.1 ▸ (RdLe.of s).seqL h1, ?_⟩
      have e : (xs.map toB).all id = xs.all toB := by rw [List.all_map]; rfl
      rw [e]
      exact k _ _ _ ho.2 (.refl _) (.bl _)
  · exact ho.elim
theorem oAny_ok (hc : X.calm = true) : CallD X (.builtin "any") oAny := by
  refine ⟨_, cr_any hc, fun F H vs ds R Q s tl r ho k => ?_⟩
  unfold oAny at ho
  split at ho
  · obtain ⟨v, rfl, rv⟩ := r.one1
    cases rv with
    | lst h1 h2 =>
      rename_i xs a ys
      refine ⟨a, xs.map toB, rfl, h2.bools ho.1 ▸ (RdLe.of s).seqL h1, ?_⟩
      have e : (xs.map toB).any id = xs.any toB := by rw [List.any_map]; rfl
      rw [e]
      exact k _ _ _ ho.2 (.refl _) (.bl _)
  · exact ho.elim
@[simp] def oSum : OA := fun ds R => match ds with
  | [.list xs] => xs.all isI = true ∧ R (.fz (.int (xs.map toI).sum))
  | _ => False
theorem oSum_ok (hc : X.calm = true) : CallD X (.builtin "sum") oSum := by
  refine ⟨_, cr_sum hc, fun F H vs ds R Q s tl r ho k => ?_⟩
  unfold oSum at ho
  split at ho
  · obtain ⟨v, rfl, rv⟩ := r.one1
    cases rv with
    | lst h1 h2 =>
      rename_i xs a ys
      exact ⟨a, xs.map toI, rfl, h2.intsI ho.1 ▸ (RdLe.of s).seqL h1, k _ _ _ ho.2 (.refl _) (.int _)⟩
  · exact ho.elim
/-- max and min: of a list of ints, or of two -/
def oMax : OA := fun ds R => match ds with
  | [.list xs] => xs.all isI = true ∧ xs ≠ [] ∧ ∀ m, m ∈ xs.map toI → (∀ y ∈ xs.map toI, y ≤ m) → R (.fz (.int m))
  | [.int i, .int j] => R (.fz (.int (if j > i then j else i)))
  | _ => False
theorem oMax_ok (hc : X.calm = true) : CallD X (.builtin "max") oMax := by
  refine ⟨_, cr_or (cr_max hc) (call_max2 hc), fun F H vs ds R Q s tl r ho k => ?_⟩
  unfold oMax at ho
  split at ho
  · obtain ⟨v, rfl, rv⟩ := r.one1
    cases rv with
    | lst h1 h2 =>
      rename_i xs a ys
      refine .inl ⟨a, xs.map toI, rfl, h2.intsI ho.1 ▸ (RdLe.of s).seqL h1, ?_, fun m h3 h4 => k _ _ _ (ho.2.2 m h3 h4) (.refl _) (.int _)⟩
      rw [List.length_map]
      exact List.length_pos_iff.mpr ho.2.1
  · obtain ⟨v, w, rfl, r1, r2⟩ := r.two2
    exact .inr ⟨_, _, by rw [r1.intv, r2.intv], k _ _ _ ho (.refl _) (.int _)⟩
  · exact ho.elim
def oMin : OA := fun ds R => match ds with
  | [.list xs] => xs.all isI = true ∧ xs ≠ [] ∧ ∀ m, m ∈ xs.map toI → (∀ y ∈ xs.map toI, m ≤ y) → R (.fz (.int m))
  | [.int i, .int j] => R (.fz (.int (if j < i then j else i)))
  | _ => False
theorem oMin_ok (hc : X.calm = true) : CallD X (.builtin "min") oMin := by
  refine ⟨_, cr_or (cr_min hc) (call_min2 hc), fun F H vs ds R Q s tl r ho k => ?_⟩
  unfold oMin at ho
  split at ho
  · obtain ⟨v, rfl, rv⟩ := r.one1
    cases rv with
    | lst h1 h2 =>
      rename_i xs a ys
      refine .inl ⟨a, xs.map toI, rfl, h2.intsI ho.1 ▸ (RdLe.of s).seqL h1, ?_, fun m h3 h4 => k _ _ _ (ho.2.2 m h3 h4) (.refl _) (.int _)⟩
      rw [List.length_map]
      exact List.length_pos_iff.mpr ho.2.1
  · obtain ⟨v, w, rfl, r1, r2⟩ := r.two2
    exact .inr ⟨_, _, by rw [r1.intv, r2.intv], k _ _ _ ho (.refl _) (.int _)⟩
  · exact ho.elim
/-! int, abs -/
@[simp] def oInt : OA := fun ds R => match ds with
  | [.int i] => R (.fz (.int i))
  | [.bool b] => R (.fz (.int (if b = true then 1 else 0)))
  | _ => False
theorem oInt_ok : CallD X (.type "int") oInt := by
  refine ⟨_, call_int1, fun F H vs ds R Q s tl r ho k => ?_⟩
  unfold oInt at ho
  split at ho
  · obtain ⟨v, rfl, rv⟩ := r.one1
    exact .inl ⟨_, by rw [rv.intv], k _ _ _ ho (.refl _) (.int _)⟩
  · obtain ⟨v, rfl, rv⟩ := r.one1
    exact .inr ⟨_, by rw [rv.bool], k _ _ _ ho (.refl _) (.int _)⟩
  · exact ho.elim
@[simp] def oAbs : OA := fun ds R => match ds with
  | [.int i] => R (.fz (.int (if i < 0 then -i else i)))
  | _ => False
theorem oAbs_ok : CallD X (.builtin "abs") oAbs := by
  refine ⟨_, call_abs, fun F H vs ds R Q s tl r ho k => ?_⟩
  unfold oAbs at ho
  split at ho
  · obtain ⟨v, rfl, rv⟩ := r.one1
    exact ⟨_, by rw [rv.intv], k _ _ _ ho (.refl _) (.int _)⟩
  · exact ho.elim
/-! repr -/
@[simp] def oRepr : OA := fun ds R => match ds with
  | [d] => d.showable = true ∧ d.canLay0 = true ∧ d.depth ≤ 60 ∧ d.shown.length ≤ sizeLine ∧ R (.fz (.str d.shown))
  | _ => False
theorem oRepr_ok (hg : Clear X.A) (hu : X.A.units + 64 < cLine) : CallD X (.builtin "repr") oRepr := by
  refine ⟨fun vs H Q => ∃ v d, vs = [v] ∧ Rp X.K H v d ∧ d.showable = true ∧ d.canLay0 = true ∧ d.depth ≤ 60 ∧ d.shown.length ≤ sizeLine ∧ Q (.str d.shown) H, ?_, fun F H vs ds R Q s tl r ho k => ?_⟩
  · intro pins s σ H vs us Q I rv h
    obtain ⟨v, d, rfl, rd, hs, hl, hd, hz, q⟩ := h
    obtain ⟨u, rfl, ru⟩ := rv.one
    obtain ⟨as, re⟩ := Dp.reads I d v u (rd.dp d hl) ru
    cases rd with
    | non => cases ru; exact PySem.P.repr_of_none ⟨.str _, H, I.tok _, ⟨_, rfl⟩, q⟩
    | bl b => cases ru; exact PySem.P.repr_of_bool ⟨.str _, H, I.tok _, ⟨_, rfl⟩, q⟩
    | int i =>
      obtain ⟨t, rfl⟩ := ru
      exact PySem.P.repr_of_int (by simpa [PyData.showable] using hs) ⟨.str _, H, I.tok _, ⟨_, rfl⟩, q⟩
    | str x =>
      obtain ⟨t, rfl⟩ := ru
      exact PySem.P.repr_of_str ⟨.str _, H, I.tok _, ⟨_, rfl⟩, q⟩ hz
    | lst _ _ =>
      cases ru
      exact repr_of_reads' re hs (PyData.noDict_hsm (PyData.hasDict_of_canLay _ hl)) hg (by omega) (fun _ _ e => e) (fun h' u tk hk => ⟨.str _, H, I.kept hk, ⟨_, rfl⟩, q⟩) hz
    | tup _ _ =>
      cases ru
      exact repr_of_reads' re hs (PyData.noDict_hsm (PyData.hasDict_of_canLay _ hl)) hg (by omega) (fun _ _ e => e) (fun h' u tk hk => ⟨.str _, H, I.kept hk, ⟨_, rfl⟩, q⟩) hz
    | dct _ _ => simp [PyData.canLay0] at hl
  · unfold oRepr at ho
    split at ho
    · obtain ⟨v, rfl, rv⟩ := r.one1
      exact ⟨v, _, rfl, rv.up (.of s), ho.1, ho.2.1, ho.2.2.1, ho.2.2.2.1, k _ _ _ ho.2.2.2.2 (.refl _) (.str _)⟩
    · exact ho.elim
/-! sorted -/
theorem collect_tupG {prog : Program} {w : World} {A : Around} {E : Value → Shared → Prop} {s : Shared} {l : Addr} {vs : List Value} {Q : List Value → Shared → Prop} (hl : IsTup s.heap l vs.toArray) (hz : vs.length ≤ sizeLine)
    (h : Q vs { s with heap := (s.heap.push (seqObj "list" #[] 0)).update s.heap.objs.size (Obj.mapSeq (· ++ vs.toArray)) }) : wpAny (model prog w) A (collect (.ref l)) Q E s := by
  obtain ⟨o, ho, hc, n, hd⟩ := hl
  have old : (s.heap.push (seqObj "list" #[] 0)).get? l = some o := Heap.get?_push_of_some _ ho
  have new : (s.heap.push (seqObj "list" #[] 0)).get? s.heap.objs.size = some (seqObj "list" #[] 0) := Heap.get?_push_size _ rfl
  unfold collect
  apply wpAny_bind
  apply wpAny_runValue
  apply codeAny_builtin entry_proto_collect'
  show wpAny _ _ (do again (.builtin "list.__iadd__" ⟨[← newList [], .ref l], []⟩)) _ _ s
  refine wpAny_bind (wpAny_newList (wpAny_pure ⟨Code.quiet_builtin _ (by decide +kernel), ?_⟩))
  apply codeAny_builtin entry_list_iadd'
  show wpAny _ _ (Builtin.List.listExtendWith (.ref s.heap.objs.size) (.ref l) (.ref s.heap.objs.size)) _ _ { s with heap := s.heap.push (seqObj "list" #[] 0) }
  unfold Builtin.List.listExtendWith
  refine wpAny_bind (wpAny_typeOf (T := "tuple") ⟨o, old, hc⟩ ?_)
  have tt : (Value.type "tuple" == Value.type "tuple") = true := by rfl
  rw [if_pos (by rw [tt]; simp)]
  refine wpAny_bind (listItems_at old hd ?_)
  refine wpAny_bind (listItems_at (xs := #[]) (n := 0) new rfl ?_)
  rw [if_neg (by simp)]
  have room : (#[] ++ vs.toArray : Array Value).size ≤ sizeLine + 1 := by
    simp only [Array.size_append, List.size_toArray, List.length_nil]
    omega
  refine wpAny_bind (listUpdate_at (xs := #[]) (n := 0) new rfl ?_ (Nat.zero_le _) room)
  apply wpAny_pure
  show wpAny (model prog w) A (do
      let o ← load s.heap.objs.size
      match o.data with
      | .seq xs _ => pure xs.toList
      | _ => unsupported "internal:collect") Q E { s with heap := (s.heap.push (seqObj "list" #[] 0)).update s.heap.objs.size (Obj.mapSeq (· ++ vs.toArray)) }
  refine wpAny_bind (wpAny_load (get?_update_seq new _) ?_)
  show wpAny _ _ (pure ((#[] : Array Value) ++ vs.toArray).toList) Q E _
  have same : ((#[] : Array Value) ++ vs.toArray).toList = vs := by simp
  rw [same]
  exact wpAny_pure h
theorem sorted_collect {prog : Program} {w : World} {A : Around} {E : Value → Shared → Prop} {s : Shared} {l : Addr} {vs : List Value} {Q : Value → Shared → Prop} (hz : vs.length ≤ sizeLine)
    (co : ∀ {Q' : List Value → Shared → Prop} {E' : Value → Shared → Prop}, Q' vs { s with heap := (s.heap.push (seqObj "list" #[] 0)).update s.heap.objs.size (Obj.mapSeq (· ++ vs.toArray)) } → wpAny (model prog w) A.in1 (collect (.ref l)) Q' E' s)
    (body : ∀ E' : Value → Shared → Prop, wpAny (model prog w) A.in1.in1 (Builtin.«list.sort» ⟨[.ref (s.heap.objs.size + 1)], []⟩) (fun f s' => f = .done (.ret .none) ∧ Q (.ref (s.heap.objs.size + 1)) s') E' { s with heap := copyHeap s.heap vs }) :
    wpAny (model prog w) A (call (.builtin "sorted") [.ref l]) Q E s := by
  apply call_function_entry_kw kind_sorted plain_sorted entry_sorted (args_sorted1 _)
  unfold Builtin.«sorted»
  refine wpAny_bind (m := checkCount "sorted" 1 1 _) (wpAny_pure ?_)
  refine wpAny_bind (co ?_)
  refine wpAny_bind (wpAny_newList ?_ hz)
  have size : ((s.heap.push (seqObj "list" #[] 0)).update s.heap.objs.size (Obj.mapSeq (· ++ vs.toArray))).objs.size = s.heap.objs.size + 1 := by
    rw [Heap.size_update]
    exact size_push' _ _
  show wpAny _ _ _ _ _ { s with heap := copyHeap s.heap vs }
  rw [size]
  refine wpAny_bind (wpAny_holding (wpAny_call_entry_kw slot_list_sort ⟨_, copyHeap_at s.heap vs, rfl⟩ entry_list_sort ?_ (args_list_sort _)))
  show wpAny (model prog w) A.in1.in1 (Builtin.«list.sort» ⟨[.ref (s.heap.objs.size + 1)], []⟩) _ _ _
  refine wpAny_mono (body _) ?_ fun _ _ e => e
  rintro f s' ⟨rfl, q⟩
  exact ⟨_, rfl, wpAny_pure ⟨_, rfl, q⟩⟩
/-- sorted(xs), xs a list or a tuple that reads as data: general over what stands for what -/
theorem sorted_any {prog : Program} {w : World} {A : Around} {E : Value → Shared → Prop} {s : Shared} {l : Addr} {vs : List Value} {ds : List PyData} {R : Value → PyData → Prop} {Q : Value → Shared → Prop} (hl : s.heap.IsList l vs.toArray ∨ IsTup s.heap l vs.toArray)
    (e : EachIs R vs ds) (er : EachIs (fun v d => ∃ as, Reads s.heap v d as) vs ds) (al : AllAlike ds) (so : Sortable ds) (hz : ds.length ≤ sizeLine) (hu : ∀ d, d ∈ ds → A.units + 2 + d.depth < cLine)
    (h : ∀ out, out.length = ds.length → EachIs R out (ds.mergeSort (dataLe false id)) → Q (.ref (s.heap.objs.size + 1)) { s with heap := sortedAll s.heap vs (List.toArray out) }) : wpAny (model prog w) A (call (.builtin "sorted") [.ref l]) Q E s := by
  have len := e.length
  have er2 : EachIs (fun v d => ∃ as, Reads (sortingHeap (copyHeap s.heap vs) (s.heap.objs.size + 1) vs) v (id d) as) vs ds :=
    er.mono fun _ _ ⟨as, r⟩ => ⟨as, PyProof.Rows.Reads.keeps (fun _ _ => sorting_copy_old) r⟩
  have em : EachIs (fun v d => ∃ as, Reads (sortingHeap (copyHeap s.heap vs) (s.heap.objs.size + 1) vs) v d as) vs (ds.map id) := by rw [List.map_id]; exact er2
  have al2 : AllAlike (ds.map id) := by rw [List.map_id]; exact al
  have so2 : Sortable (ds.map id) := by rw [List.map_id]; exact so
  have S : SortsAt prog w A.in1.in1 { s with heap := sortingHeap (copyHeap s.heap vs) (s.heap.objs.size + 1) vs } (dataKind (sortingHeap (copyHeap s.heap vs) (s.heap.objs.size + 1) vs) (ds.map id)) vs :=
    SortsAt.data (s := { s with heap := sortingHeap (copyHeap s.heap vs) (s.heap.objs.size + 1) vs }) em al2 so2 (fun d hd => by
      rw [List.map_id] at hd
      exact hu d hd)
  have fin := h _ (by rw [sortVals_length false rfl]; exact len) (sortVals_data (enc := id) false e er2 al2)
  have hz' : vs.length ≤ sizeLine := by rw [len]; exact hz
  refine sorted_collect hz' (fun {Q' E'} q => ?_) fun E' => list_sort_vals (s := { s with heap := copyHeap s.heap vs }) (copyHeap_at s.heap vs) S hz' ⟨rfl, fin⟩
  rcases hl with hl | hl
  · exact collect_list hl q hz'
  · exact collect_tupG hl hz' q
theorem each_rp {K : PySem.W.Frag} {F H : Hp} {h : Heap} {X : Cx} {pins : List (Addr × Obj)} {σ : L2.St} {s : Shared} (I : L2.Inv X pins σ H s) (le : RdLe F H) : ∀ {ds : List PyData} {vs : List V} {us : List Value}, PyData.canLayAll0 ds = true → RpAll X.K F vs ds → Vals vs us →
    EachIs (fun u d => ∃ v, L2.RelV v u ∧ Rp X.K F v d) us ds ∧ EachIs (fun u d => ∃ as, Reads s.heap u d as) us ds
  | [], _, _, _, h, r => by cases h; cases r; exact ⟨.nil, .nil⟩
  | d :: ds, _, _, c, h, r => by
    have c' : d.canLay0 = true ∧ PyData.canLayAll0 ds = true := by simpa [PyData.canLayAll0] using c
    cases h with
    | cons h1 h2 =>
      cases r with
      | cons r1 r2 =>
        obtain ⟨a, b⟩ := each_rp (K := K) (h := h) I le c'.2 h2 r2
        exact ⟨.cons ⟨_, r1, h1⟩ a, .cons (Dp.reads I d _ _ ((h1.up le).dp d c'.1) r1) b⟩
theorem rp_each {K : PySem.W.Frag} {F : Hp} : ∀ {ds : List PyData} {us : List Value}, EachIs (fun u d => ∃ v, L2.RelV v u ∧ Rp K F v d) us ds → ∃ vs, Vals vs us ∧ RpAll K F vs ds
  | _, _, .nil => ⟨[], .nil, .nil⟩
  | _, _, .cons ⟨v, r, h⟩ t => by
    obtain ⟨vs, a, b⟩ := rp_each t
    exact ⟨v :: vs, .cons r a, .cons h b⟩
/-- the sorted items -/
def sortD (ds : List PyData) : List PyData := ds.mergeSort (dataLe false id)
def oSorted : OA := fun ds R => match ds with
  | [.list xs] => AllAlike xs ∧ Sortable xs ∧ PyData.canLayAll0 xs = true ∧ (∀ d ∈ xs, d.depth ≤ 60) ∧ xs.length ≤ sizeLine ∧ R (.ol (sortD xs))
  | [.tuple xs] => AllAlike xs ∧ Sortable xs ∧ PyData.canLayAll0 xs = true ∧ (∀ d ∈ xs, d.depth ≤ 60) ∧ xs.length ≤ sizeLine ∧ R (.ol (sortD xs))
  | _ => False
theorem oSorted_ok (hu : X.A.units + 64 < cLine) : CallD X (.builtin "sorted") oSorted := by
  refine ⟨fun vs H Q => ∃ F a xs ds, vs = [.ref a] ∧ Same F H ∧ (SqL X.K F a xs ∨ SqT X.K F a xs) ∧ RpAll X.K F xs ds ∧ (AllAlike ds ∧ Sortable ds ∧ PyData.canLayAll0 ds = true ∧ (∀ d ∈ ds, d.depth ≤ 60) ∧ ds.length ≤ sizeLine) ∧
    ∀ p ys, H p = none → RpAll X.K F ys (sortD ds) → Q (.ref p) (upd H p (.lst ys)), ?_, fun F H vs ds R Q s tl r ho k => ?_⟩
  · intro pins s σ H vs us Q I rv h
    obtain ⟨F, a, xs, ds, rfl, sF, sq, ra, ⟨al, so, cl, dp, hz⟩, q⟩ := h
    have le : RdLe F H := .of sF
    rw [Vals.ref1 rv]
    have both : ∃ its : List Value, Vals xs its ∧ (s.heap.IsList a its.toArray ∨ IsTup s.heap a its.toArray) := by
      rcases sq with sq | sq
      · obtain ⟨its, r, pl, _⟩ := I.list (le.seqL sq)
        exact ⟨its, r, .inl pl.isList⟩
      · obtain ⟨its, r, pl, _⟩ := I.tuple (le.seqT sq)
        exact ⟨its, r, .inr pl⟩
    obtain ⟨its, r, hl⟩ := both
    obtain ⟨e1, e2⟩ := each_rp (K := X.K) (h := s.heap) I le cl ra r
    refine sorted_any hl e1 e2 al so hz (fun d hd => by have := dp d hd; omega) fun out ho eo => ?_
    obtain ⟨ys, v1, r1⟩ := rp_each eo
    obtain ⟨ep, he⟩ := PyProof.Rows.sortedAll_at s.heap its (List.toArray out)
    have hlen : ys.length ≤ sizeLine := by rw [v1.length, ho]; exact hz
    exact ⟨.ref _, upd H (s.heap.objs.size + 1) (.lst ys), I.laid (t' := s.toks) (fun _ _ => PyProof.Rows.sortedAll_old) (Nat.le_succ _) ⟨hlen, out, ep, v1, he⟩, rfl, q _ ys (I.hok.fresh (Nat.le_succ _)) r1⟩
  · unfold oSorted at ho
    have fin : ∀ a xs es, vs = [.ref a] → (SqL X.K F a xs ∨ SqT X.K F a xs) → RpAll X.K F xs es → (AllAlike es ∧ Sortable es ∧ PyData.canLayAll0 es = true ∧ (∀ d ∈ es, d.depth ≤ 60) ∧ es.length ≤ sizeLine ∧ R (.ol (sortD es))) → _ := fun a xs es ev sq ra ho =>
      (⟨F, a, xs, es, ev, s, sq, ra, ⟨ho.1, ho.2.1, ho.2.2.1, ho.2.2.2.1, ho.2.2.2.2.1⟩, fun p ys hp ry => k (.ol (sortD es)) (.ref p) (upd H p (.lst ys)) ho.2.2.2.2.2 (same_upd hp) ⟨p, ys, rfl, hp, upd_same, ry.up (nxx_of s (by simp [hp]))⟩⟩ :
        ∃ F a xs ds, vs = [.ref a] ∧ Same F H ∧ (SqL X.K F a xs ∨ SqT X.K F a xs) ∧ RpAll X.K F xs ds ∧ (AllAlike ds ∧ Sortable ds ∧ PyData.canLayAll0 ds = true ∧ (∀ d ∈ ds, d.depth ≤ 60) ∧ ds.length ≤ sizeLine) ∧ ∀ p ys, H p = none → RpAll X.K F ys (sortD ds) → Q (.ref p) (upd H p (.lst ys)))
    split at ho
    · obtain ⟨v, rfl, rv⟩ := r.one1
      cases rv with
      | lst h1 h2 => exact fin _ _ _ rfl (.inl h1) h2 ho
    · obtain ⟨v, rfl, rv⟩ := r.one1
      cases rv with
      | tup h1 h2 => exact fin _ _ _ rfl (.inr h1) h2 ho
    · exact ho.elim
end
end Dn
/-! DnX: more expressions and statements. -/
namespace Dn
open PySem PySem.Spec PyProof.Rows L2 RZ

section
variable {X : Cx} {pos : Pos} {a b e : Expr} {wa wb we : WE}
/-! a[i] of lists, tuples, texts -/
def atD (ds : List PyData) (i : Int) : Option PyData := (ixN ds.length i).bind fun j => ds[j]?
@[simp] def oIx : O2 := fun d e R => match d, e with
  | .list xs, .int i => match atD xs i with
    | some d => R (.fz d)
    | none => False
  | .tuple xs, .int i => match atD xs i with
    | some d => R (.fz d)
    | none => False
  | .str x, .int i => x.length ≤ sizeLine ∧ match atI x.cps.toList i with
    | some c => R (.fz (.str ⟨#[c]⟩))
    | none => False
  | _, _ => False
theorem atD_rp {K : PySem.W.Frag} {F : Hp} {xs : List V} {ds : List PyData} {i : Int} {d : PyData} (r : RpAll K F xs ds) (h : atD ds i = some d) : ∃ v, atI xs i = some v ∧ Rp K F v d := by
  unfold atD at h
  unfold atI
  rw [r.length]
  cases e : ixN ds.length i with
  | none => rw [e] at h; cases h
  | some j =>
    rw [e] at h
    exact r.at' h
theorem de_at (ha : DE X a wa) (hb : DE X b wb) (hs : PlainIx b := by exact fun _ _ => rfl) : DE X (.Subscript a b pos) (w2 oIx wa wb) := by
  refine de_ix ⟨_, ix_seq, fun F H x y d e R Q s h1 h2 ho k => ?_⟩ ha hb hs
  have le : RdLe F H := .of s
  have n0 : RdLe F (nxx F H H []) := nxx_of s (by simp)
  unfold oIx at ho
  split at ho
  · rename_i xs i
    cases h1 with
    | lst q1 q2 =>
      cases ed : atD xs i with
      | none => simp only [ed] at ho
      | some d =>
        simp only [ed] at ho
        obtain ⟨v, ev, rv⟩ := atD_rp q2 ed
        exact .inl ⟨_, _, i, v, rfl, h2.intv, le.seqL q1, ev, k _ _ _ ho (.refl _) (rv.up n0)⟩
  · rename_i xs i
    cases h1 with
    | tup q1 q2 =>
      cases ed : atD xs i with
      | none => simp only [ed] at ho
      | some d =>
        simp only [ed] at ho
        obtain ⟨v, ev, rv⟩ := atD_rp q2 ed
        exact .inr (.inl ⟨_, _, i, v, rfl, h2.intv, le.seqT q1, ev, k _ _ _ ho (.refl _) (rv.up n0)⟩)
  · rename_i x i
    obtain ⟨hz, ho⟩ := ho
    cases ec : atI x.cps.toList i with
    | none => simp only [ec] at ho
    | some c =>
      simp only [ec] at ho
      exact .inr (.inr ⟨x, i, c, h1.strv, h2.intv, hz, ec, k _ _ _ ho (.refl _) (.str _)⟩)
  · exact ho.elim

/-! tuple(range(n)), list(range(..)) -/
@[simp] def wTupRg1 (wa : WE) : WE := fun ρ R => wa ρ fun r ρ1 => intR ρ1 r fun n => (-(2 ^ 62) ≤ n ∧ n < 2 ^ 62 ∧ n.toNat ≤ 2 ^ 24) ∧ R (.fz (.tuple (rngD 0 n))) ρ1
@[simp] def wLstRg1 (wa : WE) : WE := fun ρ R => wa ρ fun r ρ1 => intR ρ1 r fun n => (-(2 ^ 62) ≤ n ∧ n < 2 ^ 62 ∧ n.toNat ≤ 2 ^ 24) ∧ R (.ol (rngD 0 n)) ρ1
@[simp] def wLstRg2 (wa wb : WE) : WE := fun ρ R => wa ρ fun r1 ρ1 => wb ρ1 fun r2 ρ2 => intR ρ2 r1 fun i => intR ρ2 r2 fun j => RgOk i j ∧ R (.ol (rngD i j)) ρ2
theorem rp_rg {K : PySem.W.Frag} {F : Hp} (a b : Int) : RpAll K F (rgV a b) (rngD a b) := by
  unfold rgV rngD
  generalize List.range (b - a).toNat = l
  induction l with
  | nil => exact .nil
  | cons i l ih => exact .cons (.int _) ih
theorem rgOk0 {n : Int} (h : -(2 ^ 62) ≤ n ∧ n < 2 ^ 62 ∧ n.toNat ≤ 2 ^ 24) : RgOk 0 n := ⟨by decide, by decide, h.1, h.2.1, by rw [Int.sub_zero]; exact h.2.2⟩
theorem de_tupRg1 {p q p2 : Pos} (hc : X.calm = true) (hg : Gl X "tuple") (hm : X.mg "tuple" = none) (hg2 : Gl X "range") (hm2 : X.mg "range" = none) (ha : DE X a wa)
    (h1 : starEach [a] X.env = (false, eval a X.env) :: starEach [] X.env := by rfl) (h2 : starEach [(.Call (.Name "range" q) [a] [] p : Expr)] X.env = (false, eval (.Call (.Name "range" q) [a] [] p) X.env) :: starEach [] X.env := by rfl) :
    DE X (.Call (.Name "tuple" p2) [.Call (.Name "range" q) [a] [] p] [] pos) (wTupRg1 wa) := by
  obtain ⟨t, pa, ha⟩ := ha.ex
  refine ⟨_, pe_tupRg hc hg hm (prg_1 hg2 hm2 pa h1) h2, fun m σ H ρ f B R Q hK rl hw k => ?_⟩
  refine ha m σ H ρ f B _ _ hK rl hw fun r ρ1 v H1 f1 Br h P => ?_
  obtain ⟨n, er, hb, hh⟩ := intR_iff h
  subst er
  refine ⟨n, P.ok.2.intv, rgOk0 hb, fun l hl => ?_⟩
  obtain ⟨Br2, P2⟩ := Post.ofRes (F := vw m H1 f1 B) (H' := upd H1 l (.tup (rgV 0 n))) (v := .ref l) (r := .fz (.tuple (rngD 0 n))) P.rl.drop (same_upd hl) (.inl rfl) (.tup (SqT.of (nxx_iff.mpr ⟨by simp, .inr ⟨hl, upd_same⟩⟩)) (rp_rg _ _))
  exact k _ _ _ _ _ _ hh (P2.comp P.step)
theorem de_lstRg1 {p q p2 : Pos} (hc : X.calm = true) (hg : Gl X "list") (hm : X.mg "list" = none) (hg2 : Gl X "range") (hm2 : X.mg "range" = none) (ha : DE X a wa)
    (h1 : starEach [a] X.env = (false, eval a X.env) :: starEach [] X.env := by rfl) (h2 : starEach [(.Call (.Name "range" q) [a] [] p : Expr)] X.env = (false, eval (.Call (.Name "range" q) [a] [] p) X.env) :: starEach [] X.env := by rfl) :
    DE X (.Call (.Name "list" p2) [.Call (.Name "range" q) [a] [] p] [] pos) (wLstRg1 wa) := by
  obtain ⟨t, pa, ha⟩ := ha.ex
  refine ⟨_, pe_listRg hc hg hm (prg_1 hg2 hm2 pa h1) h2, fun m σ H ρ f B R Q hK rl hw k => ?_⟩
  refine ha m σ H ρ f B _ _ hK rl hw fun r ρ1 v H1 f1 Br h P => ?_
  obtain ⟨n, er, hb, hh⟩ := intR_iff h
  subst er
  refine ⟨n, P.ok.2.intv, rgOk0 hb, fun l hl => ?_⟩
  obtain ⟨Br2, P2⟩ := Post.ofRes (F := vw m H1 f1 B) (H' := upd H1 l (.lst (rgV 0 n))) (v := .ref l) (r := .ol (rngD 0 n)) P.rl.drop (same_upd hl) (.inl rfl) ⟨l, _, rfl, hl, upd_same, rp_rg _ _⟩
  exact k _ _ _ _ _ _ hh (P2.comp P.step)
theorem de_lstRg2 {p q p2 : Pos} (hc : X.calm = true) (hg : Gl X "list") (hm : X.mg "list" = none) (hg2 : Gl X "range") (hm2 : X.mg "range" = none) (ha : DE X a wa) (hb : DE X b wb)
    (h1 : starEach [a, b] X.env = (false, eval a X.env) :: starEach [b] X.env := by rfl) (h2 : starEach [b] X.env = (false, eval b X.env) :: starEach [] X.env := by rfl) (h3 : (backTo p (starEach [b] X.env)).any (·.1) = false := by rfl)
    (h4 : starEach [(.Call (.Name "range" q) [a, b] [] p : Expr)] X.env = (false, eval (.Call (.Name "range" q) [a, b] [] p) X.env) :: starEach [] X.env := by rfl) :
    DE X (.Call (.Name "list" p2) [.Call (.Name "range" q) [a, b] [] p] [] pos) (wLstRg2 wa wb) := by
  obtain ⟨t, pa, ha⟩ := ha.ex
  obtain ⟨t2, pb, hb⟩ := hb.ex
  refine ⟨_, pe_listRg hc hg hm (prg_2 hg2 hm2 pa pb h1 h2 h3) h4, fun m σ H ρ f B R Q hK rl hw k => ?_⟩
  refine ha m σ H ρ f B _ _ hK rl hw fun r ρ1 v H1 f1 Br h P => ?_
  refine hb m σ H1 ρ1 f1 B _ _ hK P.rl.drop h fun r2 ρ2 v2 H2 f2 Br2 h P2 => ?_
  obtain ⟨i, er, h'⟩ := intR_iff h
  obtain ⟨j, er2, hk, hh⟩ := intR_iff h'
  subst er er2
  refine ⟨i, j, P.ok.2.intv, P2.ok.2.intv, hk, fun l hl => ?_⟩
  obtain ⟨Br2, P3⟩ := Post.ofRes (F := vw m H2 f2 B) (H' := upd H2 l (.lst (rgV i j))) (v := .ref l) (r := .ol (rngD i j)) P2.rl.drop (same_upd hl) (.inl rfl) ⟨l, _, rfl, hl, upd_same, rp_rg _ _⟩
  exact k _ _ _ _ _ _ hh (P3.comp (P.step.trans P2.step))

/-! [..] * n -/
@[simp] def wRep (wa wb : WE) : WE := fun ρ R => wa ρ fun r1 ρ1 => wb ρ1 fun r2 ρ2 => match r1 with
  | .ol ds => intR ρ2 r2 fun n => (-(2 ^ 63) ≤ n ∧ n < 2 ^ 63 ∧ ds.length * n.toNat ≤ sizeLine) ∧ R (.ol (List.replicate n.toNat ds).flatten) ρ2
  | _ => False
theorem de_rep (ha : DE X a wa) (hb : DE X b wb) : DE X (.BinOp a .Mult b pos) (wRep wa wb) := by
  obtain ⟨ta, pa, ha⟩ := ha.ex
  obtain ⟨tb, pb, hb⟩ := hb.ex
  refine ⟨_, pe_op op_rep pa pb, fun m σ H ρ f B R Q hK rl hw k => ?_⟩
  refine ha m σ H ρ f B _ _ hK rl hw fun r1 ρ1 x H1 f1 B1 h P1 => ?_
  refine hb m σ H1 ρ1 f1 (B1 ++ B) _ _ hK P1.rl h fun r2 ρ2 y H2 f2 B2 h P2 => ?_
  cases r1 with
  | ol ds =>
    obtain ⟨n, er, ⟨h1, h2, h3⟩, hh⟩ := intR_iff h
    subst er
    have Q1 := P1.first P2
    obtain ⟨l, xs, rfl, eB, hl, q0⟩ := Q1.ok
    have q2 : RpAll m.K (vw m H2 f2 B) xs ds := q0.up (vw_less fun a z => List.mem_append_right _ z)
    refine ⟨l, n, xs, rfl, P2.ok.2.intv, hl, h1, h2, by rw [q2.length]; exact h3, fun p hp => ?_⟩
    obtain ⟨Br2, P3⟩ := Post.ofRes (F := vw m H2 f2 B) (H' := upd H2 p (.lst (List.replicate n.toNat xs).flatten)) (v := .ref p) (r := .ol (List.replicate n.toNat ds).flatten) Q1.rl.drop (same_upd hp) (.inl rfl) ⟨p, _, rfl, hp, upd_same, (q2.rep _).up (nxx_of Q1.rl.drop.vwH (by simp [hp]))⟩
    exact k _ _ _ _ _ _ hh (P3.comp Q1.step)
  | _ => exact h.elim

/-! isinstance(e, T), T a built-in type -/
@[simp] def tyN : PyData → String
  | .none => "NoneType"
  | .bool _ => "bool"
  | .int _ => "int"
  | .str _ => "str"
  | .list _ => "list"
  | .tuple _ => "tuple"
  | .dict _ => "dict"
@[simp] def notD : PyData → Bool
  | .dict _ => false
  | _ => true
theorem Rp.ty {K : PySem.W.Frag} {H : Hp} {v : V} {d : PyData} (h : Rp K H v d) (nd : notD d = true) : TyX K H v (.type (tyN d)) := by
  cases h with
  | non => exact .base .non
  | bl b => exact .base (.bl b)
  | int i => exact .base (.int i)
  | str x => exact .base (.str x)
  | lst h1 _ =>
    rcases h1 with (h1 | ⟨o, h1⟩) | ⟨o, its, n, h1, h2, _⟩
    · exact .base (.lst h1)
    · exact .base (.frz h1)
    · exact .kList h1 h2
  | tup h1 _ =>
    rcases h1 with (h1 | ⟨o, h1⟩) | ⟨o, its, n, h1, h2, _⟩
    · exact .base (.tup h1)
    · exact .fTuple h1
    · exact .kTuple h1 h2
  | dct _ _ => cases nd
@[simp] def wIsi (T : String) (wa : WE) : WE := fun ρ R => wa ρ fun r ρ1 => dat ρ1 r fun d => notD d = true ∧ match L2.kitB (tyN d) T with
  | some b => R (.fz (.bool b)) ρ1
  | none => False
theorem de_isi {T : String} {x : Str} {p p2 : Pos} (ha : DE X a wa) (hg : Gl X "isinstance") (hm : X.mg "isinstance" = none) (hv : bootBuiltins "isinstance" = some (.builtin "isinstance")) (hg2 : Gl X x) (hm2 : X.mg x = none) (hv2 : bootBuiltins x = some (.type T)) (hn2 : x ≠ "__name__") (hd2 : (x == ("__debug__" : Str)) = false)
    (h1 : starEach [a, .Name x p2] X.env = (false, eval a X.env) :: starEach [.Name x p2] X.env := by rfl) (h2 : starEach [.Name x p2] X.env = (false, eval (.Name x p2) X.env) :: starEach [] X.env := by rfl) (hpl : (backTo pos (starEach [.Name x p2] X.env)).any (·.1) = false := by rfl) :
    DE X (.Call (.Name "isinstance" p) [a, .Name x p2] [] pos) (wIsi T wa) := by
  obtain ⟨t, pa, ha⟩ := ha.ex
  refine ⟨_, pe_callB call_isi hg hm hv (pa_cons pa (pa_cons (pe_bltn (v := V.ty T) hg2 hm2 hv2 rfl hn2 hd2) pa_nil h2) h1) (by decide) (by decide) h1 hpl, fun m σ H ρ f B R Q hK rl hw k => ?_⟩
  refine ha m σ H ρ f B _ _ hK rl hw fun r ρ1 v H1 f1 Br h P => ?_
  obtain ⟨d, ed, nd, hh⟩ := dat_iff.mp h
  cases eb : L2.kitB (tyN d) T with
  | none => rw [eb] at hh; exact hh.elim
  | some bb =>
    rw [eb] at hh
    refine ⟨v, V.ty T, _, _, bb, rfl, .ty T, hK ▸ (P.rd ed).ty nd, L2.kit_ty eb, ?_⟩
    exact k _ _ _ _ _ _ hh ((Post.bool P.rl.drop bb).comp P.step)
theorem isi_tt : L2.kitB "tuple" "tuple" = some true := rfl
theorem isi_it : L2.kitB "int" "tuple" = some false := rfl
theorem isi_lt : L2.kitB "list" "tuple" = some false := rfl
theorem isi_bt : L2.kitB "bool" "tuple" = some false := rfl
theorem isi_st : L2.kitB "str" "tuple" = some false := rfl
theorem isi_nt : L2.kitB "NoneType" "tuple" = some false := rfl
theorem isi_ii : L2.kitB "int" "int" = some true := rfl
theorem isi_bi : L2.kitB "bool" "int" = some true := rfl
theorem isi_si : L2.kitB "str" "int" = some false := rfl
theorem isi_ni : L2.kitB "NoneType" "int" = some false := rfl
theorem isi_ti : L2.kitB "tuple" "int" = some false := rfl
theorem isi_li : L2.kitB "list" "int" = some false := rfl
theorem isi_ib : L2.kitB "int" "bool" = some false := rfl
theorem isi_bb : L2.kitB "bool" "bool" = some true := rfl
theorem isi_sb : L2.kitB "str" "bool" = some false := rfl
theorem isi_nb : L2.kitB "NoneType" "bool" = some false := rfl
theorem isi_tb : L2.kitB "tuple" "bool" = some false := rfl
theorem isi_lb : L2.kitB "list" "bool" = some false := rfl
theorem isi_is : L2.kitB "int" "str" = some false := rfl
theorem isi_bs : L2.kitB "bool" "str" = some false := rfl
theorem isi_ss : L2.kitB "str" "str" = some true := rfl
theorem isi_ns : L2.kitB "NoneType" "str" = some false := rfl
theorem isi_ts : L2.kitB "tuple" "str" = some false := rfl
theorem isi_ls : L2.kitB "list" "str" = some false := rfl

/-! len(set(e)), e ints without a pair of equal ones -/
@[simp] def wLenSet (wa : WE) : WE := fun ρ R => wa ρ fun r ρ1 => dat ρ1 r fun d => match items d with
  | some ds => ds.all isI = true ∧ (ds.map toI).Nodup ∧ ds.length ≤ 4000 ∧ R (.fz (.int (ds.length : Nat))) ρ1
  | none => False
theorem de_lenSet {p p2 q : Pos} (hg : Gl X "len") (hm : X.mg "len" = none) (hg2 : Gl X "set") (hm2 : X.mg "set" = none) (ha : DE X a wa) (hc : X.calm = true)
    (na : starEach [a] X.env = (false, eval a X.env) :: starEach [] X.env := by rfl) : DE X (.Call (.Name "len" p) [.Call (.Name "set" p2) [a] [] q] [] pos) (wLenSet wa) := by
  obtain ⟨t, pa, ha⟩ := ha.ex
  refine ⟨fun σ H Q => t σ H fun x H1 => (∃ (l : Addr) (ns : List Int), x = .ref l ∧ SqL X.K H1 l (ns.map V.int) ∧ ns.Nodup ∧ ns.length ≤ 4000 ∧ Q (.int (ns.length : Nat)) H1) ∨ ∃ (l : Addr) (ns : List Int), x = .ref l ∧ SqT X.K H1 l (ns.map V.int) ∧ ns.Nodup ∧ ns.length ≤ 4000 ∧ Q (.int (ns.length : Nat)) H1, ?_, fun m σ H ρ f B R Q hK rl hw k => ?_⟩
  · constructor
    intro pins s σ H Q I want
    refine Call_ (he := by rfl) ?_
    refine ld_blt I hg hm boot_len ?_
    refine PyProof.Rows.callWith_builtin1 (PyProof.Rows.args_cons ?_ rfl) rfl rfl
    refine Call_ (he := by rfl) ?_
    refine ld_blt I hg2 hm2 boot_set ?_
    refine PyProof.Rows.callWith_type1 (PyProof.Rows.args_cons (wpAny_mono (pa.run pins s σ H _ I want) ?_ fun _ _ z => z) na) na rfl
    rintro v s1 ⟨x, H1, I1, r1, ⟨l, ns, rfl, hq, hnd, hl, q1⟩ | ⟨l, ns, rfl, hq, hnd, hl, q1⟩⟩
    · refine PyProof.Rows.args_nil ?_
      cases r1
      obtain ⟨its, r, pl, hz⟩ := I1.list hq
      have hlen : its.toArray.size = ns.length := by rw [List.size_toArray, ← r.length, List.length_map]
      refine call_set_list (I1.ok.hd hc) pl.isList (by simpa using intsAre_vals r) (by rw [hlen]; unfold scanBound; omega) fun h' tk hS hk => ?_
      refine PyProof.Rows.args_nil ?_
      rw [hlen, firstMet_nodup hnd ns.length (Nat.le_refl _), List.take_length] at hS
      obtain ⟨o, es, ep, t, ho, hex, hd, _, _, _, hf, hn⟩ := hS
      have I2 : L2.Inv X pins σ H1 { s1 with heap := h', toks := tk } := I1.kept fun b o e => hk b o (Heap.lt_size e) e
      exact call_len_set ho hex hd hf (by rw [hn] <;> omega) ⟨.int ns.length, H1, I2.tok _, ⟨_, by rw [hn]⟩, q1⟩
    · refine PyProof.Rows.args_nil ?_
      cases r1
      obtain ⟨its, r, pt, hz⟩ := I1.tuple hq
      refine call_set_tupI ns (I1.ok.hd hc) (show s1.heap.IsTuple l its.toArray from pt) (by simpa using intsAre_vals r) (by unfold scanBound; omega) ?_
      intro h' tk c R1 hcn k
      refine PyProof.Rows.args_nil ?_
      obtain ⟨o, es, ep, t, ho, hex, hdt, g, nd, hm3, hb, hf, hn, hr, hl2⟩ := R1
      have same : c = ns.length := by
        have p1 : (es.toList.map keyOf).Perm ns := (List.perm_ext_iff_of_nodup nd hnd).mpr fun j => by
          rw [← hm3 j, decide_eq_true_eq]
        have p2 := p1.length_eq
        rw [List.length_map, Array.length_toList, hn] at p2
        exact p2
      have I2 : L2.Inv X pins σ H1 { s1 with heap := h', toks := tk } := I1.kept k
      exact call_len_set ho hex hdt hf (by rw [hn, same]; omega) ⟨.int ns.length, H1, I2.tok _, ⟨_, by rw [hn, same]⟩, q1⟩
  · refine ha m σ H ρ f B _ _ hK rl hw fun r ρ1 v H1 f1 Br h P => ?_
    obtain ⟨d, ed, hh⟩ := dat_iff.mp h
    have fin : ∀ ds : List PyData, R (.fz (.int (ds.length : Nat))) ρ1 → Q (.int (ds.length : Nat)) H1 := fun ds hr => k _ _ _ _ _ _ hr ((Post.same P.rl.drop (.int _)).comp P.step)
    have rd := P.rd ed
    cases ei : items d with
    | none => rw [ei] at hh; exact hh.elim
    | some ds =>
      rw [ei] at hh
      obtain ⟨h1, h2, h3, h4⟩ := hh
      have h5 := fin ds h4
      have ln : (ds.map toI).length = ds.length := List.length_map ..
      rcases seq_cases rd ei with ⟨l, xs, rfl, q1, q2⟩ | ⟨l, xs, rfl, q1, q2⟩
      · have e := q2.intsI h1
        subst e
        exact .inl ⟨l, ds.map toI, rfl, hK ▸ q1, h2, by rw [ln]; exact h3, by rw [ln]; exact h5⟩
      · have e := q2.intsI h1
        subst e
        exact .inr ⟨l, ds.map toI, rfl, hK ▸ q1, h2, by rw [ln]; exact h3, by rw [ln]; exact h5⟩
end
end Dn
/-! DnD: dicts with flat keys; several names at once; slices. -/
namespace Dn
open PySem PySem.Spec PyProof.Rows L2

/-! ### dicts -/
def encK (kk : List (Key × PyData)) : List (PyData × PyData) := kk.map fun p => (keyD p.1, p.2)
theorem keyD_inj {j k : Key} (h : keyD j = keyD k) : j = k := by
  cases j <;> cases k <;> simp [keyD] at h <;> rw [h]
def hasK (kk : List (Key × PyData)) (k : Key) : Bool := kk.any fun p => decide (p.1 = k)
def putD (kk : List (Key × PyData)) (k : Key) (d : PyData) : List (Key × PyData) :=
  if hasK kk k = true then kk.map (fun p => if p.1 = k then (p.1, d) else p) else kk ++ [(k, d)]
def mergeD (kk more : List (Key × PyData)) : List (Key × PyData) := more.foldl (fun acc p => putD acc p.1 p.2) kk
/-- keys side by side -/
inductive KRel (K : PySem.W.Frag) (F : Hp) : List (Key × V) → List (Key × PyData) → Prop
  | nil : KRel K F [] []
  | cons {k : Key} {v : V} {d : PyData} {vs : List (Key × V)} {ds : List (Key × PyData)} : Rp K F v d → KRel K F vs ds → KRel K F ((k, v) :: vs) ((k, d) :: ds)
section
variable {K : PySem.W.Frag} {F F' : Hp}
theorem KRel.up (l : RdLe F F') {vs : List (Key × V)} {ds : List (Key × PyData)} (h : KRel K F vs ds) : KRel K F' vs ds := by
  induction h with
  | nil => exact .nil
  | cons h1 _ ih => exact .cons (h1.up l) ih
theorem KRel.length {vs : List (Key × V)} {ds : List (Key × PyData)} (h : KRel K F vs ds) : vs.length = ds.length := by
  induction h with
  | nil => rfl
  | cons h1 _ ih => rw [List.length_cons, List.length_cons, ih]
theorem KRel.rp {vs : List (Key × V)} {ds : List (Key × PyData)} (h : KRel K F vs ds) : RpKV K F (vs.map fun p => (keyD p.1, p.2)) (encK ds) := by
  induction h with
  | nil => exact .nil
  | cons h1 _ ih => exact .cons h1 ih
theorem KRel.of : ∀ {ds : List (Key × PyData)} {vs : List (Key × V)}, RpKV K F (vs.map fun p => (keyD p.1, p.2)) (encK ds) → KRel K F vs ds
  | [], [], _ => .nil
  | [], _ :: _, h => by cases h
  | _ :: _, [], h => by cases h
  | (k, d) :: ds, (j, v) :: vs, h => by
    have h' : RpKV K F ((keyD j, v) :: vs.map fun p => (keyD p.1, p.2)) ((keyD k, d) :: encK ds) := h
    generalize ek : keyD j = kj at h'
    generalize ek2 : keyD k = kk at h'
    cases h' with
    | cons h1 h2 =>
      have e := keyD_inj (ek.trans ek2.symm)
      subst e
      exact .cons h1 (KRel.of h2)
theorem KRel.val {k : Key} {vs : List (Key × V)} {ds : List (Key × PyData)} (h : KRel K F vs ds) : (valV vs k).isSome = hasK ds k := by
  induction h with
  | nil => rfl
  | @cons j v d vs ds h1 _ ih =>
    unfold hasK at ih ⊢
    rw [List.any_cons, ← ih]
    unfold valV
    rw [List.find?_cons]
    by_cases e : j = k
    · simp [e]
    · simp [e]
theorem KRel.any {k : Key} {vs : List (Key × V)} {ds : List (Key × PyData)} (h : KRel K F vs ds) : (vs.any fun kv => decide (kv.1 = k)) = hasK ds k := by
  induction h with
  | nil => rfl
  | cons h1 _ ih =>
    unfold hasK at ih ⊢
    rw [List.any_cons, List.any_cons, ih]
theorem KRel.app {vs ws : List (Key × V)} {ds es : List (Key × PyData)} (h : KRel K F vs ds) (g : KRel K F ws es) : KRel K F (vs ++ ws) (ds ++ es) := by
  induction h with
  | nil => exact g
  | cons h1 _ ih => exact .cons h1 ih
theorem KRel.mapIf {k : Key} {v : V} {d : PyData} {vs : List (Key × V)} {ds : List (Key × PyData)} (r : Rp K F v d) (h : KRel K F vs ds) : KRel K F (vs.map fun kv => if kv.1 = k then (kv.1, v) else kv) (ds.map fun p => if p.1 = k then (p.1, d) else p) := by
  induction h with
  | nil => exact .nil
  | @cons j w e vs ds h1 _ ih =>
    rw [List.map_cons, List.map_cons]
    by_cases c : j = k
    · rw [if_pos c, if_pos c]; exact .cons r ih
    · rw [if_neg c, if_neg c]; exact .cons h1 ih
theorem KRel.put {k : Key} {v : V} {d : PyData} {vs : List (Key × V)} {ds : List (Key × PyData)} (h : KRel K F vs ds) (r : Rp K F v d) : KRel K F (L2.putK vs k v) (putD ds k d) := by
  unfold L2.putK putD
  rw [h.any]
  split
  · exact h.mapIf r
  · exact h.app (.cons r .nil)
theorem KRel.merge {ws : List (Key × V)} {es : List (Key × PyData)} (g : KRel K F ws es) : ∀ {vs : List (Key × V)} {ds : List (Key × PyData)}, KRel K F vs ds → KRel K F (mergeK vs ws) (mergeD ds es) := by
  induction g with
  | nil => intro vs ds h; exact h
  | cons h1 _ ih => intro vs ds h; exact ih (h.put h1)
/-- a dict that reads with flat keys (an empty one may be of either kind) -/
theorem dvr_k {a : Addr} {kvs : List (PyData × V)} {kk : List (Key × PyData)} (h : DVr F a kvs) (r : RpKV K F kvs (encK kk)) : (∃ vv, Rd F a (.dK vv) ∧ KRel K F vv kk) ∨ (kk = [] ∧ Rd F a (.dT [])) := by
  rcases h with ⟨vv, h, rfl⟩ | ⟨vv, h, rfl⟩
  · exact .inl ⟨vv, h, .of r⟩
  · cases kk with
    | nil =>
      cases vv with
      | nil => exact .inr ⟨rfl, h⟩
      | cons p vv => cases r
    | cons q kk =>
      cases vv with
      | nil => cases r
      | cons p vv =>
        obtain ⟨k, d⟩ := q
        have r' : RpKV K F ((.tuple (p.1.map keyD), p.2) :: vv.map fun p => (.tuple (p.1.map keyD), p.2)) ((keyD k, d) :: encK kk) := r
        generalize e : keyD k = kd at r'
        cases r'
        cases k <;> simp [keyD] at e
end
section
variable {X : Cx} {pins : List (Addr × Obj)} {σ : L2.St} {H : Hp} {s : Shared} {a : Addr}
/-- the empty dict of tuples is one of flat keys -/
theorem dt_none (I : L2.Inv X pins σ H s) (e : Rd H a (.dT [])) : (a == sysModules) = false ∧ s.heap.DictOf (mixKind X.prog X.w) a [] := by
  obtain ⟨_, hs, xs, r, hd⟩ := dt_rd I.hok e
  cases r
  obtain ⟨o, es, ep, h1, h2, h3, h4, _, h5⟩ := hd
  have e0 : es = #[] := by simpa using h4
  subst e0
  exact ⟨hs, o, #[], ep, h1, h2, h3, by first | (intro e he; simp at he) | simp [KeysOf] | trivial, by first | exact .nil | trivial | simp [Pairs], List.nodup_nil⟩
/-! key in d -/
def rInK : R2 := fun x y H Q => ∃ a vv k, y = .ref a ∧ x = kV k ∧ (Rd H a (.dK vv) ∨ (vv = [] ∧ Rd H a (.dT []))) ∧ Q (.bl (valV vv k).isSome) H
theorem rdK (I : L2.Inv X pins σ H s) {vv : List (Key × V)} (h : Rd H a (.dK vv) ∨ (vv = [] ∧ Rd H a (.dT []))) : (a == sysModules) = false ∧ ∃ vs, KV vv vs ∧ s.heap.DictOf (mixKind X.prog X.w) a vs := by
  rcases h with h | ⟨rfl, h⟩
  · obtain ⟨_, hs, vs, rel, dd⟩ := dk_rd I.hok h
    exact ⟨hs, vs, rel, dd⟩
  · obtain ⟨hs, dd⟩ := dt_none I h
    exact ⟨hs, [], .nil, dd⟩
end
section
variable {X : Cx}
theorem op_inK : OpR X (compareOp .In) rInK := by
  rintro pins s σ H x y v u Q I rx ry ⟨a, vv, k, rfl, rfl, h, q⟩
  cases ry
  obtain ⟨hs, vs, rel, dd⟩ := rdK I h
  refine wpAny_in_of (kV_is rx) hs dd.mapOf ?_
  rw [← (rel.val k).isSome_eq]
  exact ⟨.bl _, H, I.tok _, rfl, q⟩
theorem op_notInK : OpR X (compareOp .NotIn) (fun x y H Q => rInK x y H fun v H' => ∃ b, v = .bl b ∧ Q (.bl (!b)) H') := by
  rintro pins s σ H x y v u Q I rx ry ⟨a, vv, k, rfl, rfl, h, b, eb, q⟩
  cases eb
  cases ry
  obtain ⟨hs, vs, rel, dd⟩ := rdK I h
  refine wpAny_notIn_of (kV_is rx) hs dd.mapOf ?_
  rw [← (rel.val k).isSome_eq]
  exact ⟨.bl _, H, I.tok _, rfl, q⟩
def oInK : O2 := fun d e R => ∃ k kk, d = keyD k ∧ e = .dict (encK kk) ∧ R (.fz (.bool (hasK kk k)))
def oNotInK : O2 := fun d e R => ∃ k kk, d = keyD k ∧ e = .dict (encK kk) ∧ R (.fz (.bool (!hasK kk k)))
theorem Rp.key {K : PySem.W.Frag} {F : Hp} {v : V} {k : Key} (h : Rp K F v (keyD k)) : v = kV k := by
  cases k with
  | inl i => exact Rp.intv h
  | inr x => exact Rp.strv h
theorem rp_dictK {K : PySem.W.Frag} {F : Hp} {v : V} {kk : List (Key × PyData)} (h : Rp K F v (.dict (encK kk))) : ∃ a vv, v = .ref a ∧ KRel K F vv kk ∧ (Rd F a (.dK vv) ∨ (vv = [] ∧ Rd F a (.dT []))) := by
  cases h with
  | dct h1 h2 =>
    rcases dvr_k h1 h2 with ⟨vv, q1, q2⟩ | ⟨rfl, q⟩
    · exact ⟨_, vv, rfl, q2, .inl q1⟩
    · exact ⟨_, [], rfl, .nil, .inr ⟨rfl, q⟩⟩
theorem oInK_ok : OpD X (compareOp .In) oInK := by
  refine ⟨_, op_inK, fun F H x y d e R Q s h1 h2 ho k => ?_⟩
  obtain ⟨j, kk, rfl, rfl, hr⟩ := ho
  have le : RdLe F H := .of s
  obtain ⟨a, vv, rfl, kr, h⟩ := rp_dictK h2
  refine ⟨a, vv, j, rfl, h1.key, h.imp (le _ _) (And.imp id (le _ _)), ?_⟩
  rw [kr.val]
  exact k _ _ _ hr (.refl _) (.bl _)
theorem oNotInK_ok : OpD X (compareOp .NotIn) oNotInK := by
  refine ⟨_, op_notInK, fun F H x y d e R Q s h1 h2 ho k => ?_⟩
  obtain ⟨j, kk, rfl, rfl, hr⟩ := ho
  have le : RdLe F H := .of s
  obtain ⟨a, vv, rfl, kr, h⟩ := rp_dictK h2
  refine ⟨a, vv, j, rfl, h1.key, h.imp (le _ _) (And.imp id (le _ _)), _, rfl, ?_⟩
  rw [kr.val]
  exact k _ _ _ hr (.refl _) (.bl _)
/-! dict(pairs) -/
def encP (kk : List (Key × PyData)) : List PyData := kk.map fun p => .tuple [keyD p.1, p.2]
def oDict : OA := fun ds R => ∃ kk, ds = [.list (encP kk)] ∧ R (.od (encK (mergeD [] kk)))
theorem pairs_k {K : PySem.W.Frag} {F : Hp} : ∀ {kk : List (Key × PyData)} {xs : List V}, RpAll K F xs (encP kk) → ∃ ps vv, xs = ps.map V.ref ∧ Paired (fun p kv => SqT K F p [kV kv.1, kv.2]) ps vv ∧ KRel K F vv kk
  | [], _, h => by cases h; exact ⟨[], [], rfl, .nil, .nil⟩
  | (k, d) :: kk, _, h => by
    have h' : RpAll K F _ (.tuple [keyD k, d] :: encP kk) := h
    cases h' with
    | cons h1 h2 =>
      obtain ⟨ps, vv, rfl, q1, q2⟩ := pairs_k h2
      cases h1 with
      | tup hs ha =>
        obtain ⟨v, w, rfl, r1, r2⟩ := ha.two2
        have e := r1.key
        subst e
        exact ⟨_ :: ps, (k, w) :: vv, rfl, .cons hs q1, .cons r2 q2⟩
theorem paired_up {K : PySem.W.Frag} {F F' : Hp} (l : RdLe F F') {ps : List Addr} {vv : List (Key × V)} (h : Paired (fun p kv => SqT K F p [kV kv.1, kv.2]) ps vv) : Paired (fun p kv => SqT K F' p [kV kv.1, kv.2]) ps vv := by
  induction h with
  | nil => exact .nil
  | cons h1 _ ih => exact .cons (l.seqT h1) ih
theorem oDict_ok (hc : X.calm = true) : CallD X (.type "dict") oDict := by
  refine ⟨_, call_dictP hc, fun F H vs ds R Q s tl r ho k => ?_⟩
  obtain ⟨kk, rfl, hr⟩ := ho
  obtain ⟨v, rfl, rv⟩ := r.one1
  cases rv with
  | lst h1 h2 =>
    obtain ⟨ps, vv, rfl, q1, q2⟩ := pairs_k h2
    have le : RdLe F H := .of s
    refine ⟨_, ps, vv, rfl, le.seqL h1, paired_up le q1, fun p hp => ?_⟩
    exact k _ _ _ hr (same_upd hp) ⟨p, _, rfl, hp, .inl ⟨_, upd_same, rfl⟩, ((q2.merge .nil).up (nxx_of s (by simp [hp]))).rp⟩
end
end Dn
/-! DnE: a slot's own dict changes; several names at once; slices; places in a list. -/
namespace Dn
open PySem PySem.Spec PyProof.Rows L2

@[simp] def dctK (i : Nat) (ρ : List Slot) (k : List (PyData × PyData) → Prop) : Prop := match ρ[i]? with
  | some (.od es) => k es
  | _ => False
section
variable {m : Fm} {σ : L2.St} {H H' : Hp} {ρ : List Slot} {f f' : Nat → List Addr} {B Br : List Addr} {i : Nat} {p : Addr}
theorem dctK_iff {k : List (PyData × PyData) → Prop} (h : dctK i ρ k) : ∃ es, ρ[i]? = some (.od es) ∧ k es := by
  unfold dctK at h
  split at h
  · rename_i e; exact ⟨_, e, h⟩
  · exact h.elim
theorem Rl.updO {es es' : List (PyData × PyData)} {vv : List (Key × V)} (R : Rl m σ H ρ f B) (e : ρ[i]? = some (.od es)) (fi : f i = [p]) (hs : σ[i]? = some (some (.ref p))) (hH : ∃ o, H p = some o) (rx : RpKV m.K (vw m H f B) (vv.map fun q => (keyD q.1, q.2)) es') :
    Rl m σ (upd H p (.dK vv)) (ρ.set i (.od es')) f B ∧ Stp m H f B (upd H p (.dK vv)) f B := by
  have fr : ∀ b o, b ≠ p → H b = some o → upd H p (.dK vv) b = some o := fun b o n q => by rw [upd_ne n]; exact q
  have le : ∀ a o, vw m H f B a = some o → vw m (upd H p (.dK vv)) f B a = some o := fun a o q => by
    obtain ⟨h1, h2, h3⟩ := vw_iff.mp q
    have ne : a ≠ p := fun z => h2 i (by rw [fi, z]; simp)
    exact vw_iff.mpr ⟨h1, h2, h3.imp id fun z => ⟨z.1, fr a o ne z.2⟩⟩
  obtain ⟨o, hp⟩ := hH
  have hi : i < ρ.length := (List.getElem?_eq_some_iff.mp e).1
  have z := R.chg (f' := f) (H' := upd H p (.dK vv)) (s' := .od es') (Br := []) hi (fun _ _ => rfl) (fun _ h => h) (fun _ h => .inl h) (fun b o nb q => fr b o (fun z => nb (by rw [fi, z]; simp)) q) (by simp)
    ⟨p, _, hs, fi, .inl ⟨vv, upd_same, rfl⟩, rx.up (.of le)⟩ (fun q hq => by
      obtain ⟨h1, es', h2⟩ := R.pin i q hq
      rw [e] at h2
      cases h2)
  exact z
theorem vw_congr {B' : List Addr} (h : ∀ a, a ∈ B ↔ a ∈ B') : vw m H f B = vw m H f B' := by
  funext a
  unfold vw
  by_cases q : a ∈ B ∨ ∃ i, a ∈ f i
  · rw [if_pos q, if_pos (q.imp (h a).mp id)]
  · have q2 : ¬ (a ∈ B' ∨ ∃ i, a ∈ f i) := fun z => q (Or.imp (h a).mpr id z)
    rw [if_neg q, if_neg q2]
/-- held things by membership alone -/
theorem Rl.congr {B' : List Addr} (R : Rl m σ H ρ f B) (h : ∀ a, a ∈ B ↔ a ∈ B') : Rl m σ H ρ f B' := by
  have ev : vw m H f B = vw m H f B' := vw_congr h
  exact ⟨R.len, R.zs, R.zm, R.zt, R.fr, R.dj, fun i a z y => R.bf i a z ((h a).mpr y), fun a z => R.bn a ((h a).mpr z), R.ow, R.pin, R.out, fun i s e => by rw [← ev]; exact R.sl i s e⟩
theorem RsOk.congr {B' : List Addr} {v : V} {r : Rs} (h : ∀ a, a ∈ B ↔ a ∈ B') (ok : RsOk m σ H f B Br v r) : RsOk m σ H f B' Br v r := by
  have ev : vw m H f B = vw m H f B' := vw_congr h
  cases r <;> (unfold RsOk at ok ⊢; first | rw [← ev]; exact ok | exact ok)
end
section
variable {X : Cx} {pos : Pos} {a b c e o : Expr} {es : List Expr} {wa wb we : WE} {ws : WA}
/-! d.update(e), e a dict of its own -/
def rUpdK : V → List V → Hp → VK → Prop := fun x vs H Q => ∃ a b vv ww, x = .ref a ∧ vs = [.ref b] ∧ a ≠ b ∧ (H a = some (.dK vv) ∨ (vv = [] ∧ H a = some (.dT []))) ∧ (Rd H b (.dK ww) ∨ (ww = [] ∧ Rd H b (.dT []))) ∧ vv.length + ww.length ≤ sizeLine ∧ Q .non (upd H a (.dK (mergeK vv ww)))
theorem mt_updK : MtR X "dict.update" rUpdK := by
  rintro pins s σ H x vs v us Q I rx rv ⟨a, b, vv, ww, rfl, rfl, ne, ha, hb, hz, q⟩
  cases rx
  obtain ⟨u, rfl, ru⟩ := rv.one
  cases ru
  obtain ⟨ha1, v1, k1, d1⟩ := rdK I (vv := vv) (ha.imp .inl (And.imp id .inl))
  obtain ⟨hb1, v2, k2, d2⟩ := rdK I hb
  have l1 := k1.length
  have l2 := k2.length
  refine call_meetsIn PySem.F.slot_dict_update d1.typeIs PySem.F.entry_dict_update (PySem.F.args_dict_update_2 _ _) (meets_dict_update (mixKind X.prog X.w) a b ne hb1) ⟨v1, v2, d1, d2, by omega, fun h' e1 e2 sb => ?_⟩
  have he : ∃ q, h'.get? a = some q := let ⟨q, _, _, hq, _⟩ := e1; ⟨q, hq⟩
  have hm : Mut (H a) := by
    rcases ha with ha | ⟨_, ha⟩ <;> rw [ha] <;> exact True.intro
  have hl : (mergeK vv ww).length ≤ sizeLine := Nat.le_trans (length_mergeK ww vv) (by omega)
  exact ⟨.non, _, d_write (t' := s.toks) I hm sb he (dk_new hl ha1 (k2.merge k1) e1), rfl, q⟩
@[simp] def wUpd (i : Nat) (we : WE) : WE := fun ρ R => dctK i ρ fun _ => we ρ fun r ρ1 => match r with
  | .od es2 => dctK i ρ1 fun es => ∃ kk k2, es = encK kk ∧ es2 = encK k2 ∧ kk.length + k2.length ≤ sizeLine ∧ R (.fz .none) (ρ1.set i (.od (encK (mergeD kk k2))))
  | _ => False
theorem od_at {m : Fm} {σ : L2.St} {H : Hp} {ρ : List Slot} {f : Nat → List Addr} {B : List Addr} {i : Nat} {es : List (PyData × PyData)} (R : Rl m σ H ρ f B) (e : ρ[i]? = some (.od es)) : ∃ a kvs, σ[i]? = some (some (.ref a)) ∧ f i = [a] ∧ DVw H a kvs ∧ RpKV m.K (vw m H f B) kvs es := R.sl i _ e
theorem dvw_k {K : PySem.W.Frag} {F H : Hp} {a : Addr} {kvs : List (PyData × V)} {kk : List (Key × PyData)} (h : DVw H a kvs) (r : RpKV K F kvs (encK kk)) : ∃ vv, KRel K F vv kk ∧ (H a = some (.dK vv) ∨ (vv = [] ∧ H a = some (.dT []))) := by
  rcases h with ⟨vv, h, rfl⟩ | ⟨vv, h, rfl⟩
  · exact ⟨vv, .of r, .inl h⟩
  · cases kk with
    | nil =>
      cases vv with
      | nil => exact ⟨[], .nil, .inr ⟨rfl, h⟩⟩
      | cons p vv => cases r
    | cons q kk =>
      cases vv with
      | nil => cases r
      | cons p vv =>
        obtain ⟨k, d⟩ := q
        have r' : RpKV K F ((.tuple (p.1.map keyD), p.2) :: vv.map fun p => (.tuple (p.1.map keyD), p.2)) ((keyD k, d) :: encK kk) := r
        generalize e : keyD k = kd at r'
        cases r'
        cases k <;> simp [keyD] at e
theorem de_upd (i : Nat) {apos : Pos} (ho : PE X o (tVar i)) (he : DE X e we) (hbase : attributeBase o "update" X.env (eval o X.env) = eval o X.env := by rfl)
    (hfew : ((backTo pos (starEach (e :: []) X.env)).all (fun x => !x.1) && (backToKw pos (keywordEach [] X.env)).all (fun x => x.1.isSome) && decide ((e :: [] : List Expr).length + ([] : List Keyword).length + (if ([] : List Keyword).isEmpty then 0 else 1) < 30)) = true := by rfl)
    (hline : (apos.endLine == pos.line) = true := by rfl) (hs : starEach (e :: []) X.env = (false, eval e X.env) :: starEach [] X.env := by rfl) (hpl : (backTo pos (starEach [] X.env)).any (·.1) = false := by rfl) :
    DE X (.Call (.Attribute o "update" apos) [e] [] pos) (wUpd i we) := by
  obtain ⟨t, pa, he⟩ := he.ex
  refine ⟨_, pe_bm PySem.F.plainAttrs_dict PySem.F.slot_dict_update PySem.F.type_dict_update mt_updK ho (pa_cons pa pa_nil hs) hbase hfew hline hs hpl, fun m σ H ρ f B R Q hK rl hw k => ?_⟩
  obtain ⟨es0, e0, hw⟩ := dctK_iff hw
  obtain ⟨q0, x0, hs0, fi, hx0, _⟩ := od_at rl e0
  have ty : tyV X.K "dict" (.ref q0) H := .inr (.inr (.inl ⟨rfl, by
    rcases hx0 with ⟨kk, h, _⟩ | ⟨kk, h, _⟩
    · exact .inl ⟨_, h⟩
    · exact .inr ⟨_, h⟩⟩))
  refine ⟨_, hs0, ty, ?_⟩
  refine he m σ H ρ f B _ _ hK rl hw fun r ρ1 y H1 f1 Br h P => ?_
  cases r with
  | od es2 =>
    obtain ⟨es, e1, kk, k2, rfl, rfl, hz, hr⟩ := dctK_iff h
    obtain ⟨q1, x1, hs1, fi1, hx1, rx1⟩ := od_at P.rl e1
    rw [hs0] at hs1
    cases hs1
    obtain ⟨b, kvs, rfl, eB, hb, rb⟩ := P.ok
    have ne : q0 ≠ b := fun z => P.rl.bf i q0 (by rw [fi1]; simp) (by rw [z, eB]; simp)
    obtain ⟨vv, k1, g1⟩ := dvw_k hx1 rx1
    obtain ⟨ww, kb, g2⟩ := dvw_k hb rb
    have rl1 := P.rl
    obtain ⟨rl2, st2⟩ := rl1.updO (es' := encK (mergeD kk k2)) (vv := mergeK vv ww) e1 fi1 hs0 (let ⟨o, h, _⟩ := hx1.con; ⟨o, h⟩) ((kb.merge k1).rp)
    refine ⟨q0, b, vv, ww, rfl, rfl, ne, g1, g2.imp .inl (And.imp id .inl), by rw [k1.length, kb.length]; exact hz, ?_⟩
    exact k _ _ _ _ _ [] hr ⟨rl2.drop, ⟨rfl, .non⟩, (P.st.trans st2).cut, fun _ z => by cases z⟩
  | _ => exact h.elim

/-! a, b = x, y -/
theorem Post2.put {m : Fm} {σ : L2.St} {H H' : Hp} {ρ ρ' : List Slot} {f f' : Nat → List Addr} {i j : Nat} {r1 r2 : Rs} {v1 v2 : V} {B1 B2 : List Addr} (R : Rl m σ H' ρ' f' (B2 ++ (B1 ++ []))) (o1 : RsOk m σ H' f' (B2 ++ (B1 ++ [])) B1 v1 r1) (o2 : RsOk m σ H' f' (B2 ++ (B1 ++ [])) B2 v2 r2) (dj : ∀ a ∈ B1, a ∉ B2) (n1 : r1.isVar = false) (n2 : r2.isVar = false)
    {s1 s2 : Slot} (e1 : ρ'[i]? = some s1) (p1 : s1.isPm = false) (e2 : (ρ'.set i (slotOf r1))[j]? = some s2) (p2 : s2.isPm = false) :
    ∃ f2, Rl m ((σ.set i (some v1)).set j (some v2)) H' ((ρ'.set i (slotOf r1)).set j (slotOf r2)) f2 [] ∧ RdLe (vw m H' f' (B2 ++ (B1 ++ []))) (vw m H' f2 []) := by
  have c : ∀ a, a ∈ B2 ++ (B1 ++ []) ↔ a ∈ B1 ++ B2 := fun a => by simp [or_comm]
  have R1 := R.congr c
  have q1 := o1.congr c
  have q2 := o2.congr c
  obtain ⟨R2, l1⟩ := R1.put (i := i) q1 dj n1 e1 p1
  have q3 : RsOk m (σ.set i (some v1)) H' (fset f' i B1) (B2 ++ []) B2 v2 r2 := by
    rw [List.append_nil]
    cases r2 with
    | fz d => exact ⟨q2.1, q2.2.up l1⟩
    | ol ds =>
      obtain ⟨a, xs, x1, x2, x3, x4⟩ := q2
      exact ⟨a, xs, x1, x2, x3, x4.up l1⟩
    | od ds =>
      obtain ⟨a, xs, x1, x2, x3, x4⟩ := q2
      exact ⟨a, xs, x1, x2, x3, x4.up l1⟩
    | odl ds =>
      obtain ⟨a, xs, ls, x1, x2, x0, x3, x4⟩ := q2
      exact ⟨a, xs, ls, x1, x2, x0, x3, x4.up l1 fun _ _ _ q => q⟩
    | var k => cases n2
  have R2' : Rl m (σ.set i (some v1)) H' (ρ'.set i (slotOf r1)) (fset f' i B1) (B2 ++ []) := by rw [List.append_nil]; exact R2
  obtain ⟨R3, l2⟩ := R2'.put (i := j) q3 (by simp) n2 e2 p2
  refine ⟨_, R3, ?_⟩
  have ev := vw_congr (m := m) (H := H') (f := f') c
  rw [ev]
  rw [List.append_nil] at l2
  exact l1.trans l2
@[simp] def wPar (i j : Nat) (ws : WA) : WS := fun E ρ => ws ρ fun rs ρ1 => match rs with
  | [r1, r2] => r2.isVar = false ∧ putK i ρ1 r1 fun ρ2 => putK j ρ2 r2 E.nx
  | _ => False
theorem ds_par (i j : Nat) {x y : Str} {px py pt : Pos} {kt k2 : Nat} {pt2 : Pos} (hc : X.calm = true) (hN : X.N.Nodup) (hi : X.N[i]? = some x) (hj : X.N[j]? = some y) (ne : i ≠ j) (hx : X.env.scope.names.lookup x = some .local) (hy : X.env.scope.names.lookup y = some .local)
    (ha : DA X [a, b] ws) (hst : swappedStores [.Tuple [.Name x px, .Name y py] kt pt] (.Tuple [a, b] k2 pt2) X.env = pure (some [x, y]))
    (hsw : swapsWithSole [.Tuple [.Name x px, .Name y py] kt pt] (.Tuple [a, b] k2 pt2) pos.line X.env = pure false := by rfl) : DS X (.Assign [.Tuple [.Name x px, .Name y py] kt pt] (.Tuple [a, b] k2 pt2) pos) (wPar i j ws) := by
  obtain ⟨t, pa, ha⟩ := ha.ex
  refine ⟨_, ps_par hc hN hi hj ne hx hy pa hst hsw, fun m σ H ρ f E D hK rl hw L => ?_⟩
  refine ha m σ H ρ f [] _ _ hK rl hw fun rs ρ1 vs H1 f1 Bs h P => ?_
  obtain ⟨prl, pok, pst, _, pnd⟩ := P
  cases pok with
  | nil => exact h.elim
  | @cons B1 _ v1 _ r1 _ q1 t1 =>
    cases t1 with
    | nil => exact h.elim
    | @cons B2 _ v2 _ r2 _ q2 t2 =>
      cases t2 with
      | cons _ _ => exact h.elim
      | nil =>
        obtain ⟨nv2, h⟩ := h
        obtain ⟨nv1, s1, e1, p1, h⟩ := putK_iff h
        obtain ⟨_, s2, e2, p2, h⟩ := putK_iff h
        have eb : [B1, B2].reverse.flatten ++ ([] : List Addr) = B2 ++ (B1 ++ []) := by simp
        rw [eb] at prl q1 q2 pst
        have dj : ∀ a ∈ B1, a ∉ B2 := by
          cases pnd with
          | cons z _ => exact z B2 (by simp)
        obtain ⟨f2, R2, le⟩ := Post2.put (ρ := ρ) (f := f) (H := H) prl q1 q2 dj nv1 nv2 e1 p1 e2 p2
        exact ⟨v1, v2, rfl, L.nx _ _ _ _ R2 (pst.le.trans le) h⟩
/-! (a, b, ..) = e -/
@[simp] def wUnp (we : WE) (wg : WG) : WS := fun E ρ => we ρ fun r ρ1 => r.isVar = false ∧ dat ρ1 r fun d => wg d ρ1 E.nx
theorem ds_unp {tg : Expr} {ts : List Nat} {wg : WG} (he : DE X e we) (hg : DG X tg ts wg) (hs : swapsWithSole [tg] e pos.line X.env = pure false := by rfl) (hw : swappedStores [tg] e X.env = pure none := by rfl)
    (h1 : (assignEach [tg] X.env).map (·.2) = [assign tg X.env] := by rfl) : DS X (.Assign [tg] e pos) (wUnp we wg) := by
  obtain ⟨te, pe, he⟩ := he.ex
  obtain ⟨g, pg, hg⟩ := hg.ex
  refine ⟨_, ps_asg pe pg hs hw h1, fun m σ H ρ f E D hK rl hw L => ?_⟩
  refine he m σ H ρ f [] _ _ hK rl hw fun r ρ1 v H1 f1 Br ⟨nv, h⟩ P => ?_
  obtain ⟨d, ed, h⟩ := dat_iff.mp h
  exact hg m σ H1 ρ1 f1 [] v d _ _ hK P.rl.drop (P.fzn ed nv) h fun σ2 ρ2 f2 h2 rl2 le2 _ => L.nx _ _ _ _ rl2 (P.step.le.trans le2) h2
theorem dg_unl {ts : List Nat} {u : List PyData → List Slot → (List Slot → Prop) → Prop} {k n : Nat} (hc : X.calm = true) (h : DGs X es ts u) (hn : (assignEach es X.env).length = n := by rfl) (hst : (assignEach es X.env).findIdx? (·.1) = none := by rfl) :
    DG X (.Tuple es k pos) ts (fun d ρ R => match d with
      | .list ds => ds.length = n ∧ u ds ρ R
      | _ => False) := by
  obtain ⟨g, p, h⟩ := h.ex
  refine ⟨_, pg_unl hc p hn hst, fun m σ H ρ f B v d R Q hK rl r hw k => ?_⟩
  cases r with
  | lst h1 h2 => exact ⟨_, _, rfl, hK ▸ rl.le.seqL h1, h2.length.trans hw.1, h m σ H ρ f B _ _ R Q hK rl h2 hw.2 k⟩
  | _ => exact hw.elim
/-! a[lo:hi] -/
abbrev WO := List Slot → (Option Int → List Slot → Prop) → Prop
structure DO (X : Cx) (e : Option Expr) (w : WO) : Prop where
  ex : ∃ t : TO, PO X e t ∧ ∀ (m : Fm) (σ : L2.St) (H : Hp) (ρ : List Slot) (f : Nat → List Addr) (B : List Addr) (R : Option Int → List Slot → Prop) (Q : Option Int → Hp → Prop), m.K = X.K → Rl m σ H ρ f B → w ρ R →
    (∀ b ρ' H' f', R b ρ' → PostT m σ H f B ρ' H' f' → Q b H') → t σ H Q
theorem do_none : DO X none (fun ρ R => R none ρ) := ⟨_, po_none, fun m σ H ρ f B R Q hK rl hw k => k _ _ _ _ hw ⟨rl, .refl⟩⟩
theorem do_some (h : DE X e we) : DO X (some e) (fun ρ R => we ρ fun r ρ1 => intR ρ1 r fun i => R (some i) ρ1) := by
  obtain ⟨t, p, h⟩ := h.ex
  refine ⟨_, po_some p, fun m σ H ρ f B R Q hK rl hw k => ?_⟩
  refine h m σ H ρ f B _ _ hK rl hw fun r ρ1 v H1 f1 Br h P => ?_
  obtain ⟨i, er, hh⟩ := intR_iff h
  subst er
  exact ⟨i, P.ok.2.intv, k _ _ _ _ hh ⟨P.rl.drop, P.step⟩⟩
def cutD (ds : List PyData) (lo hi : Option Int) : List PyData := (ds.drop (HT.sIx ds.length 0 lo)).take (HT.sIx ds.length ds.length hi - HT.sIx ds.length 0 lo)
theorem cut_rp {K : PySem.W.Frag} {F : Hp} {xs : List V} {ds : List PyData} (r : RpAll K F xs ds) (lo hi : Option Int) : RpAll K F (cutV xs lo hi) (cutD ds lo hi) := by
  unfold cutV cutD
  rw [r.length]
  exact (r.drop _).take _
@[simp] def wSl (we : WE) (wl wh : WO) : WE := fun ρ R => we ρ fun r ρ1 => wl ρ1 fun lo ρ2 => wh ρ2 fun hi ρ3 => dat ρ3 r fun d => match d with
  | .list ds => okR [r] (.ol (cutD ds lo hi)) ∧ R (.ol (cutD ds lo hi)) ρ3
  | .tuple ds => okR [r] (.fz (.tuple (cutD ds lo hi))) ∧ R (.fz (.tuple (cutD ds lo hi))) ρ3
  | _ => False
theorem slr_or {r1 r2 : V → Option Int → Option Int → Hp → VK → Prop} (h1 : SlR X r1) (h2 : SlR X r2) : SlR X (fun x lo hi H Q => r1 x lo hi H Q ∨ r2 x lo hi H Q) := by
  intro pins s σ H x v vl vu lo hi sl Q I rx hs p1 p2 h
  rcases h with h | h
  · exact h1 pins s σ H x v vl vu lo hi sl Q I rx hs p1 p2 h
  · exact h2 pins s σ H x v vl vu lo hi sl Q I rx hs p1 p2 h
theorem de_sl {lo hi : Option Expr} {wl wh : WO} {p2 : Pos} (he : DE X e we) (hl : DO X lo wl) (hh : DO X hi wh) : DE X (.Subscript e (.Slice lo hi none p2) pos) (wSl we wl wh) := by
  obtain ⟨te, pe, he⟩ := he.ex
  obtain ⟨tl, pl, hl⟩ := hl.ex
  obtain ⟨th, ph, hh⟩ := hh.ex
  refine ⟨_, pe_slice (slr_or sl_list sl_tupA) pe pl ph, fun m σ H ρ f B R Q hK rl hw k => ?_⟩
  refine he m σ H ρ f B _ _ hK rl hw fun r ρ1 x H1 f1 B1 h P1 => ?_
  refine hl m σ H1 ρ1 f1 (B1 ++ B) _ _ hK P1.rl h fun lo ρ2 H2 f2 h P2 => ?_
  refine hh m σ H2 ρ2 f2 (B1 ++ B) _ _ hK P2.rl h fun hi ρ3 H3 f3 h P3 => ?_
  obtain ⟨d, ed, h⟩ := dat_iff.mp h
  have st23 : Stp m H1 f1 (B1 ++ B) H3 f3 ([] ++ (B1 ++ B)) := P2.st.trans P3.st
  have Q1 : Post m σ H f B r ρ3 x H3 f3 B1 := ⟨P3.rl, RsOk.less (B' := []) (P1.later (ρ2 := ρ3) st23), P1.st.trans st23, P1.dis⟩
  have rdH := Q1.rd ed
  have rl3 := Q1.rl.drop
  obtain ⟨F, sF, pF, okF⟩ := pickF (K := m.K) (rs := [r]) (P := fun F => Rp m.K F x d) rl3 rdH fun nv => Q1.fzn ed (by simpa using nv)
  have le : RdLe F H3 := .of sF
  split at h
  · rename_i ds
    cases pF with
    | lst h1 h2 =>
      refine .inl ⟨_, _, rfl, hK ▸ le.seqL h1, fun p hp => ?_⟩
      obtain ⟨Br, P4⟩ := Post.ofRes (r := .ol (cutD ds lo hi)) (v := .ref p) (H' := upd H3 p (.lst (cutV _ lo hi))) rl3 (same_upd hp) (okF _ h.1) ⟨p, _, rfl, hp, upd_same, (cut_rp h2 lo hi).up (nxx_of sF (by simp [hp]))⟩
      exact k _ _ _ _ _ _ h.2 (P4.comp Q1.step)
  · rename_i ds
    cases pF with
    | tup h1 h2 =>
      rename_i a xs
      have n0 : RdLe F (nxx F H3 H3 []) := nxx_of sF (by simp)
      refine .inr ⟨_, _, rfl, hK ▸ le.seqT h1, fun whole => ?_, fun part p hp => ?_⟩
      · have ec : cutD ds lo hi = ds := by
          unfold cutD
          rw [← h2.length, whole.1, whole.2, List.drop_zero, Nat.sub_zero]
          exact List.take_of_length_le (by rw [h2.length]; exact Nat.le_refl _)
        obtain ⟨Br, P4⟩ := Post.ofRes (r := .fz (.tuple (cutD ds lo hi))) (v := .ref a) (H' := H3) rl3 (.refl _) (okF _ h.1) (by rw [ec]; exact .tup (n0.seqT h1) (h2.up n0))
        exact k _ _ _ _ _ _ h.2 (P4.comp Q1.step)
      · obtain ⟨Br, P4⟩ := Post.ofRes (r := .fz (.tuple (cutD ds lo hi))) (v := .ref p) (H' := upd H3 p (.tup (cutV _ lo hi))) rl3 (same_upd hp) (okF _ h.1) (.tup (SqT.of (nxx_iff.mpr ⟨by simp, .inr ⟨hp, upd_same⟩⟩)) ((cut_rp h2 lo hi).up (nxx_of sF (by simp))))
        exact k _ _ _ _ _ _ h.2 (P4.comp Q1.step)
  · exact h.elim
/-! xs.index(e) of ints -/
@[simp] def isLst : PyData → Bool
  | .list _ => true
  | _ => false
@[simp] def wIdx (wa we : WE) : WE := fun ρ R => wa ρ fun r1 ρ1 => dat ρ1 r1 fun d0 => isLst d0 = true ∧ we ρ1 fun r2 ρ2 => dat ρ2 r1 fun d => intR ρ2 r2 fun n => match d with
  | .list ds => ds.all isI = true ∧ ∃ j : Nat, (ds.map toI)[j]? = some n ∧ (∀ k, k < j → (ds.map toI)[k]? ≠ some n) ∧ R (.fz (.int (j : Nat))) ρ2
  | _ => False
theorem flat_ints (ns : List Int) : (ns.map V.int).all flatV = true := by
  rw [List.all_eq_true]
  intro v hv
  obtain ⟨n, _, rfl⟩ := List.mem_map.mp hv
  rfl
theorem de_idx {apos : Pos} (ha : DE X o wa) (he : DE X e we) (hbase : attributeBase o "index" X.env (eval o X.env) = eval o X.env := by rfl)
    (hfew : ((backTo pos (starEach (e :: []) X.env)).all (fun x => !x.1) && (backToKw pos (keywordEach [] X.env)).all (fun x => x.1.isSome) && decide ((e :: [] : List Expr).length + ([] : List Keyword).length + (if ([] : List Keyword).isEmpty then 0 else 1) < 30)) = true := by rfl)
    (hline : (apos.endLine == pos.line) = true := by rfl) (hs : starEach (e :: []) X.env = (false, eval e X.env) :: starEach [] X.env := by rfl) (hpl : (backTo pos (starEach [] X.env)).any (·.1) = false := by rfl) :
    DE X (.Call (.Attribute o "index" apos) [e] [] pos) (wIdx wa we) := by
  obtain ⟨ta, pa, ha⟩ := ha.ex
  obtain ⟨t, pe, he⟩ := he.ex
  refine ⟨_, pe_bm PySem.F.plainAttrs_list PySem.F.slot_list_index PySem.F.type_list_index mt_index pa (pa_cons pe pa_nil hs) hbase hfew hline hs hpl, fun m σ H ρ f B R Q hK rl hw k => ?_⟩
  refine ha m σ H ρ f B _ _ hK rl hw fun r1 ρ1 x H1 f1 B1 h P1 => ?_
  obtain ⟨d0, e0, il, h⟩ := dat_iff.mp h
  have ty : tyV X.K "list" x H1 := by
    have rd := P1.rd e0
    cases d0 with
    | list ds0 =>
      cases rd with
      | lst h1 h2 => exact .inl ⟨rfl, _, hK ▸ h1⟩
    | _ => cases il
  refine ⟨ty, ?_⟩
  refine he m σ H1 ρ1 f1 (B1 ++ B) _ _ hK P1.rl h fun r2 ρ2 y H2 f2 B2 h P2 => ?_
  obtain ⟨d, ed, h⟩ := dat_iff.mp h
  obtain ⟨n, er, hh⟩ := intR_iff h
  subst er
  have Q1 := P1.first P2
  have rd := Q1.rd ed
  split at hh
  · rename_i ds
    obtain ⟨hi, j, hj, hno, hr⟩ := hh
    cases rd with
    | lst h1 h2 =>
      have e := h2.intsI hi
      subst e
      have key : ∀ k : Nat, ((ds.map toI).map V.int)[k]? = ((ds.map toI)[k]?).map V.int := fun k => List.getElem?_map ..
      refine ⟨_, (ds.map toI).map V.int, y, j, .int n, rfl, rfl, hK ▸ h1, by rw [P2.ok.2.intv]; rfl, flat_ints _, by rw [key, hj]; rfl, by rw [P2.ok.2.intv]; simp [eqV], fun k z' hk hz => ?_, ?_⟩
      · rw [key] at hz
        cases e2 : (ds.map toI)[k]? with
        | none => rw [e2] at hz; cases hz
        | some i2 =>
          rw [e2] at hz
          have hz2 : V.int i2 = z' := Option.some.inj hz
          subst hz2
          have hne : i2 ≠ n := fun z => hno k hk (by rw [e2, z])
          rw [P2.ok.2.intv]
          simp [eqV, hne]
      · exact k _ _ _ _ _ _ hr ((Post.same Q1.rl.drop (.int _)).comp Q1.step)
  · exact hh.elim

/-! -e -/
@[simp] def wNeg (we : WE) : WE := fun ρ R => we ρ fun r ρ1 => intR ρ1 r fun i => R (.fz (.int (-i))) ρ1
theorem de_neg (he : DE X e we) : DE X (.UnaryOp .USub e pos) (wNeg we) := by
  obtain ⟨t, p, h⟩ := he.ex
  refine ⟨_, pe_un un_neg p, fun m σ H ρ f B R Q hK rl hw k => ?_⟩
  refine h m σ H ρ f B _ _ hK rl hw fun r ρ1 v H1 f1 Br h P => ?_
  obtain ⟨i, er, hh⟩ := intR_iff h
  subst er
  exact ⟨i, P.ok.2.intv, k _ _ _ _ _ _ hh ((Post.same P.rl.drop (.int _)).comp P.step)⟩
theorem de_globIt {x : Str} {i : Int} (hg : Gl X x) (hm : ∃ t, X.mg x = some (.int i t)) (hd : (x == ("__debug__" : Str)) = false := by decide) : DE X (.Name x pos) (wC (.int i)) := by
  obtain ⟨t, hm⟩ := hm
  exact de_globI hg hm hd
end
end Dn
/-! DnEnd: from the promise of the def law to the linked statement. -/
namespace Dn
open PySem PySem.Spec PyProof.Rows L2

section
variable {P : Program} {w : World} {K : PySem.W.Frag} {mg mb : Str → Option Value} {s1 : Shared} {a : Addr} {vs : List Value} {ns : List Int}
/-- what stands apart from the script is seen through the hidden heap -/
theorem hid_ns {H : Hp} (hA : ∀ b, H b ≠ none → b = a) (ha : s1.heap.get? a = some { cls := .type "list", data := .seq vs.toArray })
    {b : Addr} {m : Str → Option Value} (n : s1.heap.Ns b m) : (hidT s1.heap H).Ns b m := by
  obtain ⟨o, es, ep, e, d, r⟩ := n
  refine ⟨o, es, ep, hidT_get e ?_, d, r⟩
  apply Classical.byContradiction
  intro z
  have eb := hA b z
  rw [eb, ha] at e
  have eo := Option.some.inj e
  rw [← eo] at d
  exact absurd d (by intro q; cases q)
theorem law_goG {k : Nat} {fa : Addr} {fd : FuncData} {x : Str} {sp : Sp}
    (kin : K.In s1.heap) (hns : s1.heap.Ns mainGlobals mg) (hb : s1.heap.Ns builtinsNs mb) (hbb : ∀ x : Str, x ≠ "__name__" → mb x = bootBuiltins x)
    (hlim : s1.heap.NoLimit) (hg : s1.gens = #[]) (ha : s1.heap.get? a = some { cls := .type "list", data := .seq vs.toArray })
    (hi : IntsAre vs ns) (hl : ns.length ≤ sizeLine) (room : Room k callerA)
    (F : ∀ base : Heap, K.In base → base.Ns mainGlobals mg → FnG P w K mg base k fa fd [x] sp)
    (bind : ∀ (s : Shared) (u : Value), BindsTo s fd ⟨[u], []⟩ [(x, u)])
    (want : ∀ H : Hp, Only H → SqL K H a (ns.map V.int) → sp [.ref a] H (fun v _ => v = .bl true) E0) :
    codeAny (model P w) callerA (.call (.ref fa) ⟨[.ref a], []⟩)
      (fun r s' => r = .ok (.ret (.bool true)) ∧ OldK s1.heap s'.heap ∧ s'.os = s1.os ∧ AllBare s'.gens) s1 := by
  have rv := vals_ints hi
  have len := hi.length
  have key : ∀ H : Hp, Only H → SqL K H a (ns.map V.int) → HOk P w H s1.heap → (∀ b, H b ≠ none → b = a) → (H a ≠ none → K.lookup a = none) →
      codeAny (model P w) callerA (.call (.ref fa) ⟨[.ref a], []⟩)
        (fun r s' => r = .ok (.ret (.bool true)) ∧ OldK s1.heap s'.heap ∧ s'.os = s1.os ∧ AllBare s'.gens) s1 := by
    intro H only seq hok hA hK
    have kin2 : K.In (hidT s1.heap H) := by
      intro b o e
      refine hidT_get (kin b o e) (Classical.byContradiction fun z => ?_)
      have eb := hA b z
      subst eb
      rw [hK z] at e
      cases e
    have nsA := fun {b : Addr} {m : Str → Option Value} (n : s1.heap.Ns b m) => hid_ns hA ha n
    obtain ⟨mc, l1, l2⟩ := hlim
    have md : Mod K mg (hidT s1.heap H) := ⟨kin2, nsA hns, ⟨mb, nsA hb, hbb⟩, ⟨mc, nsA l1, l2⟩⟩
    have env : Env0 P w K mg (hidT s1.heap H) callerA [] s1 H := by
      refine ⟨rfl, md, fun b o e => of_hidT e, Nat.le_of_eq (hidT_size _ _), trivial, ?_, hok, .of_eq hg⟩
      intro b mem
      cases mem
    have run := (F _ kin2 (nsA hns)).go callerA [] s1 H ⟨[.ref a], []⟩ [.ref a] [.ref a] (fun v _ => v = .bl true) room rfl env (bind s1 (.ref a)) (.cons rfl .nil) (want H only seq)
    refine codeAny_mono run ?_
    intro r s' z
    cases r with
    | error e => exact (show False from z).elim
    | ok fl =>
      cases fl with
      | next => exact (show False from z).elim
      | brk => exact (show False from z).elim
      | cont => exact (show False from z).elim
      | ret u =>
        obtain ⟨v, H', os, bare, un, hok', rel, val⟩ := z
        have ev : v = .bl true := val
        subst ev
        have eu : u = Value.bool true := rel
        subst eu
        refine ⟨rfl, OldK.of_keep ?_, os, bare⟩
        intro b o e
        rcases only b with q | ⟨ob, xs, q⟩
        · exact un.keep b o e q (by intro y; cases y) (by intro y; cases y)
        · have t1 := (hok b _ q).1
          have t2 := (hok' b _ (un.frzs b ob _ q)).1
          rw [e] at t1
          cases t1
          exact t2
  by_cases hk : K.lookup a = none
  · refine key (fun b => if b = a then some (.frz { cls := .type "list", data := .seq vs.toArray } (.lst (ns.map V.int))) else none) ?_ (.inl (.inr ⟨_, if_pos rfl⟩)) ?_ ?_ fun _ => hk
    · intro b
      by_cases e : b = a
      · exact .inr ⟨_, _, if_pos e⟩
      · exact .inl (if_neg e)
    · intro b u z
      by_cases e : b = a
      · have z2 := (if_pos e).symm.trans z
        cases z2
        subst e
        exact ⟨ha, by rw [List.length_map]; exact hl, vs, _, rv, ha⟩
      · have z2 := (if_neg e).symm.trans z
        cases z2
    · intro b z
      by_cases e : b = a
      · exact e
      · exact absurd (if_neg e) z
  · obtain ⟨o, ho⟩ := Option.ne_none_iff_exists'.mp hk
    have q := kin a o ho
    rw [ha] at q
    cases q
    have sz : (vs.toArray).size ≤ sizeLine := by rw [List.size_toArray, len]; exact hl
    refine key (fun _ => none) (fun _ => .inl rfl) (.inr ⟨_, vs.toArray, _, ho, rfl, rfl, rfl, sz, by simpa using rv⟩) ?_ (fun b z => absurd rfl z) (fun z => absurd rfl z)
    intro b u z
    exact absurd (show (none : Option HO) = some u from z) (by intro y; cases y)
end
/-- the goal that the head leaves, from the law's promise -/
theorem walkG {l : PySem.W.OpenLaw} {n k : Nat} {q : Program} {loose : List Str} {XP : (Str → Option Value) → Heap → Prop} {YP : World → Heap → Prop} {d : DefRec} {K : Params → PySem.W.Frag} {sp : PySem.W.Frag → Sp} {x : Str}
    (most : l.most = some n) (most2 : n ≤ sizeLine) (nodef : d.params.defaults = []) (room : Room k callerA) (hY : ∀ (w : World) (h : Heap), YP w h → (K w.params).In h)
    (F : ∀ (w : World) (mg : Str → Option Value) (fa : Addr) (h : Heap), (K w.params).In h → h.Ns mainGlobals mg → mg d.name = some (.ref fa) →
      ∃ fd : FuncData, (∀ (s : Shared) (u : Value), BindsTo s fd ⟨[u], []⟩ [(x, u)]) ∧ ∀ base : Heap, (K w.params).In base → base.Ns mainGlobals mg → FnG l.prog w (K w.params) mg base k fa fd [x] (sp (K w.params)))
    (want : ∀ (K : PySem.W.Frag) (H : Hp) (a : Addr) (ns : List Int), ns.length ≤ n → Only H → SqL K H a (ns.map V.int) → sp K [.ref a] H (fun v _ => v = .bl true) E0) :
    PySem.W.WalkO q loose XP YP l.row.toRowW d [] (fun f vs => PySem.call f vs) := by
  refine Att.attach_call most nodef ?_
  intro w s0 s1 mg mb fa o pm cd doc a vs ns G Y ho hd hcd hmg hobj hints len gens
  have kin := hY w _ Y
  obtain ⟨fd, hb, go⟩ := F w mg fa _ kin G.T.g hmg
  exact law_goG kin G.T.g G.T.b G.T.builtins G.T.nolimit gens hobj hints (Nat.le_trans len most2) room go hb (fun H only seq => want _ H a ns len only seq)
end Dn
/-! DnW: the rules with named readings; comprehensions that change nothing. -/
namespace Dn
open PySem PySem.Spec PyProof.Rows L2

@[simp] def wRet (we : WE) : WS := fun E ρ => we ρ fun r ρ1 => retK ρ1 r E.rt
@[simp] def wRetN : WS := fun E ρ => E.rt (.fz .none) ρ
@[simp] def wEx (we : WE) : WS := fun E ρ => we ρ fun _ ρ1 => E.nx ρ1
@[simp] def wNever : WS := fun _ _ => False
@[simp] def wNevers : WS := fun _ _ => False
@[simp] def wDnew : WE := fun ρ R => R (.od []) ρ
@[simp] def gsNil : List PyData → List Slot → (List Slot → Prop) → Prop := fun ds ρ R => ds = [] ∧ R ρ
@[simp] def gsCons (w : WG) (u : List PyData → List Slot → (List Slot → Prop) → Prop) : List PyData → List Slot → (List Slot → Prop) → Prop := fun ds ρ R => match ds with
  | d :: ds => w d ρ fun ρ1 => u ds ρ1 R
  | [] => False
@[simp] def gTupW (n : Nat) (u : List PyData → List Slot → (List Slot → Prop) → Prop) : WG := fun d ρ R => match d with
  | .tuple ds => ds.length = n ∧ u ds ρ R
  | _ => False
@[simp] def gUnlW (n : Nat) (u : List PyData → List Slot → (List Slot → Prop) → Prop) : WG := fun d ρ R => match d with
  | .list ds => ds.length = n ∧ u ds ρ R
  | _ => False
@[simp] def wIc (wi : WI) : WIc := fun ρ R => wi ρ fun ds ρ' => R ds (fun _ => True) ρ'
@[simp] def wNo : WO := fun ρ R => R none ρ
@[simp] def wSo (we : WE) : WO := fun ρ R => we ρ fun r ρ1 => intR ρ1 r fun i => R (some i) ρ1
section
variable {X : Cx} {pos : Pos} {e tg iter elt : Expr} {st : Stmt} {rest : List Stmt} {we : WE}
theorem ds_retW (he : DE X e we) : DS X (.Return (some e) pos) (wRet we) := ds_ret he
theorem ds_retNW : DS X (.Return none pos) wRetN := ds_retN
theorem ds_exW (he : DE X e we) (hs : swapsWith e none pos.line X.env = pure false := by rfl) : DS X (.Expr e pos) (wEx we) := ds_expr he hs
theorem ds_neverW : DS X st wNever := ds_never
theorem dss_neverW : DSs X rest wNevers := dss_never
theorem de_dnewW : DE X (.Dict [] [] pos) wDnew := de_dnewK
theorem dgs_nilW : DGs X [] [] gsNil := dgs_nil
theorem dgs_consW {es : List Expr} {ts us : List Nat} {w : WG} {u : List PyData → List Slot → (List Slot → Prop) → Prop} (h1 : DG X e ts w) (h2 : DGs X es us u) (hs : (assignEach (e :: es) X.env).map (·.2) = assign e X.env :: (assignEach es X.env).map (·.2) := by rfl) : DGs X (e :: es) (ts ++ us) (gsCons w u) := dgs_cons h1 h2 hs
theorem dg_tupW {es : List Expr} {ts : List Nat} {u : List PyData → List Slot → (List Slot → Prop) → Prop} {k n : Nat} (hc : X.calm = true) (h : DGs X es ts u) (hn : (assignEach es X.env).length = n := by rfl) (hst : (assignEach es X.env).findIdx? (·.1) = none := by rfl) : DG X (.Tuple es k pos) ts (gTupW n u) := dg_tup hc h hn hst
theorem dg_unlW {es : List Expr} {ts : List Nat} {u : List PyData → List Slot → (List Slot → Prop) → Prop} {k n : Nat} (hc : X.calm = true) (h : DGs X es ts u) (hn : (assignEach es X.env).length = n := by rfl) (hst : (assignEach es X.env).findIdx? (·.1) = none := by rfl) : DG X (.Tuple es k pos) ts (gUnlW n u) := dg_unl hc h hn hst
theorem di_c {wi : WI} (h : DI X tg iter wi) : DIc X tg iter (wIc wi) := h.c
theorem do_noneW : DO X none wNo := do_none
theorem do_someW (h : DE X e we) : DO X (some e) (wSo we) := do_some h
/-- a comprehension over a name, whoever owns it -/
@[simp] def wNameI (i : Nat) : WIc := fun ρ R => match ρ[i]? with
  | some (.ol ds) => R ds (fun ρ => ρ[i]? = some (.ol ds) ∨ ρ[i]? = some (.pm ds)) ρ
  | some (.pm ds) => R ds (fun ρ => ρ[i]? = some (.ol ds) ∨ ρ[i]? = some (.pm ds)) ρ
  | some (.fz d) => match items d with
    | some ds => R ds (fun _ => True) ρ
    | none => False
  | _ => False
theorem dic_name (i : Nat) (he : PE X e (tVar i)) : DIc X tg e (wNameI i) := by
  refine ⟨_, pi_seq he, fun m σ H ρ f B R Q hK rl hw k => ?_⟩
  unfold wNameI at hw
  cases e1 : ρ[i]? with
  | none => rw [e1] at hw; exact hw.elim
  | some s =>
    rw [e1] at hw
    have z := rl.sl i s e1
    have fin : ∀ ds a xs, s.own = true → σ[i]? = some (some (.ref a)) → H a = some (.lst xs) → R ds (fun ρ => ρ[i]? = some (.ol ds) ∨ ρ[i]? = some (.pm ds)) ρ → iSeq X.K (tVar i) σ H Q := by
      intro ds a xs hs e2 e3 hr
      refine ⟨_, e2, a, rfl, .inl ⟨⟨xs, SqL.of e3⟩, k _ _ _ _ _ _ hr rl .refl ?_⟩⟩
      obtain ⟨G, Y, h1, h2, h3⟩ := wlk_var (K := X.K) (U := vw m H f B) (ds := ds) e2
      exact ⟨G, Y, h1, fun m σ H ρ f B a q c d e => h2 m σ H ρ f B a (q i s e1 hs) c d e, fun j m σ H H' ρ f B x a b q c d e => h3 j m σ H H' ρ f B x a b (q i s e1 hs) c d e⟩
    cases s with
    | ol ds =>
      obtain ⟨a, xs, h1, _, h2, _⟩ := z
      exact fin ds a xs rfl h1 h2 hw
    | pm ds =>
      obtain ⟨a, xs, h1, _, h2, _⟩ := z
      exact fin ds a xs rfl h1 h2 hw
    | fz d =>
      obtain ⟨_, v, hv, rv⟩ := z
      simp only at hw
      cases ei : items d with
      | none => rw [ei] at hw; exact hw.elim
      | some ds =>
        rw [ei] at hw
        rw [hK] at rv
        rcases seq_cases rv ei with ⟨a, xs, rfl, h1, h2⟩ | ⟨a, xs, rfl, h1, h2⟩
        · exact ⟨_, hv, a, rfl, .inl ⟨⟨xs, rl.le.seqL h1⟩, k _ _ _ _ _ _ hw rl .refl (wlk_list h1 h2)⟩⟩
        · exact ⟨_, hv, a, rfl, .inr ⟨⟨xs, rl.le.seqT h1⟩, k _ _ _ _ _ _ hw rl .refl (wlk_tup h1 h2)⟩⟩
    | _ => exact hw.elim
end
/-! ### comprehensions that change nothing -/
theorem take_at {α : Type} {xs : List α} {i : Nat} {x : α} (h : xs[i]? = some x) : xs.take (i + 1) = xs.take i ++ [x] := by
  rw [List.take_add_one, h]
  rfl
section
variable {α : Type} {wg : WG} {wt : WT} {we : WE} {vs : List Nat} {ρ1 : List Slot} {R : Rs → List Slot → Prop} {ds : List PyData} {C : List Slot → Prop}
/-- kept by p, made by h, of xs -/
theorem lc_f (xs : List α) (g : α → PyData) (p : α → Bool) (h : α → PyData) (e : ds = xs.map g) (hl : xs.length ≤ sizeLine) (lo : loose ρ1 vs) (hC : C ρ1)
    (turn : ∀ (i : Nat) (x : α), xs[i]? = some x → wg (g x) (blank ρ1 vs) fun ρ2 => wt ρ2 fun b ρ3 => if b = true then we ρ3 fun r ρ4 => r.isVar = false ∧ dat ρ4 r fun y => loose ρ4 vs ∧ (giveB ρ1 ρ4 vs = ρ1 ∧ ((xs.take i).filter p).map h ++ [y] = ((xs.take (i + 1)).filter p).map h) else loose ρ3 vs ∧ (giveB ρ1 ρ3 vs = ρ1 ∧ ((xs.take i).filter p).map h = ((xs.take (i + 1)).filter p).map h))
    (hR : R (.ol ((xs.filter p).map h)) ρ1) : LcIn wg wt we vs R ds C ρ1 := by
  subst e
  refine ⟨by rw [List.length_map]; exact hl, lo, fun i acc ρ => ρ = ρ1 ∧ acc = ((xs.take i).filter p).map h, ⟨rfl, by simp⟩, ?_, ?_, ?_⟩
  · rintro i acc ρ ⟨rfl, _⟩
    exact ⟨hC, lo⟩
  · rintro i d acc ρ e ⟨rfl, rfl⟩
    rw [List.getElem?_map] at e
    cases ex : xs[i]? with
    | none => rw [ex] at e; cases e
    | some x =>
      rw [ex] at e
      cases e
      exact turn i x ex
  · rintro acc ρ ⟨rfl, rfl⟩
    rw [List.length_map, List.take_length]
    exact hR
/-- all kept -/
theorem lc_m (xs : List α) (g : α → PyData) (h : α → PyData) (e : ds = xs.map g) (hl : xs.length ≤ sizeLine) (lo : loose ρ1 vs) (hC : C ρ1)
    (turn : ∀ (i : Nat) (x : α), xs[i]? = some x → wg (g x) (blank ρ1 vs) fun ρ2 => wt ρ2 fun b ρ3 => if b = true then we ρ3 fun r ρ4 => r.isVar = false ∧ dat ρ4 r fun y => loose ρ4 vs ∧ (giveB ρ1 ρ4 vs = ρ1 ∧ (xs.take i).map h ++ [y] = (xs.take (i + 1)).map h) else loose ρ3 vs ∧ (giveB ρ1 ρ3 vs = ρ1 ∧ (xs.take i).map h = (xs.take (i + 1)).map h))
    (hR : R (.ol (xs.map h)) ρ1) : LcIn wg wt we vs R ds C ρ1 := by
  subst e
  refine ⟨by rw [List.length_map]; exact hl, lo, fun i acc ρ => ρ = ρ1 ∧ acc = (xs.take i).map h, ⟨rfl, by simp⟩, ?_, ?_, ?_⟩
  · rintro i acc ρ ⟨rfl, _⟩
    exact ⟨hC, lo⟩
  · rintro i d acc ρ e ⟨rfl, rfl⟩
    rw [List.getElem?_map] at e
    cases ex : xs[i]? with
    | none => rw [ex] at e; cases e
    | some x =>
      rw [ex] at e
      cases e
      exact turn i x ex
  · rintro acc ρ ⟨rfl, rfl⟩
    rw [List.length_map, List.take_length]
    exact hR
end
/-! ### loops -/
theorem for_go {wi : WI} {wg : WG} {wb : WS} {E : EndsD} {ρ ρ1 : List Slot} (Inv : Nat → List Slot → Prop) (ds : List PyData) (hi : ∀ R : List PyData → List Slot → Prop, R ds ρ1 → wi ρ R) (h0 : Inv 0 ρ1)
    (hs : ∀ (i : Nat) (d : PyData) (ρ : List Slot), ds[i]? = some d → Inv i ρ → wg d ρ fun ρ' => wb { E with nx := Inv (i + 1), ct := Inv (i + 1), bk := E.nx } ρ') (hd : ∀ ρ, Inv ds.length ρ → E.nx ρ) : wFor wi wg wb E ρ := hi _ ⟨Inv, h0, hs, hd⟩
theorem while_go {wt : WT} {wb : WS} {E : EndsD} {ρ : List Slot} (Inv : Nat → List Slot → Prop) (n : Nat) (h0 : Inv n ρ)
    (turn : ∀ (n : Nat) (ρ : List Slot), Inv n ρ → wt ρ fun b ρ1 => if b = true then wb { E with nx := fun ρ' => ∃ n', n' < n ∧ Inv n' ρ', ct := fun ρ' => ∃ n', n' < n ∧ Inv n' ρ', bk := E.nx } ρ1 else E.nx ρ1) : wWhile wt wb E ρ := ⟨Inv, ⟨n, h0⟩, turn⟩
end Dn
/-! PL: turns as lists of places: plain definitions. -/
namespace K05
def ap (a : List Nat) (i : Nat) : Nat := a.getD i 0
/-- a is a turn of its places -/
def Pm (a : List Nat) : Prop := (∀ i ∈ a, i < a.length) ∧ a.Nodup
def th (a b : List Nat) : List Nat := a.map (ap b)
def inv (a : List Nat) : List Nat := (List.range a.length).map a.idxOf
def it (a : List Nat) : Nat → Nat → Nat
  | 0, p => p
  | t + 1, p => ap a (it a t p)
def per (a : List Nat) (s : Nat) : Nat := ((List.range a.length).find? fun t => it a (t + 1) s == s).getD 0 + 1
def cyc (a : List Nat) (s : Nat) : List Nat := (List.range (per a s)).map fun t => it a t s
def isMin (a : List Nat) (s : Nat) : Bool := (cyc a s).all fun j => decide (s ≤ j)
def rounds (a : List Nat) : List (List Nat) := ((List.range a.length).filter fun s => isMin a s && decide (1 < per a s)).map (cyc a)
def pw (a : List Nat) (k : Int) : List Nat := (List.range a.length).map fun p => it a (k % (per a p : Int)).toNat p
def ordr (a : List Nat) : Nat := (rounds a).foldl (fun m c => Nat.lcm m c.length) 1
def evn (a : List Nat) : Bool := decide (((rounds a).map fun c => c.length - 1).sum % 2 = 0)
/-! pigeons -/
theorem pig : ∀ (n : Nat) (l : List Nat), l.Nodup → (∀ i ∈ l, i < n) → l.length ≤ n
  | 0, [], _, _ => Nat.le_refl _
  | 0, x :: _, _, h => absurd (h x (by simp)) (by omega)
  | n + 1, l, nd, h => by
    have h1 := pig n (l.erase n) (nd.erase n) fun i hi => by
      have h2 := h i (List.mem_of_mem_erase hi)
      have h3 : i ≠ n := fun z => by
        subst z
        exact (List.Nodup.mem_erase_iff nd).mp hi |>.1 rfl
      omega
    have h4 := List.length_erase (a := n) (l := l)
    split at h4 <;> omega
theorem mem_pm {a : List Nat} (h1 : Pm a) {j : Nat} (hj : j < a.length) : j ∈ a := by
  apply Classical.byContradiction
  intro hn
  have := pig a.length (j :: a) (List.nodup_cons.mpr ⟨hn, h1.2⟩) fun i hi => by
    rcases List.mem_cons.mp hi with rfl | hi
    · exact hj
    · exact h1.1 i hi
  simp at this
  omega
theorem pm_perm {a : List Nat} (h1 : Pm a) : a.Perm (List.range a.length) :=
  (List.perm_ext_iff_of_nodup h1.2 List.nodup_range).mpr fun i => ⟨fun h => List.mem_range.mpr (h1.1 i h), fun h => mem_pm h1 (List.mem_range.mp h)⟩
theorem idx_at {a : List Nat} (nd : a.Nodup) {i x : Nat} (h : a[i]? = some x) : a.idxOf x = i := by
  obtain ⟨hi, rfl⟩ := List.getElem?_eq_some_iff.mp h
  exact nd.idxOf_getElem i hi
/-! steps -/
theorem ap_lt {a : List Nat} (h : Pm a) {p : Nat} (hp : p < a.length) : ap a p < a.length := by
  unfold ap
  rw [List.getD_eq_getElem?_getD, List.getElem?_eq_getElem hp]
  exact h.1 _ (List.getElem_mem hp)
theorem ap_get {a : List Nat} {p : Nat} (hp : p < a.length) : a[p]? = some (ap a p) := by
  unfold ap
  rw [List.getD_eq_getElem?_getD, List.getElem?_eq_getElem hp]
  rfl
theorem ap_inj {a : List Nat} (h : Pm a) {p q : Nat} (hp : p < a.length) (hq : q < a.length) (e : ap a p = ap a q) : p = q := by
  have h1 := idx_at h.2 (ap_get hp)
  have h2 := idx_at h.2 (ap_get hq)
  rw [← h1, ← h2, e]
theorem it_lt {a : List Nat} (h : Pm a) {p : Nat} (hp : p < a.length) : ∀ t, it a t p < a.length
  | 0 => hp
  | t + 1 => ap_lt h (it_lt h hp t)
theorem it_add (a : List Nat) (p : Nat) : ∀ i j, it a (i + j) p = it a i (it a j p)
  | 0, j => by rw [Nat.zero_add]; rfl
  | i + 1, j => by
    rw [Nat.add_right_comm]
    show ap a (it a (i + j) p) = ap a (it a i (it a j p))
    rw [it_add a p i j]
theorem it_inj {a : List Nat} (h : Pm a) {p q : Nat} (hp : p < a.length) (hq : q < a.length) : ∀ t, it a t p = it a t q → p = q
  | 0, e => e
  | t + 1, e => it_inj h hp hq t (ap_inj h (it_lt h hp t) (it_lt h hq t) e)
/-- one comes back -/
theorem comes_back {a : List Nat} (h : Pm a) {s : Nat} (hs : s < a.length) : ∃ t, t < a.length ∧ it a (t + 1) s = s := by
  apply Classical.byContradiction
  intro hn
  have hne : ∀ t, t < a.length → it a (t + 1) s ≠ s := fun t ht e => hn ⟨t, ht, e⟩
  have nd : ((List.range (a.length + 1)).map fun t => it a t s).Nodup := by
    rw [List.nodup_iff_pairwise_ne, List.pairwise_map]
    refine List.Pairwise.imp_of_mem ?_ List.pairwise_lt_range
    intro i j hi hj hij e
    have hj' := List.mem_range.mp hj
    have e2 : it a j s = it a i (it a (j - i) s) := by rw [← it_add]; congr 1; omega
    rw [e2] at e
    have e3 := it_inj h hs (it_lt h hs (j - i)) i e
    refine hne (j - i - 1) (by omega) ?_
    rw [show j - i - 1 + 1 = j - i by omega]
    exact e3.symm
  have := pig a.length _ nd fun i hi => by
    obtain ⟨t, _, rfl⟩ := List.mem_map.mp hi
    exact it_lt h hs t
  simp at this
  omega
theorem per_spec {a : List Nat} (h : Pm a) {s : Nat} (hs : s < a.length) : per a s ≤ a.length ∧ it a (per a s) s = s ∧ ∀ k, 0 < k → k < per a s → it a k s ≠ s := by
  unfold per
  cases e : (List.range a.length).find? (fun t => it a (t + 1) s == s) with
  | none =>
    obtain ⟨t, ht, q⟩ := comes_back h hs
    have := List.find?_eq_none.mp e t (List.mem_range.mpr ht)
    rw [q] at this
    simp at this
  | some t =>
    have h1 := List.find?_some e
    have h2 := List.mem_range.mp (List.mem_of_find?_eq_some e)
    refine ⟨by rw [Option.getD_some]; omega, by simpa using h1, fun k k0 hk q => ?_⟩
    have hk' : k < t + 1 := by simpa using hk
    rw [List.find?_eq_some_iff_append] at e
    obtain ⟨_, as, bs, e1, e2⟩ := e
    have mem : k - 1 ∈ as := by
      have l1 : as.length = t := by
        have h3 : (List.range a.length)[as.length]? = some t := by rw [e1]; simp
        have h4 : as.length < a.length := by
          have := (List.getElem?_eq_some_iff.mp h3).1
          simpa using this
        rw [List.getElem?_range h4] at h3
        exact Option.some.inj h3
      have h5 : (List.range a.length)[k - 1]? = some (k - 1) := List.getElem?_range (by omega)
      rw [e1, List.getElem?_append_left (by omega)] at h5
      exact List.mem_of_getElem? h5
    have := e2 _ mem
    rw [show k - 1 + 1 = k by omega, q] at this
    simp at this
theorem per_pos (a : List Nat) (s : Nat) : 0 < per a s := Nat.succ_pos _
theorem it_per {a : List Nat} (h : Pm a) {s : Nat} (hs : s < a.length) : ∀ m, it a (m * per a s) s = s
  | 0 => by rw [Nat.zero_mul]; rfl
  | m + 1 => by rw [Nat.succ_mul, it_add, (per_spec h hs).2.1, it_per h hs m]
theorem it_mod {a : List Nat} (h : Pm a) {s : Nat} (hs : s < a.length) (k : Nat) : it a (k % per a s) s = it a k s := by
  conv => rhs; rw [← Nat.mod_add_div k (per a s), it_add, Nat.mul_comm, it_per h hs]
theorem it_eq {a : List Nat} (h : Pm a) {s : Nat} (hs : s < a.length) {i j : Nat} (hi : i < per a s) (hj : j < per a s) (e : it a i s = it a j s) : i = j := by
  have key : ∀ {i j : Nat}, i < j → j < per a s → it a i s ≠ it a j s := fun {i j} hij hj e => by
    have e2 : it a j s = it a i (it a (j - i) s) := by rw [← it_add]; congr 1; omega
    rw [e2] at e
    exact (per_spec h hs).2.2 (j - i) (by omega) (by omega) (it_inj h hs (it_lt h hs _) i e).symm
  rcases Nat.lt_trichotomy i j with c | c | c
  · exact absurd e (key c hj)
  · exact c
  · exact absurd e.symm (key c hi)
theorem cyc_len (a : List Nat) (s : Nat) : (cyc a s).length = per a s := by simp [cyc]
theorem cyc_get {a : List Nat} {s t : Nat} (ht : t < per a s) : (cyc a s)[t]? = some (it a t s) := by simp [cyc, ht]
theorem mem_cyc {a : List Nat} (h : Pm a) {s p : Nat} (hs : s < a.length) : p ∈ cyc a s ↔ ∃ t, it a t s = p := by
  constructor
  · intro z
    obtain ⟨t, _, e⟩ := List.mem_map.mp z
    exact ⟨t, e⟩
  · rintro ⟨t, e⟩
    refine List.mem_map.mpr ⟨t % per a s, List.mem_range.mpr (Nat.mod_lt _ (per_pos a s)), ?_⟩
    rw [it_mod h hs, e]
theorem cyc_nodup {a : List Nat} (h : Pm a) {s : Nat} (hs : s < a.length) : (cyc a s).Nodup := by
  unfold cyc
  rw [List.nodup_iff_pairwise_ne, List.pairwise_map]
  refine List.Pairwise.imp_of_mem ?_ List.pairwise_lt_range
  intro i j hi hj hij e
  have := it_eq h hs (List.mem_range.mp hi) (List.mem_range.mp hj) e
  omega
/-- of one round -/
def Rc (a : List Nat) (s p : Nat) : Prop := ∃ t, it a t s = p
theorem Rc.refl (a : List Nat) (s : Nat) : Rc a s s := ⟨0, rfl⟩
theorem Rc.trans {a : List Nat} {s p q : Nat} (x : Rc a s p) (y : Rc a p q) : Rc a s q := by
  obtain ⟨i, rfl⟩ := x
  obtain ⟨j, rfl⟩ := y
  exact ⟨j + i, it_add a s j i⟩
theorem Rc.symm {a : List Nat} (h : Pm a) {s p : Nat} (hs : s < a.length) (x : Rc a s p) : Rc a p s := by
  obtain ⟨t, rfl⟩ := x
  refine ⟨per a s - t % per a s, ?_⟩
  have hm := Nat.mod_lt t (per_pos a s)
  rw [← it_mod h hs t, ← it_add, show per a s - t % per a s + t % per a s = per a s by omega]
  exact (per_spec h hs).2.1
theorem Rc.lt {a : List Nat} (h : Pm a) {s p : Nat} (hs : s < a.length) (x : Rc a s p) : p < a.length := by
  obtain ⟨t, rfl⟩ := x
  exact it_lt h hs t
theorem isMin_iff {a : List Nat} (h : Pm a) {s : Nat} (hs : s < a.length) : isMin a s = true ↔ ∀ p, Rc a s p → s ≤ p := by
  unfold isMin
  rw [List.all_eq_true]
  exact ⟨fun z p hp => by simpa using z p ((mem_cyc h hs).mpr hp), fun z p hp => by simpa using z p ((mem_cyc h hs).mp hp)⟩
/-- the rounds that begin ahead of i -/
def rnd (a : List Nat) (i : Nat) : List (List Nat) := ((List.range i).filter fun s => isMin a s && decide (1 < per a s)).map (cyc a)
theorem rnd_all (a : List Nat) : rnd a a.length = rounds a := rfl
theorem rnd_succ (a : List Nat) (i : Nat) : rnd a (i + 1) = rnd a i ++ (if isMin a i && decide (1 < per a i) then [cyc a i] else []) := by
  unfold rnd
  rw [List.range_succ, List.filter_append, List.map_append]
  congr 1
  by_cases h : (isMin a i && decide (1 < per a i)) = true
  · simp [h]
  · simp [h]
theorem not_min {a : List Nat} (h : Pm a) {i : Nat} (hi : i < a.length) : isMin a i = true ↔ ¬ ∃ s, s < i ∧ Rc a s i := by
  rw [isMin_iff h hi]
  constructor
  · rintro z ⟨s, hs, r⟩
    have := z s (r.symm h (by omega))
    omega
  · intro z p hp
    apply Classical.byContradiction
    intro c
    exact z ⟨p, by omega, hp.symm h hi⟩
/-! one round, one length -/
theorem per_Rc {a : List Nat} (h : Pm a) {s p : Nat} (hs : s < a.length) (r : Rc a s p) : per a p = per a s := by
  have hp := r.lt h hs
  have key : ∀ {s p : Nat}, s < a.length → Rc a s p → per a p ≤ per a s := by
    rintro s p hs ⟨t, rfl⟩
    have hp := it_lt h hs t
    have e : it a (per a s) (it a t s) = it a t s := by rw [← it_add, Nat.add_comm, it_add, (per_spec h hs).2.1]
    apply Classical.byContradiction
    intro c
    exact (per_spec h hp).2.2 (per a s) (per_pos a s) (by omega) e
  exact Nat.le_antisymm (key hs r) (key hp (r.symm h hs))
theorem least {a : List Nat} (s : Nat) : ∃ m, Rc a s m ∧ ∀ p, Rc a s p → m ≤ p := by
  have key : ∀ n q, q ≤ n → Rc a s q → ∃ m, Rc a s m ∧ ∀ p, Rc a s p → m ≤ p := by
    intro n
    induction n with
    | zero => intro q hq r; exact ⟨q, r, fun p _ => by omega⟩
    | succ n ih =>
      intro q hq r
      by_cases c : ∃ p, p < q ∧ Rc a s p
      · obtain ⟨p, hp, rp⟩ := c
        exact ih p (by omega) rp
      · exact ⟨q, r, fun p rp => by
          apply Classical.byContradiction
          intro z
          exact c ⟨p, by omega, rp⟩⟩
  exact key s s (Nat.le_refl _) (Rc.refl a s)
theorem mem_rounds {a : List Nat} {c : List Nat} : c ∈ rounds a ↔ ∃ s, s < a.length ∧ isMin a s = true ∧ 1 < per a s ∧ c = cyc a s := by
  unfold rounds
  rw [List.mem_map]
  constructor
  · rintro ⟨s, hs, rfl⟩
    rw [List.mem_filter] at hs
    have := hs.2
    simp only [Bool.and_eq_true, decide_eq_true_eq] at this
    exact ⟨s, List.mem_range.mp hs.1, this.1, this.2, rfl⟩
  · rintro ⟨s, h1, h2, h3, rfl⟩
    refine ⟨s, List.mem_filter.mpr ⟨List.mem_range.mpr h1, ?_⟩, rfl⟩
    simp [h2, h3]
/-- who is in no round stays -/
theorem lone {a : List Nat} (h : Pm a) {p : Nat} (hp : p < a.length) (n : ∀ c ∈ rounds a, p ∉ c) : per a p = 1 := by
  obtain ⟨m, r, hm⟩ := least (a := a) p
  have hml := r.lt h hp
  have rs := r.symm h hp
  apply Classical.byContradiction
  intro c
  have pos := per_pos a p
  have e := per_Rc h hp r
  refine n (cyc a m) (mem_rounds.mpr ⟨m, hml, (isMin_iff h hml).mpr fun q hq => hm q (r.trans hq), by omega, rfl⟩) ?_
  exact (mem_cyc h hml).mpr rs
theorem in_round {a : List Nat} (h : Pm a) {c : List Nat} (hc : c ∈ rounds a) {p : Nat} (hp : p ∈ c) : ∃ s t, s < a.length ∧ c = cyc a s ∧ t < per a s ∧ p = it a t s ∧ per a p = per a s ∧ p < a.length := by
  obtain ⟨s, hs, _, _, rfl⟩ := mem_rounds.mp hc
  obtain ⟨t, ht, e⟩ := List.mem_map.mp hp
  have r : Rc a s p := ⟨t, e⟩
  exact ⟨s, t, hs, rfl, List.mem_range.mp ht, e.symm, per_Rc h hs r, r.lt h hs⟩
/-! what is filled in, place by place -/
def fill (n : Nat) (D : Nat → Bool) (f : Nat → Nat) : List Nat := (List.range n).map fun p => if D p = true then f p else p
theorem fill_len (n : Nat) (D : Nat → Bool) (f : Nat → Nat) : (fill n D f).length = n := by simp [fill]
theorem fill_none (n : Nat) (f : Nat → Nat) : fill n (fun _ => false) f = List.range n := by simp [fill]
theorem fill_set {n : Nat} {D : Nat → Bool} {f : Nat → Nat} {x : Nat} (hx : x < n) : (fill n D f).set x (f x) = fill n (fun p => D p || p == x) f := by
  apply List.ext_getElem?
  intro j
  by_cases e : j = x
  · subst e
    rw [List.getElem?_set_self (by rw [fill_len]; exact hx)]
    simp [fill, hx]
  · rw [List.getElem?_set_ne (Ne.symm e)]
    by_cases hj : j < n
    · simp [fill, hj, e]
    · simp [fill, hj]
theorem fill_congr {n : Nat} {D D' : Nat → Bool} {f : Nat → Nat} (h : ∀ p, D p = D' p) : fill n D f = fill n D' f := by
  have : D = D' := funext h
  rw [this]
theorem pw_len (a : List Nat) (k : Int) : (pw a k).length = a.length := by simp [pw]
/-- all rounds filled: the power -/
theorem fill_all {a : List Nat} (h : Pm a) (k : Int) : fill a.length (fun p => (rounds a).any fun c => c.contains p) (fun p => it a (k % (per a p : Int)).toNat p) = pw a k := by
  unfold fill pw
  apply List.map_congr_left
  intro p hp
  have hp' := List.mem_range.mp hp
  split
  · rfl
  · rename_i c
    have n : ∀ c ∈ rounds a, p ∉ c := fun d hd hpd => c (by
      rw [List.any_eq_true]
      exact ⟨d, hd, by simpa using hpd⟩)
    rw [lone h hp' n]
    simp [Int.emod_one]
    rfl
theorem pw_one {a : List Nat} (h : Pm a) : pw a 1 = a := by
  apply List.ext_getElem?
  intro p
  by_cases hp : p < a.length
  · rw [ap_get hp]
    simp only [pw, List.getElem?_map, List.getElem?_range hp, Option.map_some]
    congr 1
    by_cases c : per a p = 1
    · have := (per_spec h hp).2.1
      rw [c] at this ⊢
      exact this.symm
    · have pos := per_pos a p
      have e : ((1 : Int) % (per a p : Int)).toNat = 1 := by
        rw [Int.emod_eq_of_lt (by omega) (by omega)]
        rfl
      rw [e]
      rfl
  · simp [pw, hp]
/-- so far on, by the index -/
theorem turn_on {a : List Nat} (h : Pm a) {s t : Nat} (hs : s < a.length) (ht : t < per a s) (k : Int) : it a (k % (per a (it a t s) : Int)).toNat (it a t s) = it a (((t : Int) + k) % (per a s : Int)).toNat s := by
  have pos := per_pos a s
  rw [per_Rc h hs ⟨t, rfl⟩, ← it_add, ← it_mod h hs]
  congr 1
  have e1 : (0 : Int) ≤ k % (per a s : Int) := Int.emod_nonneg _ (by omega)
  have e2 : (0 : Int) ≤ ((t : Int) + k) % (per a s : Int) := Int.emod_nonneg _ (by omega)
  have q1 : (((k % (per a s : Int)).toNat : Nat) : Int) = k % (per a s : Int) := Int.toNat_of_nonneg e1
  have q2 : (((((t : Int) + k) % (per a s : Int)).toNat : Nat) : Int) = ((t : Int) + k) % (per a s : Int) := Int.toNat_of_nonneg e2
  have key : (((k % (per a s : Int)).toNat + t) % per a s : Nat) = ((((t : Int) + k) % (per a s : Int)).toNat : Nat) := by
    have z : ((((k % (per a s : Int)).toNat + t) % per a s : Nat) : Int) = (((((t : Int) + k) % (per a s : Int)).toNat : Nat) : Int) := by
      rw [q2, Int.natCast_emod, Int.natCast_add, q1, Int.emod_add_emod, Int.add_comm]
    omega
  exact key
end K05
/-! PM1: the algebra of turns. -/
namespace K05
theorem inv_len (a : List Nat) : (inv a).length = a.length := by simp [inv]
theorem th_len (a b : List Nat) : (th a b).length = a.length := by simp [th]
theorem th_pm {a b : List Nat} (h1 : Pm a) (h2 : Pm b) (e : a.length = b.length) : Pm (th a b) := by
  refine ⟨fun i hi => ?_, ?_⟩
  · obtain ⟨j, hj, rfl⟩ := List.mem_map.mp hi
    rw [th_len, e]
    exact ap_lt h2 (by rw [← e]; exact h1.1 j hj)
  · unfold th
    rw [List.nodup_iff_pairwise_ne, List.pairwise_map]
    refine List.Pairwise.imp_of_mem ?_ (List.nodup_iff_pairwise_ne.mp h1.2)
    intro i j hi hj ne q
    exact ne (ap_inj h2 (by rw [← e]; exact h1.1 i hi) (by rw [← e]; exact h1.1 j hj) q)
theorem inv_pm {a : List Nat} (h : Pm a) : Pm (inv a) := by
  refine ⟨fun i hi => ?_, ?_⟩
  · obtain ⟨j, hj, rfl⟩ := List.mem_map.mp hi
    rw [inv_len]
    exact List.idxOf_lt_length_iff.mpr (mem_pm h (List.mem_range.mp hj))
  · unfold inv
    rw [List.nodup_iff_pairwise_ne, List.pairwise_map]
    refine List.Pairwise.imp_of_mem ?_ (List.nodup_iff_pairwise_ne.mp List.nodup_range)
    intro i j hi hj ne q
    have m1 := mem_pm h (List.mem_range.mp hi)
    have m2 := mem_pm h (List.mem_range.mp hj)
    have g1 := List.getElem_idxOf (List.idxOf_lt_length_iff.mpr m1)
    have g2 := List.getElem_idxOf (List.idxOf_lt_length_iff.mpr m2)
    refine ne ?_
    rw [← g1, ← g2]
    congr 1
theorem pm_ext {a b : List Nat} (e : a.length = b.length) (h : ∀ p, p < a.length → ap a p = ap b p) : a = b := by
  apply List.ext_getElem?
  intro p
  by_cases hp : p < a.length
  · rw [ap_get hp, ap_get (by omega), h p hp]
  · rw [List.getElem?_eq_none (by omega), List.getElem?_eq_none (by omega)]
theorem ap_th {a b : List Nat} {p : Nat} (hp : p < a.length) : ap (th a b) p = ap b (ap a p) := by
  have h1 := ap_get (a := th a b) (p := p) (by rw [th_len]; exact hp)
  unfold th at h1
  rw [List.getElem?_map, ap_get hp] at h1
  exact (Option.some.inj h1).symm
theorem ap_map {n : Nat} {f : Nat → Nat} {p : Nat} (hp : p < n) : ap ((List.range n).map f) p = f p := by
  have h1 := ap_get (a := (List.range n).map f) (p := p) (by simpa using hp)
  rw [List.getElem?_map, List.getElem?_range hp] at h1
  exact (Option.some.inj h1).symm
theorem ap_range {n p : Nat} (hp : p < n) : ap (List.range n) p = p := by
  have h1 := ap_get (a := List.range n) (p := p) (by simpa using hp)
  rw [List.getElem?_range hp] at h1
  exact (Option.some.inj h1).symm
theorem ap_inv1 {a : List Nat} (h : Pm a) {p : Nat} (hp : p < a.length) : ap (inv a) (ap a p) = p := by
  unfold inv
  rw [ap_map (ap_lt h hp)]
  exact idx_at h.2 (ap_get hp)
theorem ap_inv2 {a : List Nat} (h : Pm a) {p : Nat} (hp : p < a.length) : ap a (ap (inv a) p) = p := by
  have hl := ap_lt (inv_pm h) (p := p) (by rw [inv_len]; exact hp)
  rw [inv_len] at hl
  have e := ap_inv1 h hl
  exact ap_inj (inv_pm h) (by rw [inv_len]; exact ap_lt h hl) (by rw [inv_len]; exact hp) e
theorem th_assoc {a b c : List Nat} (h1 : Pm a) (e : a.length = b.length) : th (th a b) c = th a (th b c) := by
  refine pm_ext (by simp [th_len]) fun p hp => ?_
  rw [th_len, th_len] at hp
  rw [ap_th (by rw [th_len]; exact hp), ap_th hp, ap_th hp, ap_th (by rw [← e]; exact ap_lt h1 hp)]
theorem th_inv1 {a : List Nat} (h : Pm a) : th a (inv a) = List.range a.length := by
  refine pm_ext (by simp [th_len]) fun p hp => ?_
  rw [th_len] at hp
  rw [ap_th hp, ap_inv1 h hp, ap_range hp]
theorem th_inv2 {a : List Nat} (h : Pm a) : th (inv a) a = List.range a.length := by
  refine pm_ext (by simp [th_len, inv_len]) fun p hp => ?_
  rw [th_len, inv_len] at hp
  rw [ap_th (by rw [inv_len]; exact hp), ap_inv2 h hp, ap_range hp]
theorem th_one {a : List Nat} : th a (List.range a.length) = a → True := fun _ => trivial
theorem th_r {a : List Nat} (h : Pm a) : th a (List.range a.length) = a := by
  refine pm_ext (by simp [th_len]) fun p hp => ?_
  rw [th_len] at hp
  rw [ap_th hp, ap_range (ap_lt h hp)]
theorem th_l {a : List Nat} : th (List.range a.length) a = a := by
  refine pm_ext (by simp [th_len]) fun p hp => ?_
  rw [th_len, List.length_range] at hp
  rw [ap_th (by simpa using hp), ap_range hp]
theorem inv_th {a b : List Nat} (h1 : Pm a) (h2 : Pm b) (e : a.length = b.length) : inv (th a b) = th (inv b) (inv a) := by
  refine pm_ext (by simp [th_len, inv_len, e]) fun p hp => ?_
  rw [inv_len, th_len] at hp
  have hq := ap_lt (inv_pm h2) (p := p) (by rw [inv_len]; omega)
  rw [inv_len] at hq
  have hr := ap_lt (inv_pm h1) (p := ap (inv b) p) (by rw [inv_len]; omega)
  rw [inv_len] at hr
  rw [ap_th (by rw [inv_len]; omega)]
  have e1 : ap (th a b) (ap (inv a) (ap (inv b) p)) = p := by
    rw [ap_th hr, ap_inv2 h1 (by omega), ap_inv2 h2 (by omega)]
  have e2 := ap_inv1 (th_pm h1 h2 e) (p := ap (inv a) (ap (inv b) p)) (by rw [th_len]; exact hr)
  rw [e1] at e2
  exact e2
theorem inv_inv {a : List Nat} (h : Pm a) : inv (inv a) = a := by
  refine pm_ext (by simp [inv_len]) fun p hp => ?_
  rw [inv_len, inv_len] at hp
  have e := ap_inv1 (inv_pm h) (p := ap a p) (by rw [inv_len]; exact ap_lt h hp)
  rw [ap_inv1 h hp] at e
  exact e
/-- a by c -/
def cj (a c : List Nat) : List Nat := th (th (inv c) a) c
theorem cj_len (a c : List Nat) : (cj a c).length = c.length := by simp [cj, th_len, inv_len]
theorem cj_pm {a c : List Nat} (h1 : Pm a) (h2 : Pm c) (e : a.length = c.length) : Pm (cj a c) := by
  unfold cj
  refine th_pm (th_pm (inv_pm h2) h1 (by rw [inv_len, e])) h2 ?_
  rw [th_len, inv_len]
theorem ap_cj {a c : List Nat} (h1 : Pm a) (h2 : Pm c) (e : a.length = c.length) {p : Nat} (hp : p < a.length) : ap (cj a c) (ap c p) = ap c (ap a p) := by
  have hc : p < c.length := by omega
  have hl := ap_lt h2 hc
  unfold cj
  rw [ap_th (by rw [th_len, inv_len]; exact hl), ap_th (by rw [inv_len]; exact hl), ap_inv1 h2 hc]
/-- a turn that leads so is the one by c -/
theorem cj_of {a b c : List Nat} (h1 : Pm a) (h2 : Pm c) (e : a.length = c.length) (l : b.length = c.length) (h : ∀ p, p < a.length → ap b (ap c p) = ap c (ap a p)) : b = cj a c := by
  refine pm_ext (by rw [cj_len, l]) fun q hq => ?_
  rw [l] at hq
  have hp := ap_lt (inv_pm h2) (p := q) (by rw [inv_len]; exact hq)
  rw [inv_len] at hp
  have e1 := ap_inv2 h2 hq
  have x1 := h (ap (inv c) q) (by omega)
  have x2 := ap_cj h1 h2 e (p := ap (inv c) q) (by omega)
  rw [e1] at x1 x2
  rw [x1, x2]
theorem cj_th {a b c : List Nat} (h1 : Pm a) (h2 : Pm b) (h3 : Pm c) (e : a.length = c.length) (f : b.length = c.length) : cj (th a b) c = th (cj a c) (cj b c) := by
  refine (cj_of (th_pm h1 h2 (by omega)) h3 (by rw [th_len, e]) (by rw [th_len, cj_len]) fun p hp => ?_).symm
  rw [th_len] at hp
  rw [ap_th (by rw [cj_len]; exact ap_lt h3 (by omega)), ap_cj h1 h3 e hp, ap_cj h2 h3 f (by rw [f, ← e]; exact ap_lt h1 hp), ap_th hp]
theorem cj_inv {a c : List Nat} (h1 : Pm a) (h3 : Pm c) (e : a.length = c.length) : cj (inv a) c = inv (cj a c) := by
  refine (cj_of (inv_pm h1) h3 (by rw [inv_len, e]) (by rw [inv_len, cj_len]) fun p hp => ?_).symm
  rw [inv_len] at hp
  have hq := ap_lt (inv_pm h1) (p := p) (by rw [inv_len]; exact hp)
  rw [inv_len] at hq
  have x := ap_cj h1 h3 e hq
  rw [ap_inv2 h1 hp] at x
  rw [← x]
  exact ap_inv1 (cj_pm h1 h3 e) (by rw [cj_len]; exact ap_lt h3 (by omega))
theorem cj_cj {a b c : List Nat} (h1 : Pm a) (h2 : Pm b) (h3 : Pm c) (e : a.length = b.length) (f : b.length = c.length) : cj (cj a b) c = cj a (th b c) := by
  refine cj_of h1 (th_pm h2 h3 f) (by rw [th_len, e]) (by rw [cj_len, th_len, f]) fun p hp => ?_
  have pb : p < b.length := by omega
  rw [ap_th pb, ap_cj (cj_pm h1 h2 e) h3 (by rw [cj_len, f]) (by rw [cj_len]; exact ap_lt h2 pb), ap_cj h1 h2 e hp, ap_th (by rw [← e]; exact ap_lt h1 hp)]
theorem cj_back {a c : List Nat} (h1 : Pm a) (h3 : Pm c) (e : a.length = c.length) : cj (cj a c) (inv c) = a := by
  refine (cj_of (cj_pm h1 h3 e) (inv_pm h3) (by rw [cj_len, inv_len]) (by rw [inv_len, e]) fun q hq => ?_).symm
  rw [cj_len] at hq
  have hp := ap_lt (inv_pm h3) (p := q) (by rw [inv_len]; exact hq)
  rw [inv_len] at hp
  have x := ap_cj h1 h3 e (p := ap (inv c) q) (by omega)
  rw [ap_inv2 h3 hq] at x
  rw [x]
  exact (ap_inv1 h3 (by rw [← e]; exact ap_lt h1 (by omega))).symm
/-! powers -/
theorem it_cj {a c : List Nat} (h1 : Pm a) (h3 : Pm c) (e : a.length = c.length) {p : Nat} (hp : p < a.length) : ∀ t, it (cj a c) t (ap c p) = ap c (it a t p)
  | 0 => rfl
  | t + 1 => by
    show ap (cj a c) (it (cj a c) t (ap c p)) = ap c (ap a (it a t p))
    rw [it_cj h1 h3 e hp t, ap_cj h1 h3 e (it_lt h1 hp t)]
theorem per_uniq {a : List Nat} (h : Pm a) {s k : Nat} (hs : s < a.length) (h1 : it a k s = s) (h2 : 0 < k) (h3 : ∀ j, 0 < j → j < k → it a j s ≠ s) : per a s = k := by
  have sp := per_spec h hs
  rcases Nat.lt_trichotomy (per a s) k with c | c | c
  · exact absurd sp.2.1 (h3 _ (per_pos a s) c)
  · exact c
  · exact absurd h1 (sp.2.2 k h2 c)
theorem per_cj {a c : List Nat} (h1 : Pm a) (h3 : Pm c) (e : a.length = c.length) {p : Nat} (hp : p < a.length) : per (cj a c) (ap c p) = per a p := by
  have sp := per_spec h1 hp
  refine per_uniq (cj_pm h1 h3 e) (by rw [cj_len]; exact ap_lt h3 (by omega)) ?_ (per_pos a p) fun j j0 hj q => ?_
  · rw [it_cj h1 h3 e hp, sp.2.1]
  · rw [it_cj h1 h3 e hp] at q
    exact sp.2.2 j j0 hj (ap_inj h3 (by rw [← e]; exact it_lt h1 hp j) (by omega) q)
theorem ap_pw {a : List Nat} {k : Int} {p : Nat} (hp : p < a.length) : ap (pw a k) p = it a (k % (per a p : Int)).toNat p := by
  unfold pw
  rw [ap_map hp]
/-- by any number that is the same on all rounds -/
theorem ap_pw_nat {a : List Nat} (h : Pm a) {m : Nat} {p : Nat} (hp : p < a.length) : ap (pw a (m : Int)) p = it a m p := by
  rw [ap_pw hp, ← it_mod h hp m]
  congr 1
/-- the m-th power -/
def pn (a : List Nat) (m : Nat) : List Nat := (List.range a.length).map (it a m)
theorem pn_len (a : List Nat) (m : Nat) : (pn a m).length = a.length := by simp [pn]
theorem ap_pn {a : List Nat} {m p : Nat} (hp : p < a.length) : ap (pn a m) p = it a m p := by
  unfold pn
  rw [ap_map hp]
theorem pn_zero (a : List Nat) : pn a 0 = List.range a.length := by
  refine pm_ext (by simp [pn_len]) fun p hp => ?_
  rw [pn_len] at hp
  rw [ap_pn hp, ap_range hp]
  rfl
theorem pn_succ {a : List Nat} (m : Nat) : pn a (m + 1) = th (pn a m) a := by
  refine pm_ext (by simp [pn_len, th_len]) fun p hp => ?_
  rw [pn_len] at hp
  rw [ap_pn hp, ap_th (by rw [pn_len]; exact hp), ap_pn hp]
  rfl
theorem pm_range (n : Nat) : Pm (List.range n) := ⟨fun i hi => by simpa using hi, List.nodup_range⟩
theorem pn_pm {a : List Nat} (h : Pm a) : ∀ m, Pm (pn a m)
  | 0 => by rw [pn_zero]; exact pm_range _
  | m + 1 => by
    rw [pn_succ]
    exact th_pm (pn_pm h m) h (pn_len a m)
theorem pn_add {a : List Nat} (h : Pm a) (x y : Nat) : th (pn a x) (pn a y) = pn a (x + y) := by
  refine pm_ext (by simp [pn_len, th_len]) fun p hp => ?_
  rw [th_len, pn_len] at hp
  rw [ap_th (by rw [pn_len]; exact hp), ap_pn hp, ap_pn (it_lt h hp x), ap_pn hp, Nat.add_comm x y, it_add]
theorem cj_pn {a c : List Nat} (h1 : Pm a) (h3 : Pm c) (e : a.length = c.length) (m : Nat) : cj (pn a m) c = pn (cj a c) m := by
  refine (cj_of (pn_pm h1 m) h3 (by rw [pn_len, e]) (by rw [pn_len, cj_len]) fun p hp => ?_).symm
  rw [pn_len] at hp
  rw [ap_pn (by rw [cj_len]; exact ap_lt h3 (by omega)), it_cj h1 h3 e hp, ap_pn hp]
theorem pw_nat {a : List Nat} (h : Pm a) {k : Int} {m : Nat} (hm : ∀ p, p < a.length → ((per a p : Nat) : Int) ∣ (m : Int) - k) : pw a k = pn a m := by
  refine pm_ext (by rw [pw_len, pn_len]) fun p hp => ?_
  rw [pw_len] at hp
  rw [ap_pw hp, ap_pn hp, ← it_mod h hp m]
  congr 1
  have e : k % (per a p : Int) = (m : Int) % (per a p : Int) := (Int.emod_eq_emod_iff_emod_sub_eq_zero.mpr (Int.emod_eq_zero_of_dvd (hm p hp))).symm
  rw [e]
  rfl
def fct : Nat → Nat
  | 0 => 1
  | n + 1 => (n + 1) * fct n
theorem fct_pos : ∀ n, 0 < fct n
  | 0 => Nat.one_pos
  | n + 1 => Nat.mul_pos (Nat.succ_pos n) (fct_pos n)
theorem dvd_fct : ∀ {n k : Nat}, 0 < k → k ≤ n → k ∣ fct n
  | 0, k, h0, h => by omega
  | n + 1, k, h0, h => by
    by_cases c : k = n + 1
    · rw [c]; exact Nat.dvd_mul_right _ _
    · exact Nat.dvd_trans (dvd_fct h0 (by omega)) (Nat.dvd_mul_left _ _)
theorem per_fct {a : List Nat} (h : Pm a) {p : Nat} (hp : p < a.length) : per a p ∣ fct a.length := dvd_fct (per_pos a p) (per_spec h hp).1
/-- a natural number that does for k -/
def rep (a : List Nat) (k : Int) : Nat := (k % (fct a.length : Int)).toNat
theorem rep_eq (a : List Nat) (k : Int) : ((rep a k : Nat) : Int) = k % (fct a.length : Int) := Int.toNat_of_nonneg (Int.emod_nonneg _ (by have := fct_pos a.length; omega))
theorem rep_dvd (a : List Nat) (k : Int) : ((fct a.length : Nat) : Int) ∣ (rep a k : Int) - k := by
  rw [rep_eq]
  refine ⟨-(k / (fct a.length : Int)), ?_⟩
  have := Int.mul_ediv_add_emod k (fct a.length : Int)
  rw [Int.mul_neg]
  omega
theorem pw_rep {a : List Nat} (h : Pm a) (k : Int) : pw a k = pn a (rep a k) :=
  pw_nat h fun p hp => Int.dvd_trans (Int.natCast_dvd_natCast.mpr (per_fct h hp)) (rep_dvd a k)
theorem pw_pm {a : List Nat} (h : Pm a) (k : Int) : Pm (pw a k) := by
  rw [pw_rep h]
  exact pn_pm h _
theorem pw_add {a : List Nat} (h : Pm a) (x y : Int) : th (pw a x) (pw a y) = pw a (x + y) := by
  rw [pw_rep h x, pw_rep h y, pn_add h]
  refine (pw_nat h fun p hp => ?_).symm
  refine Int.dvd_trans (Int.natCast_dvd_natCast.mpr (per_fct h hp)) ?_
  have h1 := rep_dvd a x
  have h2 := rep_dvd a y
  have e : ((rep a x + rep a y : Nat) : Int) - (x + y) = ((rep a x : Int) - x) + ((rep a y : Int) - y) := by omega
  rw [e]
  exact Int.dvd_add h1 h2
theorem cj_pw {a c : List Nat} (h1 : Pm a) (h3 : Pm c) (e : a.length = c.length) (k : Int) : cj (pw a k) c = pw (cj a c) k := by
  rw [pw_rep h1, cj_pn h1 h3 e, pw_rep (cj_pm h1 h3 e)]
  unfold rep
  rw [cj_len, e]
/-! orders -/
theorem per_dvd {a : List Nat} (h : Pm a) {p : Nat} (hp : p < a.length) (m : Nat) : per a p ∣ m ↔ it a m p = p := by
  constructor
  · rintro ⟨k, rfl⟩
    rw [Nat.mul_comm]
    exact it_per h hp k
  · intro q
    rw [← it_mod h hp] at q
    have lt := Nat.mod_lt m (per_pos a p)
    apply Classical.byContradiction
    intro c
    have nz : m % per a p ≠ 0 := fun z => c (Nat.dvd_of_mod_eq_zero z)
    exact (per_spec h hp).2.2 _ (by omega) lt q
theorem fold_dvd (m : Nat) : ∀ (cs : List (List Nat)) (x : Nat), cs.foldl (fun m c => Nat.lcm m c.length) x ∣ m ↔ x ∣ m ∧ ∀ c ∈ cs, c.length ∣ m
  | [], x => by simp
  | c :: cs, x => by
    rw [List.foldl_cons, fold_dvd m cs]
    constructor
    · rintro ⟨h1, h2⟩
      refine ⟨Nat.dvd_trans (Nat.dvd_lcm_left _ _) h1, fun d hd => ?_⟩
      rcases List.mem_cons.mp hd with rfl | hd
      · exact Nat.dvd_trans (Nat.dvd_lcm_right _ _) h1
      · exact h2 d hd
    · rintro ⟨h1, h2⟩
      exact ⟨Nat.lcm_dvd h1 (h2 c (by simp)), fun d hd => h2 d (List.mem_cons_of_mem _ hd)⟩
theorem ordr_dvd {a : List Nat} (h : Pm a) (m : Nat) : ordr a ∣ m ↔ ∀ p, p < a.length → it a m p = p := by
  unfold ordr
  rw [fold_dvd]
  constructor
  · rintro ⟨_, h2⟩ p hp
    rw [← per_dvd h hp]
    by_cases c : ∃ d, d ∈ rounds a ∧ p ∈ d
    · obtain ⟨d, hd, hpd⟩ := c
      obtain ⟨s, t, hs, rfl, ht, _, e, _⟩ := in_round h hd hpd
      have := h2 _ hd
      rw [cyc_len] at this
      rw [e]
      exact this
    · rw [lone h hp fun d hd hpd => c ⟨d, hd, hpd⟩]
      exact Nat.one_dvd m
  · intro q
    refine ⟨Nat.one_dvd m, fun c hc => ?_⟩
    obtain ⟨s, hs, _, _, rfl⟩ := mem_rounds.mp hc
    rw [cyc_len, per_dvd h hs]
    exact q s hs
theorem ordr_pn {a : List Nat} (h : Pm a) (m : Nat) : pn a m = List.range a.length ↔ ordr a ∣ m := by
  rw [ordr_dvd h]
  constructor
  · intro e p hp
    rw [← ap_pn hp, e, ap_range hp]
  · intro q
    refine pm_ext (by simp [pn_len]) fun p hp => ?_
    rw [pn_len] at hp
    rw [ap_pn hp, ap_range hp, q p hp]
theorem ordr_eq {a b : List Nat} (h1 : Pm a) (h2 : Pm b) (e : ∀ m, (∀ p, p < a.length → it a m p = p) ↔ ∀ p, p < b.length → it b m p = p) : ordr a = ordr b :=
  Nat.dvd_antisymm ((ordr_dvd h1 _).mpr ((e _).mpr ((ordr_dvd h2 _).mp (Nat.dvd_refl _)))) ((ordr_dvd h2 _).mpr ((e _).mp ((ordr_dvd h1 _).mp (Nat.dvd_refl _))))
theorem ordr_cj {a c : List Nat} (h1 : Pm a) (h3 : Pm c) (e : a.length = c.length) : ordr (cj a c) = ordr a := by
  refine (ordr_eq h1 (cj_pm h1 h3 e) fun m => ⟨fun q p hp => ?_, fun q p hp => ?_⟩).symm
  · rw [cj_len] at hp
    have hq := ap_lt (inv_pm h3) (p := p) (by rw [inv_len]; exact hp)
    rw [inv_len] at hq
    have x := it_cj h1 h3 e (p := ap (inv c) p) (by omega) m
    rw [ap_inv2 h3 hp, q _ (by omega), ap_inv2 h3 hp] at x
    exact x
  · have x := it_cj h1 h3 e hp m
    rw [q _ (by rw [cj_len]; exact ap_lt h3 (by omega))] at x
    exact (ap_inj h3 (by omega) (by rw [← e]; exact it_lt h1 hp m) x).symm
theorem ordr_comm {a b : List Nat} (h1 : Pm a) (h2 : Pm b) (e : a.length = b.length) : ordr (th a b) = ordr (th b a) := by
  have c : cj (th a b) a = th b a := by
    unfold cj
    rw [← th_assoc (inv_pm h1) (by rw [inv_len]), th_inv2 h1, e, th_l]
  rw [← c, ordr_cj (th_pm h1 h2 e) h1 (by rw [th_len])]
theorem it_inv {a : List Nat} (h : Pm a) {p : Nat} (hp : p < a.length) : ∀ m, it a m (it (inv a) m p) = p
  | 0 => rfl
  | m + 1 => by
    have hl := it_lt (inv_pm h) (p := p) (by rw [inv_len]; exact hp) m
    rw [inv_len] at hl
    rw [it_add]
    show it a m (ap a (ap (inv a) (it (inv a) m p))) = p
    rw [ap_inv2 h hl, it_inv h hp m]
theorem ordr_inv {a : List Nat} (h : Pm a) : ordr (inv a) = ordr a := by
  refine ordr_eq (inv_pm h) h fun m => ⟨fun q p hp => ?_, fun q p hp => ?_⟩
  · have x := it_inv h hp m
    rw [q p (by rw [inv_len]; exact hp)] at x
    exact x
  · rw [inv_len] at hp
    have x := it_inv h hp m
    have hl := it_lt (inv_pm h) (p := p) (by rw [inv_len]; exact hp) m
    rw [inv_len] at hl
    rw [q _ hl] at x
    exact x
theorem ordr_le {a : List Nat} (h : Pm a) : 0 < ordr a ∧ ordr a ≤ fct a.length := by
  have d : ordr a ∣ fct a.length := (ordr_dvd h _).mpr fun p hp => (per_dvd h hp _).mp (per_fct h hp)
  exact ⟨Nat.pos_of_dvd_of_pos d (fct_pos _), Nat.le_of_dvd (fct_pos _) d⟩
theorem pw_ordr {a : List Nat} (h : Pm a) (k : Int) : pw a (k % (ordr a : Int)) = pw a k := by
  have hp := (ordr_le h).1
  rw [pw_rep h k]
  refine pw_nat h fun p hpp => ?_
  have d1 : per a p ∣ ordr a := (per_dvd h hpp _).mpr ((ordr_dvd h _).mp (Nat.dvd_refl _) p hpp)
  have e1 : ((per a p : Nat) : Int) ∣ (rep a k : Int) - k := Int.dvd_trans (Int.natCast_dvd_natCast.mpr (per_fct h hpp)) (rep_dvd a k)
  have e2 : ((per a p : Nat) : Int) ∣ k - k % (ordr a : Int) := by
    refine Int.dvd_trans (Int.natCast_dvd_natCast.mpr d1) ⟨k / (ordr a : Int), ?_⟩
    have := Int.mul_ediv_add_emod k (ordr a : Int)
    omega
  have e3 : (rep a k : Int) - k % (ordr a : Int) = ((rep a k : Int) - k) + (k - k % (ordr a : Int)) := by omega
  rw [e3]
  exact Int.dvd_add e1 e2
theorem pw_id {a : List Nat} (h : Pm a) (m : Nat) : pw a (m : Int) = List.range a.length ↔ ordr a ∣ m := by
  rw [pw_nat h (m := m) (k := (m : Int)) fun p _ => by simp, ordr_pn h]
/-! rows -/
end K05
/-! PM2: parities. -/
namespace K05
/-! sums -/
theorem sum_perm {f : Nat → Nat} {l m : List Nat} (h : l.Perm m) : (l.map f).sum = (m.map f).sum := by
  induction h with
  | nil => rfl
  | cons x _ ih => rw [List.map_cons, List.map_cons, List.sum_cons, List.sum_cons, ih]
  | swap x y l => simp only [List.map_cons, List.sum_cons]; omega
  | trans _ _ h1 h2 => rw [h1, h2]
theorem sum_congr {f g : Nat → Nat} {l : List Nat} (h : ∀ x ∈ l, f x = g x) : (l.map f).sum = (l.map g).sum := by
  rw [List.map_congr_left h]
theorem sum_add (f g : Nat → Nat) : ∀ l : List Nat, (l.map fun x => f x + g x).sum = (l.map f).sum + (l.map g).sum
  | [] => rfl
  | x :: l => by
    simp only [List.map_cons, List.sum_cons, sum_add f g l]
    omega
theorem sum_zero {f : Nat → Nat} : ∀ {l : List Nat}, (∀ x ∈ l, f x = 0) → (l.map f).sum = 0
  | [], _ => rfl
  | x :: l, h => by
    rw [List.map_cons, List.sum_cons, h x (by simp), sum_zero fun y hy => h y (List.mem_cons_of_mem _ hy)]
theorem sum_range_succ (f : Nat → Nat) (n : Nat) : ((List.range (n + 1)).map f).sum = ((List.range n).map f).sum + f n := by
  rw [List.range_succ, List.map_append, List.sum_append]
  simp
theorem sum_single {f : Nat → Nat} {x : Nat} : ∀ {n : Nat}, x < n → (∀ j, j < n → j ≠ x → f j = 0) → ((List.range n).map f).sum = f x
  | 0, h, _ => by omega
  | n + 1, h, z => by
    rw [sum_range_succ]
    by_cases c : x = n
    · subst c
      rw [sum_zero fun y hy => z y (by have := List.mem_range.mp hy; omega) (by have := List.mem_range.mp hy; omega)]
      omega
    · rw [sum_single (x := x) (by omega) fun j hj ne => z j (by omega) ne, z n (by omega) (by omega)]
      omega
theorem sum_swap (f : Nat → Nat → Nat) (m : List Nat) : ∀ l : List Nat, (l.map fun i => (m.map fun j => f i j).sum).sum = (m.map fun j => (l.map fun i => f i j).sum).sum
  | [] => by
    rw [show (m.map fun j => (([] : List Nat).map fun i => f i j).sum) = m.map fun _ => 0 from rfl, sum_zero fun _ _ => rfl]
    rfl
  | i :: l => by
    rw [List.map_cons, List.sum_cons, sum_swap f m l, ← sum_add]
    rfl
/-- over all pairs of places below n -/
def dbl (n : Nat) (f : Nat → Nat → Nat) : Nat := ((List.range n).map fun i => ((List.range n).map fun j => f i j).sum).sum
theorem dbl_congr {n : Nat} {f g : Nat → Nat → Nat} (h : ∀ i j, i < n → j < n → f i j = g i j) : dbl n f = dbl n g := by
  unfold dbl
  exact sum_congr fun i hi => sum_congr fun j hj => h i j (List.mem_range.mp hi) (List.mem_range.mp hj)
theorem dbl_add (n : Nat) (f g : Nat → Nat → Nat) : dbl n (fun i j => f i j + g i j) = dbl n f + dbl n g := by
  unfold dbl
  rw [← sum_add]
  exact sum_congr fun i _ => sum_add _ _ _
theorem dbl_succ (n : Nat) (f : Nat → Nat → Nat) : dbl (n + 1) f = dbl n f + ((List.range n).map fun i => f i n).sum + ((List.range n).map fun j => f n j).sum + f n n := by
  unfold dbl
  rw [sum_range_succ, sum_range_succ]
  have e : ((List.range n).map fun i => ((List.range (n + 1)).map fun j => f i j).sum).sum = ((List.range n).map fun i => ((List.range n).map fun j => f i j).sum + f i n).sum := sum_congr fun i _ => sum_range_succ _ _
  rw [e, sum_add]
  omega
/-- what is the same either way round, and nothing on the diagonal, is even -/
theorem dbl_even {f : Nat → Nat → Nat} (sy : ∀ i j, f i j = f j i) (dg : ∀ i, f i i = 0) : ∀ n, ∃ k, dbl n f = 2 * k
  | 0 => ⟨0, rfl⟩
  | n + 1 => by
    obtain ⟨k, e⟩ := dbl_even sy dg n
    refine ⟨k + ((List.range n).map fun i => f i n).sum, ?_⟩
    rw [dbl_succ, e, dg, sum_congr (f := fun j => f n j) (g := fun j => f j n) fun j _ => sy n j]
    omega
theorem dbl_perm {a : List Nat} (h : Pm a) (f : Nat → Nat → Nat) : dbl a.length (fun i j => f (ap a i) (ap a j)) = dbl a.length f := by
  have e : (List.range a.length).map (ap a) = a := by
    refine pm_ext (by simp) fun p hp => ?_
    rw [ap_map (by simpa using hp)]
  have p := pm_perm h
  have one : ∀ g : Nat → Nat, ((List.range a.length).map fun j => g (ap a j)).sum = ((List.range a.length).map g).sum := fun g => by
    have q : ((List.range a.length).map fun j => g (ap a j)) = ((List.range a.length).map (ap a)).map g := by
      rw [List.map_map]
      rfl
    rw [q, e]
    exact sum_perm p
  unfold dbl
  rw [sum_congr (f := fun i => ((List.range a.length).map fun j => f (ap a i) (ap a j)).sum) (g := fun i => ((List.range a.length).map fun j => f (ap a i) j).sum) fun i _ => one (f (ap a i))]
  exact one fun x => ((List.range a.length).map fun j => f x j).sum
/-! inversions -/
def sB (a : List Nat) (i j : Nat) : Bool := Bool.xor (decide (i < j)) (decide (ap a i < ap a j))
def sg (a : List Nat) (i j : Nat) : Nat := if sB a i j = true then 1 else 0
def J (a : List Nat) : Nat := dbl a.length (sg a)
def I (a : List Nat) : Nat := J a / 2
theorem sg_diag (a : List Nat) (i : Nat) : sg a i i = 0 := by simp [sg, sB]
theorem sg_symm {a : List Nat} (h : Pm a) {i j : Nat} (hi : i < a.length) (hj : j < a.length) : sg a i j = sg a j i := by
  by_cases c : i = j
  · rw [c]
  · have ne : ap a i ≠ ap a j := fun z => c (ap_inj h hi hj z)
    unfold sg sB
    have e1 : decide (j < i) = !decide (i < j) := by
      by_cases q : i < j
      · rw [decide_eq_true q, decide_eq_false (by omega)]; rfl
      · rw [decide_eq_false q, decide_eq_true (by omega)]; rfl
    have e2 : decide (ap a j < ap a i) = !decide (ap a i < ap a j) := by
      by_cases q : ap a i < ap a j
      · rw [decide_eq_true q, decide_eq_false (by omega)]; rfl
      · rw [decide_eq_false q, decide_eq_true (by omega)]; rfl
    rw [e1, e2]
    cases decide (i < j) <;> cases decide (ap a i < ap a j) <;> rfl
/-- cut off outside, so that it is symmetric everywhere -/
def cut (n : Nat) (f : Nat → Nat → Nat) (i j : Nat) : Nat := if i < n ∧ j < n then f i j else 0
theorem dbl_cut (n : Nat) (f : Nat → Nat → Nat) : dbl n (cut n f) = dbl n f := dbl_congr fun i j hi hj => if_pos ⟨hi, hj⟩
theorem even_of {n : Nat} {f : Nat → Nat → Nat} (sy : ∀ i j, i < n → j < n → f i j = f j i) (dg : ∀ i, i < n → f i i = 0) : ∃ k, dbl n f = 2 * k := by
  rw [← dbl_cut]
  refine dbl_even (fun i j => ?_) (fun i => ?_) n
  · unfold cut
    by_cases c : i < n ∧ j < n
    · rw [if_pos c, if_pos ⟨c.2, c.1⟩, sy i j c.1 c.2]
    · rw [if_neg c, if_neg fun z => c ⟨z.2, z.1⟩]
  · unfold cut
    by_cases c : i < n ∧ i < n
    · rw [if_pos c, dg i c.1]
    · rw [if_neg c]
theorem J_even {a : List Nat} (h : Pm a) : J a = 2 * I a := by
  obtain ⟨k, e⟩ := even_of (n := a.length) (f := sg a) (fun i j hi hj => sg_symm h hi hj) fun i _ => sg_diag a i
  unfold I J
  rw [e]
  omega
/-- one behind the other: the parities are added up -/
theorem I_th {a b : List Nat} (h1 : Pm a) (h2 : Pm b) (e : a.length = b.length) : I (th a b) % 2 = (I a + I b) % 2 := by
  have x : ∀ i j, i < a.length → j < a.length → sg (th a b) i j + 2 * (sg a i j * sg b (ap a i) (ap a j)) = sg a i j + sg b (ap a i) (ap a j) := by
    intro i j hi hj
    unfold sg sB
    rw [ap_th hi, ap_th hj]
    cases decide (i < j) <;> cases decide (ap a i < ap a j) <;> cases decide (ap b (ap a i) < ap b (ap a j)) <;> rfl
  have s1 : dbl a.length (fun i j => sg (th a b) i j + 2 * (sg a i j * sg b (ap a i) (ap a j))) = dbl a.length (fun i j => sg a i j + sg b (ap a i) (ap a j)) := dbl_congr x
  rw [dbl_add, dbl_add, dbl_perm h1 (sg b)] at s1
  have lt : ∀ i, i < a.length → ap a i < b.length := fun i hi => by rw [← e]; exact ap_lt h1 hi
  obtain ⟨k, ek⟩ := even_of (n := a.length) (f := fun i j => sg a i j * sg b (ap a i) (ap a j)) (fun i j hi hj => by rw [sg_symm h1 hi hj, sg_symm h2 (lt i hi) (lt j hj)]) fun i _ => by rw [sg_diag, Nat.zero_mul]
  have dm : dbl a.length (fun i j => 2 * (sg a i j * sg b (ap a i) (ap a j))) = 2 * dbl a.length (fun i j => sg a i j * sg b (ap a i) (ap a j)) := by
    have := dbl_add a.length (fun i j => sg a i j * sg b (ap a i) (ap a j)) (fun i j => sg a i j * sg b (ap a i) (ap a j))
    rw [Nat.two_mul, ← this]
    exact dbl_congr fun i j _ _ => Nat.two_mul _
  have ja : dbl a.length (sg (th a b)) = J (th a b) := by unfold J; rw [th_len]
  have jb : dbl a.length (sg b) = J b := by unfold J; rw [e]
  have jc : dbl a.length (sg a) = J a := rfl
  rw [dm, ek, ja, jb] at s1
  rw [show dbl a.length (fun i j => sg a i j) = J a from rfl] at s1
  rw [J_even h1, J_even h2, J_even (th_pm h1 h2 e)] at s1
  omega
theorem I_range (n : Nat) : I (List.range n) = 0 := by
  have : J (List.range n) = 0 := by
    unfold J
    rw [List.length_range]
    have z : dbl n (sg (List.range n)) = dbl n (fun _ _ => 0) := dbl_congr fun i j hi hj => by
      unfold sg sB
      rw [ap_range hi, ap_range hj]
      cases decide (i < j) <;> rfl
    rw [z]
    unfold dbl
    rw [sum_zero fun i _ => sum_zero fun _ _ => rfl]
  unfold I
  rw [this]
theorem I_inv {a : List Nat} (h : Pm a) : I (inv a) % 2 = I a % 2 := by
  have := I_th h (inv_pm h) (by rw [inv_len])
  rw [th_inv1 h, I_range] at this
  omega
theorem I_cj {a c : List Nat} (h1 : Pm a) (h3 : Pm c) (e : a.length = c.length) : I (cj a c) % 2 = I a % 2 := by
  unfold cj
  have x1 := I_th (th_pm (inv_pm h3) h1 (by rw [inv_len, e])) h3 (by rw [th_len, inv_len])
  have x2 := I_th (inv_pm h3) h1 (by rw [inv_len, e])
  have x3 := I_inv h3
  omega
end K05
/-! PM3: parities by rounds. -/
namespace K05
/-! exchanges -/
def sw (n x y : Nat) : List Nat := (List.range n).map fun i => if i = x then y else if i = y then x else i
theorem sw_len (n x y : Nat) : (sw n x y).length = n := by simp [sw]
theorem ap_sw {n x y p : Nat} (hp : p < n) : ap (sw n x y) p = if p = x then y else if p = y then x else p := by
  unfold sw
  rw [ap_map hp]
theorem pm_map {n : Nat} {f : Nat → Nat} (lt : ∀ p, p < n → f p < n) (inj : ∀ p q, p < n → q < n → f p = f q → p = q) : Pm ((List.range n).map f) := by
  refine ⟨fun i hi => ?_, ?_⟩
  · obtain ⟨p, hp, rfl⟩ := List.mem_map.mp hi
    simpa using lt p (List.mem_range.mp hp)
  · rw [List.nodup_iff_pairwise_ne, List.pairwise_map]
    refine List.Pairwise.imp_of_mem ?_ (List.nodup_iff_pairwise_ne.mp List.nodup_range)
    intro i j hi hj ne q
    exact ne (inj i j (List.mem_range.mp hi) (List.mem_range.mp hj) q)
theorem sw_pm {n x y : Nat} (hx : x < n) (hy : y < n) : Pm (sw n x y) := by
  refine pm_map (fun p hp => ?_) fun p q hp hq e => ?_
  · split
    · exact hy
    · split
      · exact hx
      · exact hp
  · skip
    split at e <;> split at e <;> (try split at e) <;> (try split at e) <;> omega
theorem I_adj (m : Nat) : I (sw (m + 2) m (m + 1)) = 1 := by
  have am : ∀ i, i < m → ap (sw (m + 2) m (m + 1)) i = i := fun i hi => by
    rw [ap_sw (by omega), if_neg (by omega), if_neg (by omega)]
  have a1 : ap (sw (m + 2) m (m + 1)) m = m + 1 := by rw [ap_sw (by omega), if_pos rfl]
  have a2 : ap (sw (m + 2) m (m + 1)) (m + 1) = m := by rw [ap_sw (by omega), if_neg (by omega), if_pos rfl]
  have z0 : dbl m (sg (sw (m + 2) m (m + 1))) = 0 := by
    have : dbl m (sg (sw (m + 2) m (m + 1))) = dbl m (fun _ _ => 0) := dbl_congr fun i j hi hj => by
      unfold sg sB
      rw [am i hi, am j hj]
      cases decide (i < j) <;> rfl
    rw [this]
    unfold dbl
    exact sum_zero fun i _ => sum_zero fun _ _ => rfl
  have z1 : ((List.range m).map fun i => sg (sw (m + 2) m (m + 1)) i m).sum = 0 := sum_zero fun i hi => by
    have hi' := List.mem_range.mp hi
    unfold sg sB
    rw [am i hi', a1, decide_eq_true hi', decide_eq_true (show i < m + 1 by omega)]
    rfl
  have z2 : ((List.range m).map fun j => sg (sw (m + 2) m (m + 1)) m j).sum = 0 := sum_zero fun i hi => by
    have hi' := List.mem_range.mp hi
    unfold sg sB
    rw [am i hi', a1, decide_eq_false (show ¬ m < i by omega), decide_eq_false (show ¬ m + 1 < i by omega)]
    rfl
  have z3 : ((List.range m).map fun i => sg (sw (m + 2) m (m + 1)) i (m + 1)).sum = 0 := sum_zero fun i hi => by
    have hi' := List.mem_range.mp hi
    unfold sg sB
    rw [am i hi', a2, decide_eq_true (show i < m + 1 by omega), decide_eq_true hi']
    rfl
  have z4 : ((List.range m).map fun j => sg (sw (m + 2) m (m + 1)) (m + 1) j).sum = 0 := sum_zero fun i hi => by
    have hi' := List.mem_range.mp hi
    unfold sg sB
    rw [am i hi', a2, decide_eq_false (show ¬ m + 1 < i by omega), decide_eq_false (show ¬ m < i by omega)]
    rfl
  have z5 : sg (sw (m + 2) m (m + 1)) m (m + 1) = 1 := by
    unfold sg sB
    rw [a1, a2, decide_eq_true (show m < m + 1 by omega), decide_eq_false (show ¬ m + 1 < m by omega)]
    rfl
  have z6 : sg (sw (m + 2) m (m + 1)) (m + 1) m = 1 := by
    unfold sg sB
    rw [a1, a2, decide_eq_true (show m < m + 1 by omega), decide_eq_false (show ¬ m + 1 < m by omega)]
    rfl
  have j : J (sw (m + 2) m (m + 1)) = 2 := by
    unfold J
    rw [sw_len, dbl_succ, dbl_succ, sum_range_succ, sum_range_succ, z0, z1, z2, z3, z4, z5, z6, sg_diag, sg_diag]
  unfold I
  rw [j]
theorem I_sw {n v : Nat} (hv : v < n) : I (sw (n + 1) v n) % 2 = 1 := by
  obtain ⟨m, rfl⟩ : ∃ m, n = m + 1 := ⟨n - 1, by omega⟩
  by_cases c : v = m
  · subst c
    rw [I_adj]
  · have e : sw (m + 2) v (m + 1) = cj (sw (m + 2) m (m + 1)) (sw (m + 2) v m) := by
      refine cj_of (sw_pm (by omega) (by omega)) (sw_pm (by omega) (by omega)) (by rw [sw_len, sw_len]) (by rw [sw_len, sw_len]) fun p hp => ?_
      rw [sw_len] at hp
      have l1 := ap_lt (sw_pm (n := m + 2) (x := v) (y := m) (by omega) (by omega)) (p := p) (by rw [sw_len]; exact hp)
      have l2 := ap_lt (sw_pm (n := m + 2) (x := m) (y := m + 1) (by omega) (by omega)) (p := p) (by rw [sw_len]; exact hp)
      rw [sw_len] at l1 l2
      rw [ap_sw l1, ap_sw l2, ap_sw hp, ap_sw hp]
      by_cases p1 : p = v
      · subst p1
        simp [c, show ¬ p = m + 1 by omega, show ¬ m = m + 1 by omega, show ¬ m = p by omega]
      · by_cases p2 : p = m
        · subst p2
          simp [p1, show ¬ p + 1 = v by omega]
        · by_cases p3 : p = m + 1
          · subst p3
            simp [p1, c, show ¬ m = v by omega]
          · simp [p1, p2, p3]
    rw [e, I_cj (sw_pm (by omega) (by omega)) (sw_pm (by omega) (by omega)) (by rw [sw_len, sw_len]), I_adj]
/-! the last place left out -/
def del (a : List Nat) (n : Nat) : List Nat := (List.range n).map fun i => if ap a i = n then ap a n else ap a i
theorem del_len (a : List Nat) (n : Nat) : (del a n).length = n := by simp [del]
section
variable {a : List Nat} {n : Nat} (h : Pm a) (l : a.length = n + 1)
include h l
theorem ap_del {i : Nat} (hi : i < n) : ap (del a n) i = if ap a i = n then ap a n else ap a i := by
  unfold del
  rw [ap_map hi]
theorem last_lt {i : Nat} (hi : i < n) (e : ap a i = n) : ap a n < n := by
  have h1 := ap_lt h (p := n) (by omega)
  have : ap a n ≠ n := fun z => by
    have := ap_inj h (p := i) (q := n) (by omega) (by omega) (by rw [e, z])
    omega
  omega
theorem del_pm : Pm (del a n) := by
  refine pm_map (fun p hp => ?_) fun p q hp hq e => ?_
  · have h1 := ap_lt h (p := p) (by omega)
    split
    · rename_i c
      exact last_lt h l hp c
    · omega
  · have key : ∀ p q, p < n → q < n → ap a p = n → ap a q ≠ n → ap a n = ap a q → p = q := fun p q hp hq e1 e2 e3 => by
      have := ap_inj h (p := n) (q := q) (by omega) (by omega) e3
      omega
    split at e
    · rename_i c1
      split at e
      · rename_i c2
        exact ap_inj h (by omega) (by omega) (by rw [c1, c2])
      · rename_i c2
        exact key p q hp hq c1 c2 e
    · rename_i c1
      split at e
      · rename_i c2
        exact (key q p hq hp c2 c1 e.symm).symm
      · exact ap_inj h (by omega) (by omega) e
/-- with the last place put back, staying -/
theorem I_del : I a % 2 = (I (del a n) + if ap a n = n then 0 else 1) % 2 := by
  let x := (List.range (n + 1)).map fun i => if i = n then n else ap (del a n) i
  have xl : x.length = n + 1 := by simp [x]
  have dp := del_pm h l
  have ax : ∀ i, i < n → ap x i = ap (del a n) i := fun i hi => by
    show ap ((List.range (n + 1)).map _) i = _
    rw [ap_map (by omega), if_neg (by omega)]
  have an : ap x n = n := by
    show ap ((List.range (n + 1)).map _) n = _
    rw [ap_map (by omega), if_pos rfl]
  have dl : ∀ i, i < n → ap (del a n) i < n := fun i hi => by
    have := ap_lt dp (p := i) (by rw [del_len]; exact hi)
    rwa [del_len] at this
  have xp : Pm x := pm_map (fun p hp => by
    split
    · omega
    · have := dl p (by omega); omega) fun p q hp hq e => by
    split at e
    · split at e
      · omega
      · have := dl q (by omega); omega
    · split at e
      · have := dl p (by omega); omega
      · exact ap_inj dp (by rw [del_len]; omega) (by rw [del_len]; omega) e
  have ix : I x = I (del a n) := by
    have : J x = J (del a n) := by
      unfold J
      rw [xl, dbl_succ, del_len, sg_diag]
      have e1 : dbl n (sg x) = dbl n (sg (del a n)) := dbl_congr fun i j hi hj => by
        unfold sg sB
        rw [ax i hi, ax j hj]
      have e2 : ((List.range n).map fun i => sg x i n).sum = 0 := sum_zero fun i hi => by
        have hi' := List.mem_range.mp hi
        unfold sg sB
        rw [ax i hi', an, decide_eq_true hi', decide_eq_true (dl i hi')]
        rfl
      have e3 : ((List.range n).map fun j => sg x n j).sum = 0 := sum_zero fun i hi => by
        have hi' := List.mem_range.mp hi
        have := dl i hi'
        unfold sg sB
        rw [ax i hi', an, decide_eq_false (show ¬ n < i by omega), decide_eq_false (show ¬ n < ap (del a n) i by omega)]
        rfl
      omega
    unfold I
    rw [this]
  by_cases c : ap a n = n
  · have e : a = x := by
      refine pm_ext (by omega) fun p hp => ?_
      by_cases q : p = n
      · rw [q, c, an]
      · have hp' : p < n := by omega
        rw [ax p hp', ap_del h l hp', if_neg]
        intro z
        exact q (ap_inj h (by omega) (by omega) (by rw [z, c]))
    rw [if_pos c, ← ix, ← e]
    rfl
  · have vn : ap a n < n := by
      have := ap_lt h (p := n) (by omega)
      omega
    have e : a = th x (sw (n + 1) (ap a n) n) := by
      refine pm_ext (by rw [th_len, xl]; exact l) fun p hp => ?_
      rw [ap_th (by omega)]
      by_cases q : p = n
      · rw [q, an, ap_sw (by omega), if_neg (by omega), if_pos rfl]
      · have hp' : p < n := by omega
        have dlp := dl p hp'
        rw [ax p hp', ap_sw (by omega), ap_del h l hp']
        by_cases z : ap a p = n
        · rw [if_pos z, if_pos rfl, z]
        · have ne : ap a p ≠ ap a n := fun y => q (ap_inj h (by omega) (by omega) y)
          rw [if_neg z, if_neg ne, if_neg z]
    have := I_th xp (sw_pm (n := n + 1) (x := ap a n) (y := n) (by omega) (by omega)) (by rw [xl, sw_len])
    rw [← e, ix] at this
    have s := I_sw vn
    rw [if_neg c]
    omega
end
end K05
/-! PM4: the sum of all rounds, each less one, is as even as the inversions. -/
namespace K05
/-- the sum over all rounds, told by their least places -/
def Ec (a : List Nat) : Nat := ((List.range a.length).map fun s => if isMin a s = true then per a s - 1 else 0).sum
theorem sum_filter (f : Nat → Nat) (p : Nat → Bool) : ∀ l : List Nat, (∀ x ∈ l, p x = false → f x = 0) → ((l.filter p).map f).sum = (l.map f).sum
  | [], _ => rfl
  | x :: l, h => by
    have ih := sum_filter f p l fun y hy => h y (List.mem_cons_of_mem _ hy)
    cases c : p x with
    | true => rw [List.filter_cons_of_pos c, List.map_cons, List.map_cons, List.sum_cons, List.sum_cons, ih]
    | false =>
      rw [List.filter_cons_of_neg (by rw [c]; exact Bool.false_ne_true), List.map_cons, List.sum_cons, ih, h x (by simp) c]
      omega
theorem sum_rounds (a : List Nat) : ((rounds a).map fun c => c.length - 1).sum = Ec a := by
  unfold rounds Ec
  rw [List.map_map]
  have e : (((List.range a.length).filter fun s => isMin a s && decide (1 < per a s)).map ((fun c : List Nat => c.length - 1) ∘ cyc a)).sum = (((List.range a.length).filter fun s => isMin a s && decide (1 < per a s)).map fun s => if isMin a s = true then per a s - 1 else 0).sum := by
    refine sum_congr fun s hs => ?_
    have := (List.mem_filter.mp hs).2
    simp only [Bool.and_eq_true] at this
    rw [if_pos this.1]
    show (cyc a s).length - 1 = _
    rw [cyc_len]
  rw [e]
  refine sum_filter _ _ _ fun s _ hs => ?_
  by_cases c : isMin a s = true
  · rw [if_pos c]
    rw [c, Bool.true_and] at hs
    have := of_decide_eq_false hs
    omega
  · rw [if_neg c]
section
variable {a : List Nat} {n : Nat} (h : Pm a) (l : a.length = n + 1)
include h l
theorem del_Rc1 {i q : Nat} (hi : i < n) : Rc (del a n) i q → Rc a i q := by
  rintro ⟨t, rfl⟩
  have dp := del_pm h l
  induction t with
  | zero => exact Rc.refl _ _
  | succ t ih =>
    have hl := it_lt dp (p := i) (by rw [del_len]; exact hi) t
    rw [del_len] at hl
    show Rc a i (ap (del a n) (it (del a n) t i))
    rw [ap_del h l hl]
    split
    · rename_i c
      refine ih.trans ⟨2, ?_⟩
      show ap a (ap a (it (del a n) t i)) = ap a n
      rw [c]
    · exact ih.trans ⟨1, rfl⟩
theorem del_Rc2 : ∀ (t i : Nat), i < n → it a t i < n → Rc (del a n) i (it a t i) := by
  intro t
  induction t using Nat.strongRecOn with
  | ind t ih =>
    intro i hi hq
    match t, ih, hq with
    | 0, _, _ => exact Rc.refl _ _
    | 1, _, hq =>
      have hq' : ap a i < n := hq
      refine ⟨1, ?_⟩
      show ap (del a n) i = ap a i
      rw [ap_del h l hi, if_neg (by omega)]
    | t + 2, ih, hq =>
      by_cases c : ap a i = n
      · have e : it a (t + 2) i = it a t (ap a n) := by
          rw [it_add a i t 2]
          show it a t (ap a (ap a i)) = _
          rw [c]
        rw [e] at hq ⊢
        have vl := last_lt h l hi c
        have r := ih t (by omega) (ap a n) vl hq
        have s1 : Rc (del a n) i (ap a n) := ⟨1, by
          show ap (del a n) i = ap a n
          rw [ap_del h l hi, if_pos c]⟩
        exact s1.trans r
      · have e : it a (t + 2) i = it a (t + 1) (ap a i) := it_add a i (t + 1) 1
        rw [e] at hq ⊢
        have al := ap_lt h (p := i) (by omega)
        have r := ih (t + 1) (by omega) (ap a i) (by omega) hq
        have s1 : Rc (del a n) i (ap a i) := ⟨1, by
          show ap (del a n) i = ap a i
          rw [ap_del h l hi, if_neg c]⟩
        exact s1.trans r
theorem del_Rc {i q : Nat} (hi : i < n) (hq : q < n) : Rc (del a n) i q ↔ Rc a i q :=
  ⟨del_Rc1 h l hi, fun ⟨t, e⟩ => by subst e; exact del_Rc2 h l t i hi hq⟩
theorem del_min {s : Nat} (hs : s < n) : isMin (del a n) s = true ↔ isMin a s = true := by
  have dp := del_pm h l
  rw [isMin_iff dp (by rw [del_len]; exact hs), isMin_iff h (by omega)]
  constructor
  · intro z p hp
    have pl := hp.lt h (by omega)
    by_cases c : p = n
    · omega
    · exact z p ((del_Rc h l hs (by omega)).mpr hp)
  · intro z p hp
    exact z p (del_Rc1 h l hs hp)
theorem del_per {s : Nat} (hs : s < n) (d : Decidable (Rc a s n)) : per a s = per (del a n) s + if Rc a s n then 1 else 0 := by
  have dp := del_pm h l
  have ds : s < (del a n).length := by rw [del_len]; exact hs
  have nd1 := cyc_nodup h (s := s) (by omega)
  have nd2 := cyc_nodup dp ds
  have lt2 : ∀ q ∈ cyc (del a n) s, q < n := fun q hq => by
    have := ((mem_cyc dp ds).mp hq)
    have := Rc.lt dp ds this
    rwa [del_len] at this
  by_cases c : Rc a s n
  · rw [if_pos c]
    have nn : n ∉ cyc (del a n) s := fun z => by have := lt2 n z; omega
    have p : (cyc a s).Perm (n :: cyc (del a n) s) := (List.perm_ext_iff_of_nodup nd1 (List.nodup_cons.mpr ⟨nn, nd2⟩)).mpr fun q => by
      rw [mem_cyc h (by omega), List.mem_cons, mem_cyc dp ds]
      constructor
      · intro r
        have := Rc.lt h (s := s) (by omega) r
        by_cases z : q = n
        · exact .inl z
        · exact .inr ((del_Rc h l hs (by omega)).mpr r)
      · rintro (z | z)
        · rw [z]; exact c
        · exact del_Rc1 h l hs z
    have := p.length_eq
    rw [List.length_cons, cyc_len, cyc_len] at this
    exact this
  · rw [if_neg c]
    have p : (cyc a s).Perm (cyc (del a n) s) := (List.perm_ext_iff_of_nodup nd1 nd2).mpr fun q => by
      rw [mem_cyc h (by omega), mem_cyc dp ds]
      constructor
      · intro r
        have := Rc.lt h (s := s) (by omega) r
        have ne : q ≠ n := fun z => c (z ▸ r)
        exact (del_Rc h l hs (by omega)).mpr r
      · exact del_Rc1 h l hs
    have := p.length_eq
    rw [cyc_len, cyc_len] at this
    omega
open Classical in
theorem Ec_del : Ec a = Ec (del a n) + if ap a n = n then 0 else 1 := by
  have dp := del_pm h l
  have step : ∀ s, s < n → (if isMin a s = true then per a s - 1 else 0) = (if isMin (del a n) s = true then per (del a n) s - 1 else 0) + (if isMin a s = true ∧ Rc a s n then 1 else 0) := by
    intro s hs
    have pp := per_pos (del a n) s
    have e := del_per h l hs inferInstance
    by_cases m : isMin a s = true
    · rw [if_pos m, if_pos ((del_min h l hs).mpr m), e]
      by_cases c : Rc a s n
      · rw [if_pos c, if_pos ⟨m, c⟩]; omega
      · rw [if_neg c, if_neg fun z => c z.2]; omega
    · rw [if_neg m, if_neg fun z => m ((del_min h l hs).mp z), if_neg fun z => m z.1]
  have last : (if isMin a n = true then per a n - 1 else 0) = 0 := by
    by_cases c : ap a n = n
    · have p1 : per a n = 1 := per_uniq h (by omega) c (by omega) fun j j0 j1 => by omega
      rw [p1]
      split <;> rfl
    · rw [if_neg]
      intro z
      have al := ap_lt h (p := n) (by omega)
      have := (isMin_iff h (by omega)).mp z (ap a n) ⟨1, rfl⟩
      omega
  unfold Ec
  rw [l, sum_range_succ, last, del_len, sum_congr (l := List.range n) (fun s hs => step s (List.mem_range.mp hs)), sum_add]
  rw [Nat.add_zero]
  refine congrArg (fun x => _ + x) ?_
  by_cases c : ap a n = n
  · rw [if_pos c]
    refine sum_zero fun s hs => ?_
    have hs' := List.mem_range.mp hs
    rw [if_neg]
    rintro ⟨_, r⟩
    obtain ⟨t, e⟩ := r.symm h (by omega)
    have fx : ∀ t, it a t n = n := fun t => by
      induction t with
      | zero => rfl
      | succ t ih =>
        show ap a (it a t n) = n
        rw [ih, c]
    rw [fx] at e
    omega
  · rw [if_neg c]
    have al := ap_lt h (p := n) (by omega)
    obtain ⟨m, r, hm⟩ := least (a := a) n
    have mv := hm (ap a n) ⟨1, rfl⟩
    have ml : m < n := by omega
    rw [sum_single (x := m) ml fun s hs ne => by
      rw [if_neg]
      rintro ⟨q, rs⟩
      have r1 := rs.trans r
      have r2 := Rc.symm h (by omega) r1
      have x1 := (isMin_iff h (by omega)).mp q m r1
      have x2 := hm s (r.trans r2)
      omega]
    rw [if_pos]
    refine ⟨(isMin_iff h (by omega)).mpr fun q hq => hm q (r.trans hq), Rc.symm h (by omega) r⟩
end
theorem Ec_I : ∀ (n : Nat) (a : List Nat), Pm a → a.length = n → Ec a % 2 = I a % 2
  | 0, a, h, l => by
    have : a = [] := List.length_eq_zero_iff.mp l
    subst this
    rfl
  | n + 1, a, h, l => by
    have e1 := Ec_del h l
    have e2 := I_del h l
    have ih := Ec_I n (del a n) (del_pm h l) (del_len a n)
    rw [e1, e2]
    omega
theorem evn_I {a : List Nat} (h : Pm a) : evn a = decide (I a % 2 = 0) := by
  unfold evn
  rw [sum_rounds, Ec_I _ a h rfl]
theorem evn_th {a b : List Nat} (h1 : Pm a) (h2 : Pm b) (e : a.length = b.length) : evn (th a b) = (evn a == evn b) := by
  rw [evn_I h1, evn_I h2, evn_I (th_pm h1 h2 e), I_th h1 h2 e]
  by_cases c1 : I a % 2 = 0
  · by_cases c2 : I b % 2 = 0
    · have : (I a + I b) % 2 = 0 := by omega
      simp [c1, c2, this]
    · have : ¬ (I a + I b) % 2 = 0 := by omega
      simp [c1, c2, this]
  · by_cases c2 : I b % 2 = 0
    · have : ¬ (I a + I b) % 2 = 0 := by omega
      simp [c1, c2, this]
    · have : (I a + I b) % 2 = 0 := by omega
      simp [c1, c2, this]
theorem evn_inv {a : List Nat} (h : Pm a) : evn (inv a) = evn a := by
  rw [evn_I h, evn_I (inv_pm h), I_inv h]
end K05
/-! K1: promises and readings, first part. -/
namespace K05
open PySem PySem.Spec PyProof.Rows L2 Dn
/-- tuples of natural numbers -/
def nI (i : Nat) : PyData := .int (i : Nat)
def Ts (xs : List Nat) : List PyData := xs.map nI
def T (xs : List Nat) : PyData := .tuple (Ts xs)
theorem Ts_len (xs : List Nat) : (Ts xs).length = xs.length := by simp [Ts]
theorem imm_Ts (xs : List Nat) : immAll (Ts xs) = true := by
  unfold Ts
  exact immAll_map nI xs fun x => by simp [nI]
theorem imm_T (xs : List Nat) : Dn.imm (T xs) = true := by simp [T, imm_Ts]
theorem small {n : Nat} (h : n ≤ 64) : n ≤ sizeLine := by rw [sizeLine_eq]; omega
theorem smallI {n m : Nat} (h : n ≤ m) (hm : m ≤ 100000) : n ≤ sizeLine := by rw [sizeLine_eq]; omega
/-! equal ints -/
theorem eqv_int (i j : Int) : PyData.eqv (.int i) (.int j) = decide (i = j) := by
  simp only [PyData.eqv]
  by_cases h : i = j <;> simp [h]
theorem sh_int (i : Int) : SeqAt.shaped (.int i) = true := by simp [SeqAt.shaped, PyData.canLay0, PyData.depth]

def W_is_integer : OA := fun ds R => ∃ i : Int, ds = [.int i] ∧ R (.fz (.bool true))
/-- level 1, calls: ; slots: 0 value -/
def wb_is_integer : WS := (wRet (wAnd (wIsi "int" (wName 0)) (wNotE (wIsi "bool" (wName 0)))))
theorem rd_is_integer : ∀ ds R, W_is_integer ds R → ds.length = 1 → wb_is_integer { nx := fun _ => R (.fz .none), rt := fun r _ => R r } (Dn.entry ds (1 - ds.length)) := by
  rintro ds R ⟨i, rfl, h⟩ _
  simp [wb_is_integer, isi_ii, isi_ib, h]
/-- only the answer yes is told -/
def W_is_between : OA := fun ds R => ∃ v lo hi : Int, ds = [.int v, .int lo, .int hi] ∧ lo ≤ v ∧ v ≤ hi ∧ R (.fz (.bool true))
/-- level 2, calls: is_integer; slots: 0 value 1 low 2 high -/
def wb_is_between : WS := (wRet (wAnd (wDef 1 W_is_integer (wCons (wName 0) wNil)) (wChain .LtE .LtE (wName 1) (wName 0) (wName 2))))
theorem rd_is_between : ∀ ds R, W_is_between ds R → ds.length = 3 → wb_is_between { nx := fun _ => R (.fz .none), rt := fun r _ => R r } (Dn.entry ds (3 - ds.length)) := by
  rintro ds R ⟨v, lo, hi, rfl, h1, h2, h⟩ _
  simp [wb_is_between, W_is_integer, h1, h2, h]
def W_are_between : OA := fun ds R => ∃ (a : List Nat) (n : Nat), ds = [T a, .int 0, .int ((n : Int) - 1)] ∧ (∀ i ∈ a, i < n) ∧ a.length ≤ 64 ∧ R (.fz (.bool true))
/-- level 3, calls: is_between; slots: 0 value 1 low 2 high 3 one -/
def wb_are_between : WS := (wRet (wAnd (wIsi "tuple" (wName 0)) (wCall oAll (wCons (wLc (wNameI 0) (gPut 3) wYes (wDef 3 W_is_between (wCons (wName 3) (wCons (wName 1) (wCons (wName 2) wNil)))) [3]) wNil))))
theorem all_map_true {α : Type} (xs : List α) (h : PyData → Bool) (d : PyData) (e : h d = true) : (xs.map fun _ => d).all h = true := by
  simp [List.all_eq_true, e]
theorem rd_are_between : ∀ ds R, W_are_between ds R → ds.length = 3 → wb_are_between { nx := fun _ => R (.fz .none), rt := fun r _ => R r } (Dn.entry ds (4 - ds.length)) := by
  rintro ds R ⟨a, n, rfl, h1, h2, h⟩ _
  simp [wb_are_between, W_is_between, T, isi_tt]
  refine lc_m a nI (fun _ => .bool true) rfl (small h2) (by simp) trivial (fun i x hx => ?_) ?_
  · have hx2 := h1 x (List.mem_of_getElem? hx)
    simp [take_at hx, nI]
    exact ⟨_, _, _, ⟨rfl, rfl, rfl⟩, by omega, by omega⟩
  · have e : (a.all (toB ∘ fun x => PyData.bool true)) = true := by simp [Function.comp_def]
    simp [e, h]
def W_is_tuple_of : OA := fun ds R => ∃ (xs : List PyData), ds = [.tuple xs, .int (xs.length : Nat)] ∧ R (.fz (.bool true))
/-- level 1, calls: ; slots: 0 value 1 many -/
def wb_is_tuple_of : WS := (wRet (wAnd (wIsi "tuple" (wName 0)) (w2 oEq (wCall oLen (wCons (wName 0) wNil)) (wName 1))))
theorem rd_is_tuple_of : ∀ ds R, W_is_tuple_of ds R → ds.length = 2 → wb_is_tuple_of { nx := fun _ => R (.fz .none), rt := fun r _ => R r } (Dn.entry ds (2 - ds.length)) := by
  rintro ds R ⟨xs, rfl, h⟩ _
  simp [wb_is_tuple_of, isi_tt, eqv_int, sh_int, h]
def W_check_many : OA := fun ds R => ∃ v : Int, ds = [.int v] ∧ 1 ≤ v ∧ v ≤ 24 ∧ R (.fz .none)
/-- level 3, calls: is_between; slots: 0 value -/
def wb_check_many : WS := (wIfS (wNot (wBool (wDef 3 W_is_between (wCons (wName 0) (wCons (wC (.int 1)) (wCons (wC (.int 24)) wNil)))))) wNever wNext)
theorem rd_check_many : ∀ ds R, W_check_many ds R → ds.length = 1 → wb_check_many { nx := fun _ => R (.fz .none), rt := fun r _ => R r } (Dn.entry ds (1 - ds.length)) := by
  rintro ds R ⟨v, rfl, h1, h2, h⟩ _
  simp [wb_check_many, W_is_between, h]
  exact ⟨v, 1, 24, ⟨rfl, rfl, rfl⟩, h1, h2⟩
def W_is_turn_of : OA := fun ds R => ∃ a : List Nat, ds = [nI a.length, T a] ∧ Pm a ∧ a.length ≤ 24 ∧ R (.fz (.bool true))
/-- level 4, calls: are_between; slots: 0 many 1 value -/
def wb_is_turn_of : WS := (wRet (wAnd (wDef 3 W_are_between (wCons (wName 1) (wCons (wC (.int 0)) (wCons (w2 oSub (wName 0) (wC (.int 1))) wNil)))) (wAnd (w2 oEq (wCall oLen (wCons (wName 1) wNil)) (wName 0)) (w2 oEq (wLenSet (wName 1)) (wName 0)))))
@[simp] theorem isI_Ts (a : List Nat) : (Ts a).all isI = true := by
  rw [List.all_eq_true]
  intro d hd
  obtain ⟨i, _, rfl⟩ := List.mem_map.mp hd
  rfl
theorem toI_Ts (a : List Nat) : (Ts a).map toI = a.map fun (i : Nat) => (i : Int) := by simp [Ts, nI]
theorem nodup_Ts {a : List Nat} (h : a.Nodup) : ((Ts a).map toI).Nodup := by
  rw [toI_Ts]
  exact List.Pairwise.map _ (fun x y (n : x ≠ y) z => n (by omega)) h
theorem rd_is_turn_of : ∀ ds R, W_is_turn_of ds R → ds.length = 2 → wb_is_turn_of { nx := fun _ => R (.fz .none), rt := fun r _ => R r } (Dn.entry ds (2 - ds.length)) := by
  rintro ds R ⟨a, rfl, h1, h2, h⟩ _
  have nd := nodup_Ts h1.2
  simp [wb_is_turn_of, W_are_between, nI, T, eqv_int, sh_int, Ts_len, -List.all_eq_true]
  exact ⟨a, a.length, ⟨rfl, rfl⟩, h1.1, by omega, nd, by omega, h⟩
def W_is_turn : OA := fun ds R => ∃ a : List Nat, ds = [nI a.length, T a] ∧ Pm a ∧ 1 ≤ a.length ∧ a.length ≤ 24 ∧ R (.fz (.bool true))
/-- level 5, calls: check_many is_turn_of; slots: 0 many 1 value -/
def wb_is_turn : WS := (wSeq (wEx (wDef 1 W_check_many (wCons (wName 0) wNil))) (wRet (wDef 2 W_is_turn_of (wCons (wName 0) (wCons (wName 1) wNil)))))
theorem rd_is_turn : ∀ ds R, W_is_turn ds R → ds.length = 2 → wb_is_turn { nx := fun _ => R (.fz .none), rt := fun r _ => R r } (Dn.entry ds (2 - ds.length)) := by
  rintro ds R ⟨a, rfl, h1, h2, h3, h⟩ _
  simp [wb_is_turn, W_check_many, W_is_turn_of, nI]
  exact ⟨by omega, by omega, a, ⟨rfl, rfl⟩, h1, h3, h⟩
def W_check_turn : OA := fun ds R => ∃ a : List Nat, ds = [T a] ∧ Pm a ∧ 1 ≤ a.length ∧ a.length ≤ 24 ∧ R (.fz .none)
/-- level 5, calls: is_turn_of; slots: 0 value -/
def wb_check_turn : WS := (wIfS (wOrT (wNot (wBool (wIsi "tuple" (wName 0)))) (wOrT (wNot (wBool (wChain .LtE .LtE (wC (.int 1)) (wCall oLen (wCons (wName 0) wNil)) (wC (.int 24))))) (wNot (wBool (wDef 2 W_is_turn_of (wCons (wCall oLen (wCons (wName 0) wNil)) (wCons (wName 0) wNil))))))) wNever wNext)
theorem rd_check_turn : ∀ ds R, W_check_turn ds R → ds.length = 1 → wb_check_turn { nx := fun _ => R (.fz .none), rt := fun r _ => R r } (Dn.entry ds (1 - ds.length)) := by
  rintro ds R ⟨a, rfl, h1, h2, h3, h⟩ _
  have g2 : (1 : Int) ≤ (a.length : Int) := by omega
  have g3 : (a.length : Int) ≤ 24 := by omega
  simp [wb_check_turn, W_is_turn_of, nI, T, isi_tt, Ts_len, g2, g3]
  exact ⟨a, ⟨rfl, rfl⟩, h1, h3, h⟩
def W_check_both_turns : OA := fun ds R => ∃ a b : List Nat, ds = [T a, T b] ∧ Pm a ∧ Pm b ∧ a.length = b.length ∧ 1 ≤ a.length ∧ a.length ≤ 24 ∧ R (.fz .none)
/-- level 6, calls: check_turn; slots: 0 one 1 other -/
def wb_check_both_turns : WS := (wSeq (wEx (wDef 1 W_check_turn (wCons (wName 0) wNil))) (wSeq (wEx (wDef 1 W_check_turn (wCons (wName 1) wNil))) (wIfS (wBool (w2 oNe (wCall oLen (wCons (wName 0) wNil)) (wCall oLen (wCons (wName 1) wNil)))) wNever wNext)))
theorem rd_check_both_turns : ∀ ds R, W_check_both_turns ds R → ds.length = 2 → wb_check_both_turns { nx := fun _ => R (.fz .none), rt := fun r _ => R r } (Dn.entry ds (2 - ds.length)) := by
  rintro ds R ⟨a, b, rfl, h1, h2, h3, h4, h5, h⟩ _
  simp [wb_check_both_turns, W_check_turn]
  refine ⟨a, rfl, h1, h4, h5, b, rfl, h2, by omega, by omega, ?_⟩
  simp [T, eqv_int, sh_int, Ts_len, h3, h]
def W_still_of : OA := fun ds R => ∃ n : Nat, ds = [nI n] ∧ n ≤ 64 ∧ R (.fz (T (List.range n)))
/-- level 1, calls: ; slots: 0 many -/
def wb_still_of : WS := (wRet (wTupRg1 (wName 0)))
theorem rngD_T (n : Nat) : rngD 0 (n : Int) = Ts (List.range n) := by
  unfold rngD Ts nI
  simp
theorem rd_still_of : ∀ ds R, W_still_of ds R → ds.length = 1 → wb_still_of { nx := fun _ => R (.fz .none), rt := fun r _ => R r } (Dn.entry ds (1 - ds.length)) := by
  rintro ds R ⟨n, rfl, h1, h⟩ _
  simp [wb_still_of, nI, rngD_T]
  refine ⟨?_, h⟩
  omega
def W_still : OA := fun ds R => ∃ n : Nat, ds = [nI n] ∧ 1 ≤ n ∧ n ≤ 24 ∧ R (.fz (T (List.range n)))
/-- level 4, calls: check_many still_of; slots: 0 many -/
def wb_still : WS := (wSeq (wEx (wDef 1 W_check_many (wCons (wName 0) wNil))) (wRet (wDef 1 W_still_of (wCons (wName 0) wNil))))
theorem rd_still : ∀ ds R, W_still ds R → ds.length = 1 → wb_still { nx := fun _ => R (.fz .none), rt := fun r _ => R r } (Dn.entry ds (1 - ds.length)) := by
  rintro ds R ⟨n, rfl, h1, h2, h⟩ _
  simp [wb_still, nI, W_check_many, W_still_of]
  exact ⟨by omega, by omega, n, rfl, by omega, h⟩
def W_then : OA := fun ds R => ∃ a b : List Nat, ds = [T a, T b] ∧ (∀ i ∈ a, i < b.length) ∧ a.length ≤ 64 ∧ R (.fz (T (th a b)))
/-- level 1, calls: ; slots: 0 one 1 other 2 place -/
def wb_then : WS := (wRet (wCall oTup (wCons (wLc (wNameI 0) (gPut 2) wYes (w2 oIx (wName 1) (wName 2)) [2]) wNil)))
theorem getElem_Ts (b : List Nat) (i : Nat) : (Ts b)[i]? = b[i]?.map nI := by simp [Ts]
theorem rd_then : ∀ ds R, W_then ds R → ds.length = 2 → wb_then { nx := fun _ => R (.fz .none), rt := fun r _ => R r } (Dn.entry ds (3 - ds.length)) := by
  rintro ds R ⟨a, b, rfl, h1, h2, h⟩ _
  simp [wb_then, T]
  refine lc_m a nI (fun i => nI (ap b i)) rfl (small h2) (by simp) trivial (fun i x hx => ?_) ?_
  · have hx2 := h1 x (List.mem_of_getElem? hx)
    simp [take_at hx, atD, ixN, Ts_len, getElem_Ts, hx2, nI, ap]
  · have e : (a.map fun i => nI (ap b i)) = Ts (th a b) := by simp [Ts, th]
    rw [e]
    simpa [T, imm_Ts] using h
/-- turns of one size -/
def W_behind : OA := fun ds R => ∃ a b : List Nat, ds = [T a, T b] ∧ Pm a ∧ Pm b ∧ a.length = b.length ∧ 1 ≤ a.length ∧ a.length ≤ 24 ∧ R (.fz (T (th a b)))
/-- level 7, calls: check_both_turns then; slots: 0 one 1 other -/
def wb_behind : WS := (wSeq (wEx (wDef 2 W_check_both_turns (wCons (wName 0) (wCons (wName 1) wNil)))) (wRet (wDef 2 W_then (wCons (wName 0) (wCons (wName 1) wNil)))))
theorem rd_behind : ∀ ds R, W_behind ds R → ds.length = 2 → wb_behind { nx := fun _ => R (.fz .none), rt := fun r _ => R r } (Dn.entry ds (2 - ds.length)) := by
  rintro ds R ⟨a, b, rfl, h1, h2, h3, h4, h5, h⟩ _
  simp [wb_behind, W_check_both_turns, W_then]
  exact ⟨a, b, ⟨rfl, rfl⟩, h1, h2, h3, h4, h5, a, b, ⟨rfl, rfl⟩, fun i hi => h3 ▸ h1.1 i hi, by omega, h⟩
end K05
/-! K2: promises and readings, loops. -/
namespace K05
open PySem PySem.Spec PyProof.Rows L2 Dn
theorem enumD_Ts {a : List Nat} {i : Nat} {d : PyData} (h : (enumD 0 (Ts a))[i]? = some d) : ∃ x, a[i]? = some x ∧ d = .tuple [nI i, nI x] := by
  rw [enumD_get, getElem_Ts] at h
  cases e : a[i]? with
  | none => rw [e] at h; cases h
  | some x =>
    rw [e] at h
    exact ⟨x, rfl, by simpa [nI] using h.symm⟩
/-- what is found behind the first i places -/
def bk (a : List Nat) (i : Nat) : List PyData := (List.range a.length).map fun j => if a.idxOf j < i then nI (a.idxOf j) else nI 0
theorem bk_len (a : List Nat) (i : Nat) : (bk a i).length = a.length := by simp [bk]
theorem bk_zero (a : List Nat) : bk a 0 = List.replicate a.length (.int 0) := by
  apply List.ext_getElem?
  intro j
  simp [bk, nI, List.getElem?_replicate, List.getElem?_range']
  by_cases h : j < a.length <;> simp [h]
theorem bk_step {a : List Nat} (h1 : Pm a) {i x : Nat} (h : a[i]? = some x) : (bk a i).set x (nI i) = bk a (i + 1) := by
  have hx := idx_at h1.2 h
  have hl : x < a.length := h1.1 x (List.mem_of_getElem? h)
  apply List.ext_getElem?
  intro j
  by_cases e : j = x
  · subst e
    rw [List.getElem?_set_self (by rw [bk_len]; exact hl)]
    simp [bk, hl, hx]
  · rw [List.getElem?_set_ne (Ne.symm e)]
    by_cases hj : j < a.length
    · simp only [bk, List.getElem?_map, List.getElem?_range hj, Option.map_some]
      by_cases hm : j ∈ a
      · have hne : a.idxOf j ≠ i := fun z => e (by
          have q := List.getElem_idxOf (List.idxOf_lt_length_iff.mpr hm)
          have q2 : a[a.idxOf j]? = some j := by rw [List.getElem?_eq_getElem (List.idxOf_lt_length_iff.mpr hm), q]
          rw [z, h] at q2
          exact (Option.some.inj q2).symm)
        by_cases c : a.idxOf j < i
        · rw [if_pos c, if_pos (by omega)]
        · rw [if_neg c, if_neg (by omega)]
      · have q : a.idxOf j = a.length := List.idxOf_eq_length hm
        have hi := (List.getElem?_eq_some_iff.mp h).1
        rw [if_neg (by omega), if_neg (by omega)]
    · simp [bk, hj]
theorem bk_end {a : List Nat} (h1 : Pm a) : bk a a.length = Ts (inv a) := by
  unfold bk Ts inv
  rw [List.map_map]
  apply List.map_congr_left
  intro j hj
  have hj' := List.mem_range.mp hj
  rw [if_pos (List.idxOf_lt_length_iff.mpr (mem_pm h1 hj'))]
  rfl
def W_back_of : OA := fun ds R => ∃ a : List Nat, ds = [T a] ∧ Pm a ∧ a.length ≤ 24 ∧ R (.fz (T (inv a)))
/-- level 1, calls: ; slots: 0 turn 1 found 2 place 3 there -/
def wb_back_of : WS := (wSeq (wSet 1 (wRep (wLst (wCons (wC (.int 0)) wNil)) (wCall oLen (wCons (wName 0) wNil)))) (wSeq (wFor (wEnum (wName 0)) (gTupW 2 (gsCons (gPut 2) (gsCons (gPut 3) gsNil))) (wSetI 1 (wName 2) (wName 3))) (wRet (wCall oTup (wCons (wName 1) wNil)))))
theorem rd_back_of : ∀ ds R, W_back_of ds R → ds.length = 1 → wb_back_of { nx := fun _ => R (.fz .none), rt := fun r _ => R r } (Dn.entry ds (4 - ds.length)) := by
  rintro ds R ⟨a, rfl, h1, h2, h⟩ _
  simp [wb_back_of, T, Ts_len]
  refine ⟨small (by omega), ⟨by omega, small (by omega)⟩, ?_⟩
  rw [← bk_zero]
  refine for_go (fun i ρ => ∃ u v, ρ = [.fz (.tuple (Ts a)), .ol (bk a i), u, v] ∧ u.isPm = false ∧ v.isPm = false) (enumD 0 (Ts a)) (fun R h => by simpa using h) ⟨_, _, rfl, rfl, rfl⟩ ?_ ?_
  · rintro i d ρ hd ⟨u, v, rfl, hu, hv⟩
    obtain ⟨x, hx, rfl⟩ := enumD_Ts hd
    have hl := h1.1 x (List.mem_of_getElem? hx)
    have e := bk_step h1 hx
    simp [nI, ixN, bk_len, hl, hu, hv] at e ⊢
    rw [e]
    simp
    exact ⟨_, _, ⟨rfl, rfl⟩, rfl, rfl⟩
  · rintro ρ ⟨u, v, rfl, hu, hv⟩
    rw [enumD_length, Ts_len, bk_end h1]
    simp [imm_Ts]
    exact h
def W_back : OA := fun ds R => ∃ a : List Nat, ds = [T a] ∧ Pm a ∧ 1 ≤ a.length ∧ a.length ≤ 24 ∧ R (.fz (T (inv a)))
/-- level 6, calls: check_turn back_of; slots: 0 turn -/
def wb_back : WS := (wSeq (wEx (wDef 1 W_check_turn (wCons (wName 0) wNil))) (wRet (wDef 1 W_back_of (wCons (wName 0) wNil))))
theorem rd_back : ∀ ds R, W_back ds R → ds.length = 1 → wb_back { nx := fun _ => R (.fz .none), rt := fun r _ => R r } (Dn.entry ds (1 - ds.length)) := by
  rintro ds R ⟨a, rfl, h1, h2, h3, h⟩ _
  simp [wb_back, W_check_turn, W_back_of]
  exact ⟨a, rfl, h1, h2, h3, a, rfl, h1, h3, h⟩
def W_turned_by : OA := fun ds R => ∃ a b : List Nat, ds = [T a, T b] ∧ Pm a ∧ Pm b ∧ a.length = b.length ∧ 1 ≤ a.length ∧ a.length ≤ 24 ∧ R (.fz (T (th (th (inv b) a) b)))
/-- level 7, calls: check_both_turns then back_of; slots: 0 one 1 other -/
def wb_turned_by : WS := (wSeq (wEx (wDef 2 W_check_both_turns (wCons (wName 0) (wCons (wName 1) wNil)))) (wRet (wDef 2 W_then (wCons (wDef 2 W_then (wCons (wDef 1 W_back_of (wCons (wName 1) wNil)) (wCons (wName 0) wNil))) (wCons (wName 1) wNil)))))
theorem rd_turned_by : ∀ ds R, W_turned_by ds R → ds.length = 2 → wb_turned_by { nx := fun _ => R (.fz .none), rt := fun r _ => R r } (Dn.entry ds (2 - ds.length)) := by
  rintro ds R ⟨a, b, rfl, h1, h2, h3, h4, h5, h⟩ _
  have i1 := inv_pm h2
  have l1 := inv_len b
  have i2 := th_pm i1 h1 (by omega)
  have l2 := th_len (inv b) a
  simp [wb_turned_by, W_check_both_turns, W_then, W_back_of]
  refine ⟨a, b, ⟨rfl, rfl⟩, h1, h2, h3, h4, h5, b, rfl, h2, by omega, inv b, a, ⟨rfl, rfl⟩, fun i hi => ?_, by omega, th (inv b) a, b, ⟨rfl, rfl⟩, fun i hi => ?_, by omega, h⟩
  · have := i1.1 i hi; omega
  · have := i2.1 i hi; omega
end K05
/-! K3: rounds. -/
namespace K05
open PySem PySem.Spec PyProof.Rows L2 Dn
/-! dicts -/
theorem hasK_put (kk : List (Key × PyData)) (k j : Key) (d : PyData) : hasK (putD kk k d) j = (hasK kk j || decide (k = j)) := by
  unfold putD
  by_cases h : hasK kk k = true
  · rw [if_pos h]
    have e : hasK (kk.map fun p => if p.1 = k then (p.1, d) else p) j = hasK kk j := by
      unfold hasK
      rw [List.any_map]
      congr 1
      funext p
      by_cases c : p.1 = k <;> simp [c]
    rw [e]
    by_cases c : k = j
    · subst c; simp [h]
    · simp [c]
  · rw [if_neg h]
    unfold hasK
    simp
theorem hasK_merge (more : List (Key × PyData)) : ∀ (kk : List (Key × PyData)) (j : Key), hasK (mergeD kk more) j = (hasK kk j || hasK more j) := by
  induction more with
  | nil => intro kk j; simp [mergeD, hasK]
  | cons p more ih =>
    intro kk j
    have e : mergeD kk (p :: more) = mergeD (putD kk p.1 p.2) more := rfl
    rw [e, ih, hasK_put]
    simp [hasK, Bool.or_assoc]
theorem len_put (kk : List (Key × PyData)) (k : Key) (d : PyData) : (putD kk k d).length ≤ kk.length + 1 := by
  unfold putD
  split <;> simp
theorem len_merge (more : List (Key × PyData)) : ∀ kk : List (Key × PyData), (mergeD kk more).length ≤ kk.length + more.length := by
  induction more with
  | nil => intro kk; exact Nat.le_refl _
  | cons p more ih =>
    intro kk
    have e : mergeD kk (p :: more) = mergeD (putD kk p.1 p.2) more := rfl
    have h1 := ih (putD kk p.1 p.2)
    have h2 := len_put kk p.1 p.2
    rw [e, List.length_cons]
    omega
/-- the places that are known -/
def Kn (a : List Nat) (i : Nat) (kk : List (Key × PyData)) : Prop := ∀ p : Nat, hasK kk (.inl (p : Int)) = true ↔ ∃ s, s < i ∧ Rc a s p
/-- how long the round that begins at i is made -/
def W_rounds_in : OA := fun ds R => ∃ a : List Nat, ds = [T a] ∧ Pm a ∧ a.length ≤ 24 ∧ R (.ol ((rounds a).map T))
/-- level 1, calls: ; slots: 0 turn 1 found 2 known 3 begin 4 one 5 place -/
def wb_rounds_in : WS := (wSeq (wPar 1 2 (wCons (wLst wNil) (wCons wDnew wNil))) (wSeq (wFor (wRng1 (wCall oLen (wCons (wName 0) wNil))) (gPut 3) (wSeq (wSet 4 (wLst (wCons (wName 3) wNil))) (wSeq (wWhile (wAndT (wBool (w2 oNe (w2 oIx (wName 0) (w2 oIx (wName 4) (wNeg (wC (.int 1))))) (wName 3))) (wBool (w2 oNotInK (wName 3) (wName 2)))) (wEx (wApp 4 (w2 oIx (wName 0) (w2 oIx (wName 4) (wNeg (wC (.int 1)))))))) (wSeq (wIfS (wAndT (wBool (w2 oNotInK (wName 3) (wName 2))) (wBool (w2 (oCmp .Gt) (wCall oLen (wCons (wName 4) wNil)) (wC (.int 1))))) (wEx (wApp 1 (wCall oTup (wCons (wName 4) wNil)))) wNext) (wEx (wUpd 2 (wCall oDict (wCons (wLc (wNameI 4) (gPut 5) wYes (wTup (wCons (wName 5) (wCons (wC (.bool true)) wNil))) [5]) wNil)))))))) (wRet (wName 1))))
def trues (l : List Nat) : List (Key × PyData) := l.map fun (p : Nat) => ((.inl (p : Int) : Key), PyData.bool true)
theorem trues_has (l : List Nat) (p : Nat) : hasK (trues l) (.inl (p : Int)) = true ↔ p ∈ l := by
  unfold hasK trues
  rw [List.any_map, List.any_eq_true]
  constructor
  · rintro ⟨x, hx, e⟩
    have e1 : (Sum.inl (x : Int) : Key) = .inl (p : Int) := of_decide_eq_true e
    have e2 : (x : Int) = p := Sum.inl.inj e1
    have e3 : x = p := by omega
    exact e3 ▸ hx
  · intro h
    exact ⟨p, h, by simp⟩
theorem Kn_step {a : List Nat} (h : Pm a) {i : Nat} (hi : i < a.length) {kk : List (Key × PyData)} (k : Kn a i kk) (l : List Nat) (hl : ∀ p, p ∈ l → Rc a i p) (hl2 : (¬ ∃ s, s < i ∧ Rc a s i) → ∀ p, Rc a i p → p ∈ l) : Kn a (i + 1) (mergeD kk (mergeD [] (trues l))) := by
  intro p
  rw [hasK_merge, hasK_merge, show hasK ([] : List (Key × PyData)) (.inl (p : Int)) = false from rfl, Bool.false_or, Bool.or_eq_true, k p, trues_has]
  constructor
  · rintro (⟨s, hs, r⟩ | m)
    · exact ⟨s, by omega, r⟩
    · exact ⟨i, by omega, hl p m⟩
  · rintro ⟨s, hs, r⟩
    by_cases c : s < i
    · exact .inl ⟨s, c, r⟩
    · obtain rfl : s = i := by omega
      by_cases q : ∃ t, t < s ∧ Rc a t s
      · obtain ⟨t, ht, rt⟩ := q
        exact .inl ⟨t, ht, rt.trans r⟩
      · exact .inr (hl2 q p r)
/-- the round that is being made: its first m places -/
def rn (a : List Nat) (i m : Nat) : List Nat := (List.range m).map fun t => it a t i
theorem rn_len (a : List Nat) (i m : Nat) : (rn a i m).length = m := by simp [rn]
theorem rn_succ (a : List Nat) (i m : Nat) : rn a i (m + 1) = rn a i m ++ [it a m i] := by
  unfold rn
  rw [List.range_succ, List.map_append]
  rfl
theorem rn_last (a : List Nat) (i m : Nat) (hm : 1 ≤ m) : atD (Ts (rn a i m)) (-1) = some (nI (it a (m - 1) i)) := by
  have l : (Ts (rn a i m)).length = m := by rw [Ts_len, rn_len]
  have e : ixN m (-1) = some (m - 1) := by
    unfold ixN
    rw [if_neg (by decide), if_pos (by omega)]
    congr 1
    omega
  unfold atD
  rw [l, e]
  show (Ts (rn a i m))[m - 1]? = _
  rw [getElem_Ts]
  unfold rn
  rw [List.getElem?_map, List.getElem?_range (by omega)]
  rfl
theorem at_T {a : List Nat} {p : Nat} (hp : p < a.length) : atD (Ts a) (p : Int) = some (nI (ap a p)) := by
  have e : ixN a.length (p : Int) = some p := by
    unfold ixN
    rw [if_pos (by omega), if_pos (by omega)]
    simp
  unfold atD
  rw [Ts_len, e]
  show (Ts a)[p]? = _
  rw [getElem_Ts, ap_get hp]
  rfl
theorem it_next {a : List Nat} {i m : Nat} (hm : 1 ≤ m) : ap a (it a (m - 1) i) = it a m i := by
  have : m = (m - 1) + 1 := by omega
  conv => rhs; rw [this]
  rfl
theorem smallL {n : Nat} (h : n ≤ 100000) : n < sizeLine := by rw [sizeLine_eq]; omega
theorem own_pm {w : Dn.Slot} (h : w.own = false) : w.isPm = false := by cases w <;> first | rfl | cases h
/-- the places of the round that begins at i, known or not -/
def lg (a : List Nat) (i : Nat) (kk : List (Key × PyData)) : Nat := if hasK kk (.inl (i : Int)) = true then 1 else per a i
theorem rd_while {a : List Nat} (h1 : Pm a) {i : Nat} (hi : i < a.length) (h2 : a.length ≤ 24) (fs : List PyData) (kk : List (Key × PyData)) (w : Dn.Slot) (E : EndsD)
    (h : E.nx [.fz (.tuple (Ts a)), .ol fs, .od (encK kk), .fz (nI i), .ol (Ts (rn a i (lg a i kk))), w]) :
    wWhile (wAndT (wBool (w2 oNe (w2 oIx (wName 0) (w2 oIx (wName 4) (wNeg (wC (PyData.int 1))))) (wName 3))) (wBool (w2 oNotInK (wName 3) (wName 2)))) (wEx (wApp 4 (w2 oIx (wName 0) (w2 oIx (wName 4) (wNeg (wC (PyData.int 1)))))))
      E [.fz (.tuple (Ts a)), .ol fs, .od (encK kk), .fz (nI i), .ol [nI i], w] := by
  have ps := per_spec h1 hi
  have pp := per_pos a i
  have L24 : lg a i kk ≤ 24 := by unfold lg; split <;> omega
  have L1 : 1 ≤ lg a i kk := by unfold lg; split <;> omega
  refine while_go (fun n ρ => ∃ m, n = lg a i kk - m ∧ 1 ≤ m ∧ m ≤ lg a i kk ∧ ρ = [.fz (.tuple (Ts a)), .ol fs, .od (encK kk), .fz (nI i), .ol (Ts (rn a i m)), w]) (lg a i kk - 1) ⟨1, rfl, Nat.le_refl _, L1, rfl⟩ ?_
  rintro n ρ ⟨m, rfl, m1, m2, rfl⟩
  have hlt := it_lt h1 hi (m - 1)
  have ea := at_T hlt
  have el := rn_last a i m m1
  have en := it_next (a := a) (i := i) m1
  have sz : (Ts (rn a i m)).length < sizeLine := by rw [Ts_len, rn_len, sizeLine_eq]; omega
  have es : Ts (rn a i m) ++ [nI (it a m i)] = Ts (rn a i (m + 1)) := by rw [rn_succ]; simp [Ts]
  simp only [nI] at ea es
  by_cases c : it a m i = i
  · have e : m = lg a i kk := by
      by_cases q : hasK kk (.inl (i : Int)) = true
      · have : lg a i kk = 1 := by unfold lg; rw [if_pos q]
        omega
      · have el : lg a i kk = per a i := by unfold lg; rw [if_neg q]
        apply Classical.byContradiction
        intro hne
        exact ps.2.2 m (by omega) (by omega) c
    subst e
    simp [el, nI, ea, en, eqv_int, sh_int, c]
    exact h
  · have ci : ¬ ((it a m i : Nat) : Int) = (i : Int) := by omega
    by_cases q : hasK kk (.inl (i : Int)) = true
    · have e : m = lg a i kk := by
        have : lg a i kk = 1 := by unfold lg; rw [if_pos q]
        omega
      subst e
      simp [el, nI, ea, en, eqv_int, sh_int, ci]
      refine ⟨.inl i, kk, rfl, rfl, ?_⟩
      simp [q]
      exact h
    · have e : m < lg a i kk := by
        have el : lg a i kk = per a i := by unfold lg; rw [if_neg q]
        have : m ≠ per a i := fun z => c (by rw [z]; exact ps.2.1)
        omega
      simp [el, nI, ea, en, eqv_int, sh_int, ci]
      refine ⟨.inl i, kk, rfl, rfl, ?_⟩
      simp [q, sz, es, el, nI, ea, en]
      exact ⟨_, by omega, m + 1, rfl, by omega, by omega, rfl⟩
theorem rd_upd {l : List Nat} (hl : l.length ≤ 24) {kk : List (Key × PyData)} (hk : kk.length ≤ 1000) {w : Dn.Slot} (hw : w.own = false) (E : EndsD) (s0 s1 s3 : Dn.Slot)
    (h : E.nx [s0, s1, .od (encK (mergeD kk (mergeD [] (trues l)))), s3, .ol (Ts l), w]) :
    (wEx (wUpd 2 (wCall oDict (wCons (wLc (wNameI 4) (gPut 5) wYes (wTup (wCons (wName 5) (wCons (wC (.bool true)) wNil))) [5]) wNil)))) E [s0, s1, .od (encK kk), s3, .ol (Ts l), w] := by
  have hw2 := own_pm hw
  simp
  refine lc_m l nI (fun p => .tuple [nI p, .bool true]) rfl (small (by omega)) (by simp [hw]) (by simp) (fun j x hx => ?_) ?_
  · simp [take_at hx, hw, hw2, nI]
    exact small (by omega)
  · simp
    refine ⟨trues l, ?_, kk, rfl, mergeD [] (trues l), rfl, ?_, ?_⟩
    · simp [encP, trues, keyD, nI]
    · have h1 := len_merge (trues l) []
      have h2 : (trues l).length = l.length := by simp [trues]
      simp only [List.length_nil] at h1
      exact smallI (m := 2000) (by omega) (by omega)
    · exact h
theorem rd_if {a : List Nat} {i : Nat} (kk : List (Key × PyData)) (fs : List PyData) {l : List Nat} (hl : l.length ≤ 24) (hf : fs.length ≤ 1000) (E : EndsD) (s0 w : Dn.Slot)
    (h : E.nx [s0, .ol (if hasK kk (.inl (i : Int)) = false ∧ 1 < l.length then fs ++ [T l] else fs), .od (encK kk), .fz (nI i), .ol (Ts l), w]) :
    (wIfS (wAndT (wBool (w2 oNotInK (wName 3) (wName 2))) (wBool (w2 (oCmp CmpOp.Gt) (wCall oLen (wCons (wName 4) wNil)) (wC (PyData.int 1))))) (wEx (wApp 1 (wCall oTup (wCons (wName 4) wNil)))) wNext) E [s0, .ol fs, .od (encK kk), .fz (nI i), .ol (Ts l), w] := by
  simp
  refine ⟨.inl i, kk, rfl, rfl, ?_⟩
  cases q : hasK kk (.inl (i : Int)) with
  | true => simp [q] at h ⊢; exact h
  | false =>
    by_cases c : 1 < l.length
    · have c2 : (1 : Int) < (l.length : Int) := by omega
      simp [q, c, c2, Ts_len, imm_Ts, T] at h ⊢
      exact ⟨smallL (by omega), h⟩
    · have c2 : ¬ (1 : Int) < (l.length : Int) := by omega
      simp [q, c, c2, Ts_len] at h ⊢
      exact h
theorem rd_rounds_in : ∀ ds R, W_rounds_in ds R → ds.length = 1 → wb_rounds_in { nx := fun _ => R (.fz .none), rt := fun r _ => R r } (Dn.entry ds (6 - ds.length)) := by
  rintro ds R ⟨a, rfl, h1, h2, h⟩ _
  simp [wb_rounds_in, T, Ts_len]
  refine for_go (fun i ρ => ∃ kk u v w, ρ = [.fz (.tuple (Ts a)), .ol ((rnd a i).map T), .od (encK kk), u, v, w] ∧ Kn a i kk ∧ kk.length ≤ 24 * i ∧ u.isPm = false ∧ v.isPm = false ∧ w.own = false) (rngD 0 a.length) (fun R h => ?_) ⟨[], .un, .un, .un, rfl, ?_, Nat.le_refl _, rfl, rfl, rfl⟩ ?_ ?_
  · simp [Ts_len]
    exact ⟨by omega, h⟩
  · intro p
    simp [hasK]
  · rintro i d ρ hd ⟨kk, u, v, w, rfl, k, hk, hu, hv, hw⟩
    have hi : i < a.length ∧ d = nI i := by
      rw [rngD_T, getElem_Ts] at hd
      by_cases c : i < a.length
      · rw [List.getElem?_range c] at hd
        exact ⟨c, (Option.some.inj hd).symm⟩
      · rw [List.getElem?_eq_none (by simpa using c)] at hd
        cases hd
    obtain ⟨hi, rfl⟩ := hi
    simp [hu, hv]
    have hw2 := own_pm hw
    have ps := per_spec h1 hi
    have pp := per_pos a i
    have L24 : lg a i kk ≤ 24 := by unfold lg; split <;> omega
    have rl : (rn a i (lg a i kk)).length = lg a i kk := rn_len _ _ _
    have fl : ((rnd a i).map T).length ≤ 24 := by
      unfold rnd
      rw [List.length_map, List.length_map]
      have := List.length_filter_le (fun s => isMin a s && decide (1 < per a s)) (List.range i)
      rw [List.length_range] at this
      omega
    refine ⟨small (by omega), rd_while h1 hi h2 _ kk w _ ?_⟩
    show wSeq _ _ _ _
    refine rd_if (a := a) kk _ (by omega) (by omega) _ _ _ ?_
    have known : hasK kk (.inl (i : Int)) = true ↔ ∃ s, s < i ∧ Rc a s i := k i
    have ef : (if hasK kk (.inl (i : Int)) = false ∧ 1 < (rn a i (lg a i kk)).length then (rnd a i).map T ++ [T (rn a i (lg a i kk))] else (rnd a i).map T) = (rnd a (i + 1)).map T := by
      rw [rnd_succ, List.map_append, rl]
      cases q : hasK kk (.inl (i : Int)) with
      | true =>
        have nm : isMin a i = false := by
          cases e : isMin a i with
          | false => rfl
          | true => exact absurd (known.mp q) ((not_min h1 hi).mp e)
        simp [nm]
      | false =>
        have nm : isMin a i = true := (not_min h1 hi).mpr fun z => by rw [known.mpr z] at q; cases q
        have el : lg a i kk = per a i := by unfold lg; rw [q]; rfl
        rw [el, nm]
        by_cases c : 1 < per a i
        · simp [c]
          rfl
        · simp [c]
    rw [ef]
    refine rd_upd (by omega) (by omega) hw _ _ _ _ ?_
    refine ⟨mergeD kk (mergeD [] (trues (rn a i (lg a i kk)))), .fz (nI i), .ol (Ts (rn a i (lg a i kk))), w, rfl, ?_, ?_, rfl, rfl, hw⟩
    · refine Kn_step h1 hi k _ (fun p hp => ?_) fun nk p hp => ?_
      · obtain ⟨t, _, e⟩ := List.mem_map.mp hp
        exact ⟨t, e⟩
      · have el : lg a i kk = per a i := by
          unfold lg
          rw [if_neg fun z => nk (known.mp z)]
        rw [el]
        exact (mem_cyc h1 hi).mpr hp
    · have m1 := len_merge (mergeD [] (trues (rn a i (lg a i kk)))) kk
      have m2 := len_merge (trues (rn a i (lg a i kk))) []
      have m3 : (trues (rn a i (lg a i kk))).length = lg a i kk := by simp [trues, rn_len]
      simp only [List.length_nil] at m2
      omega
  · rintro ρ ⟨kk, u, v, w, rfl, k, hk, hu, hv, hw⟩
    have e : (rngD 0 (a.length : Int)).length = a.length := by simp [rngD]
    rw [e, rnd_all]
    simpa using h
end K05
/-! K4: powers, turns of rounds, orders, parities, rows. -/
namespace K05
open PySem PySem.Spec PyProof.Rows L2 Dn
theorem rounds_len (a : List Nat) : (rounds a).length ≤ a.length := by
  unfold rounds
  rw [List.length_map]
  have := List.length_filter_le (fun s => isMin a s && decide (1 < per a s)) (List.range a.length)
  rw [List.length_range] at this
  exact this
theorem cyc_le {a : List Nat} (h : Pm a) {c : List Nat} (hc : c ∈ rounds a) : c.length ≤ a.length ∧ 1 < c.length := by
  obtain ⟨s, hs, _, h3, rfl⟩ := mem_rounds.mp hc
  rw [cyc_len]
  exact ⟨(per_spec h hs).1, h3⟩
theorem imm_Tr (cs : List (List Nat)) : immAll (cs.map T) = true := immAll_map T cs imm_T
def W_rounds_of : OA := fun ds R => ∃ a : List Nat, ds = [T a] ∧ Pm a ∧ 1 ≤ a.length ∧ a.length ≤ 24 ∧ R (.fz (.tuple ((rounds a).map T)))
/-- level 6, calls: check_turn rounds_in; slots: 0 turn -/
def wb_rounds_of : WS := (wSeq (wEx (wDef 1 W_check_turn (wCons (wName 0) wNil))) (wRet (wCall oTup (wCons (wDef 1 W_rounds_in (wCons (wName 0) wNil)) wNil))))
theorem rd_rounds_of : ∀ ds R, W_rounds_of ds R → ds.length = 1 → wb_rounds_of { nx := fun _ => R (.fz .none), rt := fun r _ => R r } (Dn.entry ds (1 - ds.length)) := by
  rintro ds R ⟨a, rfl, h1, h2, h3, h⟩ _
  simp [wb_rounds_of, W_check_turn, W_rounds_in]
  exact ⟨a, rfl, h1, h2, h3, a, rfl, h1, h3, h⟩
theorem set_Ts (l : List Nat) (x y : Nat) : (Ts l).set x (nI y) = Ts (l.set x y) := by simp [Ts]
/-- one[(at + k) % len(one)] -/
theorem at_cyc {a : List Nat} {s t : Nat} (ht : t < per a s) (k : Int) : atD (Ts (cyc a s)) (((t : Int) + k).fmod (per a s : Int)) = some (nI (it a (((t : Int) + k) % (per a s : Int)).toNat s)) := by
  have pos := per_pos a s
  have e1 : (0 : Int) ≤ ((t : Int) + k) % (per a s : Int) := Int.emod_nonneg _ (by omega)
  have e2 : ((t : Int) + k) % (per a s : Int) < (per a s : Int) := Int.emod_lt_of_pos _ (by omega)
  rw [Int.fmod_eq_emod_of_nonneg _ (by omega)]
  have e : ixN (per a s) (((t : Int) + k) % (per a s : Int)) = some (((t : Int) + k) % (per a s : Int)).toNat := by
    unfold ixN
    rw [if_pos e1, if_pos e2]
  unfold atD
  rw [Ts_len, cyc_len, e]
  show (Ts (cyc a s))[_]? = _
  rw [getElem_Ts, cyc_get (by omega)]
  rfl
def also (D : Nat → Bool) (c : List Nat) : Nat → Bool := fun p => D p || c.contains p
theorem also_nil (D : Nat → Bool) : also D [] = D := by
  funext p
  simp [also]
def pf (a : List Nat) (k : Int) : Nat → Nat := fun p => it a (k % (per a p : Int)).toNat p
theorem ix_fill {n x : Nat} (D : Nat → Bool) (f : Nat → Nat) (h : x < n) : ixN (Ts (fill n D f)).length ((x : Nat) : Int) = some x := by
  unfold ixN
  rw [Ts_len, fill_len, if_pos (by omega), if_pos (by omega)]
  simp
theorem fill_step {a : List Nat} (h1 : Pm a) {s : Nat} (hs : s < a.length) (D : Nat → Bool) (k : Int) {i : Nat} (hi : i < per a s) :
    (Ts (fill a.length (also D ((cyc a s).take i)) (pf a k))).set (it a i s) (nI (it a (((i : Int) + k) % (per a s : Int)).toNat s)) = Ts (fill a.length (also D ((cyc a s).take (i + 1))) (pf a k)) := by
  have to := turn_on h1 hs hi k
  have xl := it_lt h1 hs i
  have fs := fill_set (D := also D ((cyc a s).take i)) (f := pf a k) xl
  have tk := take_at (cyc_get hi)
  have fc : fill a.length (fun p => also D ((cyc a s).take i) p || p == it a i s) (pf a k) = fill a.length (also D ((cyc a s).take (i + 1))) (pf a k) := fill_congr fun p => by
    unfold also
    rw [tk]
    simp [Bool.or_assoc]
    rfl
  have e : pf a k (it a i s) = it a (((i : Int) + k) % (per a s : Int)).toNat s := to
  rw [← e, set_Ts, fs, fc]
/-- the inner loop of times -/
theorem rd_inner {a : List Nat} (h1 : Pm a) {s : Nat} (hs : s < a.length) (D : Nat → Bool) (k : Int) (s0 : Dn.Slot) (u v : Dn.Slot) (hu : u.isPm = false) (hv : v.isPm = false) (E : EndsD)
    (h : ∀ u v : Dn.Slot, u.isPm = false → v.isPm = false → E.nx [s0, .fz (.int k), .ol (Ts (fill a.length (also D (cyc a s)) (pf a k))), .fz (.tuple (Ts (cyc a s))), u, v]) :
    wFor (wEnum (wName 3)) (gTupW 2 (gsCons (gPut 4) (gsCons (gPut 5) gsNil))) (wSetI 2 (w2 oIx (wName 3) (w2 oMod (w2 oAdd (wName 4) (wName 1)) (wCall oLen (wCons (wName 3) wNil)))) (wName 5)) E
      [s0, .fz (.int k), .ol (Ts (fill a.length D (pf a k))), .fz (.tuple (Ts (cyc a s))), u, v] := by
  refine for_go (fun i ρ => ∃ u v : Dn.Slot, ρ = [s0, .fz (.int k), .ol (Ts (fill a.length (also D ((cyc a s).take i)) (pf a k))), .fz (.tuple (Ts (cyc a s))), u, v] ∧ u.isPm = false ∧ v.isPm = false) (enumD 0 (Ts (cyc a s))) (fun R h => by simpa using h) ⟨u, v, by rw [List.take_zero, also_nil], hu, hv⟩ ?_ ?_
  · rintro i d ρ hd ⟨u, v, rfl, hu, hv⟩
    obtain ⟨x, hx, rfl⟩ := enumD_Ts hd
    have hil : i < per a s := by
      have := (List.getElem?_eq_some_iff.mp hx).1
      rwa [cyc_len] at this
    rw [cyc_get hil] at hx
    obtain rfl := Option.some.inj hx
    have e := at_cyc hil k
    have pos := per_pos a s
    have ne : ¬ (per a s : Nat) = 0 := by omega
    have lf := ix_fill (also D ((cyc a s).take i)) (pf a k) (it_lt h1 hs i)
    have fs := fill_step h1 hs D k hil
    simp only [nI] at e fs
    simp [nI, Ts_len, cyc_len, e, hu, hv, ne]
    rw [← Ts_len, lf]
    simp only []
    rw [fs]
    exact ⟨_, _, ⟨rfl, rfl, rfl⟩, rfl, rfl⟩
  · rintro ρ ⟨u, v, rfl, hu, hv⟩
    rw [enumD_length, Ts_len, List.take_length]
    exact h u v hu hv
/-- the same with 1 -/
theorem rd_inner1 {a : List Nat} (h1 : Pm a) {s : Nat} (hs : s < a.length) (D : Nat → Bool) (s0 s1 : Dn.Slot) (u v : Dn.Slot) (hu : u.isPm = false) (hv : v.isPm = false) (E : EndsD)
    (h : ∀ u v : Dn.Slot, u.isPm = false → v.isPm = false → E.nx [s0, s1, .ol (Ts (fill a.length (also D (cyc a s)) (pf a 1))), .fz (.tuple (Ts (cyc a s))), u, v]) :
    wFor (wEnum (wName 3)) (gTupW 2 (gsCons (gPut 4) (gsCons (gPut 5) gsNil))) (wSetI 2 (w2 oIx (wName 3) (w2 oMod (w2 oAdd (wName 4) (wC (.int 1))) (wCall oLen (wCons (wName 3) wNil)))) (wName 5)) E
      [s0, s1, .ol (Ts (fill a.length D (pf a 1))), .fz (.tuple (Ts (cyc a s))), u, v] := by
  refine for_go (fun i ρ => ∃ u v : Dn.Slot, ρ = [s0, s1, .ol (Ts (fill a.length (also D ((cyc a s).take i)) (pf a 1))), .fz (.tuple (Ts (cyc a s))), u, v] ∧ u.isPm = false ∧ v.isPm = false) (enumD 0 (Ts (cyc a s))) (fun R h => by simpa using h) ⟨u, v, by rw [List.take_zero, also_nil], hu, hv⟩ ?_ ?_
  · rintro i d ρ hd ⟨u, v, rfl, hu, hv⟩
    obtain ⟨x, hx, rfl⟩ := enumD_Ts hd
    have hil : i < per a s := by
      have := (List.getElem?_eq_some_iff.mp hx).1
      rwa [cyc_len] at this
    rw [cyc_get hil] at hx
    obtain rfl := Option.some.inj hx
    have e := at_cyc hil 1
    have pos := per_pos a s
    have ne : ¬ (per a s : Nat) = 0 := by omega
    have lf := ix_fill (also D ((cyc a s).take i)) (pf a 1) (it_lt h1 hs i)
    have fs := fill_step h1 hs D 1 hil
    simp only [nI] at e fs
    simp [nI, Ts_len, cyc_len, e, hu, hv, ne]
    rw [← Ts_len, lf]
    simp only []
    rw [fs]
    exact ⟨_, _, ⟨rfl, rfl, rfl⟩, rfl, rfl⟩
  · rintro ρ ⟨u, v, rfl, hu, hv⟩
    rw [enumD_length, Ts_len, List.take_length]
    exact h u v hu hv
/-- those of the first j rounds -/
def Dj (a : List Nat) (j : Nat) : Nat → Bool := fun p => ((rounds a).take j).any fun c => c.contains p
theorem Dj_zero (a : List Nat) : Dj a 0 = fun _ => false := by
  funext p
  simp [Dj]
theorem Dj_succ {a : List Nat} {j : Nat} {c : List Nat} (h : (rounds a)[j]? = some c) : also (Dj a j) c = Dj a (j + 1) := by
  funext p
  unfold also Dj
  rw [take_at h]
  simp
theorem Dj_all {a : List Nat} (h : Pm a) (k : Int) : fill a.length (Dj a (rounds a).length) (pf a k) = pw a k := by
  rw [← fill_all h k]
  unfold Dj
  rw [List.take_length]
  rfl
theorem get_rounds {a : List Nat} {j : Nat} {d : PyData} (h : ((rounds a).map T)[j]? = some d) : ∃ s, s < a.length ∧ (rounds a)[j]? = some (cyc a s) ∧ d = .tuple (Ts (cyc a s)) := by
  rw [List.getElem?_map] at h
  cases e : (rounds a)[j]? with
  | none => rw [e] at h; cases h
  | some c =>
    rw [e] at h
    obtain ⟨s, hs, _, _, rfl⟩ := mem_rounds.mp (List.mem_of_getElem? e)
    exact ⟨s, hs, rfl, (Option.some.inj h).symm⟩
def W_times : OA := fun ds R => ∃ (a : List Nat) (k : Int), ds = [T a, .int k] ∧ Pm a ∧ 1 ≤ a.length ∧ a.length ≤ 24 ∧ -1000000 ≤ k ∧ k ≤ 1000000 ∧ R (.fz (T (pw a k)))
/-- level 6, calls: check_turn is_between rounds_in; slots: 0 turn 1 number 2 found 3 one 4 at 5 place -/
def wb_times : WS := (wSeq (wEx (wDef 1 W_check_turn (wCons (wName 0) wNil))) (wSeq (wIfS (wNot (wBool (wDef 3 W_is_between (wCons (wName 1) (wCons (w2 oSub (wC (.int 0)) (wC (.int 1000000))) (wCons (wC (.int 1000000)) wNil)))))) wNever wNext) (wSeq (wSet 2 (wLstRg1 (wCall oLen (wCons (wName 0) wNil)))) (wSeq (wFor (wSeqI (wDef 1 W_rounds_in (wCons (wName 0) wNil))) (gPut 3) (wFor (wEnum (wName 3)) (gTupW 2 (gsCons (gPut 4) (gsCons (gPut 5) gsNil))) (wSetI 2 (w2 oIx (wName 3) (w2 oMod (w2 oAdd (wName 4) (wName 1)) (wCall oLen (wCons (wName 3) wNil)))) (wName 5)))) (wRet (wCall oTup (wCons (wName 2) wNil)))))))
theorem rd_times : ∀ ds R, W_times ds R → ds.length = 2 → wb_times { nx := fun _ => R (.fz .none), rt := fun r _ => R r } (Dn.entry ds (6 - ds.length)) := by
  rintro ds R ⟨a, k, rfl, h1, h2, h3, h4, h5, h⟩ _
  simp [wb_times, W_check_turn, W_is_between]
  refine ⟨a, rfl, h1, h2, h3, k, -1000000, 1000000, ⟨rfl, rfl, rfl⟩, h4, h5, ?_⟩
  simp [T, Ts_len, rngD_T]
  refine ⟨by omega, ?_⟩
  rw [← fill_none a.length (pf a k), ← Dj_zero a]
  refine for_go (fun j ρ => ∃ u v w : Dn.Slot, ρ = [.fz (.tuple (Ts a)), .fz (.int k), .ol (Ts (fill a.length (Dj a j) (pf a k))), u, v, w] ∧ u.isPm = false ∧ v.isPm = false ∧ w.isPm = false) ((rounds a).map T) (fun R h => ?_) ⟨.un, .un, .un, rfl, rfl, rfl, rfl⟩ ?_ ?_
  · simp [W_rounds_in, T]
    exact ⟨a, rfl, h1, h3, h⟩
  · rintro j d ρ hd ⟨u, v, w, rfl, hu, hv, hw⟩
    obtain ⟨s, hs, hc, rfl⟩ := get_rounds hd
    simp [hu]
    refine rd_inner h1 hs _ k _ _ _ hv hw _ fun u v hu hv => ?_
    rw [Dj_succ hc]
    exact ⟨_, u, v, rfl, rfl, hu, hv⟩
  · rintro ρ ⟨u, v, w, rfl, hu, hv, hw⟩
    rw [List.length_map, Dj_all h1]
    simp [imm_Ts]
    exact h
def W_turn_by_rounds : OA := fun ds R => ∃ a : List Nat, ds = [nI a.length, .tuple ((rounds a).map T)] ∧ Pm a ∧ a.length ≤ 24 ∧ R (.fz (T a))
/-- level 1, calls: ; slots: 0 many 1 rounds 2 found 3 one 4 at 5 place -/
def wb_turn_by_rounds : WS := (wSeq (wSet 2 (wLstRg1 (wName 0))) (wSeq (wFor (wSeqI (wName 1)) (gPut 3) (wFor (wEnum (wName 3)) (gTupW 2 (gsCons (gPut 4) (gsCons (gPut 5) gsNil))) (wSetI 2 (w2 oIx (wName 3) (w2 oMod (w2 oAdd (wName 4) (wC (.int 1))) (wCall oLen (wCons (wName 3) wNil)))) (wName 5)))) (wRet (wCall oTup (wCons (wName 2) wNil)))))
theorem rd_turn_by_rounds : ∀ ds R, W_turn_by_rounds ds R → ds.length = 2 → wb_turn_by_rounds { nx := fun _ => R (.fz .none), rt := fun r _ => R r } (Dn.entry ds (6 - ds.length)) := by
  rintro ds R ⟨a, rfl, h1, h2, h⟩ _
  simp [wb_turn_by_rounds, nI, rngD_T]
  refine ⟨by omega, ?_⟩
  rw [← fill_none a.length (pf a 1), ← Dj_zero a]
  refine for_go (fun j ρ => ∃ u v w : Dn.Slot, ρ = [.fz (.int (a.length : Nat)), .fz (.tuple ((rounds a).map T)), .ol (Ts (fill a.length (Dj a j) (pf a 1))), u, v, w] ∧ u.isPm = false ∧ v.isPm = false ∧ w.isPm = false) ((rounds a).map T) (fun R h => by simpa using h) ⟨.un, .un, .un, rfl, rfl, rfl, rfl⟩ ?_ ?_
  · rintro j d ρ hd ⟨u, v, w, rfl, hu, hv, hw⟩
    obtain ⟨s, hs, hc, rfl⟩ := get_rounds hd
    simp [hu]
    refine rd_inner1 h1 hs _ _ _ _ _ hv hw _ fun u v hu hv => ?_
    rw [Dj_succ hc]
    exact ⟨_, u, v, rfl, rfl, hu, hv⟩
  · rintro ρ ⟨u, v, w, rfl, hu, hv, hw⟩
    rw [List.length_map, Dj_all h1, pw_one h1]
    simp [imm_Ts]
    exact h
/-! are_rounds -/
def W_are_rounds : OA := fun ds R => ∃ a : List Nat, ds = [nI a.length, .tuple ((rounds a).map T)] ∧ Pm a ∧ a.length ≤ 24 ∧ R (.fz (.bool true))
/-- level 4, calls: are_between rounds_in turn_by_rounds; slots: 0 many 1 value 2 places 3 one -/
def wb_are_rounds : WS := (wSeq (wIfS (wOrT (wNot (wBool (wIsi "tuple" (wName 1)))) (wNot (wBool (wCall oAll (wCons (wLc (wNameI 1) (gPut 3) wYes (wAnd (wDef 3 W_are_between (wCons (wName 3) (wCons (wC (.int 0)) (wCons (w2 oSub (wName 0) (wC (.int 1))) wNil)))) (w2 (oCmp .Gt) (wCall oLen (wCons (wName 3) wNil)) (wC (.int 1)))) [3]) wNil))))) (wRet (wC (.bool false))) wNext) (wSeq (wSet 2 (wLst wNil)) (wSeq (wFor (wSeqI (wName 1)) (gPut 3) (wEx (wExt 2 (wName 3)))) (wRet (wAnd (w2 oEq (wLenSet (wName 2)) (wCall oLen (wCons (wName 2) wNil))) (w2 oEq (wCall oTup (wCons (wDef 1 W_rounds_in (wCons (wDef 2 W_turn_by_rounds (wCons (wName 0) (wCons (wName 1) wNil))) wNil)) wNil)) (wName 1)))))))
theorem lay_Ts : ∀ xs : List Nat, PyData.canLayAll0 (Ts xs) = true
  | [] => by simp [Ts, PyData.canLayAll0]
  | x :: xs => by
    have e : Ts (x :: xs) = nI x :: Ts xs := rfl
    rw [e, PyData.canLayAll0, lay_Ts xs]
    simp [nI, PyData.canLay0]
theorem depth_Ts : ∀ xs : List Nat, PyData.depthAll (Ts xs) = 0
  | [] => by simp [Ts, PyData.depthAll]
  | x :: xs => by
    have e : Ts (x :: xs) = nI x :: Ts xs := rfl
    rw [e, PyData.depthAll, depth_Ts xs]
    simp [nI, PyData.depth]
theorem lay_T (xs : List Nat) : (T xs).canLay0 = true := by
  unfold T
  rw [PyData.canLay0]
  exact lay_Ts xs
theorem depth_T (xs : List Nat) : (T xs).depth ≤ 1 := by
  unfold T
  rw [PyData.depth, depth_Ts]
  decide
theorem shaped_T (xs : List Nat) : SeqAt.shaped (T xs) = true := by
  have h := depth_T xs
  show ((T xs).canLay0 && decide ((T xs).depth ≤ 64)) = true
  rw [lay_T, Bool.true_and]
  exact decide_eq_true (by omega)
theorem lay_Tr : ∀ cs : List (List Nat), PyData.canLayAll0 (cs.map T) = true
  | [] => by simp [PyData.canLayAll0]
  | c :: cs => by
    rw [List.map_cons, PyData.canLayAll0, lay_T, lay_Tr cs]
    rfl
theorem depth_Tr : ∀ cs : List (List Nat), PyData.depthAll (cs.map T) ≤ 1
  | [] => by simp [PyData.depthAll]
  | c :: cs => by
    have h1 := depth_T c
    have h2 := depth_Tr cs
    rw [List.map_cons, PyData.depthAll]
    omega
theorem shaped_Tr (cs : List (List Nat)) : SeqAt.shaped (.tuple (cs.map T)) = true := by
  have h := depth_Tr cs
  have h2 : PyData.depth (.tuple (cs.map T)) ≤ 64 := by
    rw [PyData.depth]
    omega
  show ((PyData.tuple (cs.map T)).canLay0 && decide (PyData.depth (.tuple (cs.map T)) ≤ 64)) = true
  rw [PyData.canLay0, lay_Tr, Bool.true_and]
  exact decide_eq_true h2
theorem eqvAll_Ts : ∀ a b : List Nat, PyData.eqvAll (Ts a) (Ts b) = decide (a = b)
  | [], [] => by simp [Ts, PyData.eqvAll]
  | [], _ :: _ => by simp [Ts, PyData.eqvAll]
  | _ :: _, [] => by simp [Ts, PyData.eqvAll]
  | x :: a, y :: b => by
    have e1 : Ts (x :: a) = nI x :: Ts a := rfl
    have e2 : Ts (y :: b) = nI y :: Ts b := rfl
    rw [e1, e2, PyData.eqvAll, eqvAll_Ts a b]
    unfold nI
    rw [eqv_int]
    by_cases h : x = y
    · subst h; simp
    · have : ¬ (x : Int) = (y : Int) := by omega
      simp [h, this]
theorem eqv_T (a b : List Nat) : PyData.eqv (T a) (T b) = decide (a = b) := by
  unfold T
  rw [PyData.eqv]
  exact eqvAll_Ts a b
theorem eqvAll_Tr : ∀ a b : List (List Nat), PyData.eqvAll (a.map T) (b.map T) = decide (a = b)
  | [], [] => by simp [PyData.eqvAll]
  | [], _ :: _ => by simp [PyData.eqvAll]
  | _ :: _, [] => by simp [PyData.eqvAll]
  | x :: a, y :: b => by
    rw [List.map_cons, List.map_cons, PyData.eqvAll, eqvAll_Tr a b, eqv_T]
    by_cases h : x = y <;> simp [h]
theorem eqv_Tr (a b : List (List Nat)) : PyData.eqv (.tuple (a.map T)) (.tuple (b.map T)) = decide (a = b) := by
  rw [PyData.eqv]
  exact eqvAll_Tr a b
theorem eqv_refl_Tr (cs : List (List Nat)) : PyData.eqv (.tuple (cs.map T)) (.tuple (cs.map T)) = true := by
  rw [eqv_Tr]
  simp
theorem rounds_apart {a : List Nat} (h : Pm a) : (rounds a).Pairwise fun c d => ∀ x ∈ c, ∀ y ∈ d, x ≠ y := by
  unfold rounds
  rw [List.pairwise_map]
  refine List.Pairwise.imp_of_mem ?_ (List.pairwise_lt_range.filter _)
  intro s t hs ht lt x hx y hy e
  rw [List.mem_filter] at hs ht
  have hs1 := List.mem_range.mp hs.1
  have ht1 := List.mem_range.mp ht.1
  have hs2 : isMin a s = true := by have := hs.2; simp at this; exact this.1
  have ht2 : isMin a t = true := by have := ht.2; simp at this; exact this.1
  have r1 := (mem_cyc h hs1).mp hx
  have r2 := (mem_cyc h ht1).mp hy
  subst e
  have r3 : Rc a t s := Rc.trans r2 (Rc.symm h hs1 r1)
  have := (isMin_iff h ht1).mp ht2 s r3
  omega
theorem flat_rounds {a : List Nat} (h : Pm a) (j : Nat) : (((rounds a).take j).flatten).Nodup ∧ (((rounds a).take j).flatten).length ≤ a.length := by
  have nd : (((rounds a).take j).flatten).Nodup := by
    rw [List.nodup_iff_pairwise_ne, List.pairwise_flatten]
    refine ⟨fun c hc => ?_, (rounds_apart h).sublist (List.take_sublist j _)⟩
    obtain ⟨s, hs, _, _, rfl⟩ := mem_rounds.mp (List.mem_of_mem_take hc)
    exact List.nodup_iff_pairwise_ne.mp (cyc_nodup h hs)
  refine ⟨nd, pig _ _ nd fun i hi => ?_⟩
  obtain ⟨c, hc, hp⟩ := List.mem_flatten.mp hi
  obtain ⟨_, _, _, _, _, _, _, z⟩ := in_round h (List.mem_of_mem_take hc) hp
  exact z
theorem rd_are_rounds : ∀ ds R, W_are_rounds ds R → ds.length = 2 → wb_are_rounds { nx := fun _ => R (.fz .none), rt := fun r _ => R r } (Dn.entry ds (4 - ds.length)) := by
  rintro ds R ⟨a, rfl, h1, h2, h⟩ _
  simp [wb_are_rounds, nI, isi_tt]
  have rl := rounds_len a
  refine lc_m (rounds a) T (fun _ => .bool true) rfl (small (by omega)) (by simp) trivial (fun i c hc => ?_) ?_
  · have hm := List.mem_of_getElem? hc
    have hl := cyc_le h1 hm
    have c2 : (1 : Int) < (c.length : Int) := by omega
    simp [W_are_between, T]
    refine ⟨c, a.length, ⟨rfl, rfl⟩, fun p hp => ?_, by omega, ?_⟩
    · obtain ⟨_, _, _, _, _, _, _, z⟩ := in_round h1 hm hp
      exact z
    · have tk : ((rounds a).map fun _ => PyData.bool true).take (i + 1) = ((rounds a).map fun _ => PyData.bool true).take i ++ [.bool true] := take_at (by simp [hc])
      simp [Ts_len, c2]
      exact tk.symm
  · have er : ((rounds a).map fun _ => PyData.bool true) = List.replicate (rounds a).length (.bool true) := List.map_const' ..
    rw [er]
    simp
    rw [if_neg (by
      rintro ⟨x, hx, e⟩
      obtain rfl := List.eq_of_mem_replicate hx
      cases e)]
    refine for_go (fun j ρ => ∃ u : Dn.Slot, ρ = [.fz (.int (a.length : Nat)), .fz (.tuple ((rounds a).map T)), .ol (Ts ((rounds a).take j).flatten), u] ∧ u.isPm = false) ((rounds a).map T) (fun R h => by simpa [show Ts [] = [] from rfl] using h) ⟨.un, rfl, rfl⟩ ?_ ?_
    · rintro j d ρ hd ⟨u, rfl, hu⟩
      obtain ⟨s, hs, hc, rfl⟩ := get_rounds hd
      have fl := (flat_rounds h1 j).2
      have cl := (cyc_le h1 (List.mem_of_getElem? hc)).1
      have tk : ((rounds a).take (j + 1)).flatten = ((rounds a).take j).flatten ++ cyc a s := by rw [take_at hc]; simp
      have e : Ts ((rounds a).take j).flatten ++ Ts (cyc a s) = Ts ((rounds a).take (j + 1)).flatten := by rw [tk]; simp [Ts]
      simp [hu]
      refine ⟨?_, _, ⟨e, rfl⟩, rfl⟩
      rw [Ts_len, Ts_len]
      exact small (by omega)
    · rintro ρ ⟨u, rfl, hu⟩
      have fl := flat_rounds h1 (rounds a).length
      rw [List.take_length] at fl
      have nd := nodup_Ts fl.1
      have rl := rounds_len a
      rw [List.length_map, List.take_length]
      have sh := shaped_Tr (rounds a)
      have eq := eqv_refl_Tr (rounds a)
      simp [eqv_int, sh_int, W_rounds_in, W_turn_by_rounds, nI, -List.all_eq_true]
      refine ⟨nd, by rw [Ts_len]; omega, a, ⟨rfl, rfl⟩, h1, h2, a, rfl, h1, h2, ?_⟩
      simp [sh, eq, h]
end K05
/-! K5: orders, parities, rows. -/
namespace K05
open PySem PySem.Spec PyProof.Rows L2 Dn
def W_turn_of_rounds : OA := fun ds R => ∃ a : List Nat, ds = [nI a.length, .tuple ((rounds a).map T)] ∧ Pm a ∧ 1 ≤ a.length ∧ a.length ≤ 24 ∧ R (.fz (T a))
/-- level 5, calls: check_many are_rounds turn_by_rounds; slots: 0 many 1 rounds -/
def wb_turn_of_rounds : WS := (wSeq (wEx (wDef 1 W_check_many (wCons (wName 0) wNil))) (wSeq (wIfS (wNot (wBool (wDef 2 W_are_rounds (wCons (wName 0) (wCons (wName 1) wNil))))) wNever wNext) (wRet (wDef 2 W_turn_by_rounds (wCons (wName 0) (wCons (wName 1) wNil))))))
theorem rd_turn_of_rounds : ∀ ds R, W_turn_of_rounds ds R → ds.length = 2 → wb_turn_of_rounds { nx := fun _ => R (.fz .none), rt := fun r _ => R r } (Dn.entry ds (2 - ds.length)) := by
  rintro ds R ⟨a, rfl, h1, h2, h3, h⟩ _
  simp [wb_turn_of_rounds, W_check_many, W_are_rounds, W_turn_by_rounds, nI]
  exact ⟨by omega, by omega, a, ⟨rfl, rfl⟩, h1, h3, a, ⟨rfl, rfl⟩, h1, h3, h⟩
def W_common : OA := fun ds R => ∃ a b : Nat, ds = [nI a, nI b] ∧ R (.fz (nI (Nat.gcd a b)))
/-- level 1, calls: ; slots: 0 one 1 other -/
def wb_common : WS := (wSeq (wWhile (wBool (w2 oNe (wName 0) (wC (.int 0)))) (wPar 0 1 (wCons (w2 oMod (wName 1) (wName 0)) (wCons (wName 0) wNil)))) (wRet (wName 1)))
theorem rd_common : ∀ ds R, W_common ds R → ds.length = 2 → wb_common { nx := fun _ => R (.fz .none), rt := fun r _ => R r } (Dn.entry ds (2 - ds.length)) := by
  rintro ds R ⟨a, b, rfl, h⟩ _
  simp [wb_common]
  refine while_go (fun n ρ => ∃ b', ρ = [.fz (nI n), .fz (nI b')] ∧ Nat.gcd n b' = Nat.gcd a b) a ⟨b, rfl, rfl⟩ ?_
  rintro n ρ ⟨b', rfl, e⟩
  by_cases c : n = 0
  · subst c
    rw [Nat.gcd_zero_left] at e
    simp [nI, eqv_int, sh_int, e]
    exact h
  · have c2 : ¬ (n : Int) = 0 := by omega
    have fm : ((b' : Int).fmod (n : Int)) = ((b' % n : Nat) : Int) := by
      rw [Int.fmod_eq_emod_of_nonneg _ (by omega)]
      rfl
    simp [nI, eqv_int, sh_int, c2, c, fm]
    refine ⟨b' % n, Nat.mod_lt _ (by omega), _, ⟨rfl, rfl⟩, ?_⟩
    rw [← e, Nat.gcd_comm n b', ← Nat.gcd_rec, Nat.gcd_comm]
def W_order_in : OA := fun ds R => ∃ a : List Nat, ds = [T a] ∧ Pm a ∧ a.length ≤ 24 ∧ R (.fz (nI (ordr a)))
/-- level 2, calls: rounds_in common; slots: 0 turn 1 found 2 one -/
def wb_order_in : WS := (wSeq (wSet 1 (wC (.int 1))) (wSeq (wFor (wSeqI (wDef 1 W_rounds_in (wCons (wName 0) wNil))) (gPut 2) (wSet 1 (w2 oDiv (w2 oMul (wName 1) (wCall oLen (wCons (wName 2) wNil))) (wDef 2 W_common (wCons (wName 1) (wCons (wCall oLen (wCons (wName 2) wNil)) wNil)))))) (wRet (wName 1))))
/-- the order of the first j rounds -/
def oj (a : List Nat) (j : Nat) : Nat := ((rounds a).take j).foldl (fun m c => Nat.lcm m c.length) 1
theorem oj_succ {a : List Nat} {j : Nat} {c : List Nat} (h : (rounds a)[j]? = some c) : oj a (j + 1) = Nat.lcm (oj a j) c.length := by
  unfold oj
  rw [take_at h, List.foldl_append]
  rfl
theorem rd_order_in : ∀ ds R, W_order_in ds R → ds.length = 1 → wb_order_in { nx := fun _ => R (.fz .none), rt := fun r _ => R r } (Dn.entry ds (3 - ds.length)) := by
  rintro ds R ⟨a, rfl, h1, h2, h⟩ _
  simp [wb_order_in]
  refine for_go (fun j ρ => ∃ u : Dn.Slot, ρ = [.fz (T a), .fz (nI (oj a j)), u] ∧ u.isPm = false) ((rounds a).map T) (fun R h => ?_) ⟨.un, rfl, rfl⟩ ?_ ?_
  · simp [W_rounds_in]
    exact ⟨a, rfl, h1, h2, h⟩
  · rintro j d ρ hd ⟨u, rfl, hu⟩
    obtain ⟨s, hs, hc, rfl⟩ := get_rounds hd
    have cl := cyc_le h1 (List.mem_of_getElem? hc)
    have g1 : Nat.gcd (oj a j) (cyc a s).length ≤ (cyc a s).length := Nat.gcd_le_right _ (by omega)
    have g0 : 0 < Nat.gcd (oj a j) (cyc a s).length := Nat.gcd_pos_of_pos_right _ (by omega)
    have os := oj_succ hc
    have fd : (((oj a j : Nat) : Int) * (((cyc a s).length : Nat) : Int)).fdiv ((Nat.gcd (oj a j) (cyc a s).length : Nat) : Int) = ((Nat.lcm (oj a j) (cyc a s).length : Nat) : Int) := by
      rw [Int.fdiv_eq_ediv_of_nonneg _ (by omega), ← Int.natCast_mul, ← Int.natCast_ediv]
      rfl
    simp [hu, nI, Ts_len, W_common]
    refine ⟨.inl ?_, _, _, ⟨rfl, rfl⟩, .inl ?_, ?_⟩
    · unfold CMul
      right
      omega
    · unfold CDivN
      omega
    · rw [fd, os]
      exact ⟨_, ⟨rfl, rfl⟩, rfl⟩
  · rintro ρ ⟨u, rfl, hu⟩
    rw [List.length_map]
    have e : oj a (rounds a).length = ordr a := by unfold oj ordr; rw [List.take_length]
    rw [e]
    simpa using h
def W_order_of : OA := fun ds R => ∃ a : List Nat, ds = [T a] ∧ Pm a ∧ 1 ≤ a.length ∧ a.length ≤ 24 ∧ R (.fz (nI (ordr a)))
/-- level 6, calls: check_turn order_in; slots: 0 turn -/
def wb_order_of : WS := (wSeq (wEx (wDef 1 W_check_turn (wCons (wName 0) wNil))) (wRet (wDef 1 W_order_in (wCons (wName 0) wNil))))
theorem rd_order_of : ∀ ds R, W_order_of ds R → ds.length = 1 → wb_order_of { nx := fun _ => R (.fz .none), rt := fun r _ => R r } (Dn.entry ds (1 - ds.length)) := by
  rintro ds R ⟨a, rfl, h1, h2, h3, h⟩ _
  simp [wb_order_of, W_check_turn, W_order_in]
  exact ⟨a, rfl, h1, h2, h3, a, rfl, h1, h3, h⟩
def W_is_even_of : OA := fun ds R => ∃ a : List Nat, ds = [T a] ∧ Pm a ∧ a.length ≤ 24 ∧ R (.fz (.bool (evn a)))
/-- level 2, calls: rounds_in; slots: 0 turn 1 one -/
def wb_is_even_of : WS := (wRet (w2 oEq (w2 oMod (wCall oSum (wCons (wLc (wIc (wSeqI (wDef 1 W_rounds_in (wCons (wName 0) wNil)))) (gPut 1) wYes (w2 oSub (wCall oLen (wCons (wName 1) wNil)) (wC (.int 1))) [1]) wNil)) (wC (.int 2))) (wC (.int 0))))
theorem sum_cast : ∀ cs : List (List Nat), (∀ c ∈ cs, 1 ≤ c.length) → (cs.map fun c => ((c.length : Int) - 1)).sum = ((cs.map fun c => c.length - 1).sum : Nat)
  | [], _ => rfl
  | c :: cs, h => by
    have h1 := h c (by simp)
    rw [List.map_cons, List.sum_cons, List.map_cons, List.sum_cons, sum_cast cs fun d hd => h d (List.mem_cons_of_mem _ hd)]
    omega
theorem rd_is_even_of : ∀ ds R, W_is_even_of ds R → ds.length = 1 → wb_is_even_of { nx := fun _ => R (.fz .none), rt := fun r _ => R r } (Dn.entry ds (2 - ds.length)) := by
  rintro ds R ⟨a, rfl, h1, h2, h⟩ _
  simp [wb_is_even_of, W_rounds_in]
  refine ⟨a, rfl, h1, h2, ?_⟩
  have rl := rounds_len a
  refine lc_m (rounds a) T (fun c => .int ((c.length : Int) - 1)) rfl (small (by omega)) (by simp) trivial (fun i c hc => ?_) ?_
  · have tk : ((rounds a).map fun c => PyData.int ((c.length : Int) - 1)).take (i + 1) = ((rounds a).map fun c => PyData.int ((c.length : Int) - 1)).take i ++ [.int ((c.length : Int) - 1)] := take_at (by simp [hc])
    simp [T, Ts_len]
    exact tk.symm
  · have e1 : ((rounds a).map fun c => PyData.int ((c.length : Int) - 1)).all isI = true := by
      rw [List.all_eq_true]
      intro d hd
      obtain ⟨c, _, rfl⟩ := List.mem_map.mp hd
      rfl
    have e2 : (((rounds a).map fun c => PyData.int ((c.length : Int) - 1)).map toI).sum = (((rounds a).map fun c => c.length - 1).sum : Nat) := by
      rw [List.map_map, ← sum_cast _ fun c hc => by have := cyc_le h1 hc; omega]
      rfl
    have fm : ((((rounds a).map fun c => c.length - 1).sum : Nat) : Int).fmod 2 = (((((rounds a).map fun c => c.length - 1).sum % 2 : Nat)) : Int) := by
      rw [Int.fmod_eq_emod_of_nonneg _ (by omega)]
      rfl
    have ev : (decide (((((rounds a).map fun c => c.length - 1).sum : Nat) : Int) % 2 = 0)) = evn a := by
      unfold evn
      by_cases c : ((rounds a).map fun c => c.length - 1).sum % 2 = 0
      · have c2 : ((((rounds a).map fun c => c.length - 1).sum : Nat) : Int) % 2 = 0 := by omega
        rw [decide_eq_true c, decide_eq_true c2]
      · have c2 : ¬ ((((rounds a).map fun c => c.length - 1).sum : Nat) : Int) % 2 = 0 := by omega
        rw [decide_eq_false c, decide_eq_false c2]
    generalize hG : ((rounds a).map fun c => PyData.int ((c.length : Int) - 1)) = G at e1 e2
    simp [-List.all_eq_true, e1, e2, fm, eqv_int, sh_int]
    refine ⟨List.all_eq_true.mp e1, ?_⟩
    rw [ev]
    exact h
def W_is_even : OA := fun ds R => ∃ a : List Nat, ds = [T a] ∧ Pm a ∧ 1 ≤ a.length ∧ a.length ≤ 24 ∧ R (.fz (.bool (evn a)))
/-- level 6, calls: check_turn is_even_of; slots: 0 turn -/
def wb_is_even : WS := (wSeq (wEx (wDef 1 W_check_turn (wCons (wName 0) wNil))) (wRet (wDef 1 W_is_even_of (wCons (wName 0) wNil))))
theorem rd_is_even : ∀ ds R, W_is_even ds R → ds.length = 1 → wb_is_even { nx := fun _ => R (.fz .none), rt := fun r _ => R r } (Dn.entry ds (1 - ds.length)) := by
  rintro ds R ⟨a, rfl, h1, h2, h3, h⟩ _
  simp [wb_is_even, W_check_turn, W_is_even_of]
  exact ⟨a, rfl, h1, h2, h3, a, rfl, h1, h3, h⟩
/-! rows -/
def mv (a : List Nat) (row : List PyData) : List PyData := (List.range a.length).map fun j => row.getD (a.idxOf j) .none
theorem mv_len (a : List Nat) (row : List PyData) : (mv a row).length = a.length := by simp [mv]
def W_row_moved : OA := fun ds R => ∃ (a : List Nat) (row : List PyData), ds = [T a, .tuple row] ∧ Pm a ∧ a.length ≤ 24 ∧ row.length = a.length ∧ immAll row = true ∧ R (.fz (.tuple (mv a row)))
/-- level 1, calls: ; slots: 0 turn 1 row 2 found 3 place 4 one -/
def wb_row_moved : WS := (wSeq (wSet 2 (wRep (wLst (wCons (wC .none) wNil)) (wCall oLen (wCons (wName 0) wNil)))) (wSeq (wFor (wEnum (wName 1)) (gTupW 2 (gsCons (gPut 3) (gsCons (gPut 4) gsNil))) (wSetI 2 (wName 4) (w2 oIx (wName 0) (wName 3)))) (wRet (wCall oTup (wCons (wName 2) wNil)))))
/-- the row behind i places -/
def mvk (a : List Nat) (row : List PyData) (i : Nat) : List PyData := (List.range a.length).map fun j => if a.idxOf j < i then row.getD (a.idxOf j) .none else .none
theorem mvk_len (a : List Nat) (row : List PyData) (i : Nat) : (mvk a row i).length = a.length := by simp [mvk]
theorem mvk_zero (a : List Nat) (row : List PyData) : mvk a row 0 = List.replicate a.length .none := by
  apply List.ext_getElem?
  intro j
  simp [mvk, List.getElem?_replicate]
  by_cases h : j < a.length <;> simp [h]
theorem mvk_step {a : List Nat} (h1 : Pm a) {row : List PyData} {i : Nat} {d : PyData} (hi : i < a.length) (hd : row[i]? = some d) : (mvk a row i).set (ap a i) d = mvk a row (i + 1) := by
  have h := ap_get hi
  have hx := idx_at h1.2 h
  have hl : ap a i < a.length := ap_lt h1 hi
  apply List.ext_getElem?
  intro j
  by_cases e : j = ap a i
  · subst e
    rw [List.getElem?_set_self (by rw [mvk_len]; exact hl)]
    simp [mvk, hl, hx, hd]
  · rw [List.getElem?_set_ne (Ne.symm e)]
    by_cases hj : j < a.length
    · simp only [mvk, List.getElem?_map, List.getElem?_range hj, Option.map_some]
      have hm := mem_pm h1 hj
      have hne : a.idxOf j ≠ i := fun z => e (by
        have q := List.getElem_idxOf (List.idxOf_lt_length_iff.mpr hm)
        have q2 : a[a.idxOf j]? = some j := by rw [List.getElem?_eq_getElem (List.idxOf_lt_length_iff.mpr hm), q]
        rw [z, h] at q2
        exact (Option.some.inj q2).symm)
      by_cases c : a.idxOf j < i
      · rw [if_pos c, if_pos (by omega)]
      · rw [if_neg c, if_neg (by omega)]
    · simp [mvk, hj]
theorem mvk_all {a : List Nat} (h1 : Pm a) (row : List PyData) : mvk a row a.length = mv a row := by
  unfold mvk mv
  apply List.map_congr_left
  intro j hj
  rw [if_pos (List.idxOf_lt_length_iff.mpr (mem_pm h1 (List.mem_range.mp hj)))]
theorem imm_mv {a : List Nat} {row : List PyData} (h : immAll row = true) : immAll (mv a row) = true := by
  rw [immAll_iff] at h ⊢
  intro d hd
  obtain ⟨j, _, rfl⟩ := List.mem_map.mp hd
  by_cases c : a.idxOf j < row.length
  · rw [List.getD_eq_getElem?_getD, List.getElem?_eq_getElem c]
    exact h _ (List.getElem_mem c)
  · rw [List.getD_eq_getElem?_getD, List.getElem?_eq_none (by omega)]
    rfl
theorem enumD_at {ds : List PyData} {i : Nat} {d : PyData} (h : (enumD 0 ds)[i]? = some d) : ∃ x, ds[i]? = some x ∧ d = .tuple [nI i, x] := by
  rw [enumD_get] at h
  cases e : ds[i]? with
  | none => rw [e] at h; cases h
  | some x =>
    rw [e] at h
    exact ⟨x, rfl, by simpa [nI] using h.symm⟩
theorem rd_row_moved : ∀ ds R, W_row_moved ds R → ds.length = 2 → wb_row_moved { nx := fun _ => R (.fz .none), rt := fun r _ => R r } (Dn.entry ds (5 - ds.length)) := by
  rintro ds R ⟨a, row, rfl, h1, h2, h3, h4, h⟩ _
  simp [wb_row_moved, T, Ts_len]
  refine ⟨small (by omega), ⟨by omega, small (by omega)⟩, ?_⟩
  rw [← mvk_zero a row]
  refine for_go (fun i ρ => ∃ u v : Dn.Slot, ρ = [.fz (.tuple (Ts a)), .fz (.tuple row), .ol (mvk a row i), u, v] ∧ u.isPm = false ∧ v.isPm = false) (enumD 0 row) (fun R h => by simpa using h) ⟨.un, .un, rfl, rfl, rfl⟩ ?_ ?_
  · rintro i d ρ hd ⟨u, v, rfl, hu, hv⟩
    obtain ⟨x, hx, rfl⟩ := enumD_at hd
    have hi : i < a.length := by
      have := (List.getElem?_eq_some_iff.mp hx).1
      omega
    have e := mvk_step h1 hi hx
    have ea := at_T hi
    have hl := ap_lt h1 hi
    have ix : ixN (mvk a row i).length ((ap a i : Nat) : Int) = some (ap a i) := by
      unfold ixN
      rw [mvk_len, if_pos (by omega), if_pos (by omega)]
      simp
    simp only [nI] at ea
    simp [nI, hu, hv, ea, ix, e]
    exact ⟨_, _, ⟨rfl, rfl⟩, rfl, rfl⟩
  · rintro ρ ⟨u, v, rfl, hu, hv⟩
    rw [enumD_length, h3, mvk_all h1]
    simp [imm_mv h4]
    exact h
def W_moved : OA := fun ds R => ∃ (a : List Nat) (row : List PyData), ds = [T a, .tuple row] ∧ Pm a ∧ 1 ≤ a.length ∧ a.length ≤ 24 ∧ row.length = a.length ∧ immAll row = true ∧ R (.fz (.tuple (mv a row)))
/-- level 6, calls: check_turn is_tuple_of row_moved; slots: 0 turn 1 row -/
def wb_moved : WS := (wSeq (wEx (wDef 1 W_check_turn (wCons (wName 0) wNil))) (wSeq (wIfS (wNot (wBool (wDef 2 W_is_tuple_of (wCons (wName 1) (wCons (wCall oLen (wCons (wName 0) wNil)) wNil))))) wNever wNext) (wRet (wDef 2 W_row_moved (wCons (wName 0) (wCons (wName 1) wNil))))))
theorem rd_moved : ∀ ds R, W_moved ds R → ds.length = 2 → wb_moved { nx := fun _ => R (.fz .none), rt := fun r _ => R r } (Dn.entry ds (2 - ds.length)) := by
  rintro ds R ⟨a, row, rfl, h1, h2, h3, h4, h5, h⟩ _
  simp [wb_moved, W_check_turn, W_row_moved, W_is_tuple_of]
  refine ⟨a, rfl, h1, h2, h3, ?_⟩
  simp [T, Ts_len]
  exact ⟨by omega, a, row, ⟨rfl, rfl⟩, h1, h3, h4, h5, h⟩
end K05
/-! K6: the law's own small defs. -/
namespace K05
open PySem PySem.Spec PyProof.Rows L2 Dn
theorem bits_le {i : Int} {k : Nat} (h : i.natAbs < 2 ^ k) (hk : 0 < k) : Builtin.Int.intBits i ≤ k := by
  have b : Builtin.Int.intBits i ≤ i.natAbs.log2 + 1 := by
    unfold Builtin.Int.intBits
    split <;> omega
  by_cases c : i.natAbs = 0
  · rw [c] at b
    have : Nat.log2 0 = 0 := by decide
    omega
  · have := (Nat.log2_lt c).mpr h
    omega
def potOk (c : Nat) (d : List PyData) : Prop := ∃ o s k : Int, d = [.int o, .int s, .int k] ∧ 0 ≤ o ∧ 0 ≤ s ∧ s < 2305843009213693921 ∧ 0 ≤ k ∧ k ≤ c
theorem potOk.flt {c : Nat} {d : List PyData} (h : potOk c d) : d.all Dn.flt = true := by
  obtain ⟨o, s, k, rfl, _⟩ := h
  rfl
theorem potOk.up {c c' : Nat} {d : List PyData} (h : potOk c d) (l : c ≤ c') : potOk c' d := by
  obtain ⟨o, s, k, e, a1, a3, a4, a5, a6⟩ := h
  exact ⟨o, s, k, e, a1, a3, a4, a5, by omega⟩
def W__law_take : OM := fun d0 ds R => ∃ (c : Nat) (u : Int), potOk c d0 ∧ c ≤ 1000000 ∧ ds = [.int u] ∧ 1 ≤ u ∧ u ≤ 1000000 ∧ ∀ x d1, 0 ≤ x → x < u → potOk (c + 1) d1 → R (.fz (.int x)) d1
/-- level 1, calls: ; slots: 0 pot 1 upto 2 digit 3 prime 4 blend -/
def wb__law_take : WS := (wSeq (wIfS (wBool (w2 (oCmp .Gt) (w2 oIx (wName 0) (wC (.int 0))) (wC (.int 0)))) (wSeq (wSet 2 (w2 oMod (wCall oInt (wCons (w2 oIx (wName 0) (wC (.int 0))) wNil)) (wName 1))) (wSeq (wSetI 0 (w2 oDiv (w2 oIx (wName 0) (wC (.int 0))) (wName 1)) (wC (.int 0))) (wRet (wName 2)))) wNext) (wSeq (wSetI 0 (w2 oAdd (w2 oIx (wName 0) (wC (.int 2))) (wC (.int 1))) (wC (.int 2))) (wSeq (wSet 3 (w2 oIx (wLst (wCons (wC (.int 2147483647)) (wCons (wC (.int 2147483629)) (wCons (wC (.int 2147483587)) (wCons (wC (.int 2147483579)) wNil))))) (w2 oMod (wCall oInt (wCons (w2 oIx (wName 0) (wC (.int 2))) wNil)) (wC (.int 4))))) (wSeq (wSet 4 (w2 oMod (wCall oInt (wCons (w2 oPow (wCall oInt (wCons (w2 oAdd (w2 oAdd (w2 oIx (wName 0) (wC (.int 1))) (w2 oMul (w2 oMul (wC (.int 91193)) (w2 oIx (wName 0) (wC (.int 2)))) (w2 oIx (wName 0) (wC (.int 2))))) (wC (.int 3371))) wNil)) (wC (.int 3))) wNil)) (wName 3))) (wRet (w2 oMod (wCall oInt (wCons (w2 oDiv (w2 oMul (wName 4) (w2 oAdd (w2 oMod (wCall oInt (wCons (wName 4) wNil)) (wC (.int 10009))) (w2 oMul (wC (.int 2203)) (w2 oIx (wName 0) (wC (.int 2)))))) (wC (.int 307))) wNil)) (wName 1)))))))
theorem mul_lt {a b A B : Int} (h0 : 0 ≤ a) (h1 : a < A) (g0 : 0 ≤ b) (g1 : b < B) : a * b < A * B := by
  have h2 : a * b ≤ a * B := Int.mul_le_mul_of_nonneg_left (by omega) h0
  have h3 : a * B < A * B := Int.mul_lt_mul_of_pos_right h1 (by omega)
  omega
theorem atD3_0 (o s k : Int) : atD [.int o, .int s, .int k] 0 = some (.int o) := by rfl
theorem atD3_1 (o s k : Int) : atD [.int o, .int s, .int k] 1 = some (.int s) := by rfl
theorem atD3_2 (o s k : Int) : atD [.int o, .int s, .int k] 2 = some (.int k) := by rfl
theorem ix3_0 : ixN 3 0 = some 0 := by rfl
theorem ix3_2 : ixN 3 2 = some 2 := by rfl
theorem rd__law_take : ∀ d0 ds R, W__law_take d0 ds R → d0.all Dn.flt = true → ds.length + 1 = 2 → wb__law_take { nx := fun ρ => atM R (.fz .none) ρ, rt := fun r ρ => atM R r ρ } (entryM d0 ds (5 - (ds.length + 1))) := by
  rintro d0 ds R ⟨c, u, ⟨o, s, k, rfl, a1, a3, a4, a5, a6⟩, hc, rfl, u1, u2, h⟩ _ _
  have u0 : ¬ u = 0 := by omega
  by_cases ho : 0 < o
  · have q1 : (0 : Int) ≤ o.fmod u := by rw [Int.fmod_eq_emod_of_nonneg _ (by omega)]; exact Int.emod_nonneg _ (by omega)
    have q2 : o.fmod u < u := by rw [Int.fmod_eq_emod_of_nonneg _ (by omega)]; exact Int.emod_lt_of_pos _ (by omega)
    have q3 : o.fdiv u = o / u := Int.fdiv_eq_ediv_of_nonneg o (by omega)
    have q4 : (0 : Int) ≤ o / u := Int.ediv_nonneg a1 (by omega)
    have q5 : o / u ≤ o := Int.ediv_le_self _ a1
    have hd : cDiv o u := .inl ⟨by omega, by omega⟩
    simp [wb__law_take, atD3_0, ho, u0, hd, ix3_0]
    refine h _ _ q1 q2 ⟨_, _, _, rfl, ?_, a3, a4, a5, by omega⟩
    rw [q3]; exact q4
  · have f0 : (0 : Int) ≤ (k + 1).fmod 4 ∧ (k + 1).fmod 4 < 4 := by
      rw [Int.fmod_eq_emod_of_nonneg _ (by decide)]
      omega
    have pr : ∃ p : Int, atD [PyData.int 2147483647, PyData.int 2147483629, PyData.int 2147483587, PyData.int 2147483579] ((k + 1).fmod 4) = some (.int p) ∧ 1 ≤ p ∧ p ≤ 2147483647 := by
      generalize (k + 1).fmod 4 = r at f0
      have : r = 0 ∨ r = 1 ∨ r = 2 ∨ r = 3 := by omega
      rcases this with rfl | rfl | rfl | rfl
      · exact ⟨_, rfl, by decide, by decide⟩
      · exact ⟨_, rfl, by decide, by decide⟩
      · exact ⟨_, rfl, by decide, by decide⟩
      · exact ⟨_, rfl, by decide, by decide⟩
    obtain ⟨p, ep, p1, p2⟩ := pr
    have kk : (0 : Int) ≤ 91193 * (k + 1) * (k + 1) ∧ 91193 * (k + 1) * (k + 1) ≤ 91193 * 1000001 * 1000001 := by
      have h1 : (k + 1) * (k + 1) ≤ 1000001 * 1000001 := Int.mul_le_mul (by omega) (by omega) (by omega) (by omega)
      have h2 : (0 : Int) ≤ (k + 1) * (k + 1) := Int.mul_nonneg (by omega) (by omega)
      rw [Int.mul_assoc, Int.mul_assoc 91193 1000001]
      omega
    have bl : (Builtin.Int.intBits (s + 91193 * (k + 1) * (k + 1) + 3371) : Int) * 3 ≤ 134217728 := by
      have := bits_le (i := s + 91193 * (k + 1) * (k + 1) + 3371) (k := 80) (by omega) (by decide)
      omega
    have pn : ¬ p = 0 := by omega
    generalize hX : (s + 91193 * (k + 1) * (k + 1) + 3371) ^ 3 = Xv
    have b1 : (0 : Int) ≤ Xv.fmod p ∧ Xv.fmod p < p := by
      rw [Int.fmod_eq_emod_of_nonneg _ (by omega)]
      exact ⟨Int.emod_nonneg _ (by omega), Int.emod_lt_of_pos _ (by omega)⟩
    have c1 : CMul 91193 (k + 1) := .inl ⟨by decide, by decide⟩
    have c2 : CMul (91193 * (k + 1)) (k + 1) := .inr ⟨by omega, by omega⟩
    have c3 : CMul 2203 (k + 1) := .inl ⟨by decide, by decide⟩
    have c4 : CMul (Xv.fmod p) ((Xv.fmod p).fmod 10009 + 2203 * (k + 1)) := .inl ⟨by omega, by omega⟩
    have c5 : ∀ i : Int, cDiv i 307 := fun i => .inl ⟨by decide, by decide⟩
    simp [wb__law_take, atD3_0, atD3_1, atD3_2, ho, u0, ix3_2, ep, c1, c2, c3, c4, c5, bl, pn, hX]
    refine ⟨small (by decide), h _ _ ?_ ?_ ⟨_, _, _, rfl, a1, a3, a4, by omega, by omega⟩⟩
    · rw [Int.fmod_eq_emod_of_nonneg _ (by omega)]; exact Int.emod_nonneg _ (by omega)
    · rw [Int.fmod_eq_emod_of_nonneg _ (by omega)]; exact Int.emod_lt_of_pos _ (by omega)
theorem pot_mul (x A : Int) : CMul x (if 1000000000000000000 ≤ A then 1 else 0) := by
  right
  split <;> omega
theorem pot_end (cell : Int) {p : Nat} (hp : p ≤ 2) : potOk 0 [.int ((if cell < 0 then -cell else cell).fmod 1000000000000000000000000000000000000000000000000000000000000000000000000000000000000000000000000000000000000000000000000000000000000000000000000000000000000000000000000000000000000000000000000000000000000000000000000000000000000000000000000000000000000000000000000000000000000000000000000000000000000 * (if 1000000000000000000 ≤ (if cell < 0 then -cell else cell) then 1 else 0)), .int ((cell.fmod 2305843009213693951 * 84631 + 12553 * (p : Int) * (p : Int) + 6007).fmod 2305843009213693921), .int 0] := by
  have h1 : (0 : Int) ≤ (if cell < 0 then -cell else cell).fmod 1000000000000000000000000000000000000000000000000000000000000000000000000000000000000000000000000000000000000000000000000000000000000000000000000000000000000000000000000000000000000000000000000000000000000000000000000000000000000000000000000000000000000000000000000000000000000000000000000000000000000 ∧ (if cell < 0 then -cell else cell).fmod 1000000000000000000000000000000000000000000000000000000000000000000000000000000000000000000000000000000000000000000000000000000000000000000000000000000000000000000000000000000000000000000000000000000000000000000000000000000000000000000000000000000000000000000000000000000000000000000000000000000000000 < 1000000000000000000000000000000000000000000000000000000000000000000000000000000000000000000000000000000000000000000000000000000000000000000000000000000000000000000000000000000000000000000000000000000000000000000000000000000000000000000000000000000000000000000000000000000000000000000000000000000000000 := by
    rw [Int.fmod_eq_emod_of_nonneg _ (by decide)]
    exact ⟨Int.emod_nonneg _ (by decide), Int.emod_lt_of_pos _ (by decide)⟩
  generalize (if cell < 0 then -cell else cell).fmod 1000000000000000000000000000000000000000000000000000000000000000000000000000000000000000000000000000000000000000000000000000000000000000000000000000000000000000000000000000000000000000000000000000000000000000000000000000000000000000000000000000000000000000000000000000000000000000000000000000000000000 = y at h1
  have hz : ∀ A : Int, (if 1000000000000000000 ≤ A then (1 : Int) else 0) = 0 ∨ (if 1000000000000000000 ≤ A then (1 : Int) else 0) = 1 := fun A => by split <;> simp
  refine ⟨_, _, _, rfl, ?_, ?_, ?_, by decide, by decide⟩
  · rcases hz (if cell < 0 then -cell else cell) with e | e <;> rw [e] <;> omega
  · rw [Int.fmod_eq_emod_of_nonneg _ (by decide)]
    exact Int.emod_nonneg _ (by decide)
  · rw [Int.fmod_eq_emod_of_nonneg _ (by decide)]
    exact Int.emod_lt_of_pos _ (by decide)
theorem bits10 : (Builtin.Int.intBits 10 : Int) ≤ 4 := by
  have := bits_le (i := 10) (k := 4) (by decide) (by decide)
  omega
theorem bits1060 : (Builtin.Int.intBits 1000000000000000000000000000000000000000000000000000000000000 : Int) ≤ 200 := by
  have := bits_le (i := 1000000000000000000000000000000000000000000000000000000000000) (k := 200) (by decide) (by decide)
  omega
/-- the pot of a cell -/
def W__law_pot : OA := fun ds R => ∃ (sc : List Int) (p : Nat), ds = [.list (sc.map .int), .int (p : Nat)] ∧ p ≤ 2 ∧ sc.length ≤ 63 ∧ ∀ d, potOk 0 d → R (.ol d)
/-- level 1, calls: ; slots: 0 script 1 place 2 cell 3 own 4 small -/
def wb__law_pot : WS := (wSeq (wSet 2 (wIf (wBool (w2 (oCmp .Lt) (wName 1) (wCall oLen (wCons (wName 0) wNil)))) (w2 oIx (wName 0) (wName 1)) (w2 oAdd (w2 oAdd (w2 oMod (wCall oInt (wCons (wCall oSum (wCons (wSl (wName 0) wNo (wSo (wC (.int 1)))) wNil)) wNil)) (wC (.int 1000211))) (w2 oMul (wC (.int 7019)) (wName 1))) (wC (.int 433))))) (wSeq (wSet 3 (w2 oMul (w2 oMod (wCall oInt (wCons (wCall oAbs (wCons (wName 2) wNil)) wNil)) (w2 oPow (w2 oPow (wC (.int 10)) (wC (.int 60))) (wC (.int 5)))) (wCall oInt (wCons (w2 (oCmp .GtE) (wCall oAbs (wCons (wName 2) wNil)) (w2 oPow (wC (.int 10)) (wC (.int 18)))) wNil)))) (wSeq (wSet 4 (w2 oMod (wCall oInt (wCons (wName 2) wNil)) (wC (.int 2305843009213693951)))) (wRet (wLst (wCons (wName 3) (wCons (w2 oMod (wCall oInt (wCons (w2 oAdd (w2 oAdd (w2 oMul (wName 4) (wC (.int 84631))) (w2 oMul (w2 oMul (wC (.int 12553)) (wName 1)) (wName 1))) (wC (.int 6007))) wNil)) (wC (.int 2305843009213693921))) (wCons (wC (.int 0)) wNil))))))))
theorem rd__law_pot : ∀ ds R, W__law_pot ds R → ds.length = 2 → wb__law_pot { nx := fun _ => R (.fz .none), rt := fun r _ => R r } (Dn.entry ds (5 - ds.length)) := by
  rintro ds R ⟨sc, p, rfl, hp, hl, h⟩ _
  have b1 : (Builtin.Int.intBits 10 : Int) * 60 ≤ 134217728 := by have := bits10; omega
  have b2 : (Builtin.Int.intBits 10 : Int) * 18 ≤ 134217728 := by have := bits10; omega
  have b3 : (Builtin.Int.intBits 1000000000000000000000000000000000000000000000000000000000000 : Int) * 5 ≤ 134217728 := by have := bits1060; omega
  have m1 : ∀ x : Int, CMul x 84631 := fun x => .inr ⟨by decide, by decide⟩
  have m2 : ∀ x : Int, CMul 12553 x := fun x => .inl ⟨by decide, by decide⟩
  have m3 : ∀ x : Int, CMul x (p : Int) := fun x => .inr ⟨by omega, by omega⟩
  have m4 : ∀ x A : Int, CMul x (if 1000000000000000000 ≤ A then 1 else 0) := pot_mul
  have s3 : 3 ≤ sizeLine := small (by decide)
  by_cases c : p < sc.length
  · have c2 : (p : Int) < (sc.length : Int) := by omega
    have e : atD (sc.map PyData.int) (p : Int) = some (.int sc[p]) := by
      unfold atD ixN
      simp [c]
    simp [wb__law_pot, c2, e, b1, b2, b3, m1, m2, m3, m4, s3]
    exact h _ (pot_end _ hp)
  · have c2 : ¬ (p : Int) < (sc.length : Int) := by omega
    have e1 : (Dn.cutD (sc.map PyData.int) none (some 1)).all isI = true := by
      rw [List.all_eq_true]
      intro d hd
      have := List.mem_of_mem_drop (List.mem_of_mem_take hd)
      obtain ⟨i, _, rfl⟩ := List.mem_map.mp this
      rfl
    generalize hG : Dn.cutD (sc.map PyData.int) none (some 1) = G at e1
    have e2 := List.all_eq_true.mp e1
    simp [wb__law_pot, c2, hG, b1, b2, b3, m1, m2, m3, m4, s3]
    refine ⟨?_, h _ (pot_end _ hp)⟩
    exact e2
def W__law_of : OM := fun d0 ds R => ∃ (c : Nat) (xs : List PyData), potOk c d0 ∧ c ≤ 1000000 ∧ ds = [.list xs] ∧ 1 ≤ xs.length ∧ xs.length ≤ 64 ∧ immAll xs = true ∧ ∀ x d1, x ∈ xs → potOk (c + 1) d1 → R (.fz x) d1
/-- level 2, calls: _law_take; slots: 0 pot 1 some -/
def wb__law_of : WS := (wRet (w2 oIx (wName 1) (wDefM 0 2 W__law_take (wCons (wCall oLen (wCons (wName 1) wNil)) wNil))))
theorem rd__law_of : ∀ d0 ds R, W__law_of d0 ds R → d0.all Dn.flt = true → ds.length + 1 = 2 → wb__law_of { nx := fun ρ => atM R (.fz .none) ρ, rt := fun r ρ => atM R r ρ } (entryM d0 ds (2 - (ds.length + 1))) := by
  rintro d0 ds R ⟨c, xs, hp, hc, rfl, h1, h2, him, h⟩ hf _
  simp [wb__law_of, W__law_take, -List.all_eq_true, hf]
  refine ⟨c, hp, hc, by omega, by omega, fun x d1 x0 x1 hd => ?_⟩
  have e : ixN xs.length x = some x.toNat := by
    unfold ixN
    rw [if_pos x0, if_pos x1]
  have l : x.toNat < xs.length := by omega
  simp [atD, e, l]
  exact ⟨List.all_eq_true.mp hd.flt, h _ _ (List.getElem_mem l) hd⟩
theorem erase_Ts : ∀ (l : List Nat) (n : Nat), (Ts l).eraseIdx n = Ts (l.eraseIdx n)
  | [], _ => rfl
  | _ :: _, 0 => rfl
  | x :: l, n + 1 => by
    show nI x :: (Ts l).eraseIdx n = nI x :: Ts (l.eraseIdx n)
    rw [erase_Ts l n]
theorem erase_perm : ∀ (l : List Nat) (i : Nat) (h : i < l.length), (l[i] :: l.eraseIdx i).Perm l
  | [], i, h => absurd h (by simp)
  | x :: l, 0, _ => List.Perm.refl _
  | x :: l, i + 1, h => by
    have h' : i < l.length := by simpa using h
    show (l[i] :: x :: l.eraseIdx i).Perm (x :: l)
    exact (List.Perm.swap x (l[i]) (l.eraseIdx i)).trans ((erase_perm l i h').cons x)
theorem rngD_len (n : Nat) : (rngD 0 (n : Int)).length = n := by simp [rngD]
/-- some of a pool of unlike numbers: as many as there are -/
def W__law_some : OM := fun d0 ds R => ∃ (c : Nat) (pool : List Nat), potOk c d0 ∧ c ≤ 900000 ∧ ds = [.list (Ts pool), nI pool.length] ∧ pool.length ≤ 24 ∧ ∀ (out : List Nat) (d1 : List PyData), out.Perm pool → potOk (c + 24) d1 → R (.ol (Ts out)) d1
/-- level 2, calls: _law_take; slots: 0 pot 1 pool 2 many 3 left 4 found 5 lap -/
def wb__law_some : WS := (wSeq (wPar 3 4 (wCons (wCall oLst (wCons (wName 1) wNil)) (wCons (wLst wNil) wNil))) (wSeq (wFor (wRng1 (wName 2)) (gPut 5) (wEx (wApp 4 (wPopAt 3 (wDefM 0 2 W__law_take (wCons (wCall oLen (wCons (wName 3) wNil)) wNil)))))) (wRet (wName 4))))
theorem rd__law_some : ∀ d0 ds R, W__law_some d0 ds R → d0.all Dn.flt = true → ds.length + 1 = 3 → wb__law_some { nx := fun ρ => atM R (.fz .none) ρ, rt := fun r ρ => atM R r ρ } (entryM d0 ds (6 - (ds.length + 1))) := by
  rintro d0 ds R ⟨c, pool, hp, hc, rfl, h1, h⟩ hf _
  simp [wb__law_some]
  refine for_go (fun i ρ => ∃ (d1 : List PyData) (left out : List Nat) (u : Dn.Slot), ρ = [.pm d1, .fz (.list (Ts pool)), .fz (nI pool.length), .ol (Ts left), .ol (Ts out), u] ∧ u.isPm = false ∧ potOk (c + i) d1 ∧ (out ++ left).Perm pool ∧ out.length = i) (rngD 0 (pool.length : Nat)) (fun R h => ?_) ⟨d0, pool, [], .un, rfl, rfl, hp, List.Perm.refl _, rfl⟩ ?_ ?_
  · simp [nI, show Ts [] = [] from rfl] at h ⊢
    exact ⟨by omega, h⟩
  · rintro i d ρ hd ⟨d1, left, out, u, rfl, hu, hp1, pm, ho⟩
    have hi : i < pool.length := by
      have := (List.getElem?_eq_some_iff.mp hd).1
      simpa [rngD] using this
    have ll : left.length = pool.length - i := by
      have := pm.length_eq
      rw [List.length_append] at this
      omega
    simp [hu, W__law_take, Ts_len, -List.all_eq_true, hp1.flt]
    refine ⟨c + i, hp1, by omega, by omega, by omega, fun x d2 x0 x1 hp2 => ?_⟩
    have e : ixN left.length x = some x.toNat := by
      unfold ixN
      rw [if_pos x0, if_pos (by omega)]
    have l : x.toNat < left.length := by omega
    have g : (Ts left)[x.toNat]? = some (nI left[x.toNat]) := by rw [getElem_Ts, List.getElem?_eq_getElem l]; rfl
    rw [e]
    simp only []
    rw [g]
    refine ⟨by omega, smallL (by omega), d2, left.eraseIdx x.toNat, out ++ [left[x.toNat]], _, ⟨rfl, erase_Ts _ _, by simp [Ts], rfl⟩, rfl, hp2.up (by omega), ?_, by simp [ho]⟩
    rw [List.append_assoc]
    exact (List.Perm.append_left out (erase_perm left x.toNat l)).trans pm
  · rintro ρ ⟨d1, left, out, u, rfl, hu, hp1, pm, ho⟩
    rw [rngD_len] at ho hp1
    have ll : left = [] := by
      have := pm.length_eq
      rw [List.length_append] at this
      exact List.length_eq_zero_iff.mp (by omega)
    subst ll
    rw [List.append_nil] at pm
    simp [-List.all_eq_true, hp1.flt]
    exact ⟨List.all_eq_true.mp hp1.flt, h out d1 pm (hp1.up (by omega))⟩
def W__law_cells : OA := fun ds R => ∃ (xs : List PyData), ds = [.list xs, .int 3] ∧ xs.length ≤ 63 ∧ ∀ n : Nat, 1 ≤ n → n ≤ 3 → R (.ol (Ts (List.range n)))
/-- level 1, calls: ; slots: 0 script 1 limit -/
def wb__law_cells : WS := (wRet (wLstRg1 (wCall oMax (wCons (wC (.int 1)) (wCons (wCall oMin (wCons (wName 1) (wCons (wCall oLen (wCons (wName 0) wNil)) wNil))) wNil)))))
theorem rd__law_cells : ∀ ds R, W__law_cells ds R → ds.length = 2 → wb__law_cells { nx := fun _ => R (.fz .none), rt := fun r _ => R r } (Dn.entry ds (2 - ds.length)) := by
  rintro ds R ⟨xs, rfl, h1, h⟩ _
  have hm : ∃ n : Nat, (if (if (xs.length : Int) < 3 then (xs.length : Int) else 3) > 1 then (if (xs.length : Int) < 3 then (xs.length : Int) else 3) else 1) = (n : Int) ∧ 1 ≤ n ∧ n ≤ 3 := by
    refine ⟨if (if xs.length < 3 then xs.length else 3) > 1 then (if xs.length < 3 then xs.length else 3) else 1, ?_, ?_, ?_⟩
    all_goals split <;> split <;> (try split) <;> (try split) <;> omega
  obtain ⟨n, e, n1, n2⟩ := hm
  simp only [gt_iff_lt] at e
  simp [wb__law_cells, oMin, oMax]
  rw [e, rngD_T]
  exact ⟨by omega, h n n1 n2⟩
def W__law_turn : OM := fun d0 ds R => ∃ (c n : Nat), potOk c d0 ∧ c ≤ 900000 ∧ ds = [nI n] ∧ n ≤ 24 ∧ ∀ (a : List Nat) (d1 : List PyData), Pm a → a.length = n → potOk (c + 24) d1 → R (.fz (T a)) d1
/-- level 3, calls: _law_some; slots: 0 pot 1 many -/
def wb__law_turn : WS := (wRet (wCall oTup (wCons (wDefM 0 3 W__law_some (wCons (wLstRg1 (wName 1)) (wCons (wName 1) wNil))) wNil)))
theorem pm_of {a : List Nat} {n : Nat} (h : a.Perm (List.range n)) : Pm a ∧ a.length = n := by
  have l : a.length = n := by rw [h.length_eq, List.length_range]
  refine ⟨⟨fun i hi => ?_, h.nodup_iff.mpr List.nodup_range⟩, l⟩
  rw [l]
  exact List.mem_range.mp (h.mem_iff.mp hi)
theorem rd__law_turn : ∀ d0 ds R, W__law_turn d0 ds R → d0.all Dn.flt = true → ds.length + 1 = 2 → wb__law_turn { nx := fun ρ => atM R (.fz .none) ρ, rt := fun r ρ => atM R r ρ } (entryM d0 ds (2 - (ds.length + 1))) := by
  rintro d0 ds R ⟨c, n, hp, hc, rfl, h1, h⟩ hf _
  simp [wb__law_turn, W__law_some, nI, rngD_T, -List.all_eq_true, hf]
  refine ⟨by omega, c, hp, hc, List.range n, ⟨rfl, by simp⟩, by simpa using h1, fun out d1 pm hd => ?_⟩
  obtain ⟨q1, q2⟩ := pm_of pm
  exact ⟨hd.flt, h out d1 q1 q2 hd⟩
end K05
/-! K7: rounds led along, put into sequence. -/
namespace K05
open PySem PySem.Spec PyProof.Rows L2 Dn PySem.W
/-! the sequence of rounds -/
theorem alike_Ts : ∀ a b : List Nat, alikeAll (Ts a) (Ts b) = true
  | [], _ => by simp [Ts, alikeAll]
  | _ :: _, [] => by simp [Ts, alikeAll]
  | x :: a, y :: b => by
    have e1 : Ts (x :: a) = nI x :: Ts a := rfl
    have e2 : Ts (y :: b) = nI y :: Ts b := rfl
    rw [e1, e2, alikeAll, alike_Ts a b]
    simp [nI, alike]
theorem alike_T (a b : List Nat) : alike (T a) (T b) = true := by
  unfold T
  rw [alike]
  exact alike_Ts a b
/-- by the first place, where these are unlike -/
theorem lt_heads {x y : Nat} (ne : x ≠ y) (r t : List Nat) : dataLt (T (x :: r)) (T (y :: t)) = decide (x < y) := by
  have e1 : Ts (x :: r) = .int (x : Int) :: Ts r := rfl
  have e2 : Ts (y :: t) = .int (y : Int) :: Ts t := rfl
  have ni : ¬ (x : Int) = (y : Int) := by omega
  unfold T
  rw [e1, e2, dataLt_tuple, dataLt_all_no (by simp [alike]) (by rw [eqv_int]; exact decide_eq_false ni), dataLt_int]
  by_cases c : x < y
  · rw [decide_eq_true c, decide_eq_true (by omega)]
  · rw [decide_eq_false c, decide_eq_false (by omega)]
theorem cyc_head (b : List Nat) (s : Nat) : ∃ r, cyc b s = s :: r := by
  unfold cyc
  obtain ⟨k, e⟩ : ∃ k, per b s = k + 1 := ⟨per b s - 1, by have := per_pos b s; omega⟩
  rw [e, List.range_succ_eq_map, List.map_cons]
  exact ⟨_, rfl⟩
theorem rounds_lt (b : List Nat) : (rounds b).Pairwise fun c d => dataLt (T c) (T d) = true := by
  unfold rounds
  rw [List.pairwise_map]
  refine List.Pairwise.imp_of_mem ?_ (List.pairwise_lt_range.filter _)
  intro s t _ _ lt
  obtain ⟨r1, e1⟩ := cyc_head b s
  obtain ⟨r2, e2⟩ := cyc_head b t
  rw [e1, e2, lt_heads (by omega)]
  exact decide_eq_true lt
def leD : PyData → PyData → Bool := dataLe false id
theorem leD_eq (x y : PyData) : leD x y = !dataLt y x := rfl
theorem leD_total : TotalLe leD := by
  unfold leD dataLe
  exact sortLe_total _ _ _
theorem dlt_self (d : PyData) : dataLt d d = false := lex_irrefl _
theorem lt_le {x y : PyData} (h : dataLt x y = true) : leD x y = true := by
  rcases leD_total.total x y with z | z
  · exact z
  · rw [leD_eq, h] at z
    cases z
theorem sort_rounds {b : List Nat} {L : List (List Nat)} (p : L.Perm (rounds b)) : sortD (L.map T) = (rounds b).map T := by
  have pw : ((rounds b).map T).Pairwise fun x y => dataLt x y = true := List.pairwise_map.mpr (rounds_lt b)
  refine (sort_unique leD_total (l := L.map T) (pw.imp fun z => lt_le z) fun c => ?_).symm
  have p2 : (((rounds b).map T).filter (sameRank leD c)).Perm ((L.map T).filter (sameRank leD c)) := ((p.map T).filter _).symm
  have one : (((rounds b).map T).filter (sameRank leD c)).length ≤ 1 := by
    have pf : (((rounds b).map T).filter (sameRank leD c)).Pairwise fun x y => False := by
      refine List.Pairwise.imp_of_mem ?_ (pw.filter _)
      intro x y hx hy lt
      have h1 := (List.mem_filter.mp hx).2
      have h2 := (List.mem_filter.mp hy).2
      unfold sameRank at h1 h2
      rw [Bool.and_eq_true] at h1 h2
      have := leD_total.trans _ _ _ h2.2 h1.1
      rw [leD_eq, lt] at this
      cases this
    generalize ((rounds b).map T).filter (sameRank leD c) = F at pf
    match F, pf with
    | [], _ => simp
    | [_], _ => simp
    | x :: y :: _, pf =>
      cases pf with
      | cons h _ => exact (h y (by simp)).elim
  generalize ((rounds b).map T).filter (sameRank leD c) = F at p2 one
  generalize (L.map T).filter (sameRank leD c) = G at p2
  match F, one, p2 with
  | [], _, p2 => exact (List.nil_perm.mp p2).symm
  | [x], _, p2 => exact (List.singleton_perm.mp p2)
theorem sort_alike (L : List (List Nat)) : AllAlike (L.map T) := AllAlike.of alike_T
theorem sort_able {L : List (List Nat)} (h : ∀ c ∈ L, c ≠ []) : Sortable (L.map T) := .inl fun d hd => by
  obtain ⟨c, hc, rfl⟩ := List.mem_map.mp hd
  match c, h c hc with
  | x :: r, _ => exact ⟨nI x, Ts r, rfl⟩
/-! rounds by another turn -/
theorem cyc_cj {a c : List Nat} (h1 : Pm a) (h3 : Pm c) (e : a.length = c.length) {s : Nat} (hs : s < a.length) : (cyc a s).map (ap c) = cyc (cj a c) (ap c s) := by
  unfold cyc
  rw [List.map_map, per_cj h1 h3 e hs]
  exact List.map_congr_left fun t _ => (it_cj h1 h3 e hs t).symm
theorem cyc_turn {b : List Nat} (h : Pm b) {x j : Nat} (hx : x < b.length) (hj : j < per b x) : (cyc b x).drop j ++ (cyc b x).take j = cyc b (it b j x) := by
  have pe : per b (it b j x) = per b x := per_Rc h hx ⟨j, rfl⟩
  apply List.ext_getElem?
  intro t
  by_cases c : t < per b x - j
  · rw [List.getElem?_append_left (by rw [List.length_drop, cyc_len]; exact c), List.getElem?_drop, cyc_get (by omega), cyc_get (by rw [pe]; omega), Nat.add_comm, it_add]
  · rw [List.getElem?_append_right (by rw [List.length_drop, cyc_len]; omega), List.length_drop, cyc_len]
    by_cases d : t < per b x
    · rw [List.getElem?_take, if_pos (by omega), cyc_get (by omega), cyc_get (by rw [pe]; exact d), ← it_add, ← it_mod h hx (t + j)]
      congr 2
      have : t + j = (t - (per b x - j)) + per b x := by omega
      rw [this, Nat.add_mod_right, Nat.mod_eq_of_lt (by omega)]
    · rw [List.getElem?_eq_none (by rw [List.length_take, cyc_len]; omega), List.getElem?_eq_none (by rw [cyc_len, pe]; omega)]
/-- the least place of a round -/
noncomputable def lp (b : List Nat) (x : Nat) : Nat := Classical.choose (least (a := b) x)
theorem lp_spec (b : List Nat) (x : Nat) : Rc b x (lp b x) ∧ ∀ p, Rc b x p → lp b x ≤ p := Classical.choose_spec (least (a := b) x)
theorem lp_uniq {b : List Nat} {x m : Nat} (h1 : Rc b x m) (h2 : ∀ p, Rc b x p → m ≤ p) : lp b x = m := by
  have := lp_spec b x
  have a1 := this.2 m h1
  have a2 := h2 _ this.1
  omega
/-- a round led along by c, from its least place on -/
noncomputable def led (a c : List Nat) (row : List Nat) : List Nat := cyc (cj a c) (lp (cj a c) (ap c (row.headD 0)))
theorem led_cyc (a c : List Nat) (s : Nat) : led a c (cyc a s) = cyc (cj a c) (lp (cj a c) (ap c s)) := by
  obtain ⟨r, e⟩ := cyc_head a s
  unfold led
  rw [e]
  rfl
theorem Rc_cj {a c : List Nat} (h1 : Pm a) (h3 : Pm c) (e : a.length = c.length) {s p : Nat} (hs : s < a.length) (hp : p < a.length) : Rc (cj a c) (ap c s) (ap c p) ↔ Rc a s p := by
  constructor
  · rintro ⟨t, q⟩
    rw [it_cj h1 h3 e hs] at q
    exact ⟨t, ap_inj h3 (by rw [← e]; exact it_lt h1 hs t) (by omega) q⟩
  · rintro ⟨t, rfl⟩
    exact ⟨t, it_cj h1 h3 e hs t⟩
theorem led_perm {a c : List Nat} (h1 : Pm a) (h3 : Pm c) (e : a.length = c.length) : ((rounds a).map (led a c)).Perm (rounds (cj a c)) := by
  have hb := cj_pm h1 h3 e
  have bl := cj_len a c
  have nb : (rounds (cj a c)).Nodup := by
    rw [List.nodup_iff_pairwise_ne]
    refine (rounds_lt (cj a c)).imp fun {x y} z q => ?_
    rw [q, dlt_self] at z
    cases z
  have na : ((rounds a).map (led a c)).Nodup := by
    unfold rounds
    rw [List.map_map, List.nodup_iff_pairwise_ne, List.pairwise_map]
    refine List.Pairwise.imp_of_mem ?_ (List.pairwise_lt_range.filter _)
    intro s t hs ht lt q
    rw [List.mem_filter] at hs ht
    have hs1 := List.mem_range.mp hs.1
    have ht1 := List.mem_range.mp ht.1
    have hs2 : isMin a s = true := by have := hs.2; simp at this; exact this.1
    have ht2 : isMin a t = true := by have := ht.2; simp at this; exact this.1
    have q' : led a c (cyc a s) = led a c (cyc a t) := q
    rw [led_cyc, led_cyc] at q'
    obtain ⟨r1, e1⟩ := cyc_head (cj a c) (lp (cj a c) (ap c s))
    obtain ⟨r2, e2⟩ := cyc_head (cj a c) (lp (cj a c) (ap c t))
    rw [e1, e2] at q'
    have em := (List.cons.inj q').1
    have x1 := (lp_spec (cj a c) (ap c s)).1
    have x2 := (lp_spec (cj a c) (ap c t)).1
    rw [← em] at x2
    have sl : ap c s < (cj a c).length := by rw [bl]; exact ap_lt h3 (by omega)
    have tl : ap c t < (cj a c).length := by rw [bl]; exact ap_lt h3 (by omega)
    have r := Rc.trans x2 (Rc.symm hb sl x1)
    have := (isMin_iff h1 ht1).mp ht2 s ((Rc_cj h1 h3 e ht1 hs1).mp r)
    omega
  refine (List.perm_ext_iff_of_nodup na nb).mpr fun d => ?_
  rw [List.mem_map, mem_rounds]
  constructor
  · rintro ⟨row, hrow, rfl⟩
    obtain ⟨s, hs, _, p1, rfl⟩ := mem_rounds.mp hrow
    have sl : ap c s < (cj a c).length := by rw [bl]; exact ap_lt h3 (by omega)
    have sp := lp_spec (cj a c) (ap c s)
    have ml := sp.1.lt hb sl
    refine ⟨lp (cj a c) (ap c s), ml, (isMin_iff hb ml).mpr fun p hp => sp.2 p (sp.1.trans hp), ?_, led_cyc a c s⟩
    rw [per_Rc hb sl sp.1, per_cj h1 h3 e hs]
    exact p1
  · rintro ⟨m, hm, mm, p1, rfl⟩
    rw [bl] at hm
    have pl := ap_lt (inv_pm h3) (p := m) (by rw [inv_len]; exact hm)
    rw [inv_len] at pl
    have pa : ap (inv c) m < a.length := by omega
    have em := ap_inv2 h3 hm
    have sp := lp_spec a (ap (inv c) m)
    have sl := sp.1.lt h1 pa
    have pe : per a (lp a (ap (inv c) m)) = per (cj a c) m := by
      rw [per_Rc h1 pa sp.1, ← per_cj h1 h3 e pa, em]
    refine ⟨cyc a (lp a (ap (inv c) m)), mem_rounds.mpr ⟨_, sl, (isMin_iff h1 sl).mpr fun p hp => sp.2 p (sp.1.trans hp), by omega, rfl⟩, ?_⟩
    rw [led_cyc]
    congr 1
    refine lp_uniq ?_ fun q hq => ?_
    · have := (Rc_cj h1 h3 e sl pa).mpr (sp.1.symm h1 pa)
      rwa [em] at this
    · have r1 : Rc (cj a c) m (ap c (lp a (ap (inv c) m))) := by
        have := (Rc_cj h1 h3 e pa sl).mpr sp.1
        rwa [em] at this
      exact (isMin_iff hb (by rw [bl]; exact hm)).mp mm q (r1.trans hq)
end K05
/-! K8: the law's looks. -/
namespace K05
open PySem PySem.Spec PyProof.Rows L2 Dn PySem.W
theorem cut_drop (l : List Nat) (j : Nat) (h : j ≤ l.length) : Dn.cutD (Ts l) (some (j : Int)) none = Ts (l.drop j) := by
  unfold Dn.cutD
  rw [HT.sIx_nat, HT.sIx_none, Ts_len, Nat.min_eq_left h]
  have e : (Ts l).drop j = Ts (l.drop j) := by simp [Ts]
  rw [e]
  exact List.take_of_length_le (by rw [Ts_len, List.length_drop]; exact Nat.le_refl _)
theorem cut_take (l : List Nat) (j : Nat) (h : j ≤ l.length) : Dn.cutD (Ts l) none (some (j : Int)) = Ts (l.take j) := by
  unfold Dn.cutD
  rw [HT.sIx_nat, HT.sIx_none, Ts_len, Nat.min_eq_left h]
  simp [Ts]
def W__law_led : OA := fun ds R => ∃ a c : List Nat, ds = [.tuple ((rounds a).map T), T c] ∧ Pm a ∧ Pm c ∧ a.length = c.length ∧ c.length ≤ 24 ∧ R (.fz (.tuple ((rounds (cj a c)).map T)))
/-- level 1, calls: ; slots: 0 rounds 1 turn 2 found 3 row 4 its 5 at 6 place -/
def wb__law_led : WS := (wSeq (wSet 2 (wLst wNil)) (wSeq (wFor (wSeqI (wName 0)) (gPut 3) (wSeq (wSet 4 (wLc (wNameI 3) (gPut 6) wYes (w2 oIx (wName 1) (wName 6)) [6])) (wSeq (wSet 5 (wIdx (wName 4) (wCall oMin (wCons (wName 4) wNil)))) (wEx (wApp 2 (wCall oTup (wCons (w2 oAdd (wSl (wName 4) (wSo (wName 5)) wNo) (wSl (wName 4) wNo (wSo (wName 5)))) wNil))))))) (wRet (wCall oTup (wCons (wCall oSorted (wCons (wName 2) wNil)) wNil)))))
/-- the loop's body -/
def bLed : WS := (wSeq (wSet 4 (wLc (wNameI 3) (gPut 6) wYes (w2 oIx (wName 1) (wName 6)) [6])) (wSeq (wSet 5 (wIdx (wName 4) (wCall oMin (wCons (wName 4) wNil)))) (wEx (wApp 2 (wCall oTup (wCons (w2 oAdd (wSl (wName 4) (wSo (wName 5)) wNo) (wSl (wName 4) wNo (wSo (wName 5)))) wNil))))))
theorem wb_led : wb__law_led = (wSeq (wSet 2 (wLst wNil)) (wSeq (wFor (wSeqI (wName 0)) (gPut 3) bLed) (wRet (wCall oTup (wCons (wCall oSorted (wCons (wName 2) wNil)) wNil))))) := rfl
/-- one round led along -/
theorem rd_led {a c : List Nat} (h1 : Pm a) (h3 : Pm c) (e : a.length = c.length) (h24 : c.length ≤ 24) {s : Nat} (hs : s < a.length) (s0 : Dn.Slot) (fs : List PyData) (hf : fs.length ≤ 24) (u v w : Dn.Slot) (hu : u.isPm = false) (hv : v.isPm = false) (hw : w.own = false) (E : EndsD)
    (h : ∀ u v w : Dn.Slot, u.isPm = false → v.isPm = false → w.own = false → E.nx [s0, .fz (T c), .ol (fs ++ [T (led a c (cyc a s))]), .fz (.tuple (Ts (cyc a s))), u, v, w]) :
    bLed E [s0, .fz (T c), .ol fs, .fz (.tuple (Ts (cyc a s))), u, v, w] := by
  have hw2 := own_pm hw
  have hb := cj_pm h1 h3 e
  have bl := cj_len a c
  have sl : ap c s < (cj a c).length := by rw [bl]; exact ap_lt h3 (by omega)
  have pl := (per_spec h1 hs).1
  have pe := per_cj h1 h3 e hs
  simp [bLed]
  refine lc_m (cyc a s) nI (fun p => nI (ap c p)) rfl (small (by rw [cyc_len]; omega)) (by simp [hw]) trivial (fun i p hp => ?_) ?_
  · have hm := List.mem_of_getElem? hp
    have hpl : p < c.length := by
      have := ((mem_cyc h1 hs).mp hm)
      have := Rc.lt h1 hs this
      omega
    have ea := at_T hpl
    have tk : ((cyc a s).map fun p => nI (ap c p)).take (i + 1) = ((cyc a s).map fun p => nI (ap c p)).take i ++ [nI (ap c p)] := take_at (by simp [hp])
    simp only [nI] at ea
    simp [T, hw2, nI, ea]
    first | done | exact tk.symm | simpa [nI] using tk.symm
  · have ei : ((cyc a s).map fun p => nI (ap c p)) = Ts (cyc (cj a c) (ap c s)) := by
      rw [← cyc_cj h1 h3 e hs]
      simp [Ts]
    rw [ei]
    simp [hu, hv, oMin, isLst, -List.all_eq_true]
    obtain ⟨r0, e0⟩ := cyc_head (cj a c) (ap c s)
    refine ⟨by rw [e0]; simp [Ts], fun m hm hle => ?_⟩
    obtain ⟨m0, hm0, rfl⟩ := List.mem_map.mp hm
    obtain ⟨j, hj, ej⟩ := List.mem_map.mp hm0
    have hj' := List.mem_range.mp hj
    have ml : m0 = lp (cj a c) (ap c s) := by
      refine (lp_uniq ⟨j, ej⟩ fun p hp => ?_).symm
      have := hle (nI p) (List.mem_map.mpr ⟨p, (mem_cyc hb sl).mpr hp, rfl⟩)
      simp only [nI] at this
      omega
    refine ⟨List.all_eq_true.mp (isI_Ts _), j, ⟨nI m0, ?_, rfl⟩, fun k hk => ?_, ?_⟩
    · simp [Ts, cyc_get hj', ej]
    · intro x hx
      rw [show (Ts (cyc (cj a c) (ap c s)))[k]? = some (nI (it (cj a c) k (ap c s))) from by simp [Ts, cyc_get (show k < per (cj a c) (ap c s) by omega)]] at hx
      obtain rfl := (Option.some.inj hx).symm
      simp only [nI]
      intro z
      have z2 : it (cj a c) k (ap c s) = it (cj a c) j (ap c s) := by omega
      have := it_eq hb sl (by omega) hj' z2
      omega
    · have c1 := cut_drop (cyc (cj a c) (ap c s)) j (by rw [cyc_len]; omega)
      have c2 := cut_take (cyc (cj a c) (ap c s)) j (by rw [cyc_len]; omega)
      have ct := cyc_turn hb sl hj'
      have pb : per (cj a c) (ap c s) ≤ 24 := by omega
      have et : Ts ((cyc (cj a c) (ap c s)).drop j) ++ Ts ((cyc (cj a c) (ap c s)).take j) = Ts (led a c (cyc a s)) := by
        rw [led_cyc, ← ml, ← ej, ← ct]
        simp [Ts]
      have ln : (Ts (led a c (cyc a s))).length ≤ 24 := by
        rw [Ts_len, led_cyc, ← ml, ← ej, cyc_len, per_Rc hb sl ⟨j, rfl⟩]
        exact pb
      have l2 : (Ts ((cyc (cj a c) (ap c s)).drop j)).length + (Ts ((cyc (cj a c) (ap c s)).take j)).length ≤ 24 := by
        rw [← List.length_append, et]
        exact ln
      simp [c1, c2, imm_Ts, et]
      refine ⟨small (by omega), small (by omega), ?_⟩
      exact h _ _ _ rfl rfl hw
theorem rd__law_led : ∀ ds R, W__law_led ds R → ds.length = 2 → wb__law_led { nx := fun _ => R (.fz .none), rt := fun r _ => R r } (Dn.entry ds (7 - ds.length)) := by
  rintro ds R ⟨a, c, rfl, h1, h3, e, h24, h⟩ _
  have rl : (rounds a).length ≤ 24 := by have := rounds_len a; omega
  rw [wb_led]
  simp [T]
  refine for_go (fun j ρ => ∃ u v w x : Dn.Slot, ρ = [.fz (.tuple ((rounds a).map T)), .fz (T c), .ol (((rounds a).map fun r => T (led a c r)).take j), u, v, w, x] ∧ u.isPm = false ∧ v.isPm = false ∧ w.isPm = false ∧ x.own = false) ((rounds a).map T) (fun R h => by simpa [T] using h) ⟨.un, .un, .un, .un, rfl, rfl, rfl, rfl, rfl⟩ ?_ ?_
  · rintro j d ρ hd ⟨u, v, w, x, rfl, hu, hv, hw, hx⟩
    obtain ⟨s, hs, hc, rfl⟩ := get_rounds hd
    have jl := (List.getElem?_eq_some_iff.mp hc).1
    have tk : ((rounds a).map fun r => T (led a c r)).take (j + 1) = ((rounds a).map fun r => T (led a c r)).take j ++ [T (led a c (cyc a s))] := take_at (by simp [hc])
    simp [hu]
    have sl : (((rounds a).map fun r => T (led a c r)).take j).length ≤ 24 := by
      have := List.length_take_le j ((rounds a).map fun r => T (led a c r))
      have := List.length_map (as := rounds a) fun r => T (led a c r)
      rw [List.length_take] at *
      omega
    refine rd_led h1 h3 e h24 hs _ (((rounds a).map fun r => T (led a c r)).take j) sl v w x hv hw hx _ fun u v w hu hv hw => ?_
    rw [← tk]
    exact ⟨_, u, v, w, rfl, rfl, hu, hv, hw⟩
  · rintro ρ ⟨u, v, w, x, rfl, hu, hv, hw, hx⟩
    have e1 : ((rounds a).map T).length = (rounds a).length := List.length_map ..
    have e3 : (((rounds a).map fun r => T (led a c r)).take ((rounds a).map T).length) = (rounds a).map fun r => T (led a c r) := List.take_of_length_le (by rw [e1, List.length_map]; exact Nat.le_refl _)
    rw [e3]
    have e2 : ((rounds a).map fun r => T (led a c r)) = ((rounds a).map (led a c)).map T := by rw [List.map_map]; rfl
    rw [e2]
    have so := sort_rounds (led_perm h1 h3 e)
    have al := sort_alike ((rounds a).map (led a c))
    have sa : Sortable (((rounds a).map (led a c)).map T) := sort_able fun r hr => by
      obtain ⟨y, hy, rfl⟩ := List.mem_map.mp hr
      obtain ⟨s, hs, rfl⟩ := List.mem_map.mp hy
      rw [led_cyc]
      obtain ⟨r0, e0⟩ := cyc_head (cj a c) (lp (cj a c) (ap c s))
      rw [e0]
      exact List.cons_ne_nil _ _
    have la := lay_Tr ((rounds a).map (led a c))
    have ll : (((rounds a).map (led a c)).map T).length ≤ 24 := by simp; omega
    have dp : ∀ d ∈ ((rounds a).map (led a c)).map T, d.depth ≤ 60 := fun d hd => by
      obtain ⟨y, _, rfl⟩ := List.mem_map.mp hd
      have := depth_T y
      omega
    generalize ((rounds a).map (led a c)).map T = L at so al sa la ll dp
    simp [hx, own_pm hx, oSorted, so]
    exact ⟨al, sa, la, dp, small (by omega), imm_Tr _, h⟩
end K05
/-! K9: orders, looked at by the law. -/
namespace K05
open PySem PySem.Spec PyProof.Rows L2 Dn PySem.W
theorem rng1 (a : Nat) : rngD 1 ((a : Int) + 1) = (List.range a).map fun i => nI (i + 1) := by
  unfold rngD nI
  rw [show ((a : Int) + 1 - 1).toNat = a from by omega]
  exact List.map_congr_left fun i _ => by rw [show (1 : Int) + (i : Nat) = ((i + 1 : Nat) : Int) from by omega]
theorem fmod0 (a i : Nat) : ((a : Int).fmod ((i : Int) + 1) = 0) = (a % (i + 1) = 0) := by
  rw [Int.fmod_eq_emod_of_nonneg _ (by omega), show ((i : Int) + 1) = ((i + 1 : Nat) : Int) from by omega, ← Int.natCast_emod]
  exact propext ⟨fun h => by omega, fun h => by omega⟩
def W__law_common : OA := fun ds R => ∃ a b : Nat, ds = [nI a, nI b] ∧ 1 ≤ a ∧ a ≤ 400000 ∧ R (.fz (nI (Nat.gcd a b)))
/-- level 1, calls: ; slots: 0 one 1 other 2 number -/
def wb__law_common : WS := (wRet (wCall oMax (wCons (wLc (wIc (wRng2 (wC (.int 1)) (w2 oAdd (wName 0) (wC (.int 1))))) (gPut 2) (wAndT (wBool (w2 oEq (w2 oMod (wName 0) (wName 2)) (wC (.int 0)))) (wBool (w2 oEq (w2 oMod (wName 1) (wName 2)) (wC (.int 0))))) (wName 2) [2]) wNil)))
theorem rd__law_common : ∀ ds R, W__law_common ds R → ds.length = 2 → wb__law_common { nx := fun _ => R (.fz .none), rt := fun r _ => R r } (Dn.entry ds (3 - ds.length)) := by
  rintro ds R ⟨a, b, rfl, h1, h2, h⟩ _
  simp [wb__law_common, nI]
  refine ⟨by omega, ?_⟩
  refine lc_f (List.range a) (fun i => nI (i + 1)) (fun i => decide (a % (i + 1) = 0) && decide (b % (i + 1) = 0)) (fun i => nI (i + 1)) (rng1 a) (by rw [sizeLine_eq, List.length_range]; omega) ?_ trivial (fun i x hx => ?_) ?_
  · simp
  · have hx2 := hx
    have ei : i = x := by
      rw [List.getElem?_range] at hx
      · exact Option.some.inj hx
      · exact (List.length_range (n := a)) ▸ (List.getElem?_eq_some_iff.mp hx2).1
    subst ei
    have il : i < a := by
      have := (List.getElem?_eq_some_iff.mp hx2).1
      rwa [List.length_range] at this
    have m1 : min i a = i := by omega
    have m2 : min (i + 1) a = i + 1 := by omega
    simp [nI, fmod0, eqv_int, sh_int]
    rw [m1, m2, List.range_succ, List.filter_append, List.map_append]
    refine ⟨by omega, ?_⟩
    by_cases c1 : a % (i + 1) = 0
    · rw [if_pos c1]
      refine ⟨by omega, ?_⟩
      by_cases c2 : b % (i + 1) = 0
      · rw [if_pos c2]; simp [c1, c2]
      · rw [if_neg c2]; simp [c1, c2]
    · rw [if_neg c1]; simp [c1]
  · simp [oMax]
    have g1 : 0 < Nat.gcd a b := Nat.gcd_pos_of_pos_left _ h1
    have g2 : Nat.gcd a b ≤ a := Nat.gcd_le_left _ h1
    have ge : Nat.gcd a b - 1 + 1 = Nat.gcd a b := by omega
    have d1 := Nat.gcd_dvd_left a b
    have d2 := Nat.gcd_dvd_right a b
    refine ⟨fun x _ => .inr rfl, ⟨Nat.gcd a b - 1, by omega, ?_, ?_⟩, fun m x hx x1 x2 e hm => ?_⟩
    · rw [ge]; exact Nat.mod_eq_zero_of_dvd d1
    · rw [ge]; exact Nat.mod_eq_zero_of_dvd d2
    · have hm2 := hm _ (Nat.gcd a b - 1) (by omega) (by rw [ge]; exact Nat.mod_eq_zero_of_dvd d1) (by rw [ge]; exact Nat.mod_eq_zero_of_dvd d2) rfl
      rw [ge] at hm2
      have le : x + 1 ≤ Nat.gcd a b := Nat.le_of_dvd g1 (Nat.dvd_gcd (Nat.dvd_of_mod_eq_zero x1) (Nat.dvd_of_mod_eq_zero x2))
      simp only [nI] at e hm2
      have : m = ((Nat.gcd a b : Nat) : Int) := by omega
      rw [this]
      exact h
end K05
/-! K10: the law's look at orders. -/
namespace K05
open PySem PySem.Spec PyProof.Rows L2 Dn PySem.W
def W__law_are_orders_right : OA := fun ds R => ∃ a b : List Nat, ds = [T a, T b] ∧ Pm a ∧ Pm b ∧ a.length = b.length ∧ 1 ≤ a.length ∧ a.length ≤ 9 ∧ R (.fz (.bool true))
/-- level 8, calls: rounds_of _law_common order_of is_even times still behind back; slots: 0 one 1 other 2 lengths 3 least 4 length 5 row 6 number -/
def wb__law_are_orders_right : WS := (wSeq (wPar 2 3 (wCons (wLc (wIc (wSeqI (wDef 1 W_rounds_of (wCons (wName 0) wNil)))) (gPut 5) wYes (wCall oLen (wCons (wName 5) wNil)) [5]) (wCons (wC (.int 1)) wNil))) (wSeq (wFrz 2 (wFor (wSeqI (wName 2)) (gPut 4) (wSet 3 (w2 oMul (w2 oDiv (wName 3) (wDef 2 W__law_common (wCons (wName 3) (wCons (wName 4) wNil)))) (wName 4))))) (wSeq (wIfS (wOrT (wBool (w2 oNe (wDef 1 W_order_of (wCons (wName 0) wNil)) (wName 3))) (wBool (w2 oNe (wCall oRepr (wCons (wDef 1 W_is_even (wCons (wName 0) wNil)) wNil)) (wCall oRepr (wCons (w2 oEq (w2 oMod (wCall oLen (wCons (wLc (wNameI 2) (gPut 4) (wBool (w2 oEq (w2 oMod (wName 4) (wC (.int 2))) (wC (.int 0)))) (wName 4) [4]) wNil)) (wC (.int 2))) (wC (.int 0))) wNil))))) (wRet (wC (.bool false))) wNext) (wSeq (wIfS (wOrT (wBool (wCall oAny (wCons (wLc (wIc (wRng2 (wC (.int 1)) (wName 3))) (gPut 6) wYes (w2 oEq (wDef 2 W_times (wCons (wName 0) (wCons (wName 6) wNil))) (wDef 1 W_still (wCons (wCall oLen (wCons (wName 0) wNil)) wNil))) [6]) wNil))) (wBool (w2 oNe (wDef 2 W_times (wCons (wName 0) (wCons (wName 3) wNil))) (wDef 1 W_still (wCons (wCall oLen (wCons (wName 0) wNil)) wNil))))) (wRet (wC (.bool false))) wNext) (wSeq (wIfS (wOrT (wBool (w2 oNe (wDef 1 W_order_of (wCons (wDef 2 W_behind (wCons (wName 0) (wCons (wName 1) wNil))) wNil)) (wDef 1 W_order_of (wCons (wDef 2 W_behind (wCons (wName 1) (wCons (wName 0) wNil))) wNil)))) (wBool (w2 oNe (wDef 1 W_order_of (wCons (wDef 1 W_back (wCons (wName 0) wNil)) wNil)) (wName 3)))) (wRet (wC (.bool false))) wNext) (wRet (w2 oEq (wCall oRepr (wCons (wLst (wCons (wDef 1 W_is_even (wCons (wDef 2 W_behind (wCons (wName 0) (wCons (wName 1) wNil))) wNil)) (wCons (wDef 1 W_is_even (wCons (wDef 1 W_back (wCons (wName 1) wNil)) wNil)) wNil))) wNil)) (wCall oRepr (wCons (wLst (wCons (w2 oEq (wDef 1 W_is_even (wCons (wName 0) wNil)) (wDef 1 W_is_even (wCons (wName 1) wNil))) (wCons (wDef 1 W_is_even (wCons (wName 1) wNil)) wNil))) wNil)))))))))
def o_any : WE := (wCall oAny (wCons (wLc (wIc (wRng2 (wC (.int 1)) (wName 3))) (gPut 6) wYes (w2 oEq (wDef 2 W_times (wCons (wName 0) (wCons (wName 6) wNil))) (wDef 1 W_still (wCons (wCall oLen (wCons (wName 0) wNil)) wNil))) [6]) wNil))
def o_cnt : WE := (wCall oLen (wCons (wLc (wNameI 2) (gPut 4) (wBool (w2 oEq (w2 oMod (wName 4) (wC (.int 2))) (wC (.int 0)))) (wName 4) [4]) wNil))
def o_lens : WS := (wPar 2 3 (wCons (wLc (wIc (wSeqI (wDef 1 W_rounds_of (wCons (wName 0) wNil)))) (gPut 5) wYes (wCall oLen (wCons (wName 5) wNil)) [5]) (wCons (wC (.int 1)) wNil)))
def o_body : WS := (wSet 3 (w2 oMul (w2 oDiv (wName 3) (wDef 2 W__law_common (wCons (wName 3) (wCons (wName 4) wNil)))) (wName 4)))
def o_if1 : WS := (wIfS (wOrT (wBool (w2 oNe (wDef 1 W_order_of (wCons (wName 0) wNil)) (wName 3))) (wBool (w2 oNe (wCall oRepr (wCons (wDef 1 W_is_even (wCons (wName 0) wNil)) wNil)) (wCall oRepr (wCons (w2 oEq (w2 oMod o_cnt (wC (.int 2))) (wC (.int 0))) wNil))))) (wRet (wC (.bool false))) wNext)
def o_if2 : WS := (wIfS (wOrT (wBool o_any) (wBool (w2 oNe (wDef 2 W_times (wCons (wName 0) (wCons (wName 3) wNil))) (wDef 1 W_still (wCons (wCall oLen (wCons (wName 0) wNil)) wNil))))) (wRet (wC (.bool false))) wNext)
def o_if3 : WS := (wIfS (wOrT (wBool (w2 oNe (wDef 1 W_order_of (wCons (wDef 2 W_behind (wCons (wName 0) (wCons (wName 1) wNil))) wNil)) (wDef 1 W_order_of (wCons (wDef 2 W_behind (wCons (wName 1) (wCons (wName 0) wNil))) wNil)))) (wBool (w2 oNe (wDef 1 W_order_of (wCons (wDef 1 W_back (wCons (wName 0) wNil)) wNil)) (wName 3)))) (wRet (wC (.bool false))) wNext)
def o_ret : WS := (wRet (w2 oEq (wCall oRepr (wCons (wLst (wCons (wDef 1 W_is_even (wCons (wDef 2 W_behind (wCons (wName 0) (wCons (wName 1) wNil))) wNil)) (wCons (wDef 1 W_is_even (wCons (wDef 1 W_back (wCons (wName 1) wNil)) wNil)) wNil))) wNil)) (wCall oRepr (wCons (wLst (wCons (w2 oEq (wDef 1 W_is_even (wCons (wName 0) wNil)) (wDef 1 W_is_even (wCons (wName 1) wNil))) (wCons (wDef 1 W_is_even (wCons (wName 1) wNil)) wNil))) wNil))))
theorem wb_orders : wb__law_are_orders_right = wSeq o_lens (wSeq (wFrz 2 (wFor (wSeqI (wName 2)) (gPut 4) o_body)) (wSeq o_if1 (wSeq o_if2 (wSeq o_if3 o_ret)))) := rfl
/-- lengths of rounds -/
def lens (a : List Nat) : List Nat := (rounds a).map List.length
def st (a b : List Nat) (u v w : Dn.Slot) : List Dn.Slot := [.fz (T a), .fz (T b), .fz (.list (Ts (lens a))), .fz (nI (ordr a)), u, v, w]
theorem T_inj {a b : List Nat} : T a = T b ↔ a = b := by
  constructor
  · intro h
    have := eqv_T a b
    rw [h, eqv_T] at this
    simpa using this
  · rintro rfl; rfl
theorem nI_int {n : Nat} : nI n = .int (n : Int) := rfl
theorem cut_str {x : Str} (h : PyData.strOk x = true) : SeqAt.shaped (.str x) = true := by simp [SeqAt.shaped, PyData.canLay0, PyData.depth, h]
theorem sh_bool (x : Bool) : SeqAt.shaped (.bool x) = true := by cases x <;> rfl
theorem eqv_str (x : Str) : PyData.eqv (.str x) (.str x) = true := by simp [PyData.eqv]
theorem eqv_bool (x y : Bool) : PyData.eqv (.bool x) (.bool y) = (x == y) := by cases x <;> cases y <;> simp [PyData.eqv]
theorem say_bool (x : Bool) : (PyData.bool x).showable = true ∧ (PyData.bool x).canLay0 = true ∧ (PyData.bool x).depth ≤ 60 ∧ (PyData.bool x).shown.length ≤ sizeLine ∧ SeqAt.shaped (.str (PyData.bool x).shown) = true := by
  rw [sizeLine_eq]
  have q : PyData.strOk (PyData.bool x).shown = true := by cases x <;> decide +kernel
  refine ⟨?_, ?_, ?_, ?_, cut_str q⟩ <;> cases x <;> decide
theorem say_two (x y : Bool) : (PyData.list [.bool x, .bool y]).showable = true ∧ (PyData.list [.bool x, .bool y]).canLay0 = true ∧ (PyData.list [.bool x, .bool y]).depth ≤ 60 ∧ (PyData.list [.bool x, .bool y]).shown.length ≤ sizeLine ∧ SeqAt.shaped (.str (PyData.list [.bool x, .bool y]).shown) = true := by
  rw [sizeLine_eq]
  have q : PyData.strOk (PyData.list [.bool x, .bool y]).shown = true := by cases x <;> cases y <;> decide +kernel
  refine ⟨?_, ?_, ?_, ?_, cut_str q⟩ <;> cases x <;> cases y <;> decide
theorem par_cnt : ∀ ls : List Nat, (∀ l ∈ ls, 1 ≤ l) → (ls.map fun l => l - 1).sum % 2 = (ls.filter fun m => decide (m % 2 = 0)).length % 2
  | [], _ => rfl
  | l :: ls, h => by
    have h1 := h l (by simp)
    have ih := par_cnt ls fun m hm => h m (List.mem_cons_of_mem _ hm)
    rw [List.map_cons, List.sum_cons, List.filter_cons]
    by_cases c : l % 2 = 0
    · simp only [c, decide_true, if_true, List.length_cons]
      omega
    · simp only [c, decide_false]
      simp only [Bool.false_eq_true, if_false]
      omega
theorem evn_cnt {a : List Nat} (h1 : Pm a) : decide (((lens a).filter fun m => decide (m % 2 = 0)).length % 2 = 0) = evn a := by
  have p := par_cnt (lens a) fun l hl => by
    obtain ⟨c, hc, rfl⟩ := List.mem_map.mp hl
    have := cyc_le h1 hc
    omega
  unfold evn
  rw [← p]
  unfold lens
  rw [List.map_map]
  rfl
theorem ordr9 {a : List Nat} (h1 : Pm a) (n9 : a.length ≤ 9) : ordr a ≤ 362880 := by
  have h := (ordr_le h1).2
  have : ∀ n, n ≤ 9 → fct n ≤ 362880 := by decide
  exact Nat.le_trans h (this _ n9)
theorem rng2 (a : Nat) : rngD 1 (a : Int) = (List.range (a - 1)).map fun i => nI (i + 1) := by
  unfold rngD nI
  rw [show ((a : Int) - 1).toNat = a - 1 from by omega]
  exact List.map_congr_left fun i _ => by rw [show (1 : Int) + (i : Nat) = ((i + 1 : Nat) : Int) from by omega]
theorem rd_cnt {a b : List Nat} (h1 : Pm a) (n9 : a.length ≤ 9) (u v w : Dn.Slot) (hu : u.own = false) (K : Rs → List Dn.Slot → Prop)
    (h : K (.fz (nI ((lens a).filter fun m => decide (m % 2 = 0)).length)) (st a b u v w)) : o_cnt (st a b u v w) K := by
  have up := own_pm hu
  have rl := rounds_len a
  simp [o_cnt, st, hu]
  refine lc_f (lens a) nI (fun m => decide (m % 2 = 0)) nI rfl (small (by unfold lens; rw [List.length_map]; omega)) ?_ trivial (fun i x hx => ?_) ?_
  · simp [hu]
  · have tk := take_at hx
    have fm : (PyData.int ((x : Int).fmod 2)).eqv (.int 0) = decide (x % 2 = 0) := by
      rw [eqv_int, Int.fmod_eq_emod_of_nonneg _ (by omega)]
      exact decide_eq_decide.mpr (by omega)
    simp [nI, up, hu, fm, sh_int]
    rw [tk, List.filter_append]
    by_cases c : x % 2 = 0
    · rw [if_pos c]; simp [c, nI]
    · rw [if_neg c]; simp [c]
  · simp [hu]
    exact h
theorem rd_any {a b : List Nat} (h1 : Pm a) (n1 : 1 ≤ a.length) (n9 : a.length ≤ 9) (u v w : Dn.Slot) (hw : w.own = false) (K : Rs → List Dn.Slot → Prop)
    (h : K (.fz (.bool false)) (st a b u v w)) : o_any (st a b u v w) K := by
  have up := own_pm hw
  have ol := ordr_le h1
  have h24 : a.length ≤ 24 := by omega
  have ok : ordr a ≤ 362880 := ordr9 h1 n9
  simp [o_any, st, nI]
  refine ⟨by omega, ?_⟩
  refine lc_m (List.range (ordr a - 1)) (fun i => nI (i + 1)) (fun i => .bool false) (rng2 (ordr a)) (by rw [sizeLine_eq, List.length_range]; omega) ?_ trivial (fun i x hx => ?_) ?_
  · simp [hw]
  · have tk : ((List.range (ordr a - 1)).map fun i => PyData.bool false).take (i + 1) = ((List.range (ordr a - 1)).map fun i => PyData.bool false).take i ++ [.bool false] := take_at (by simp [hx])
    have xl : x < ordr a - 1 := by
      have := List.mem_of_getElem? hx
      exact List.mem_range.mp this
    have ex : i = x := by
      have il := (List.getElem?_eq_some_iff.mp hx).1
      rw [List.length_range] at il
      rw [List.getElem?_range il] at hx
      exact Option.some.inj hx
    have ne : ¬ pw a ((x : Int) + 1) = List.range a.length := by
      rw [show ((x : Int) + 1) = ((x + 1 : Nat) : Int) from by omega, pw_id h1]
      intro d
      have := Nat.le_of_dvd (by omega) d
      omega
    simp [nI, up, hw, W_times, W_still, T_inj, h1, n1, h24, and_assoc]
    simp [T, Ts_len]
    refine ⟨by omega, by omega, a.length, rfl, n1, h24, shaped_T _, shaped_T _, ?_⟩
    have ev := eqv_T (pw a ((x : Int) + 1)) (List.range a.length)
    rw [decide_eq_false ne] at ev
    unfold T at ev
    rw [ev]
    have m1 : min i (ordr a - 1) = i := by omega
    have m2 : min (i + 1) (ordr a - 1) = i + 1 := by omega
    rw [m1, m2, List.range_succ, List.map_append]
    rfl
  · simp [hw]
    rw [show ((List.range (ordr a - 1)).any (toB ∘ fun i => PyData.bool false)) = false from by simp [toB]]
    exact h
theorem rd_or1 {a b : List Nat} (h1 : Pm a) (h2 : Pm b) (e : a.length = b.length) (n1 : 1 ≤ a.length) (n9 : a.length ≤ 9) (u v w : Dn.Slot) (hu : u.own = false) (E : EndsD) (h : E.nx (st a b u v w)) : o_if1 E (st a b u v w) := by
  have up := own_pm hu
  have h24 : a.length ≤ 24 := by omega
  simp only [o_if1]
  simp [st, W_order_of, W_is_even, T_inj, h1, n1, h24, nI_int, sh_int, eqv_int, say_bool, and_assoc]
  refine rd_cnt h1 n9 _ _ _ hu _ ?_
  have fm : decide ((((((lens a).filter fun m => decide (m % 2 = 0)).length : Nat) : Int).fmod 2) = 0) = evn a := by
    rw [Int.fmod_eq_emod_of_nonneg _ (by omega), ← evn_cnt h1]
    exact decide_eq_decide.mpr (by omega)
  simp only [st, nI_int]
  simp [sh_int, eqv_int, fm, say_bool, eqv_str]
  exact h
theorem rd_or2 {a b : List Nat} (h1 : Pm a) (h2 : Pm b) (e : a.length = b.length) (n1 : 1 ≤ a.length) (n9 : a.length ≤ 9) (u v w : Dn.Slot) (hw : w.own = false) (E : EndsD) (h : E.nx (st a b u v w)) : o_if2 E (st a b u v w) := by
  have up := own_pm hw
  have h24 : a.length ≤ 24 := by omega
  have ok := ordr9 h1 n9
  simp [o_if2]
  refine rd_any h1 n1 n9 _ _ _ hw _ ?_
  simp [st, W_times, W_still, T_inj, nI_int, h1, n1, h24, and_assoc]
  refine ⟨by omega, ?_⟩
  have tq : T a = .tuple (Ts a) := rfl
  have ev := eqv_T (pw a (ordr a : Nat)) (List.range a.length)
  rw [decide_eq_true ((pw_id h1 _).mpr (Nat.dvd_refl _))] at ev
  rw [tq]
  simp only [Ts_len]
  refine ⟨a.length, rfl, n1, h24, shaped_T _, shaped_T _, ?_⟩
  rw [if_pos ev]
  exact h
theorem rd_or3 {a b : List Nat} (h1 : Pm a) (h2 : Pm b) (e : a.length = b.length) (n1 : 1 ≤ a.length) (n9 : a.length ≤ 9) (u v w : Dn.Slot) (E : EndsD) (h : E.nx (st a b u v w)) : o_if3 E (st a b u v w) := by
  have h24 : a.length ≤ 24 := by omega
  have m1 : 1 ≤ b.length := by omega
  have m24 : b.length ≤ 24 := by omega
  have p1 := th_pm h1 h2 e
  have p2 := th_pm h2 h1 e.symm
  simp [o_if3, st, W_order_of, W_behind, W_back, T_inj, nI_int, h1, h2, n1, h24, m1, m24, e, p1, p2, and_assoc, th_len, inv_len, inv_pm h1, sh_int, eqv_int, ordr_comm h1 h2 e, ordr_inv h1]
  exact h
theorem rd_or4 {a b : List Nat} (h1 : Pm a) (h2 : Pm b) (e : a.length = b.length) (n1 : 1 ≤ a.length) (n9 : a.length ≤ 9) (u v w : Dn.Slot) (E : EndsD) (h : E.rt (.fz (.bool true)) (st a b u v w)) : o_ret E (st a b u v w) := by
  have h24 : a.length ≤ 24 := by omega
  have m1 : 1 ≤ b.length := by omega
  have m24 : b.length ≤ 24 := by omega
  have p1 := th_pm h1 h2 e
  simp [o_ret, st, W_is_even, W_behind, W_back, T_inj, h1, h2, n1, h24, m1, m24, e, p1, th_len, inv_len, inv_pm h2, say_two, sh_bool, eqv_bool, evn_th h1 h2 e, evn_inv h2, eqv_str, and_assoc]
  exact ⟨by rw [sizeLine_eq]; omega, h⟩
theorem fold_le : ∀ (cs : List (List Nat)) (m : Nat), (∀ c ∈ cs, 1 < c.length) → 0 < m → m ∣ cs.foldl (fun m c => Nat.lcm m c.length) m ∧ 0 < cs.foldl (fun m c => Nat.lcm m c.length) m
  | [], m, _, h => ⟨Nat.dvd_refl _, h⟩
  | c :: cs, m, hc, h => by
    have h1 := hc c (by simp)
    obtain ⟨q1, q2⟩ := fold_le cs (Nat.lcm m c.length) (fun d hd => hc d (List.mem_cons_of_mem _ hd)) (Nat.lcm_pos h (by omega))
    exact ⟨Nat.dvd_trans (Nat.dvd_lcm_left _ _) q1, q2⟩
theorem oj_pos {a : List Nat} (h1 : Pm a) (j : Nat) : 0 < oj a j := (fold_le _ 1 (fun c hc => (cyc_le h1 (List.mem_of_mem_take hc)).2) Nat.one_pos).2
theorem oj_le {a : List Nat} (h1 : Pm a) (j : Nat) : oj a j ≤ ordr a := by
  have q := fold_le ((rounds a).drop j) (oj a j) (fun c hc => (cyc_le h1 (List.mem_of_mem_drop hc)).2) (oj_pos h1 j)
  have e : ((rounds a).drop j).foldl (fun m c => Nat.lcm m c.length) (oj a j) = ordr a := by
    unfold oj ordr
    rw [← List.foldl_append, List.take_append_drop]
  rw [e] at q
  exact Nat.le_of_dvd q.2 q.1
theorem get_Ts {l : List Nat} {j : Nat} {d : PyData} (h : (Ts l)[j]? = some d) : ∃ x, l[j]? = some x ∧ d = nI x := by
  unfold Ts at h
  rw [List.getElem?_map] at h
  obtain ⟨x, hx, rfl⟩ := Option.map_eq_some_iff.mp h
  exact ⟨x, hx, rfl⟩
theorem rd_body {a : List Nat} (h1 : Pm a) (n9 : a.length ≤ 9) {j : Nat} {c : List Nat} (hc : (rounds a)[j]? = some c) (s0 s1 s2 v w : Dn.Slot) (E : EndsD) (h : E.nx [s0, s1, s2, .fz (nI (oj a (j + 1))), .fz (nI c.length), v, w]) : o_body E [s0, s1, s2, .fz (nI (oj a j)), .fz (nI c.length), v, w] := by
  have cl := cyc_le h1 (List.mem_of_getElem? hc)
  have os := oj_succ hc
  have o1 : 0 < oj a j := oj_pos h1 j
  have o2 : oj a j ≤ ordr a := oj_le h1 j
  have ok := ordr9 h1 n9
  have gp : 0 < Nat.gcd (oj a j) c.length := Nat.gcd_pos_of_pos_left _ o1
  have fd : (((oj a j : Nat) : Int).fdiv ((Nat.gcd (oj a j) c.length : Nat) : Int)) * ((c.length : Nat) : Int) = ((oj a (j + 1) : Nat) : Int) := by
    rw [Int.fdiv_eq_ediv_of_nonneg _ (by omega), ← Int.natCast_ediv, ← Int.natCast_mul, os]
    unfold Nat.lcm
    rw [Nat.div_mul_right_comm (Nat.gcd_dvd_left _ _)]
  have g9 : Nat.gcd (oj a j) c.length ≤ c.length := Nat.gcd_le_right _ (by omega)
  simp [o_body, nI, W__law_common]
  refine ⟨oj a j, c.length, ⟨rfl, rfl⟩, by omega, by omega, .inl ?_, .inl ?_, ?_⟩
  · unfold CDivN
    omega
  · unfold CMul
    right
    omega
  · rw [fd]
    exact h
theorem rd__law_are_orders_right : ∀ ds R, W__law_are_orders_right ds R → ds.length = 2 → wb__law_are_orders_right { nx := fun _ => R (.fz .none), rt := fun r _ => R r } (Dn.entry ds (7 - ds.length)) := by
  rintro ds R ⟨a, b, rfl, h1, h2, e, n1, n9, h⟩ _
  have h24 : a.length ≤ 24 := by omega
  have rl := rounds_len a
  rw [wb_orders]
  simp only [wSeq]
  simp [o_lens, W_rounds_of, T_inj, h1, n1, h24]
  refine lc_m (rounds a) T (fun c => nI c.length) rfl (small (by omega)) (by simp) trivial (fun i c hc => ?_) ?_
  · have tk : ((rounds a).map fun c => nI c.length).take (i + 1) = ((rounds a).map fun c => nI c.length).take i ++ [nI c.length] := take_at (by simp [hc])
    simp [T, Ts_len]
    exact tk.symm
  · have el : ((rounds a).map fun c => nI c.length) = Ts (lens a) := by
      unfold lens Ts
      rw [List.map_map]
      rfl
    rw [el]
    have o0 : PyData.int 1 = nI (oj a 0) := rfl
    simp [imm_Ts]
    rw [o0]
    refine for_go (fun j ρ => ∃ u : Dn.Slot, ρ = [.fz (T a), .fz (T b), .fz (.list (Ts (lens a))), .fz (nI (oj a j)), u, .un, .un] ∧ u.own = false) (Ts (lens a)) (fun R h => by simpa using h) ⟨.un, rfl, rfl⟩ ?_ ?_
    · rintro j d ρ hd ⟨u, rfl, hu⟩
      have up := own_pm hu
      obtain ⟨l, hl, rfl⟩ := get_Ts hd
      unfold lens at hl
      rw [List.getElem?_map] at hl
      obtain ⟨c, hc, rfl⟩ := Option.map_eq_some_iff.mp hl
      simp [up]
      refine rd_body h1 n9 hc _ _ _ _ _ _ ?_
      exact ⟨_, rfl, rfl⟩
    · rintro ρ ⟨u, rfl, hu⟩
      have e1 : oj a (Ts (lens a)).length = ordr a := by
        unfold oj ordr lens
        rw [Ts_len, List.length_map, List.take_length]
      rw [e1]
      refine rd_or1 h1 h2 e n1 n9 u .un .un hu _ ?_
      refine rd_or2 h1 h2 e n1 n9 u .un .un rfl _ ?_
      refine rd_or3 h1 h2 e n1 n9 u .un .un _ ?_
      exact rd_or4 h1 h2 e n1 n9 u .un .un _ h
end K05
/-! PM5: turns that move unlike places; rows. -/
namespace K05
open PySem
theorem idx_ap {a : List Nat} {p : Nat} (hp : p < a.length) : a.idxOf p = ap (inv a) p := by
  unfold inv
  rw [ap_map hp]
theorem mv_get {a : List Nat} {row : List PyData} {j : Nat} (hj : j < a.length) : (mv a row).getD j .none = row.getD (ap (inv a) j) .none := by
  unfold mv
  rw [← idx_ap hj]
  simp [hj]
theorem mv_ext {x y : List PyData} (e : x.length = y.length) (h : ∀ j, j < x.length → x.getD j .none = y.getD j .none) : x = y := by
  apply List.ext_getElem e
  intro j h1 h2
  have := h j h1
  rw [List.getD_eq_getElem?_getD, List.getD_eq_getElem?_getD, List.getElem?_eq_getElem h1, List.getElem?_eq_getElem h2] at this
  exact this
theorem mv_th {a b : List Nat} (h1 : Pm a) (h2 : Pm b) (e : a.length = b.length) (row : List PyData) : mv (th a b) row = mv b (mv a row) := by
  apply mv_ext
  · rw [mv_len, mv_len, th_len, e]
  · intro j hj
    rw [mv_len, th_len] at hj
    have il : ap (inv b) j < a.length := by
      have := ap_lt (inv_pm h2) (p := j) (by rw [inv_len]; omega)
      rw [inv_len] at this
      omega
    rw [mv_get (by rw [th_len]; exact hj), mv_get (by omega), mv_get il, inv_th h1 h2 e, ap_th (by rw [inv_len]; omega)]
theorem mv_id {row : List PyData} {n : Nat} (e : row.length = n) : mv (List.range n) row = row := by
  apply mv_ext
  · rw [mv_len, List.length_range, e]
  · intro j hj
    rw [mv_len, List.length_range] at hj
    unfold mv
    have : (List.range n).idxOf j = j := idx_at List.nodup_range (by rw [List.getElem?_range hj])
    simp [hj, this]
theorem mv_back {a : List Nat} (h : Pm a) {row : List PyData} (e : row.length = a.length) : mv (inv a) (mv a row) = row := by
  rw [← mv_th h (inv_pm h) (by rw [inv_len]), th_inv1 h]
  exact mv_id e
/-- moves those below h alone -/
def Lo (f : List Nat) (h : Nat) : Prop := Pm f ∧ ∀ p, p < f.length → (p < h → ap f p < h) ∧ (h ≤ p → ap f p = p)
/-- moves those from h on alone -/
def Hi (l : List Nat) (h : Nat) : Prop := Pm l ∧ ∀ p, p < l.length → (p < h → ap l p = p) ∧ (h ≤ p → h ≤ ap l p)
section
variable {f l : List Nat} {h n : Nat}
theorem un_comm (hf : Lo f h) (hl : Hi l h) (e : f.length = l.length) : th f l = th l f := by
  apply pm_ext
  · rw [th_len, th_len, e]
  · intro p hp
    rw [th_len] at hp
    have fl := ap_lt hf.1 hp
    have ll := ap_lt hl.1 (p := p) (by omega)
    rw [ap_th hp, ap_th (by omega)]
    obtain ⟨f1, f2⟩ := hf.2 p hp
    obtain ⟨l1, l2⟩ := hl.2 p (by omega)
    by_cases c : p < h
    · rw [l1 c, (hl.2 (ap f p) (by omega)).1 (f1 c)]
    · have c : h ≤ p := by omega
      rw [f2 c, (hf.2 (ap l p) (by omega)).2 (l2 c)]
theorem un_it1 (hf : Lo f h) (hl : Hi l h) (e : f.length = l.length) {p : Nat} (hp : p < f.length) (c : p < h) : ∀ t, it (th f l) t p = it f t p ∧ it f t p < h
  | 0 => ⟨rfl, c⟩
  | t + 1 => by
    obtain ⟨q1, q2⟩ := un_it1 hf hl e hp c t
    have il := it_lt hf.1 hp t
    have il2 := it_lt hf.1 hp (t + 1)
    have g := (hf.2 _ il).1 q2
    refine ⟨?_, g⟩
    show ap (th f l) (it (th f l) t p) = ap f (it f t p)
    rw [q1, ap_th il]
    exact (hl.2 _ (by have : ap f (it f t p) < f.length := il2; omega)).1 g
theorem un_it2 (hf : Lo f h) (hl : Hi l h) (e : f.length = l.length) {p : Nat} (hp : p < f.length) (c : h ≤ p) : ∀ t, it (th f l) t p = it l t p ∧ h ≤ it l t p
  | 0 => ⟨rfl, c⟩
  | t + 1 => by
    obtain ⟨q1, q2⟩ := un_it2 hf hl e hp c t
    have il := it_lt hl.1 (p := p) (by omega) t
    have g := (hl.2 _ il).2 q2
    refine ⟨?_, g⟩
    show ap (th f l) (it (th f l) t p) = ap l (it l t p)
    rw [q1, ap_th (by omega), (hf.2 _ (by omega)).2 q2]
theorem like_per {a b : List Nat} (e : a.length = b.length) {s : Nat} (h : ∀ t, it a t s = it b t s) : per a s = per b s := by
  unfold per
  rw [e, show (fun t => it a (t + 1) s == s) = fun t => it b (t + 1) s == s from funext fun t => by rw [h]]
theorem like_cyc {a b : List Nat} (e : a.length = b.length) {s : Nat} (h : ∀ t, it a t s = it b t s) : cyc a s = cyc b s := by
  unfold cyc
  rw [like_per e h]
  exact List.map_congr_left fun t _ => h t
theorem still_per {a : List Nat} (h : Pm a) {s : Nat} (hs : s < a.length) (e : ap a s = s) : per a s = 1 := by
  have q := (per_spec h hs).2.2 1 (by omega)
  have p := per_pos a s
  by_cases c : 1 < per a s
  · exact absurd e (q c)
  · omega
theorem un_rounds (hf : Lo f h) (hl : Hi l h) (e : f.length = l.length) (hh : h ≤ f.length) : rounds (th f l) = rounds f ++ rounds l := by
  have tl : (th f l).length = f.length := th_len ..
  have sp : List.range f.length = List.range h ++ (List.range (f.length - h)).map (h + ·) := by
    rw [← List.range_add]
    congr 1
    omega
  unfold rounds
  rw [tl, ← e, sp]
  simp only [List.filter_append, List.map_append]
  have z1 : ((List.range (f.length - h)).map (h + ·)).filter (fun s => isMin f s && decide (1 < per f s)) = [] := by
    rw [List.filter_eq_nil_iff]
    intro s hs
    obtain ⟨i, hi, rfl⟩ := List.mem_map.mp hs
    have hi := List.mem_range.mp hi
    rw [still_per hf.1 (by omega) ((hf.2 (h + i) (by omega)).2 (by omega))]
    simp
  have z2 : (List.range h).filter (fun s => isMin l s && decide (1 < per l s)) = [] := by
    rw [List.filter_eq_nil_iff]
    intro s hs
    have hi := List.mem_range.mp hs
    rw [still_per hl.1 (by omega) ((hl.2 s (by omega)).1 hi)]
    simp
  rw [z1, z2, List.map_nil, List.append_nil, List.map_nil, List.nil_append]
  have c1 : ∀ s, s ∈ List.range h → cyc (th f l) s = cyc f s ∧ per (th f l) s = per f s := fun s hs => by
    have hi := List.mem_range.mp hs
    exact ⟨like_cyc tl fun t => (un_it1 hf hl e (by omega) hi t).1, like_per tl fun t => (un_it1 hf hl e (by omega) hi t).1⟩
  have c2 : ∀ s, s ∈ (List.range (f.length - h)).map (h + ·) → cyc (th f l) s = cyc l s ∧ per (th f l) s = per l s := fun s hs => by
    obtain ⟨i, hi, rfl⟩ := List.mem_map.mp hs
    have hi := List.mem_range.mp hi
    exact ⟨like_cyc (tl.trans e) fun t => (un_it2 hf hl e (by omega) (by omega) t).1, like_per (tl.trans e) fun t => (un_it2 hf hl e (by omega) (by omega) t).1⟩
  have k1 : (List.range h).filter (fun s => isMin (th f l) s && decide (1 < per (th f l) s)) = (List.range h).filter fun s => isMin f s && decide (1 < per f s) :=
    List.filter_congr fun s hs => by unfold isMin; rw [(c1 s hs).1, (c1 s hs).2]
  have k2 : ((List.range (f.length - h)).map (h + ·)).filter (fun s => isMin (th f l) s && decide (1 < per (th f l) s)) = ((List.range (f.length - h)).map (h + ·)).filter fun s => isMin l s && decide (1 < per l s) :=
    List.filter_congr fun s hs => by unfold isMin; rw [(c2 s hs).1, (c2 s hs).2]
  rw [k1, k2]
  congr 1
  · exact List.map_congr_left fun s hs => (c1 s (List.mem_filter.mp hs).1).1
  · exact List.map_congr_left fun s hs => (c2 s (List.mem_filter.mp hs).1).1
end
/-- the places from h to n -/
def upto (h n : Nat) : List Nat := (List.range (n - h)).map (h + ·)
theorem range_upto {h n : Nat} (hn : h ≤ n) : List.range n = List.range h ++ upto h n := by
  unfold upto
  rw [← List.range_add]
  congr 1
  omega
theorem ap_app1 {x y : List Nat} {p : Nat} (h : p < x.length) : ap (x ++ y) p = ap x p := by
  unfold ap
  rw [List.getD_eq_getElem?_getD, List.getD_eq_getElem?_getD, List.getElem?_append_left h]
theorem ap_app2 {x y : List Nat} {p : Nat} (h : x.length ≤ p) : ap (x ++ y) p = ap y (p - x.length) := by
  unfold ap
  rw [List.getD_eq_getElem?_getD, List.getD_eq_getElem?_getD, List.getElem?_append_right h]
theorem ap_mem {x : List Nat} {p : Nat} (h : p < x.length) : ap x p ∈ x := by
  unfold ap
  rw [List.getD_eq_getElem?_getD, List.getElem?_eq_getElem h]
  exact List.getElem_mem h
theorem lo_of {h n : Nat} (hn : h ≤ n) {out : List Nat} (p : out.Perm (List.range h)) : Lo (out ++ upto h n) h ∧ (out ++ upto h n).length = n := by
  have q : (out ++ upto h n).Perm (List.range n) := by
    rw [range_upto hn]
    exact p.append_right _
  obtain ⟨q1, q2⟩ := pm_of q
  have ol : out.length = h := by rw [p.length_eq, List.length_range]
  refine ⟨⟨q1, fun x hx => ⟨fun c => ?_, fun c => ?_⟩⟩, q2⟩
  · rw [ap_app1 (by omega)]
    exact List.mem_range.mp (p.mem_iff.mp (ap_mem (by omega)))
  · rw [ap_app2 (by omega), ol]
    unfold upto
    rw [ap_map (by omega)]
    omega
theorem hi_of {h n : Nat} (hn : h ≤ n) {out : List Nat} (p : out.Perm (upto h n)) : Hi (List.range h ++ out) h ∧ (List.range h ++ out).length = n := by
  have q : (List.range h ++ out).Perm (List.range n) := by
    rw [range_upto hn]
    exact p.append_left _
  obtain ⟨q1, q2⟩ := pm_of q
  have rl : (List.range h).length = h := List.length_range
  have ol : out.length = n - h := by rw [p.length_eq]; simp [upto]
  refine ⟨⟨q1, fun x hx => ⟨fun c => ?_, fun c => ?_⟩⟩, q2⟩
  · rw [ap_app1 (by omega)]
    unfold ap
    simp [c]
  · rw [ap_app2 (by omega), rl]
    have := p.mem_iff.mp (ap_mem (x := out) (p := x - h) (by omega))
    unfold upto at this
    obtain ⟨i, _, e⟩ := List.mem_map.mp this
    omega
end K05
/-! K11: what may be shown. -/
namespace K05
open PySem PySem.Spec PyProof.Rows L2 Dn PySem.W
theorem strOk_app (a b : Str) : PyData.strOk (a ++ b) = (PyData.strOk a && PyData.strOk b) := by
  unfold PyData.strOk
  rw [show (a ++ b).cps = a.cps ++ b.cps from rfl, Array.all_append]
theorem str_len (a b : Str) : (a ++ b).length = a.length + b.length := by
  show (a.cps ++ b.cps).size = _
  rw [Array.size_append]
  rfl
theorem join_good {m : Nat} : ∀ ts : List Str, (∀ t ∈ ts, PyData.strOk t = true ∧ t.length ≤ m) → PyData.strOk (Str.join ", " ts) = true ∧ (Str.join ", " ts).length ≤ ts.length * (m + 2)
  | [], _ => by
    show PyData.strOk Str.empty = true ∧ Str.empty.length ≤ _
    exact ⟨by decide +kernel, by
      have : Str.empty.length = 0 := by decide +kernel
      omega⟩
  | [x], h => by
    have := h x (by simp)
    show PyData.strOk x = true ∧ x.length ≤ _
    exact ⟨this.1, by simp; omega⟩
  | x :: y :: r, h => by
    have h1 := h x (by simp)
    have ih := join_good (y :: r) fun t ht => h t (List.mem_cons_of_mem _ ht)
    show PyData.strOk (x ++ ", " ++ Str.join ", " (y :: r)) = true ∧ (x ++ ", " ++ Str.join ", " (y :: r)).length ≤ _
    have c1 : PyData.strOk (", " : Str) = true := by decide +kernel
    have c2 : (", " : Str).length = 2 := by decide +kernel
    rw [strOk_app, strOk_app, h1.1, c1, ih.1, str_len, str_len, c2]
    refine ⟨rfl, ?_⟩
    rw [List.length_cons, Nat.succ_mul]
    have := ih.2
    omega
/-- may be shown, in at most m letters -/
def Sh (m : Nat) (d : PyData) : Prop := d.showable = true ∧ PyData.strOk d.shown = true ∧ d.shown.length ≤ m
theorem sh_all {m : Nat} : ∀ xs : List PyData, (∀ x ∈ xs, Sh m x) → PyData.showableAll xs = true ∧ ∀ t ∈ PyData.shownAll xs, PyData.strOk t = true ∧ t.length ≤ m
  | [], _ => by
    rw [PyData.shownAll_nil]
    exact ⟨by simp [PyData.showableAll], fun t ht => by cases ht⟩
  | x :: xs, h => by
    have h1 := h x (by simp)
    have ih := sh_all xs fun y hy => h y (List.mem_cons_of_mem _ hy)
    rw [PyData.shownAll_cons]
    refine ⟨by rw [PyData.showableAll, h1.1, ih.1]; rfl, fun t ht => ?_⟩
    rcases List.mem_cons.mp ht with rfl | ht
    · exact h1.2
    · exact ih.2 t ht
theorem sh_tup {m : Nat} {xs : List PyData} (h : ∀ x ∈ xs, Sh m x) : Sh (xs.length * (m + 2) + 3) (.tuple xs) := by
  obtain ⟨h1, h2⟩ := sh_all xs h
  obtain ⟨j1, j2⟩ := join_good _ h2
  rw [PyData.shownAll_length] at j2
  refine ⟨by rw [PyData.showable]; exact h1, ?_, ?_⟩
  · rw [PyData.shown_tuple, strOk_app, strOk_app, j1, show PyData.strOk ("(" : Str) = true from by decide +kernel]
    split
    · decide +kernel
    · decide +kernel
  · rw [PyData.shown_tuple, str_len, str_len, show ("(" : Str).length = 1 from by decide +kernel]
    have e1 : (Str.ofString ",)").length = 2 := by decide +kernel
    have e2 : (Str.ofString ")").length = 1 := by decide +kernel
    have : ((if xs.length == 1 then ",)" else ")" : String) : Str).length ≤ 2 := by
      split
      · exact Nat.le_of_eq e1
      · exact Nat.le_trans (Nat.le_of_eq e2) (by omega)
    omega
theorem Sh.up {m k : Nat} {d : PyData} (h : Sh m d) (q : m ≤ k) : Sh k d := ⟨h.1, h.2.1, Nat.le_trans h.2.2 q⟩
theorem sh_nI {n : Nat} (h : n < 24) : Sh 2 (nI n) := by
  have : ∀ m, m < 24 → ((nI m).showable = true ∧ PyData.strOk (nI m).shown = true ∧ (nI m).shown.length ≤ 2) := by decide +kernel
  exact this n h
theorem sh_T {a : List Nat} (h : ∀ x ∈ a, x < 24) (l : a.length ≤ 24) : Sh 99 (T a) := by
  refine (sh_tup (m := 2) fun x hx => ?_).up ?_
  · obtain ⟨i, hi, rfl⟩ := List.mem_map.mp hx
    exact sh_nI (h i hi)
  · rw [Ts_len]
    omega
theorem sh_Tr {cs : List (List Nat)} (h : ∀ c ∈ cs, (∀ x ∈ c, x < 24) ∧ c.length ≤ 24) (l : cs.length ≤ 24) : Sh 2500 (.tuple (cs.map T)) := by
  refine (sh_tup (m := 99) fun x hx => ?_).up ?_
  · obtain ⟨i, hi, rfl⟩ := List.mem_map.mp hx
    exact sh_T (h i hi).1 (h i hi).2
  · rw [List.length_map]
    omega
/-- all that a look at a repr needs -/
def Say (d : PyData) : Prop := d.showable = true ∧ d.canLay0 = true ∧ d.depth ≤ 60 ∧ d.shown.length ≤ sizeLine ∧ SeqAt.shaped (.str d.shown) = true
theorem Sh.say {d : PyData} (h : Sh 100000 d) (h1 : d.canLay0 = true) (h2 : d.depth ≤ 60) : Say d := ⟨h.1, h1, h2, by rw [sizeLine_eq]; have := h.2.2; omega, cut_str h.2.1⟩
theorem say_T {a : List Nat} (h : Pm a) (l : a.length ≤ 24) : Say (T a) :=
  ((sh_T (fun x hx => by have := h.1 x hx; omega) l).up (by omega)).say (lay_T a) (by have := depth_T a; omega)
theorem lay_tup {xs : List PyData} (h : PyData.canLayAll0 xs = true) : (PyData.tuple xs).canLay0 = true := by rw [PyData.canLay0]; exact h
theorem say_Tr {a : List Nat} (h : Pm a) (l : a.length ≤ 24) : Say (.tuple ((rounds a).map T)) := by
  have rl := rounds_len a
  refine ((sh_Tr (fun c hc => ?_) (by omega)).up (by omega)).say (lay_tup (lay_Tr _)) ?_
  · refine ⟨fun x hx => ?_, by have := cyc_le h hc; omega⟩
    obtain ⟨_, _, _, _, _, _, _, q⟩ := in_round h hc hx
    omega
  · have := depth_Tr (rounds a)
    rw [PyData.depth]
    omega
/-! rows of things -/
def thing (i : Nat) : PyData := .tuple [.str "thing", nI i]
def things (n : Nat) : List PyData := (List.range n).map thing
theorem sh_thing {i : Nat} (h : i < 24) : Sh 25 (thing i) := by
  refine (sh_tup (m := 9) fun x hx => ?_).up (by simp)
  simp at hx
  rcases hx with rfl | rfl
  · have : ((PyData.str "thing").showable = true ∧ PyData.strOk (PyData.str "thing").shown = true ∧ (PyData.str "thing").shown.length ≤ 9) := by decide +kernel
    exact this
  · exact (sh_nI h).up (by omega)
theorem thing_ok (i : Nat) : (thing i).canLay0 = true ∧ (thing i).depth ≤ 1 := by
  have z : PyData.strOk ("thing" : Str) = true := by decide +kernel
  unfold thing nI
  simp [PyData.canLay0, PyData.canLayAll0, PyData.depth, PyData.depthAll, z]
theorem row_ok : ∀ xs : List PyData, (∀ x ∈ xs, x.canLay0 = true ∧ x.depth ≤ 1) → PyData.canLayAll0 xs = true ∧ PyData.depthAll xs ≤ 1
  | [], _ => by simp [PyData.canLayAll0, PyData.depthAll]
  | x :: xs, h => by
    have h1 := h x (by simp)
    have ih := row_ok xs fun y hy => h y (List.mem_cons_of_mem _ hy)
    rw [PyData.canLayAll0, h1.1, ih.1, PyData.depthAll]
    exact ⟨rfl, by have := ih.2; have := h1.2; omega⟩
theorem say_row {xs : List PyData} (h : ∀ x ∈ xs, ∃ i, i < 24 ∧ x = thing i) (l : xs.length ≤ 24) : Say (.tuple xs) := by
  have q := row_ok xs fun x hx => by obtain ⟨i, _, rfl⟩ := h x hx; exact thing_ok i
  refine ((sh_tup (m := 25) fun x hx => ?_).up (by omega)).say (lay_tup q.1) (by rw [PyData.depth]; have := q.2; omega)
  obtain ⟨i, hi, rfl⟩ := h x hx
  exact sh_thing hi
end K05
/-! K12: one look of the law. -/
namespace K05
open PySem PySem.Spec PyProof.Rows L2 Dn PySem.W
def W__law_right : OM := fun d0 ds R => ∃ c : Nat, potOk c d0 ∧ c ≤ 800000 ∧ ds = [] ∧ ∀ d1, potOk (c + 200) d1 → R (.fz (.bool true)) d1
/-- level 9, calls: _law_take _law_turn _law_of turned_by is_turn rounds_of _law_led behind back _law_are_orders_right times order_of moved _law_some turn_of_rounds; slots: 0 pot 1 many 2 one 3 other 4 third 5 number 6 its 7 row 8 half 9 first 10 last 11 lap 12 place -/
def wb__law_right : WS := (wSeq (wSet 1 (wCall oInt (wCons (w2 oAdd (wC (.int 1)) (wDefM 0 2 W__law_take (wCons (wC (.int 9)) wNil))) wNil))) (wSeq (wUnp (wLc (wIc (wRng1 (wC (.int 3)))) (gPut 11) wYes (wDefM 0 2 W__law_turn (wCons (wName 1) wNil)) [11]) (gUnlW 3 (gsCons (gPut 2) (gsCons (gPut 3) (gsCons (gPut 4) gsNil))))) (wSeq (wSet 5 (wDefM 0 2 W__law_of (wCons (wLst (wCons (wC (.int 0)) (wCons (wC (.int 1)) (wCons (wNeg (wC (.int 1))) (wCons (wC (.int 2)) (wCons (wC (.int 7)) (wCons (wNeg (wC (.int 12))) (wCons (wC (.int 1000000)) (wCons (wNeg (wC (.int 1000000))) (wCons (w2 oAdd (wC (.int 360361)) (wDefM 0 2 W__law_take (wCons (wC (.int 9)) wNil))) wNil)))))))))) wNil))) (wSeq (wSet 6 (wDefK 2 2 [1, 0] W_turned_by (wCons (wName 4) (wCons (wName 2) wNil)))) (wSeq (wIfS (wOrT (wBool (w2 oIsnt (wDef 2 W_is_turn (wCons (wName 1) (wCons (wName 6) wNil))) (wC (.bool true)))) (wBool (w2 oNe (wCall oRepr (wCons (wDef 1 W_rounds_of (wCons (wName 6) wNil)) wNil)) (wCall oRepr (wCons (wDef 2 W__law_led (wCons (wDef 1 W_rounds_of (wCons (wName 2) wNil)) (wCons (wName 4) wNil))) wNil))))) (wRet (wC (.bool false))) wNext) (wSeq (wIfS (wOrT (wBool (w2 oNe (wCall oRepr (wCons (wName 6) wNil)) (wCall oRepr (wCons (wDef 2 W_behind (wCons (wDef 2 W_behind (wCons (wDef 1 W_back (wCons (wName 4) wNil)) (wCons (wName 2) wNil))) (wCons (wName 4) wNil))) wNil)))) (wNot (wBool (wDef 2 W__law_are_orders_right (wCons (wName 2) (wCons (wName 3) wNil)))))) (wRet (wC (.bool false))) wNext) (wSeq (wIfS (wOrT (wBool (w2 oNe (wDef 2 W_turned_by (wCons (wDef 2 W_behind (wCons (wName 2) (wCons (wName 3) wNil))) (wCons (wName 4) wNil))) (wDef 2 W_behind (wCons (wName 6) (wCons (wDef 2 W_turned_by (wCons (wName 3) (wCons (wName 4) wNil))) wNil))))) (wBool (w2 oNe (wDef 2 W_turned_by (wCons (wDef 1 W_back (wCons (wName 2) wNil)) (wCons (wName 4) wNil))) (wDef 1 W_back (wCons (wName 6) wNil))))) (wRet (wC (.bool false))) wNext) (wSeq (wIfS (wOrT (wBool (w2 oNe (wDef 2 W_turned_by (wCons (wDef 2 W_times (wCons (wName 2) (wCons (wName 5) wNil))) (wCons (wName 4) wNil))) (wDef 2 W_times (wCons (wName 6) (wCons (wName 5) wNil))))) (wBool (w2 oNe (wDef 2 W_turned_by (wCons (wDef 2 W_turned_by (wCons (wName 2) (wCons (wName 3) wNil))) (wCons (wName 4) wNil))) (wDef 2 W_turned_by (wCons (wName 2) (wCons (wDef 2 W_behind (wCons (wName 3) (wCons (wName 4) wNil))) wNil)))))) (wRet (wC (.bool false))) wNext) (wSeq (wIfS (wOrT (wBool (w2 oNe (wDef 2 W_turned_by (wCons (wName 6) (wCons (wDef 1 W_back (wCons (wName 4) wNil)) wNil))) (wName 2))) (wBool (w2 oNe (wDef 1 W_back (wCons (wDef 2 W_behind (wCons (wName 2) (wCons (wName 3) wNil))) wNil)) (wDef 2 W_behind (wCons (wDef 1 W_back (wCons (wName 3) wNil)) (wCons (wDef 1 W_back (wCons (wName 2) wNil)) wNil)))))) (wRet (wC (.bool false))) wNext) (wSeq (wIfS (wOrT (wBool (w2 oNe (wDef 2 W_behind (wCons (wDef 2 W_times (wCons (wName 2) (wCons (w2 oMod (wName 5) (wC (.int 1000))) wNil))) (wCons (wDef 2 W_times (wCons (wName 2) (wCons (w2 oSub (wC (.int 5)) (w2 oMod (wName 5) (wC (.int 1000)))) wNil))) wNil))) (wDef 2 W_times (wCons (wName 2) (wCons (wC (.int 5)) wNil))))) (wBool (w2 oNe (wDef 2 W_times (wCons (wName 2) (wCons (wName 5) wNil))) (wDef 2 W_times (wCons (wName 2) (wCons (w2 oMod (wName 5) (wDef 1 W_order_of (wCons (wName 2) wNil))) wNil)))))) (wRet (wC (.bool false))) wNext) (wSeq (wSet 7 (wCall oTup (wCons (wLc (wIc (wRng1 (wName 1))) (gPut 12) wYes (wTup (wCons (wC (.str "thing")) (wCons (wName 12) wNil))) [12]) wNil))) (wSeq (wIfS (wOrT (wBool (w2 oNe (wCall oRepr (wCons (wDef 2 W_moved (wCons (wDef 2 W_behind (wCons (wName 2) (wCons (wName 3) wNil))) (wCons (wName 7) wNil))) wNil)) (wCall oRepr (wCons (wDef 2 W_moved (wCons (wName 3) (wCons (wDef 2 W_moved (wCons (wName 2) (wCons (wName 7) wNil))) wNil))) wNil)))) (wBool (w2 oNe (wCall oRepr (wCons (wDef 2 W_moved (wCons (wDef 1 W_back (wCons (wName 2) wNil)) (wCons (wDef 2 W_moved (wCons (wName 2) (wCons (wName 7) wNil))) wNil))) wNil)) (wCall oRepr (wCons (wName 7) wNil))))) (wRet (wC (.bool false))) wNext) (wSeq (wSet 8 (w2 oDiv (wName 1) (wC (.int 2)))) (wSeq (wSet 9 (wCall oTup (wCons (w2 oAdd (wDefM 0 3 W__law_some (wCons (wLstRg1 (wName 8)) (wCons (wName 8) wNil))) (wLstRg2 (wName 8) (wName 1))) wNil))) (wSeq (wSet 10 (wCall oTup (wCons (w2 oAdd (wLstRg1 (wName 8)) (wDefM 0 3 W__law_some (wCons (wLstRg2 (wName 8) (wName 1)) (wCons (w2 oSub (wName 1) (wName 8)) wNil)))) wNil))) (wSeq (wIfS (wOrT (wBool (w2 oNe (wDef 2 W_behind (wCons (wName 9) (wCons (wName 10) wNil))) (wDef 2 W_behind (wCons (wName 10) (wCons (wName 9) wNil))))) (wBool (w2 oNe (wDef 1 W_rounds_of (wCons (wDef 2 W_behind (wCons (wName 9) (wCons (wName 10) wNil))) wNil)) (wCall oTup (wCons (wCall oSorted (wCons (w2 oAdd (wDef 1 W_rounds_of (wCons (wName 9) wNil)) (wDef 1 W_rounds_of (wCons (wName 10) wNil))) wNil)) wNil))))) (wRet (wC (.bool false))) wNext) (wRet (w2 oEq (wCall oRepr (wCons (wDef 2 W_turn_of_rounds (wCons (wName 1) (wCons (w2 oAdd (wDef 1 W_rounds_of (wCons (wName 9) wNil)) (wDef 1 W_rounds_of (wCons (wName 10) wNil))) wNil))) wNil)) (wCall oRepr (wCons (wDef 2 W_behind (wCons (wName 9) (wCons (wName 10) wNil))) wNil))))))))))))))))))))
def r0 : WS := (wSet 1 (wCall oInt (wCons (w2 oAdd (wC (.int 1)) (wDefM 0 2 W__law_take (wCons (wC (.int 9)) wNil))) wNil)))
def r1 : WS := (wUnp (wLc (wIc (wRng1 (wC (.int 3)))) (gPut 11) wYes (wDefM 0 2 W__law_turn (wCons (wName 1) wNil)) [11]) (gUnlW 3 (gsCons (gPut 2) (gsCons (gPut 3) (gsCons (gPut 4) gsNil)))))
def r2 : WS := (wSet 5 (wDefM 0 2 W__law_of (wCons (wLst (wCons (wC (.int 0)) (wCons (wC (.int 1)) (wCons (wNeg (wC (.int 1))) (wCons (wC (.int 2)) (wCons (wC (.int 7)) (wCons (wNeg (wC (.int 12))) (wCons (wC (.int 1000000)) (wCons (wNeg (wC (.int 1000000))) (wCons (w2 oAdd (wC (.int 360361)) (wDefM 0 2 W__law_take (wCons (wC (.int 9)) wNil))) wNil)))))))))) wNil)))
def r3 : WS := (wSet 6 (wDefK 2 2 [1, 0] W_turned_by (wCons (wName 4) (wCons (wName 2) wNil))))
def r4 : WS := (wIfS (wOrT (wBool (w2 oIsnt (wDef 2 W_is_turn (wCons (wName 1) (wCons (wName 6) wNil))) (wC (.bool true)))) (wBool (w2 oNe (wCall oRepr (wCons (wDef 1 W_rounds_of (wCons (wName 6) wNil)) wNil)) (wCall oRepr (wCons (wDef 2 W__law_led (wCons (wDef 1 W_rounds_of (wCons (wName 2) wNil)) (wCons (wName 4) wNil))) wNil))))) (wRet (wC (.bool false))) wNext)
def r5 : WS := (wIfS (wOrT (wBool (w2 oNe (wCall oRepr (wCons (wName 6) wNil)) (wCall oRepr (wCons (wDef 2 W_behind (wCons (wDef 2 W_behind (wCons (wDef 1 W_back (wCons (wName 4) wNil)) (wCons (wName 2) wNil))) (wCons (wName 4) wNil))) wNil)))) (wNot (wBool (wDef 2 W__law_are_orders_right (wCons (wName 2) (wCons (wName 3) wNil)))))) (wRet (wC (.bool false))) wNext)
def r6 : WS := (wIfS (wOrT (wBool (w2 oNe (wDef 2 W_turned_by (wCons (wDef 2 W_behind (wCons (wName 2) (wCons (wName 3) wNil))) (wCons (wName 4) wNil))) (wDef 2 W_behind (wCons (wName 6) (wCons (wDef 2 W_turned_by (wCons (wName 3) (wCons (wName 4) wNil))) wNil))))) (wBool (w2 oNe (wDef 2 W_turned_by (wCons (wDef 1 W_back (wCons (wName 2) wNil)) (wCons (wName 4) wNil))) (wDef 1 W_back (wCons (wName 6) wNil))))) (wRet (wC (.bool false))) wNext)
def r7 : WS := (wIfS (wOrT (wBool (w2 oNe (wDef 2 W_turned_by (wCons (wDef 2 W_times (wCons (wName 2) (wCons (wName 5) wNil))) (wCons (wName 4) wNil))) (wDef 2 W_times (wCons (wName 6) (wCons (wName 5) wNil))))) (wBool (w2 oNe (wDef 2 W_turned_by (wCons (wDef 2 W_turned_by (wCons (wName 2) (wCons (wName 3) wNil))) (wCons (wName 4) wNil))) (wDef 2 W_turned_by (wCons (wName 2) (wCons (wDef 2 W_behind (wCons (wName 3) (wCons (wName 4) wNil))) wNil)))))) (wRet (wC (.bool false))) wNext)
def r8 : WS := (wIfS (wOrT (wBool (w2 oNe (wDef 2 W_turned_by (wCons (wName 6) (wCons (wDef 1 W_back (wCons (wName 4) wNil)) wNil))) (wName 2))) (wBool (w2 oNe (wDef 1 W_back (wCons (wDef 2 W_behind (wCons (wName 2) (wCons (wName 3) wNil))) wNil)) (wDef 2 W_behind (wCons (wDef 1 W_back (wCons (wName 3) wNil)) (wCons (wDef 1 W_back (wCons (wName 2) wNil)) wNil)))))) (wRet (wC (.bool false))) wNext)
def r9 : WS := (wIfS (wOrT (wBool (w2 oNe (wDef 2 W_behind (wCons (wDef 2 W_times (wCons (wName 2) (wCons (w2 oMod (wName 5) (wC (.int 1000))) wNil))) (wCons (wDef 2 W_times (wCons (wName 2) (wCons (w2 oSub (wC (.int 5)) (w2 oMod (wName 5) (wC (.int 1000)))) wNil))) wNil))) (wDef 2 W_times (wCons (wName 2) (wCons (wC (.int 5)) wNil))))) (wBool (w2 oNe (wDef 2 W_times (wCons (wName 2) (wCons (wName 5) wNil))) (wDef 2 W_times (wCons (wName 2) (wCons (w2 oMod (wName 5) (wDef 1 W_order_of (wCons (wName 2) wNil))) wNil)))))) (wRet (wC (.bool false))) wNext)
def r10 : WS := (wSet 7 (wCall oTup (wCons (wLc (wIc (wRng1 (wName 1))) (gPut 12) wYes (wTup (wCons (wC (.str "thing")) (wCons (wName 12) wNil))) [12]) wNil)))
def r11 : WS := (wIfS (wOrT (wBool (w2 oNe (wCall oRepr (wCons (wDef 2 W_moved (wCons (wDef 2 W_behind (wCons (wName 2) (wCons (wName 3) wNil))) (wCons (wName 7) wNil))) wNil)) (wCall oRepr (wCons (wDef 2 W_moved (wCons (wName 3) (wCons (wDef 2 W_moved (wCons (wName 2) (wCons (wName 7) wNil))) wNil))) wNil)))) (wBool (w2 oNe (wCall oRepr (wCons (wDef 2 W_moved (wCons (wDef 1 W_back (wCons (wName 2) wNil)) (wCons (wDef 2 W_moved (wCons (wName 2) (wCons (wName 7) wNil))) wNil))) wNil)) (wCall oRepr (wCons (wName 7) wNil))))) (wRet (wC (.bool false))) wNext)
def r12 : WS := (wSet 8 (w2 oDiv (wName 1) (wC (.int 2))))
def r13 : WS := (wSet 9 (wCall oTup (wCons (w2 oAdd (wDefM 0 3 W__law_some (wCons (wLstRg1 (wName 8)) (wCons (wName 8) wNil))) (wLstRg2 (wName 8) (wName 1))) wNil)))
def r14 : WS := (wSet 10 (wCall oTup (wCons (w2 oAdd (wLstRg1 (wName 8)) (wDefM 0 3 W__law_some (wCons (wLstRg2 (wName 8) (wName 1)) (wCons (w2 oSub (wName 1) (wName 8)) wNil)))) wNil)))
def r15 : WS := (wIfS (wOrT (wBool (w2 oNe (wDef 2 W_behind (wCons (wName 9) (wCons (wName 10) wNil))) (wDef 2 W_behind (wCons (wName 10) (wCons (wName 9) wNil))))) (wBool (w2 oNe (wDef 1 W_rounds_of (wCons (wDef 2 W_behind (wCons (wName 9) (wCons (wName 10) wNil))) wNil)) (wCall oTup (wCons (wCall oSorted (wCons (w2 oAdd (wDef 1 W_rounds_of (wCons (wName 9) wNil)) (wDef 1 W_rounds_of (wCons (wName 10) wNil))) wNil)) wNil))))) (wRet (wC (.bool false))) wNext)
def r16 : WS := (wRet (w2 oEq (wCall oRepr (wCons (wDef 2 W_turn_of_rounds (wCons (wName 1) (wCons (w2 oAdd (wDef 1 W_rounds_of (wCons (wName 9) wNil)) (wDef 1 W_rounds_of (wCons (wName 10) wNil))) wNil))) wNil)) (wCall oRepr (wCons (wDef 2 W_behind (wCons (wName 9) (wCons (wName 10) wNil))) wNil))))
theorem wb_right : wb__law_right = (wSeq r0 (wSeq r1 (wSeq r2 (wSeq r3 (wSeq r4 (wSeq r5 (wSeq r6 (wSeq r7 (wSeq r8 (wSeq r9 (wSeq r10 (wSeq r11 (wSeq r12 (wSeq r13 (wSeq r14 (wSeq r15 r16)))))))))))))))) := rfl
/-- what the looks see -/
structure Sn (a b c : List Nat) (k : Int) : Prop where
  pa : Pm a
  pb : Pm b
  pc : Pm c
  ab : a.length = b.length
  ac : a.length = c.length
  n1 : 1 ≤ a.length
  n9 : a.length ≤ 9
  k1 : -1000000 ≤ k
  k2 : k ≤ 1000000
def sr (d : List PyData) (a b c : List Nat) (k : Int) (r : List Dn.Slot) : List Dn.Slot := .pm d :: .fz (nI a.length) :: .fz (T a) :: .fz (T b) :: .fz (T c) :: .fz (.int k) :: .fz (T (cj a c)) :: r
theorem cj_def (a c : List Nat) : th (th (inv c) a) c = cj a c := rfl
theorem rd_r4 {a b c : List Nat} {k : Int} (S : Sn a b c k) (d : List PyData) (r : List Dn.Slot) (E : EndsD) (h : E.nx (sr d a b c k r)) : r4 E (sr d a b c k r) := by
  obtain ⟨pa, pb, pc, ab, ac, n1, n9, k1, k2⟩ := S
  have jp := cj_pm pa pc ac
  have jl := cj_len a c
  have l24 : a.length ≤ 24 := by omega
  have j1 : 1 ≤ (cj a c).length := by omega
  have j24 : (cj a c).length ≤ 24 := by omega
  have c24 : c.length ≤ 24 := by omega
  have nj : nI a.length = nI (cj a c).length := by rw [jl, ac]
  obtain ⟨s1, s2, s3, s4, s5⟩ := say_Tr jp j24
  simp [r4, sr, W_is_turn, W_rounds_of, W__law_led, T_inj, and_assoc, pa, pc, ac, jp, jl, n1, l24, j1, j24, c24]
  have n1 : 1 ≤ c.length := by omega
  refine ⟨cj a c, by rw [jl], rfl, jp, by omega, by omega, n1, s1, s2, s3, s4, n1, a, rfl, pa, ac, s1, s2, s3, s4, s5, s5, ?_⟩
  rw [if_pos (eqv_str _)]
  unfold sr at h
  rw [ac] at h
  exact h
theorem rd_r5 {a b c : List Nat} {k : Int} (S : Sn a b c k) (d : List PyData) (r : List Dn.Slot) (E : EndsD) (h : E.nx (sr d a b c k r)) : r5 E (sr d a b c k r) := by
  obtain ⟨pa, pb, pc, ab, ac, n1, n9, k1, k2⟩ := S
  have jp := cj_pm pa pc ac
  have jl := cj_len a c
  have l24 : a.length ≤ 24 := by omega
  have j24 : (cj a c).length ≤ 24 := by omega
  have c1 : 1 ≤ c.length := by omega
  have c24 : c.length ≤ 24 := by omega
  have t1 := th_pm (inv_pm pc) pa (by rw [inv_len, ac])
  obtain ⟨s1, s2, s3, s4, s5⟩ := say_T jp j24
  simp [r5, sr, W_behind, W_back, W__law_are_orders_right, T_inj, and_assoc, pa, pb, pc, n1, n9, c1, c24, inv_pm, inv_len, th_len, t1, cj_def, ac.symm, ab, s1, s2, s3, s4, s5, eqv_str]
  unfold sr at h
  rw [ab] at h
  exact ⟨by omega, by omega, by omega, by omega, by omega, by omega, by omega, by omega, h⟩
theorem rd_r6 {a b c : List Nat} {k : Int} (S : Sn a b c k) (d : List PyData) (r : List Dn.Slot) (E : EndsD) (h : E.nx (sr d a b c k r)) : r6 E (sr d a b c k r) := by
  obtain ⟨pa, pb, pc, ab, ac, n1, n9, k1, k2⟩ := S
  have bc : b.length = c.length := by omega
  have jp := cj_pm pa pc ac
  have jl := cj_len a c
  have c1 : 1 ≤ c.length := by omega
  have c24 : c.length ≤ 24 := by omega
  have t1 := th_pm pa pb ab
  simp [r6, sr, W_behind, W_back, W_turned_by, T_inj, and_assoc, pa, pb, pc, ab, bc, c1, c24, inv_pm, inv_len, th_len, t1, cj_def, jp, jl, cj_pm, cj_len, cj_th pa pb pc ac bc, cj_inv pa pc ac, shaped_T, eqv_T]
  unfold sr at h
  rw [ac] at h
  exact h
theorem rd_r7 {a b c : List Nat} {k : Int} (S : Sn a b c k) (d : List PyData) (r : List Dn.Slot) (E : EndsD) (h : E.nx (sr d a b c k r)) : r7 E (sr d a b c k r) := by
  obtain ⟨pa, pb, pc, ab, ac, n1, n9, k1, k2⟩ := S
  have bc : b.length = c.length := by omega
  have jp := cj_pm pa pc ac
  have jl := cj_len a c
  have c1 : 1 ≤ c.length := by omega
  have c24 : c.length ≤ 24 := by omega
  have t1 := th_pm pb pc bc
  simp [r7, sr, W_behind, W_times, W_turned_by, T_inj, and_assoc, pa, pb, pc, ab, bc, c1, c24, inv_pm, inv_len, th_len, t1, cj_def, jp, jl, cj_pm, cj_len, pw_pm, pw_len, k1, k2, cj_pw pa pc ac, cj_cj pa pb pc ab bc, shaped_T, eqv_T]
  unfold sr at h
  rw [ac] at h
  exact h
theorem rd_r8 {a b c : List Nat} {k : Int} (S : Sn a b c k) (d : List PyData) (r : List Dn.Slot) (E : EndsD) (h : E.nx (sr d a b c k r)) : r8 E (sr d a b c k r) := by
  obtain ⟨pa, pb, pc, ab, ac, n1, n9, k1, k2⟩ := S
  have bc : b.length = c.length := by omega
  have jp := cj_pm pa pc ac
  have jl := cj_len a c
  have c1 : 1 ≤ c.length := by omega
  have c24 : c.length ≤ 24 := by omega
  have t1 := th_pm pa pb ab
  simp [r8, sr, W_behind, W_back, W_turned_by, T_inj, and_assoc, pa, pb, pc, ab, bc, c1, c24, inv_pm, inv_len, th_len, t1, cj_def, jp, jl, cj_back pa pc ac, inv_th pa pb ab, shaped_T, eqv_T]
  unfold sr at h
  rw [ac] at h
  exact h
theorem rd_r9 {a b c : List Nat} {k : Int} (S : Sn a b c k) (d : List PyData) (r : List Dn.Slot) (E : EndsD) (h : E.nx (sr d a b c k r)) : r9 E (sr d a b c k r) := by
  obtain ⟨pa, pb, pc, ab, ac, n1, n9, k1, k2⟩ := S
  have l24 : a.length ≤ 24 := by omega
  have op := ordr_le pa
  have ok := ordr9 pa n9
  simp [r9, sr, W_behind, W_times, W_order_of, T_inj, nI_int, and_assoc, pa, n1, l24, pw_pm, pw_len, k1, k2, shaped_T, eqv_T]
  have e1 : k.fmod 1000 = k % 1000 := Int.fmod_eq_emod_of_nonneg _ (by omega)
  have e2 : k.fmod (ordr a : Int) = k % (ordr a : Int) := Int.fmod_eq_emod_of_nonneg _ (by omega)
  have m1 := Int.emod_nonneg k (b := (ordr a : Int)) (by omega)
  have m2 := Int.emod_lt_of_pos k (b := (ordr a : Int)) (by omega)
  rw [e1, e2]
  refine ⟨by omega, by omega, by omega, by omega, ?_⟩
  rw [if_pos (by rw [pw_add pa]; congr 1; omega)]
  refine ⟨by omega, by omega, by omega, ?_⟩
  rw [if_pos (pw_ordr pa k).symm]
  exact h
/-! rows -/
def sq (d : List PyData) (a b c : List Nat) (k : Int) (r : List Dn.Slot) : List Dn.Slot := .pm d :: .fz (nI a.length) :: .fz (T a) :: .fz (T b) :: .fz (T c) :: .fz (.int k) :: .fz (T (cj a c)) :: .fz (.tuple (things a.length)) :: r
theorem imm_things (n : Nat) : immAll (things n) = true := immAll_map thing _ fun i => by simp [thing, nI]
theorem rd_r10 {a b c : List Nat} {k : Int} (S : Sn a b c k) (d : List PyData) (s7 s8 s9 s10 s11 s12 : Dn.Slot) (h7 : s7.isPm = false) (h12 : s12.own = false) (E : EndsD) (h : E.nx (sq d a b c k [s8, s9, s10, s11, s12])) : r10 E (sr d a b c k [s7, s8, s9, s10, s11, s12]) := by
  have p12 := own_pm h12
  have n9 := S.n9
  simp [r10, sr, h12, p12, nI_int]
  refine ⟨by omega, ?_⟩
  refine lc_m (List.range a.length) nI thing (rngD_T _) (small (by rw [List.length_range]; omega)) ?_ trivial (fun i x hx => ?_) ?_
  · simp [h12]
  · have tk : (things a.length).take (i + 1) = (things a.length).take i ++ [thing x] := take_at (by simp [things, hx])
    have il := (List.getElem?_eq_some_iff.mp hx).1
    rw [List.length_range] at il
    have ex : i = x := by
      rw [List.getElem?_range il] at hx
      exact Option.some.inj hx
    subst ex
    have x1 : min i a.length = i := by omega
    have x2 : min (i + 1) a.length = i + 1 := by omega
    simp [h12, p12, nI]
    rw [x1, x2, List.range_succ, List.map_append]
    exact ⟨by rw [sizeLine_eq]; omega, rfl⟩
  · have im := imm_things a.length
    unfold things at im
    simp [h7, h12, p12, im]
    exact h
theorem mv_things {a : List Nat} (h : Pm a) {row : List PyData} (l : row.length = a.length) (q : ∀ x ∈ row, ∃ i, i < 24 ∧ x = thing i) : ∀ x ∈ mv a row, ∃ i, i < 24 ∧ x = thing i := by
  intro x hx
  unfold mv at hx
  obtain ⟨j, hj, rfl⟩ := List.mem_map.mp hx
  have hj := List.mem_range.mp hj
  rw [idx_ap hj]
  have il := ap_lt (inv_pm h) (p := j) (by rw [inv_len]; exact hj)
  rw [inv_len, ← l] at il
  rw [List.getD_eq_getElem?_getD, List.getElem?_eq_getElem il]
  exact q _ (List.getElem_mem il)
theorem things_ok {n : Nat} (h : n ≤ 24) : ∀ x ∈ things n, ∃ i, i < 24 ∧ x = thing i := by
  intro x hx
  obtain ⟨i, hi, rfl⟩ := List.mem_map.mp hx
  exact ⟨i, by have := List.mem_range.mp hi; omega, rfl⟩
theorem imm_row {xs : List PyData} (q : ∀ x ∈ xs, ∃ i, i < 24 ∧ x = thing i) : immAll xs = true := by
  have : xs = xs.map id := (List.map_id xs).symm
  induction xs with
  | nil => rfl
  | cons x xs ih =>
    obtain ⟨i, _, rfl⟩ := q x (by simp)
    have := ih (fun y hy => q y (List.mem_cons_of_mem _ hy)) (List.map_id xs).symm
    simp [thing, nI, this]
theorem rd_r11 {a b c : List Nat} {k : Int} (S : Sn a b c k) (d : List PyData) (r : List Dn.Slot) (E : EndsD) (h : E.nx (sq d a b c k r)) : r11 E (sq d a b c k r) := by
  obtain ⟨pa, pb, pc, ab, ac, n1, n9, k1, k2⟩ := S
  have l24 : a.length ≤ 24 := by omega
  have b1 : 1 ≤ b.length := by omega
  have b24 : b.length ≤ 24 := by omega
  have t1 := th_pm pa pb ab
  have tl : (things a.length).length = a.length := by simp [things]
  have q0 := things_ok l24
  have q1 := mv_things pa tl q0
  have m1 : (mv a (things a.length)).length = b.length := by rw [mv_len, ab]
  have q2 := mv_things pb m1 q1
  have i0 := imm_row q0
  have i1 := imm_row q1
  have i2 := imm_row q2
  have m2 : (mv a (things a.length)).length = (inv a).length := by rw [mv_len, inv_len]
  have e2 := mv_th pa pb ab (things a.length)
  have e3 := mv_back pa tl
  obtain ⟨u1, u2, u3, u4, u5⟩ := say_row q2 (by rw [mv_len]; omega)
  obtain ⟨v1, v2, v3, v4, v5⟩ := say_row q0 (by rw [tl]; exact l24)
  rw [ab] at tl e2 e3 i0 i1 i2 u1 u2 u3 u4 u5 v1 v2 v3 v4 v5
  simp [r11, sq, W_moved, W_behind, W_back, T_inj, and_assoc, pa, pb, n1, l24, ab, b1, b24, t1, th_len, inv_pm, inv_len, mv_len, tl, e2, e3, i0, i1, i2, u1, u2, u3, u4, u5, v1, v2, v3, v4, v5, eqv_str]
  unfold sq at h
  rw [ab] at h
  exact h
/-! two turns that move unlike places -/
def sp (d : List PyData) (a b c : List Nat) (k : Int) (h : Nat) (r : List Dn.Slot) : List Dn.Slot := .pm d :: .fz (nI a.length) :: .fz (T a) :: .fz (T b) :: .fz (T c) :: .fz (.int k) :: .fz (T (cj a c)) :: .fz (.tuple (things a.length)) :: .fz (nI h) :: r
theorem rd_r12 {a b c : List Nat} {k : Int} (d : List PyData) (s8 s9 s10 s11 s12 : Dn.Slot) (h8 : s8.isPm = false) (E : EndsD) (h : E.nx (sp d a b c k (a.length / 2) [s9, s10, s11, s12])) : r12 E (sq d a b c k [s8, s9, s10, s11, s12]) := by
  simp [r12, sq, nI_int, h8]
  have e : ((a.length : Nat) : Int).fdiv 2 = ((a.length / 2 : Nat) : Int) := by
    rw [Int.fdiv_eq_ediv_of_nonneg _ (by omega)]
    rfl
  rw [e]
  exact ⟨.inl ⟨by omega, by omega⟩, h⟩
theorem rngU (h n : Nat) : rngD (h : Int) (n : Int) = Ts (upto h n) := by
  unfold rngD Ts upto nI
  rw [List.map_map, show ((n : Int) - h).toNat = n - h from by omega]
  exact List.map_congr_left fun i _ => by simp
theorem upto_len (h n : Nat) : (upto h n).length = n - h := by simp [upto]
theorem rd_r13 {a b c : List Nat} {k : Int} (S : Sn a b c k) (d : List PyData) (hf : d.all Dn.flt = true) {n : Nat} (hp : potOk n d) (hn : n ≤ 900000) {m : Nat} (hm : m ≤ a.length) (s9 s10 s11 s12 : Dn.Slot) (h9 : s9.isPm = false) (E : EndsD)
    (h : ∀ f d1, Lo f m → f.length = a.length → potOk (n + 24) d1 → E.nx (sp d1 a b c k m [.fz (T f), s10, s11, s12])) : r13 E (sp d a b c k m [s9, s10, s11, s12]) := by
  have n9 := S.n9
  simp [r13, sp, nI_int, h9, W__law_some, rngD_T, rngU, hf, hp.flt, -List.all_eq_true]
  refine ⟨⟨by omega, by omega⟩, n, hp, hn, List.range m, ⟨rfl, by rw [List.length_range]⟩, by rw [List.length_range]; omega, fun out d1 pm hd => ⟨by unfold RgOk; omega, ?_, ?_⟩⟩
  · rw [Ts_len, Ts_len, pm.length_eq, List.length_range, upto_len]
    exact small (by omega)
  · obtain ⟨q1, q2⟩ := lo_of hm pm
    have := h _ d1 q1 q2 hd
    unfold sp at this
    simpa [T, Ts, nI] using this
theorem rd_r14 {a b c : List Nat} {k : Int} (S : Sn a b c k) (d : List PyData) (hf : d.all Dn.flt = true) {n : Nat} (hp : potOk n d) (hn : n ≤ 900000) {m : Nat} (hm : m ≤ a.length) (s9 s10 s11 s12 : Dn.Slot) (h9 : s10.isPm = false) (E : EndsD)
    (h : ∀ l d1, Hi l m → l.length = a.length → potOk (n + 24) d1 → E.nx (sp d1 a b c k m [s9, .fz (T l), s11, s12])) : r14 E (sp d a b c k m [s9, s10, s11, s12]) := by
  have n9 := S.n9
  simp [r14, sp, nI_int, h9, W__law_some, rngD_T, rngU, hf, hp.flt, -List.all_eq_true]
  refine ⟨⟨by omega, by omega⟩, by unfold RgOk; omega, n, hp, hn, upto m a.length, ⟨rfl, by rw [upto_len]; omega⟩, by rw [upto_len]; omega, fun out d1 pm hd => ⟨?_, ?_⟩⟩
  · rw [Ts_len, Ts_len, pm.length_eq, List.length_range, upto_len]
    exact small (by omega)
  · obtain ⟨q1, q2⟩ := hi_of hm pm
    have := h _ d1 q1 q2 hd
    unfold sp at this
    simpa [T, Ts, nI] using this
theorem rd_r15 {a b c f l : List Nat} {k : Int} (S : Sn a b c k) (d : List PyData) {m : Nat} (hm : m ≤ a.length) (hf : Lo f m) (hl : Hi l m) (fl : f.length = a.length) (ll : l.length = a.length) (s11 s12 : Dn.Slot) (E : EndsD)
    (h : E.nx (sp d a b c k m [.fz (T f), .fz (T l), s11, s12])) : r15 E (sp d a b c k m [.fz (T f), .fz (T l), s11, s12]) := by
  have n9 := S.n9
  have n1 := S.n1
  have l24 : a.length ≤ 24 := by omega
  have pf := hf.1
  have pl := hl.1
  have e := fl.trans ll.symm
  have t1 := th_pm pf pl e
  have t2 := th_pm pl pf e.symm
  have uc := un_comm hf hl e
  have ur := un_rounds hf hl e (by omega)
  have so := sort_rounds (b := th f l) (List.Perm.refl _)
  simp [r15, sp, W_behind, W_rounds_of, T_inj, and_assoc, pf, pl, fl, ll, n1, l24, t1, t2, th_len, shaped_T, eqv_T, oSorted]
  rw [if_pos uc]
  have r1 := rounds_len f
  have r2 := rounds_len l
  have mt : List.map T (rounds f) ++ List.map T (rounds l) = List.map T (rounds (th f l)) := by rw [ur, List.map_append]
  have al := sort_alike (rounds (th f l))
  have sa : Sortable ((rounds (th f l)).map T) := sort_able fun x hx => by
    have := cyc_le t1 hx
    intro z
    rw [z] at this
    simp at this
  rw [mt, so, if_pos (by rw [eqv_Tr]; simp)]
  refine ⟨small (by omega), al, sa, lay_Tr _, fun d hd => ?_, small (by omega), shaped_Tr _, shaped_Tr _, h⟩
  rcases hd with ⟨x, _, rfl⟩ | ⟨x, _, rfl⟩
  · have := depth_T x
    omega
  · have := depth_T x
    omega
theorem rd_r16 {a b c f l : List Nat} {k : Int} (S : Sn a b c k) (d : List PyData) {m : Nat} (hm : m ≤ a.length) (hf : Lo f m) (hl : Hi l m) (fl : f.length = a.length) (ll : l.length = a.length) (s11 s12 : Dn.Slot) (E : EndsD)
    (h : E.rt (.fz (.bool true)) (sp d a b c k m [.fz (T f), .fz (T l), s11, s12])) : r16 E (sp d a b c k m [.fz (T f), .fz (T l), s11, s12]) := by
  have n9 := S.n9
  have n1 := S.n1
  have l24 : a.length ≤ 24 := by omega
  have pf := hf.1
  have pl := hl.1
  have e := fl.trans ll.symm
  have t1 := th_pm pf pl e
  have uc := un_comm hf hl e
  have ur := un_rounds hf hl e (by omega)
  obtain ⟨u1, u2, u3, u4, u5⟩ := say_T t1 (by rw [th_len]; omega)
  simp [r16, sp, W_behind, W_rounds_of, W_turn_of_rounds, T_inj, and_assoc, pf, pl, fl, ll, n1, l24, t1, th_len, u1, u2, u3, u4, u5, eqv_str]
  have r1 := rounds_len f
  have r2 := rounds_len l
  refine ⟨small (by omega), th f l, by rw [th_len, fl], by rw [ur, List.map_append], t1, by rw [th_len]; omega, by rw [th_len]; omega, u1, u2, u3, u4, u5, ?_⟩
  rw [eqv_str]
  exact h
end K05
/-! K13: the draws of one look; the law. -/
namespace K05
open PySem PySem.Spec PyProof.Rows L2 Dn PySem.W
theorem rd_r0 {c : Nat} {d0 : List PyData} (hp : potOk c d0) (hc : c ≤ 800000) (r : List Dn.Slot) (E : EndsD)
    (h : ∀ (n : Nat) d1, 1 ≤ n → n ≤ 9 → potOk (c + 1) d1 → E.nx (.pm d1 :: .fz (nI n) :: r)) : r0 E (.pm d0 :: .un :: r) := by
  simp [r0, W__law_take, hp.flt, -List.all_eq_true]
  refine ⟨c, hp, by omega, fun x d1 x0 x1 h1 => ?_⟩
  have := h (1 + x).toNat d1 (by omega) (by omega) h1
  unfold nI at this
  rw [show (((1 + x).toNat : Nat) : Int) = 1 + x from by omega] at this
  exact this
theorem rd_r1 {c n : Nat} {d0 : List PyData} (hp : potOk c d0) (hc : c ≤ 800010) (hn : n ≤ 9) (s5 s6 s7 s8 s9 s10 : Dn.Slot) (E : EndsD)
    (h : ∀ (x y z : List Nat) d1, Pm x → Pm y → Pm z → x.length = n → y.length = n → z.length = n → potOk (c + 72) d1 → E.nx [.pm d1, .fz (nI n), .fz (T x), .fz (T y), .fz (T z), s5, s6, s7, s8, s9, s10, .un, .un]) : r1 E [.pm d0, .fz (nI n), .un, .un, .un, s5, s6, s7, s8, s9, s10, .un, .un] := by
  simp [r1, W__law_turn, hp.flt, -List.all_eq_true]
  refine ⟨by simp [rngD, sizeLine_eq], by simp, fun i acc ρ => ∃ (L : List (List Nat)) (d1 : List PyData), acc = L.map T ∧ L.length = i ∧ (∀ x ∈ L, Pm x ∧ x.length = n) ∧ potOk (c + 24 * i) d1 ∧ ρ = [.pm d1, .fz (nI n), .un, .un, .un, s5, s6, s7, s8, s9, s10, .un, .un], ⟨[], d0, rfl, rfl, fun x hx => (by cases hx), hp, rfl⟩, ?_, ?_, ?_⟩
  · rintro i acc ρ ⟨L, d1, rfl, _, _, _, rfl⟩
    exact ⟨trivial, by simp⟩
  · rintro i d acc ρ hd ⟨L, d1, rfl, hl, hL, h1, rfl⟩
    have hi : i < 3 := by
      have := (List.getElem?_eq_some_iff.mp hd).1
      simpa [rngD] using this
    simp [W__law_turn, h1.flt, -List.all_eq_true]
    refine ⟨c + 24 * i, h1, by omega, n, rfl, by omega, fun x d2 px lx h2 => ?_⟩
    refine ⟨L ++ [x], by simp, by simp [hl], fun y hy => ?_, h2.up (by omega)⟩
    rcases List.mem_append.mp hy with q | q
    · exact hL y q
    · obtain rfl := List.mem_singleton.mp q
      exact ⟨px, lx⟩
  · rintro acc ρ ⟨L, d1, rfl, hl, hL, h1, rfl⟩
    rw [show (rngD 0 3).length = 3 from by simp [rngD]] at hl h1
    match L, hl with
    | [x, y, z], _ =>
      obtain ⟨p1, l1⟩ := hL x (by simp)
      obtain ⟨p2, l2⟩ := hL y (by simp)
      obtain ⟨p3, l3⟩ := hL z (by simp)
      simp
      exact h x y z d1 p1 p2 p3 l1 l2 l3 h1
theorem rd_r2 {c : Nat} {d0 : List PyData} (hp : potOk c d0) (hc : c ≤ 800100) (s1 s2 s3 s4 : Dn.Slot) (r : List Dn.Slot) (E : EndsD)
    (h : ∀ (k : Int) d1, -1000000 ≤ k → k ≤ 1000000 → potOk (c + 2) d1 → E.nx (.pm d1 :: s1 :: s2 :: s3 :: s4 :: .fz (.int k) :: r)) : r2 E (.pm d0 :: s1 :: s2 :: s3 :: s4 :: .un :: r) := by
  simp [r2, W__law_of, W__law_take, hp.flt, -List.all_eq_true]
  refine ⟨c, hp, by omega, fun x d1 x0 x1 h1 => ⟨by rw [sizeLine_eq]; omega, h1.flt, c + 1, h1, by omega, fun y d2 hy h2 => ?_⟩⟩
  rcases hy with rfl | rfl | rfl | rfl | rfl | rfl | rfl | rfl | rfl <;> exact h _ _ (by omega) (by omega) h2
theorem rd_r3 {a b c : List Nat} {k : Int} (S : Sn a b c k) (d : List PyData) (r : List Dn.Slot) (E : EndsD)
    (h : E.nx (sr d a b c k r)) : r3 E (.pm d :: .fz (nI a.length) :: .fz (T a) :: .fz (T b) :: .fz (T c) :: .fz (.int k) :: .un :: r) := by
  obtain ⟨pa, pb, pc, ab, ac, n1, n9, k1, k2⟩ := S
  have l24 : a.length ≤ 24 := by omega
  simp [r3, W_turned_by, T_inj, and_assoc, pa, pc, ac]
  unfold sr at h
  rw [ac] at h
  exact ⟨by omega, by omega, h⟩
theorem rd__law_right : ∀ d0 ds R, W__law_right d0 ds R → d0.all Dn.flt = true → ds.length + 1 = 1 → wb__law_right { nx := fun ρ => atM R (.fz .none) ρ, rt := fun r ρ => atM R r ρ } (entryM d0 ds (13 - (ds.length + 1))) := by
  rintro d0 ds R ⟨c, hp, hc, rfl, h⟩ hf _
  rw [wb_right]
  simp only [wSeq]
  show r0 _ [.pm d0, .un, .un, .un, .un, .un, .un, .un, .un, .un, .un, .un, .un]
  refine rd_r0 hp hc _ _ fun n d1 n1 n9 h1 => ?_
  refine rd_r1 h1 (by omega) n9 _ _ _ _ _ _ _ fun x y z d2 px py pz lx ly lz h2 => ?_
  refine rd_r2 h2 (by omega) _ _ _ _ _ _ fun k d3 k1 k2 h3 => ?_
  obtain rfl := lx
  have S : Sn x y z k := ⟨px, py, pz, ly.symm, lz.symm, n1, n9, k1, k2⟩
  refine rd_r3 S d3 _ _ ?_
  refine rd_r4 S d3 _ _ ?_
  refine rd_r5 S d3 _ _ ?_
  refine rd_r6 S d3 _ _ ?_
  refine rd_r7 S d3 _ _ ?_
  refine rd_r8 S d3 _ _ ?_
  refine rd_r9 S d3 _ _ ?_
  refine rd_r10 S d3 .un .un .un .un .un .un rfl rfl _ ?_
  refine rd_r11 S d3 _ _ ?_
  refine rd_r12 d3 .un .un .un .un .un rfl _ ?_
  refine rd_r13 S d3 h3.flt h3 (by omega) (by omega) .un .un .un .un rfl _ fun f d4 hf fl h4 => ?_
  refine rd_r14 S d4 h4.flt h4 (by omega) (by omega) _ .un .un .un rfl _ fun l d5 hl ll h5 => ?_
  refine rd_r15 S d5 (by omega) hf hl fl ll .un .un _ ?_
  refine rd_r16 S d5 (by omega) hf hl fl ll .un .un _ ?_
  exact ⟨h5.flt, h d5 (h5.up (by omega))⟩
/-- level 10, calls: _law_cells _law_pot _law_right; slots: 0 script 1 place 2 pot 3 lap -/
def wb_law : WS := (wSeq (wFor (wSeqI (wDef 2 W__law_cells (wCons (wName 0) (wCons (wC (.int 3)) wNil)))) (gPut 1) (wSeq (wSet 2 (wDef 2 W__law_pot (wCons (wName 0) (wCons (wName 1) wNil)))) (wIfS (wNot (wBool (wCall oAll (wCons (wLc (wIc (wRng1 (wC (.int 5)))) (gPut 3) wYes (wDefM 2 1 W__law_right wNil) [3]) wNil)))) (wRet (wC (.bool false))) wNext))) (wRet (wC (.bool true))))
def W_law : OA := fun ds R => ∃ sc : List Int, ds = [.list (sc.map .int)] ∧ sc.length ≤ 63 ∧ R (.fz (.bool true))
/-- five looks at one pot -/
def l_all : WE := (wCall oAll (wCons (wLc (wIc (wRng1 (wC (.int 5)))) (gPut 3) wYes (wDefM 2 1 W__law_right wNil) [3]) wNil))
theorem wb_law_eq : wb_law = (wSeq (wFor (wSeqI (wDef 2 W__law_cells (wCons (wName 0) (wCons (wC (.int 3)) wNil)))) (gPut 1) (wSeq (wSet 2 (wDef 2 W__law_pot (wCons (wName 0) (wCons (wName 1) wNil)))) (wIfS (wNot (wBool l_all)) (wRet (wC (.bool false))) wNext))) (wRet (wC (.bool true)))) := rfl
theorem rd_all {d0 : List PyData} (hp : potOk 0 d0) (s0 s1 s3 : Dn.Slot) (h3 : s3.own = false) (K : Rs → List Dn.Slot → Prop)
    (h : ∀ d1, K (.fz (.bool true)) [s0, s1, .ol d1, s3]) : l_all [s0, s1, .ol d0, s3] K := by
  have p3 := own_pm h3
  simp [l_all, h3]
  refine ⟨by simp [rngD, sizeLine_eq], by simp [h3], fun i acc ρ => ∃ d1 : List PyData, acc = List.replicate i (.bool true) ∧ potOk (200 * i) d1 ∧ ρ = [s0, s1, .ol d1, s3], ⟨d0, rfl, hp, rfl⟩, ?_, ?_, ?_⟩
  · rintro i acc ρ ⟨d1, rfl, _, rfl⟩
    exact ⟨trivial, by simp [h3]⟩
  · rintro i d acc ρ hd ⟨d1, rfl, h1, rfl⟩
    have hi : i < 5 := by
      have := (List.getElem?_eq_some_iff.mp hd).1
      simpa [rngD] using this
    simp [W__law_right, h1.flt, -List.all_eq_true, h3]
    refine ⟨200 * i, h1, by omega, fun d2 h2 => ⟨?_, h2.up (by omega)⟩⟩
    rw [List.replicate_succ']
  · rintro acc ρ ⟨d1, rfl, h1, rfl⟩
    rw [show (rngD 0 5).length = 5 from by simp [rngD]]
    simp
    exact h d1
theorem for_some {wi : WI} {wg : WG} {wb : WS} {E : EndsD} {ρ ρ1 : List Dn.Slot} (Inv : Nat → List Dn.Slot → Prop) (P : List PyData → Prop) (hi : ∀ R : List PyData → List Dn.Slot → Prop, (∀ ds, P ds → R ds ρ1) → wi ρ R) (h0 : Inv 0 ρ1)
    (hs : ∀ (ds : List PyData) (i : Nat) (d : PyData) (ρ : List Dn.Slot), P ds → ds[i]? = some d → Inv i ρ → wg d ρ fun ρ' => wb { E with nx := Inv (i + 1), ct := Inv (i + 1), bk := E.nx } ρ') (hd : ∀ ds ρ, P ds → Inv ds.length ρ → E.nx ρ) : wFor wi wg wb E ρ :=
  hi _ fun ds p => ⟨Inv, h0, fun i d ρ => hs ds i d ρ p, fun ρ => hd ds ρ p⟩
theorem rd_law : ∀ ds R, W_law ds R → ds.length = 1 → wb_law { nx := fun _ => R (.fz .none), rt := fun r _ => R r } (Dn.entry ds (4 - ds.length)) := by
  rintro ds R ⟨sc, rfl, hs, h⟩ _
  rw [wb_law_eq]
  simp only [wSeq]
  simp
  refine for_some (fun j ρ => ∃ u v : Dn.Slot, ρ = [.fz (.list (sc.map .int)), u, v, .un] ∧ u.isPm = false ∧ v.isPm = false) (fun ds => ∃ n, n ≤ 3 ∧ ds = Ts (List.range n)) (fun R' h' => ?_) ⟨.un, .un, rfl, rfl, rfl⟩ ?_ ?_
  · simp [W__law_cells]
    exact ⟨by omega, fun n n1 n3 => h' _ ⟨n, n3, rfl⟩⟩
  · rintro ds i d ρ ⟨n, n3, rfl⟩ hd ⟨u, v, rfl, hu, hv⟩
    obtain ⟨x, hx, rfl⟩ := get_Ts hd
    have hx2 := List.mem_range.mp (List.mem_of_getElem? hx)
    simp [hu, hv, W__law_pot, nI_int]
    refine ⟨sc, x, ⟨rfl, rfl⟩, by omega, hs, fun dd hp => ?_⟩
    refine rd_all hp _ _ .un rfl _ fun d1 => ?_
    simp
    exact ⟨_, _, ⟨rfl, rfl⟩, rfl, rfl⟩
  · rintro ds ρ ⟨n, n3, rfl⟩ ⟨u, v, rfl, hu, hv⟩
    simp
    exact h
end K05
namespace K05
open PySem PySem.Spec PyProof.Rows L2 Dn
/-! the defs by places, their scopes: printed by gen.py -/
def top (i : Nat) : Stmt := PySem.Challenge.pw_everyonegetsthere_k05_whole_turns_called.main.body.getD i (.Pass ⟨0, 0, 0, 0⟩)
abbrev s_is_integer : Stmt := top 8
abbrev N_is_integer : List Str := ["value"]
abbrev p_is_integer : List Str := ["value"]
abbrev s_is_between : Stmt := top 9
abbrev N_is_between : List Str := ["value", "low", "high"]
abbrev p_is_between : List Str := ["value", "low", "high"]
abbrev s_are_between : Stmt := top 10
abbrev N_are_between : List Str := ["value", "low", "high", "one"]
abbrev p_are_between : List Str := ["value", "low", "high"]
abbrev s_is_tuple_of : Stmt := top 11
abbrev N_is_tuple_of : List Str := ["value", "many"]
abbrev p_is_tuple_of : List Str := ["value", "many"]
abbrev s_check_many : Stmt := top 15
abbrev N_check_many : List Str := ["value"]
abbrev p_check_many : List Str := ["value"]
abbrev s_is_turn_of : Stmt := top 16
abbrev N_is_turn_of : List Str := ["many", "value"]
abbrev p_is_turn_of : List Str := ["many", "value"]
abbrev s_is_turn : Stmt := top 17
abbrev N_is_turn : List Str := ["many", "value"]
abbrev p_is_turn : List Str := ["many", "value"]
abbrev s_check_turn : Stmt := top 18
abbrev N_check_turn : List Str := ["value"]
abbrev p_check_turn : List Str := ["value"]
abbrev s_check_both_turns : Stmt := top 19
abbrev N_check_both_turns : List Str := ["one", "other"]
abbrev p_check_both_turns : List Str := ["one", "other"]
abbrev s_still_of : Stmt := top 20
abbrev N_still_of : List Str := ["many"]
abbrev p_still_of : List Str := ["many"]
abbrev s_still : Stmt := top 21
abbrev N_still : List Str := ["many"]
abbrev p_still : List Str := ["many"]
abbrev s_then : Stmt := top 22
abbrev N_then : List Str := ["one", "other", "place"]
abbrev p_then : List Str := ["one", "other"]
abbrev s_behind : Stmt := top 23
abbrev N_behind : List Str := ["one", "other"]
abbrev p_behind : List Str := ["one", "other"]
abbrev s_back_of : Stmt := top 24
abbrev N_back_of : List Str := ["turn", "found", "place", "there"]
abbrev p_back_of : List Str := ["turn"]
abbrev s_back : Stmt := top 25
abbrev N_back : List Str := ["turn"]
abbrev p_back : List Str := ["turn"]
abbrev s_times : Stmt := top 26
abbrev N_times : List Str := ["turn", "number", "found", "one", "at", "place"]
abbrev p_times : List Str := ["turn", "number"]
abbrev s_turned_by : Stmt := top 27
abbrev N_turned_by : List Str := ["one", "other"]
abbrev p_turned_by : List Str := ["one", "other"]
abbrev s_rounds_in : Stmt := top 28
abbrev N_rounds_in : List Str := ["turn", "found", "known", "begin", "one", "place"]
abbrev p_rounds_in : List Str := ["turn"]
abbrev s_rounds_of : Stmt := top 29
abbrev N_rounds_of : List Str := ["turn"]
abbrev p_rounds_of : List Str := ["turn"]
abbrev s_turn_by_rounds : Stmt := top 30
abbrev N_turn_by_rounds : List Str := ["many", "rounds", "found", "one", "at", "place"]
abbrev p_turn_by_rounds : List Str := ["many", "rounds"]
abbrev s_are_rounds : Stmt := top 31
abbrev N_are_rounds : List Str := ["many", "value", "places", "one"]
abbrev p_are_rounds : List Str := ["many", "value"]
abbrev s_turn_of_rounds : Stmt := top 32
abbrev N_turn_of_rounds : List Str := ["many", "rounds"]
abbrev p_turn_of_rounds : List Str := ["many", "rounds"]
abbrev s_common : Stmt := top 33
abbrev N_common : List Str := ["one", "other"]
abbrev p_common : List Str := ["one", "other"]
abbrev s_order_in : Stmt := top 34
abbrev N_order_in : List Str := ["turn", "found", "one"]
abbrev p_order_in : List Str := ["turn"]
abbrev s_order_of : Stmt := top 35
abbrev N_order_of : List Str := ["turn"]
abbrev p_order_of : List Str := ["turn"]
abbrev s_is_even_of : Stmt := top 36
abbrev N_is_even_of : List Str := ["turn", "one"]
abbrev p_is_even_of : List Str := ["turn"]
abbrev s_is_even : Stmt := top 37
abbrev N_is_even : List Str := ["turn"]
abbrev p_is_even : List Str := ["turn"]
abbrev s_row_moved : Stmt := top 38
abbrev N_row_moved : List Str := ["turn", "row", "found", "place", "one"]
abbrev p_row_moved : List Str := ["turn", "row"]
abbrev s_moved : Stmt := top 39
abbrev N_moved : List Str := ["turn", "row"]
abbrev p_moved : List Str := ["turn", "row"]
abbrev s__law_pot : Stmt := top 41
abbrev N__law_pot : List Str := ["script", "place", "cell", "own", "small"]
abbrev p__law_pot : List Str := ["script", "place"]
abbrev s__law_take : Stmt := top 42
abbrev N__law_take : List Str := ["pot", "upto", "digit", "prime", "blend"]
abbrev p__law_take : List Str := ["pot", "upto"]
abbrev s__law_of : Stmt := top 43
abbrev N__law_of : List Str := ["pot", "some"]
abbrev p__law_of : List Str := ["pot", "some"]
abbrev s__law_some : Stmt := top 44
abbrev N__law_some : List Str := ["pot", "pool", "many", "left", "found", "lap"]
abbrev p__law_some : List Str := ["pot", "pool", "many"]
abbrev s__law_cells : Stmt := top 45
abbrev N__law_cells : List Str := ["script", "limit"]
abbrev p__law_cells : List Str := ["script", "limit"]
abbrev s__law_turn : Stmt := top 46
abbrev N__law_turn : List Str := ["pot", "many"]
abbrev p__law_turn : List Str := ["pot", "many"]
abbrev s__law_led : Stmt := top 47
abbrev N__law_led : List Str := ["rounds", "turn", "found", "row", "its", "at", "place"]
abbrev p__law_led : List Str := ["rounds", "turn"]
abbrev s__law_common : Stmt := top 48
abbrev N__law_common : List Str := ["one", "other", "number"]
abbrev p__law_common : List Str := ["one", "other"]
abbrev s__law_are_orders_right : Stmt := top 49
abbrev N__law_are_orders_right : List Str := ["one", "other", "lengths", "least", "length", "row", "number"]
abbrev p__law_are_orders_right : List Str := ["one", "other"]
abbrev s__law_right : Stmt := top 50
abbrev N__law_right : List Str := ["pot", "many", "one", "other", "third", "number", "its", "row", "half", "first", "last", "lap", "place"]
abbrev p__law_right : List Str := ["pot"]
abbrev s_law : Stmt := top 51
abbrev N_law : List Str := ["script", "place", "pot", "lap"]
abbrev p_law : List Str := ["script"]
structure Txt (K : PySem.W.Frag) (mg : Str → Option Value) : Prop where
  b_isinstance : mg "isinstance" = none
  b_int : mg "int" = none
  b_bool : mg "bool" = none
  b_tuple : mg "tuple" = none
  b_all : mg "all" = none
  b_len : mg "len" = none
  b_set : mg "set" = none
  b_range : mg "range" = none
  b_enumerate : mg "enumerate" = none
  b_list : mg "list" = none
  b_dict : mg "dict" = none
  b_sum : mg "sum" = none
  b_abs : mg "abs" = none
  b_min : mg "min" = none
  b_max : mg "max" = none
  b_sorted : mg "sorted" = none
  b_repr : mg "repr" = none
  b_any : mg "any" = none
  c_MOST_PLACES : ∃ t, mg "MOST_PLACES" = some (.int 24 t)
  c_MOST_TIMES : ∃ t, mg "MOST_TIMES" = some (.int 1000000 t)
  d_is_integer : Df K mg "is_integer" s_is_integer p_is_integer
  d_is_between : Df K mg "is_between" s_is_between p_is_between
  d_are_between : Df K mg "are_between" s_are_between p_are_between
  d_is_tuple_of : Df K mg "is_tuple_of" s_is_tuple_of p_is_tuple_of
  d_check_many : Df K mg "check_many" s_check_many p_check_many
  d_is_turn_of : Df K mg "is_turn_of" s_is_turn_of p_is_turn_of
  d_is_turn : Df K mg "is_turn" s_is_turn p_is_turn
  d_check_turn : Df K mg "check_turn" s_check_turn p_check_turn
  d_check_both_turns : Df K mg "check_both_turns" s_check_both_turns p_check_both_turns
  d_still_of : Df K mg "still_of" s_still_of p_still_of
  d_still : Df K mg "still" s_still p_still
  d_then : Df K mg "then" s_then p_then
  d_behind : Df K mg "behind" s_behind p_behind
  d_back_of : Df K mg "back_of" s_back_of p_back_of
  d_back : Df K mg "back" s_back p_back
  d_times : Df K mg "times" s_times p_times
  d_turned_by : Df K mg "turned_by" s_turned_by p_turned_by
  d_rounds_in : Df K mg "rounds_in" s_rounds_in p_rounds_in
  d_rounds_of : Df K mg "rounds_of" s_rounds_of p_rounds_of
  d_turn_by_rounds : Df K mg "turn_by_rounds" s_turn_by_rounds p_turn_by_rounds
  d_are_rounds : Df K mg "are_rounds" s_are_rounds p_are_rounds
  d_turn_of_rounds : Df K mg "turn_of_rounds" s_turn_of_rounds p_turn_of_rounds
  d_common : Df K mg "common" s_common p_common
  d_order_in : Df K mg "order_in" s_order_in p_order_in
  d_order_of : Df K mg "order_of" s_order_of p_order_of
  d_is_even_of : Df K mg "is_even_of" s_is_even_of p_is_even_of
  d_is_even : Df K mg "is_even" s_is_even p_is_even
  d_row_moved : Df K mg "row_moved" s_row_moved p_row_moved
  d_moved : Df K mg "moved" s_moved p_moved
  d__law_pot : Df K mg "_law_pot" s__law_pot p__law_pot
  d__law_take : Df K mg "_law_take" s__law_take p__law_take
  d__law_of : Df K mg "_law_of" s__law_of p__law_of
  d__law_some : Df K mg "_law_some" s__law_some p__law_some
  d__law_cells : Df K mg "_law_cells" s__law_cells p__law_cells
  d__law_turn : Df K mg "_law_turn" s__law_turn p__law_turn
  d__law_led : Df K mg "_law_led" s__law_led p__law_led
  d__law_common : Df K mg "_law_common" s__law_common p__law_common
  d__law_are_orders_right : Df K mg "_law_are_orders_right" s__law_are_orders_right p__law_are_orders_right
  d__law_right : Df K mg "_law_right" s__law_right p__law_right
  d_law : Df K mg "law" s_law p_law
theorem sc_is_integer : FnScope N_is_integer p_is_integer (defScope s_is_integer) := ⟨rfl, rfl, rfl, by decide +kernel, rfl, by decide +kernel, by decide +kernel⟩
theorem sc_is_between : FnScope N_is_between p_is_between (defScope s_is_between) := ⟨rfl, rfl, rfl, by decide +kernel, rfl, by decide +kernel, by decide +kernel⟩
theorem sc_are_between : FnScope N_are_between p_are_between (defScope s_are_between) := ⟨rfl, rfl, rfl, by decide +kernel, rfl, by decide +kernel, by decide +kernel⟩
theorem sc_is_tuple_of : FnScope N_is_tuple_of p_is_tuple_of (defScope s_is_tuple_of) := ⟨rfl, rfl, rfl, by decide +kernel, rfl, by decide +kernel, by decide +kernel⟩
theorem sc_check_many : FnScope N_check_many p_check_many (defScope s_check_many) := ⟨rfl, rfl, rfl, by decide +kernel, rfl, by decide +kernel, by decide +kernel⟩
theorem sc_is_turn_of : FnScope N_is_turn_of p_is_turn_of (defScope s_is_turn_of) := ⟨rfl, rfl, rfl, by decide +kernel, rfl, by decide +kernel, by decide +kernel⟩
theorem sc_is_turn : FnScope N_is_turn p_is_turn (defScope s_is_turn) := ⟨rfl, rfl, rfl, by decide +kernel, rfl, by decide +kernel, by decide +kernel⟩
theorem sc_check_turn : FnScope N_check_turn p_check_turn (defScope s_check_turn) := ⟨rfl, rfl, rfl, by decide +kernel, rfl, by decide +kernel, by decide +kernel⟩
theorem sc_check_both_turns : FnScope N_check_both_turns p_check_both_turns (defScope s_check_both_turns) := ⟨rfl, rfl, rfl, by decide +kernel, rfl, by decide +kernel, by decide +kernel⟩
theorem sc_still_of : FnScope N_still_of p_still_of (defScope s_still_of) := ⟨rfl, rfl, rfl, by decide +kernel, rfl, by decide +kernel, by decide +kernel⟩
theorem sc_still : FnScope N_still p_still (defScope s_still) := ⟨rfl, rfl, rfl, by decide +kernel, rfl, by decide +kernel, by decide +kernel⟩
theorem sc_then : FnScope N_then p_then (defScope s_then) := ⟨rfl, rfl, rfl, by decide +kernel, rfl, by decide +kernel, by decide +kernel⟩
theorem sc_behind : FnScope N_behind p_behind (defScope s_behind) := ⟨rfl, rfl, rfl, by decide +kernel, rfl, by decide +kernel, by decide +kernel⟩
theorem sc_back_of : FnScope N_back_of p_back_of (defScope s_back_of) := ⟨rfl, rfl, rfl, by decide +kernel, rfl, by decide +kernel, by decide +kernel⟩
theorem sc_back : FnScope N_back p_back (defScope s_back) := ⟨rfl, rfl, rfl, by decide +kernel, rfl, by decide +kernel, by decide +kernel⟩
theorem sc_times : FnScope N_times p_times (defScope s_times) := ⟨rfl, rfl, rfl, by decide +kernel, rfl, by decide +kernel, by decide +kernel⟩
theorem sc_turned_by : FnScope N_turned_by p_turned_by (defScope s_turned_by) := ⟨rfl, rfl, rfl, by decide +kernel, rfl, by decide +kernel, by decide +kernel⟩
theorem sc_rounds_in : FnScope N_rounds_in p_rounds_in (defScope s_rounds_in) := ⟨rfl, rfl, rfl, by decide +kernel, rfl, by decide +kernel, by decide +kernel⟩
theorem sc_rounds_of : FnScope N_rounds_of p_rounds_of (defScope s_rounds_of) := ⟨rfl, rfl, rfl, by decide +kernel, rfl, by decide +kernel, by decide +kernel⟩
theorem sc_turn_by_rounds : FnScope N_turn_by_rounds p_turn_by_rounds (defScope s_turn_by_rounds) := ⟨rfl, rfl, rfl, by decide +kernel, rfl, by decide +kernel, by decide +kernel⟩
theorem sc_are_rounds : FnScope N_are_rounds p_are_rounds (defScope s_are_rounds) := ⟨rfl, rfl, rfl, by decide +kernel, rfl, by decide +kernel, by decide +kernel⟩
theorem sc_turn_of_rounds : FnScope N_turn_of_rounds p_turn_of_rounds (defScope s_turn_of_rounds) := ⟨rfl, rfl, rfl, by decide +kernel, rfl, by decide +kernel, by decide +kernel⟩
theorem sc_common : FnScope N_common p_common (defScope s_common) := ⟨rfl, rfl, rfl, by decide +kernel, rfl, by decide +kernel, by decide +kernel⟩
theorem sc_order_in : FnScope N_order_in p_order_in (defScope s_order_in) := ⟨rfl, rfl, rfl, by decide +kernel, rfl, by decide +kernel, by decide +kernel⟩
theorem sc_order_of : FnScope N_order_of p_order_of (defScope s_order_of) := ⟨rfl, rfl, rfl, by decide +kernel, rfl, by decide +kernel, by decide +kernel⟩
theorem sc_is_even_of : FnScope N_is_even_of p_is_even_of (defScope s_is_even_of) := ⟨rfl, rfl, rfl, by decide +kernel, rfl, by decide +kernel, by decide +kernel⟩
theorem sc_is_even : FnScope N_is_even p_is_even (defScope s_is_even) := ⟨rfl, rfl, rfl, by decide +kernel, rfl, by decide +kernel, by decide +kernel⟩
theorem sc_row_moved : FnScope N_row_moved p_row_moved (defScope s_row_moved) := ⟨rfl, rfl, rfl, by decide +kernel, rfl, by decide +kernel, by decide +kernel⟩
theorem sc_moved : FnScope N_moved p_moved (defScope s_moved) := ⟨rfl, rfl, rfl, by decide +kernel, rfl, by decide +kernel, by decide +kernel⟩
theorem sc__law_pot : FnScope N__law_pot p__law_pot (defScope s__law_pot) := ⟨rfl, rfl, rfl, by decide +kernel, rfl, by decide +kernel, by decide +kernel⟩
theorem sc__law_take : FnScope N__law_take p__law_take (defScope s__law_take) := ⟨rfl, rfl, rfl, by decide +kernel, rfl, by decide +kernel, by decide +kernel⟩
theorem sc__law_of : FnScope N__law_of p__law_of (defScope s__law_of) := ⟨rfl, rfl, rfl, by decide +kernel, rfl, by decide +kernel, by decide +kernel⟩
theorem sc__law_some : FnScope N__law_some p__law_some (defScope s__law_some) := ⟨rfl, rfl, rfl, by decide +kernel, rfl, by decide +kernel, by decide +kernel⟩
theorem sc__law_cells : FnScope N__law_cells p__law_cells (defScope s__law_cells) := ⟨rfl, rfl, rfl, by decide +kernel, rfl, by decide +kernel, by decide +kernel⟩
theorem sc__law_turn : FnScope N__law_turn p__law_turn (defScope s__law_turn) := ⟨rfl, rfl, rfl, by decide +kernel, rfl, by decide +kernel, by decide +kernel⟩
theorem sc__law_led : FnScope N__law_led p__law_led (defScope s__law_led) := ⟨rfl, rfl, rfl, by decide +kernel, rfl, by decide +kernel, by decide +kernel⟩
theorem sc__law_common : FnScope N__law_common p__law_common (defScope s__law_common) := ⟨rfl, rfl, rfl, by decide +kernel, rfl, by decide +kernel, by decide +kernel⟩
theorem sc__law_are_orders_right : FnScope N__law_are_orders_right p__law_are_orders_right (defScope s__law_are_orders_right) := ⟨rfl, rfl, rfl, by decide +kernel, rfl, by decide +kernel, by decide +kernel⟩
theorem sc__law_right : FnScope N__law_right p__law_right (defScope s__law_right) := ⟨rfl, rfl, rfl, by decide +kernel, rfl, by decide +kernel, by decide +kernel⟩
theorem sc_law : FnScope N_law p_law (defScope s_law) := ⟨rfl, rfl, rfl, by decide +kernel, rfl, by decide +kernel, by decide +kernel⟩
end K05
namespace K05
open PySem PySem.Spec PyProof.Rows L2 Dn
section
variable {P : Program} {w : World} {K : PySem.W.Frag} {mg : Str → Option Value} {base : Heap}
theorem dd_is_integer (T : Txt K mg) {f : Addr} {cdv : Value} {A : Around} {out : List Env} {s : Shared} {H : Hp} (hr : Room 0 (cx P w K mg base N_is_integer "is_integer" s_is_integer f cdv A out s H).A) (hc : Clear (cx P w K mg base N_is_integer "is_integer" s_is_integer f cdv A out s H).A) :
    DSs (cx P w K mg base N_is_integer "is_integer" s_is_integer f cdv A out s H) (defBody s_is_integer) wb_is_integer := (dss_one (ds_retW (de_and (de_isi (T := "int") (de_name 0 (pv 0)) rfl T.b_isinstance rfl rfl T.b_int rfl (by decide) (by decide)) (de_one (de_not (de_isi (T := "bool") (de_name 0 (pv 0)) rfl T.b_isinstance rfl rfl T.b_bool rfl (by decide) (by decide)))))))
theorem dd_is_between (T : Txt K mg) (o_is_integer : Ok P w K mg base 1 "is_integer" s_is_integer p_is_integer (spD K 1 W_is_integer)) {f : Addr} {cdv : Value} {A : Around} {out : List Env} {s : Shared} {H : Hp} (hr : Room 1 (cx P w K mg base N_is_between "is_between" s_is_between f cdv A out s H).A) (hc : Clear (cx P w K mg base N_is_between "is_between" s_is_between f cdv A out s H).A) :
    DSs (cx P w K mg base N_is_between "is_between" s_is_between f cdv A out s H) (defBody s_is_between) wb_is_between := (dss_one (ds_retW (de_and (de_call (o_is_integer.mono (by decide)) hr hc rfl (da_cons (de_name 0 (pv 0)) da_nil)) (de_one (de_chain (de_name 1 (pv 1)) (de_name 0 (pv 0)) (de_name 2 (pv 2)))))))
theorem dd_are_between (T : Txt K mg) (o_is_between : Ok P w K mg base 2 "is_between" s_is_between p_is_between (spD K 3 W_is_between)) {f : Addr} {cdv : Value} {A : Around} {out : List Env} {s : Shared} {H : Hp} (hr : Room 2 (cx P w K mg base N_are_between "are_between" s_are_between f cdv A out s H).A) (hc : Clear (cx P w K mg base N_are_between "are_between" s_are_between f cdv A out s H).A) :
    DSs (cx P w K mg base N_are_between "are_between" s_are_between f cdv A out s H) (defBody s_are_between) wb_are_between := (dss_one (ds_retW (de_and (de_isi (T := "tuple") (de_name 0 (pv 0)) rfl T.b_isinstance rfl rfl T.b_tuple rfl (by decide) (by decide)) (de_one (de_callB (oAll_ok rfl) rfl T.b_all rfl (da_cons (de_lc (ts := [3]) (own := [("one", 3)]) rfl sc_are_between.nd (dic_name 0 (pv 0)) (show BlkOk N_are_between (defScope s_are_between) _ _ from ⟨rfl, by decide +kernel, by decide +kernel, by decide +kernel, by decide +kernel⟩) (by decide) (fun _ => (dg_name 3 sc_are_between.nd rfl (by first | exact Or.inl rfl | exact Or.inr rfl))) (fun _ => dts_nil) (fun _ => (de_call (o_is_between.mono (by decide)) hr hc rfl (da_cons (de_name 3 (pv 3)) (da_cons (de_name 1 (pv 1)) (da_cons (de_name 2 (pv 2)) da_nil)))))) da_nil))))))
theorem dd_is_tuple_of (T : Txt K mg) {f : Addr} {cdv : Value} {A : Around} {out : List Env} {s : Shared} {H : Hp} (hr : Room 0 (cx P w K mg base N_is_tuple_of "is_tuple_of" s_is_tuple_of f cdv A out s H).A) (hc : Clear (cx P w K mg base N_is_tuple_of "is_tuple_of" s_is_tuple_of f cdv A out s H).A) :
    DSs (cx P w K mg base N_is_tuple_of "is_tuple_of" s_is_tuple_of f cdv A out s H) (defBody s_is_tuple_of) wb_is_tuple_of := (dss_one (ds_retW (de_and (de_isi (T := "tuple") (de_name 0 (pv 0)) rfl T.b_isinstance rfl rfl T.b_tuple rfl (by decide) (by decide)) (de_one (de_cmp (oEq_ok hr.units) (de_callB oLen_ok rfl T.b_len rfl (da_cons (de_name 0 (pv 0)) da_nil)) (de_name 1 (pv 1)))))))
theorem dd_check_many (T : Txt K mg) (o_is_between : Ok P w K mg base 2 "is_between" s_is_between p_is_between (spD K 3 W_is_between)) {f : Addr} {cdv : Value} {A : Around} {out : List Env} {s : Shared} {H : Hp} (hr : Room 2 (cx P w K mg base N_check_many "check_many" s_check_many f cdv A out s H).A) (hc : Clear (cx P w K mg base N_check_many "check_many" s_check_many f cdv A out s H).A) :
    DSs (cx P w K mg base N_check_many "check_many" s_check_many f cdv A out s H) (defBody s_check_many) wb_check_many := (dss_one (ds_if (dt_not (dt_val (de_call (o_is_between.mono (by decide)) hr hc rfl (da_cons (de_name 0 (pv 0)) (da_cons de_int (da_cons (de_globIt rfl T.c_MOST_PLACES) da_nil)))))) (dss_one ds_neverW) dss_nil))
theorem dd_is_turn_of (T : Txt K mg) (o_are_between : Ok P w K mg base 3 "are_between" s_are_between p_are_between (spD K 3 W_are_between)) {f : Addr} {cdv : Value} {A : Around} {out : List Env} {s : Shared} {H : Hp} (hr : Room 3 (cx P w K mg base N_is_turn_of "is_turn_of" s_is_turn_of f cdv A out s H).A) (hc : Clear (cx P w K mg base N_is_turn_of "is_turn_of" s_is_turn_of f cdv A out s H).A) :
    DSs (cx P w K mg base N_is_turn_of "is_turn_of" s_is_turn_of f cdv A out s H) (defBody s_is_turn_of) wb_is_turn_of := (dss_one (ds_retW (de_and (de_call (o_are_between.mono (by decide)) hr hc rfl (da_cons (de_name 1 (pv 1)) (da_cons de_int (da_cons (de_op oSub_ok (de_name 0 (pv 0)) de_int) da_nil)))) (de_and (de_cmp (oEq_ok hr.units) (de_callB oLen_ok rfl T.b_len rfl (da_cons (de_name 1 (pv 1)) da_nil)) (de_name 0 (pv 0))) (de_one (de_cmp (oEq_ok hr.units) (de_lenSet rfl T.b_len rfl T.b_set (de_name 1 (pv 1)) rfl) (de_name 0 (pv 0))))))))
theorem dd_is_turn (T : Txt K mg) (o_check_many : Ok P w K mg base 3 "check_many" s_check_many p_check_many (spD K 1 W_check_many)) (o_is_turn_of : Ok P w K mg base 4 "is_turn_of" s_is_turn_of p_is_turn_of (spD K 2 W_is_turn_of)) {f : Addr} {cdv : Value} {A : Around} {out : List Env} {s : Shared} {H : Hp} (hr : Room 4 (cx P w K mg base N_is_turn "is_turn" s_is_turn f cdv A out s H).A) (hc : Clear (cx P w K mg base N_is_turn "is_turn" s_is_turn f cdv A out s H).A) :
    DSs (cx P w K mg base N_is_turn "is_turn" s_is_turn f cdv A out s H) (defBody s_is_turn) wb_is_turn := (dss_cons (ds_exW (de_call (o_check_many.mono (by decide)) hr hc rfl (da_cons (de_name 0 (pv 0)) da_nil))) (dss_one (ds_retW (de_call (o_is_turn_of.mono (by decide)) hr hc rfl (da_cons (de_name 0 (pv 0)) (da_cons (de_name 1 (pv 1)) da_nil))))))
theorem dd_check_turn (T : Txt K mg) (o_is_turn_of : Ok P w K mg base 4 "is_turn_of" s_is_turn_of p_is_turn_of (spD K 2 W_is_turn_of)) {f : Addr} {cdv : Value} {A : Around} {out : List Env} {s : Shared} {H : Hp} (hr : Room 4 (cx P w K mg base N_check_turn "check_turn" s_check_turn f cdv A out s H).A) (hc : Clear (cx P w K mg base N_check_turn "check_turn" s_check_turn f cdv A out s H).A) :
    DSs (cx P w K mg base N_check_turn "check_turn" s_check_turn f cdv A out s H) (defBody s_check_turn) wb_check_turn := (dss_one (ds_if (DW.dt (dw_or (dt_not (dt_val (de_isi (T := "tuple") (de_name 0 (pv 0)) rfl T.b_isinstance rfl rfl T.b_tuple rfl (by decide) (by decide)))) (dw_or (dt_not (dt_chain de_int (de_callB oLen_ok rfl T.b_len rfl (da_cons (de_name 0 (pv 0)) da_nil)) (de_globIt rfl T.c_MOST_PLACES))) (dw_or1 (dt_not (dt_val (de_call (o_is_turn_of.mono (by decide)) hr hc rfl (da_cons (de_callB oLen_ok rfl T.b_len rfl (da_cons (de_name 0 (pv 0)) da_nil)) (da_cons (de_name 0 (pv 0)) da_nil))))))))) (dss_one ds_neverW) dss_nil))
theorem dd_check_both_turns (T : Txt K mg) (o_check_turn : Ok P w K mg base 5 "check_turn" s_check_turn p_check_turn (spD K 1 W_check_turn)) {f : Addr} {cdv : Value} {A : Around} {out : List Env} {s : Shared} {H : Hp} (hr : Room 5 (cx P w K mg base N_check_both_turns "check_both_turns" s_check_both_turns f cdv A out s H).A) (hc : Clear (cx P w K mg base N_check_both_turns "check_both_turns" s_check_both_turns f cdv A out s H).A) :
    DSs (cx P w K mg base N_check_both_turns "check_both_turns" s_check_both_turns f cdv A out s H) (defBody s_check_both_turns) wb_check_both_turns := (dss_cons (ds_exW (de_call (o_check_turn.mono (by decide)) hr hc rfl (da_cons (de_name 0 (pv 0)) da_nil))) (dss_cons (ds_exW (de_call (o_check_turn.mono (by decide)) hr hc rfl (da_cons (de_name 1 (pv 1)) da_nil))) (dss_one (ds_if (dt_cmp (oNe_ok hr.units) (de_callB oLen_ok rfl T.b_len rfl (da_cons (de_name 0 (pv 0)) da_nil)) (de_callB oLen_ok rfl T.b_len rfl (da_cons (de_name 1 (pv 1)) da_nil))) (dss_one ds_neverW) dss_nil))))
theorem dd_still_of (T : Txt K mg) {f : Addr} {cdv : Value} {A : Around} {out : List Env} {s : Shared} {H : Hp} (hr : Room 0 (cx P w K mg base N_still_of "still_of" s_still_of f cdv A out s H).A) (hc : Clear (cx P w K mg base N_still_of "still_of" s_still_of f cdv A out s H).A) :
    DSs (cx P w K mg base N_still_of "still_of" s_still_of f cdv A out s H) (defBody s_still_of) wb_still_of := (dss_one (ds_retW (de_tupRg1 rfl rfl T.b_tuple rfl T.b_range (de_name 0 (pv 0)))))
theorem dd_still (T : Txt K mg) (o_check_many : Ok P w K mg base 3 "check_many" s_check_many p_check_many (spD K 1 W_check_many)) (o_still_of : Ok P w K mg base 1 "still_of" s_still_of p_still_of (spD K 1 W_still_of)) {f : Addr} {cdv : Value} {A : Around} {out : List Env} {s : Shared} {H : Hp} (hr : Room 3 (cx P w K mg base N_still "still" s_still f cdv A out s H).A) (hc : Clear (cx P w K mg base N_still "still" s_still f cdv A out s H).A) :
    DSs (cx P w K mg base N_still "still" s_still f cdv A out s H) (defBody s_still) wb_still := (dss_cons (ds_exW (de_call (o_check_many.mono (by decide)) hr hc rfl (da_cons (de_name 0 (pv 0)) da_nil))) (dss_one (ds_retW (de_call (o_still_of.mono (by decide)) hr hc rfl (da_cons (de_name 0 (pv 0)) da_nil)))))
theorem dd_then (T : Txt K mg) {f : Addr} {cdv : Value} {A : Around} {out : List Env} {s : Shared} {H : Hp} (hr : Room 0 (cx P w K mg base N_then "then" s_then f cdv A out s H).A) (hc : Clear (cx P w K mg base N_then "then" s_then f cdv A out s H).A) :
    DSs (cx P w K mg base N_then "then" s_then f cdv A out s H) (defBody s_then) wb_then := (dss_one (ds_retW (de_callTy oTup_ok rfl T.b_tuple rfl (da_cons (de_lc (ts := [2]) (own := [("place", 2)]) rfl sc_then.nd (dic_name 0 (pv 0)) (show BlkOk N_then (defScope s_then) _ _ from ⟨rfl, by decide +kernel, by decide +kernel, by decide +kernel, by decide +kernel⟩) (by decide) (fun _ => (dg_name 2 sc_then.nd rfl (by first | exact Or.inl rfl | exact Or.inr rfl))) (fun _ => dts_nil) (fun _ => (de_at (de_name 1 (pv 1)) (de_name 2 (pv 2))))) da_nil))))
theorem dd_behind (T : Txt K mg) (o_check_both_turns : Ok P w K mg base 6 "check_both_turns" s_check_both_turns p_check_both_turns (spD K 2 W_check_both_turns)) (o_then : Ok P w K mg base 1 "then" s_then p_then (spD K 2 W_then)) {f : Addr} {cdv : Value} {A : Around} {out : List Env} {s : Shared} {H : Hp} (hr : Room 6 (cx P w K mg base N_behind "behind" s_behind f cdv A out s H).A) (hc : Clear (cx P w K mg base N_behind "behind" s_behind f cdv A out s H).A) :
    DSs (cx P w K mg base N_behind "behind" s_behind f cdv A out s H) (defBody s_behind) wb_behind := (dss_cons (ds_exW (de_call (o_check_both_turns.mono (by decide)) hr hc rfl (da_cons (de_name 0 (pv 0)) (da_cons (de_name 1 (pv 1)) da_nil)))) (dss_one (ds_retW (de_call (o_then.mono (by decide)) hr hc rfl (da_cons (de_name 0 (pv 0)) (da_cons (de_name 1 (pv 1)) da_nil))))))
theorem dd_back_of (T : Txt K mg) {f : Addr} {cdv : Value} {A : Around} {out : List Env} {s : Shared} {H : Hp} (hr : Room 0 (cx P w K mg base N_back_of "back_of" s_back_of f cdv A out s H).A) (hc : Clear (cx P w K mg base N_back_of "back_of" s_back_of f cdv A out s H).A) :
    DSs (cx P w K mg base N_back_of "back_of" s_back_of f cdv A out s H) (defBody s_back_of) wb_back_of := (dss_cons (ds_set 1 sc_back_of.nd rfl (by first | exact Or.inl rfl | exact Or.inr rfl) (de_rep (de_lst (da_cons de_int da_nil)) (de_callB oLen_ok rfl T.b_len rfl (da_cons (de_name 0 (pv 0)) da_nil)))) (dss_cons (ds_for PassesOwn.never rfl (di_enum rfl T.b_enumerate (de_name 0 (pv 0))) (ts := [2, 3]) (dg_tupW rfl (dgs_consW (dg_name 2 sc_back_of.nd rfl (by first | exact Or.inl rfl | exact Or.inr rfl)) (dgs_consW (dg_name 3 sc_back_of.nd rfl (by first | exact Or.inl rfl | exact Or.inr rfl)) dgs_nilW))) (dss_one (ds_setI 1 (de_name 2 (pv 2)) (pv 1) (de_name 3 (pv 3))))) (dss_one (ds_retW (de_callTy oTup_ok rfl T.b_tuple rfl (da_cons (de_name 1 (pv 1)) da_nil))))))
theorem dd_back (T : Txt K mg) (o_check_turn : Ok P w K mg base 5 "check_turn" s_check_turn p_check_turn (spD K 1 W_check_turn)) (o_back_of : Ok P w K mg base 1 "back_of" s_back_of p_back_of (spD K 1 W_back_of)) {f : Addr} {cdv : Value} {A : Around} {out : List Env} {s : Shared} {H : Hp} (hr : Room 5 (cx P w K mg base N_back "back" s_back f cdv A out s H).A) (hc : Clear (cx P w K mg base N_back "back" s_back f cdv A out s H).A) :
    DSs (cx P w K mg base N_back "back" s_back f cdv A out s H) (defBody s_back) wb_back := (dss_cons (ds_exW (de_call (o_check_turn.mono (by decide)) hr hc rfl (da_cons (de_name 0 (pv 0)) da_nil))) (dss_one (ds_retW (de_call (o_back_of.mono (by decide)) hr hc rfl (da_cons (de_name 0 (pv 0)) da_nil)))))
theorem dd_times (T : Txt K mg) (o_check_turn : Ok P w K mg base 5 "check_turn" s_check_turn p_check_turn (spD K 1 W_check_turn)) (o_is_between : Ok P w K mg base 2 "is_between" s_is_between p_is_between (spD K 3 W_is_between)) (o_rounds_in : Ok P w K mg base 1 "rounds_in" s_rounds_in p_rounds_in (spD K 1 W_rounds_in)) {f : Addr} {cdv : Value} {A : Around} {out : List Env} {s : Shared} {H : Hp} (hr : Room 5 (cx P w K mg base N_times "times" s_times f cdv A out s H).A) (hc : Clear (cx P w K mg base N_times "times" s_times f cdv A out s H).A) :
    DSs (cx P w K mg base N_times "times" s_times f cdv A out s H) (defBody s_times) wb_times := (dss_cons (ds_exW (de_call (o_check_turn.mono (by decide)) hr hc rfl (da_cons (de_name 0 (pv 0)) da_nil))) (dss_cons (ds_if (dt_not (dt_val (de_call (o_is_between.mono (by decide)) hr hc rfl (da_cons (de_name 1 (pv 1)) (da_cons (de_op oSub_ok de_int (de_globIt rfl T.c_MOST_TIMES)) (da_cons (de_globIt rfl T.c_MOST_TIMES) da_nil)))))) (dss_one ds_neverW) dss_nil) (dss_cons (ds_set 2 sc_times.nd rfl (by first | exact Or.inl rfl | exact Or.inr rfl) (de_lstRg1 rfl rfl T.b_list rfl T.b_range (de_callB oLen_ok rfl T.b_len rfl (da_cons (de_name 0 (pv 0)) da_nil)))) (dss_cons (ds_for PassesOwn.never rfl (di_seq (de_call (o_rounds_in.mono (by decide)) hr hc rfl (da_cons (de_name 0 (pv 0)) da_nil))) (ts := [3]) (dg_name 3 sc_times.nd rfl (by first | exact Or.inl rfl | exact Or.inr rfl)) (dss_one (ds_for PassesOwn.never rfl (di_enum rfl T.b_enumerate (de_name 3 (pv 3))) (ts := [4, 5]) (dg_tupW rfl (dgs_consW (dg_name 4 sc_times.nd rfl (by first | exact Or.inl rfl | exact Or.inr rfl)) (dgs_consW (dg_name 5 sc_times.nd rfl (by first | exact Or.inl rfl | exact Or.inr rfl)) dgs_nilW))) (dss_one (ds_setI 2 (de_at (de_name 3 (pv 3)) (de_op oMod_ok (de_op oAdd_ok (de_name 4 (pv 4)) (de_name 1 (pv 1))) (de_callB oLen_ok rfl T.b_len rfl (da_cons (de_name 3 (pv 3)) da_nil)))) (pv 2) (de_name 5 (pv 5))))))) (dss_one (ds_retW (de_callTy oTup_ok rfl T.b_tuple rfl (da_cons (de_name 2 (pv 2)) da_nil))))))))
theorem dd_turned_by (T : Txt K mg) (o_check_both_turns : Ok P w K mg base 6 "check_both_turns" s_check_both_turns p_check_both_turns (spD K 2 W_check_both_turns)) (o_then : Ok P w K mg base 1 "then" s_then p_then (spD K 2 W_then)) (o_back_of : Ok P w K mg base 1 "back_of" s_back_of p_back_of (spD K 1 W_back_of)) {f : Addr} {cdv : Value} {A : Around} {out : List Env} {s : Shared} {H : Hp} (hr : Room 6 (cx P w K mg base N_turned_by "turned_by" s_turned_by f cdv A out s H).A) (hc : Clear (cx P w K mg base N_turned_by "turned_by" s_turned_by f cdv A out s H).A) :
    DSs (cx P w K mg base N_turned_by "turned_by" s_turned_by f cdv A out s H) (defBody s_turned_by) wb_turned_by := (dss_cons (ds_exW (de_call (o_check_both_turns.mono (by decide)) hr hc rfl (da_cons (de_name 0 (pv 0)) (da_cons (de_name 1 (pv 1)) da_nil)))) (dss_one (ds_retW (de_call (o_then.mono (by decide)) hr hc rfl (da_cons (de_call (o_then.mono (by decide)) hr hc rfl (da_cons (de_call (o_back_of.mono (by decide)) hr hc rfl (da_cons (de_name 1 (pv 1)) da_nil)) (da_cons (de_name 0 (pv 0)) da_nil))) (da_cons (de_name 1 (pv 1)) da_nil))))))
theorem dd_rounds_in (T : Txt K mg) {f : Addr} {cdv : Value} {A : Around} {out : List Env} {s : Shared} {H : Hp} (hr : Room 0 (cx P w K mg base N_rounds_in "rounds_in" s_rounds_in f cdv A out s H).A) (hc : Clear (cx P w K mg base N_rounds_in "rounds_in" s_rounds_in f cdv A out s H).A) :
    DSs (cx P w K mg base N_rounds_in "rounds_in" s_rounds_in f cdv A out s H) (defBody s_rounds_in) wb_rounds_in := (dss_cons (ds_par 1 2 rfl sc_rounds_in.nd rfl rfl (by decide) rfl rfl (da_cons (de_lst da_nil) (da_cons de_dnewW da_nil)) rfl) (dss_cons (ds_for PassesOwn.never rfl (di_rng1 rfl T.b_range (de_callB oLen_ok rfl T.b_len rfl (da_cons (de_name 0 (pv 0)) da_nil))) (ts := [3]) (dg_name 3 sc_rounds_in.nd rfl (by first | exact Or.inl rfl | exact Or.inr rfl)) (dss_cons (ds_set 4 sc_rounds_in.nd rfl (by first | exact Or.inl rfl | exact Or.inr rfl) (de_lst (da_cons (de_name 3 (pv 3)) da_nil))) (dss_cons (ds_while PassesOwn.never (DW.dt (dw_and (dt_cmp (oNe_ok hr.units) (de_at (de_name 0 (pv 0)) (de_at (de_name 4 (pv 4)) (de_neg de_int))) (de_name 3 (pv 3))) (dw_and1 (dt_cmp oNotInK_ok (de_name 3 (pv 3)) (de_name 2 (pv 2)))))) (dss_one (ds_exW (de_app 4 (pv 4) (de_at (de_name 0 (pv 0)) (de_at (de_name 4 (pv 4)) (de_neg de_int))))))) (dss_cons (ds_if (DW.dt (dw_and (dt_cmp oNotInK_ok (de_name 3 (pv 3)) (de_name 2 (pv 2))) (dw_and1 (dt_cmp oCmp_ok (de_callB oLen_ok rfl T.b_len rfl (da_cons (de_name 4 (pv 4)) da_nil)) de_int)))) (dss_one (ds_exW (de_app 1 (pv 1) (de_callTy oTup_ok rfl T.b_tuple rfl (da_cons (de_name 4 (pv 4)) da_nil))))) dss_nil) (dss_one (ds_exW (de_upd 2 (pv 2) (de_callTy (oDict_ok rfl) rfl T.b_dict rfl (da_cons (de_lc (ts := [5]) (own := [("place", 5)]) rfl sc_rounds_in.nd (dic_name 4 (pv 4)) (show BlkOk N_rounds_in (defScope s_rounds_in) _ _ from ⟨rfl, by decide +kernel, by decide +kernel, by decide +kernel, by decide +kernel⟩) (by decide) (fun _ => (dg_name 5 sc_rounds_in.nd rfl (by first | exact Or.inl rfl | exact Or.inr rfl))) (fun _ => dts_nil) (fun _ => (de_tup (da_cons (de_name 5 (pv 5)) (da_cons de_bl da_nil))))) da_nil))))))))) (dss_one (ds_retW (de_name 1 (pv 1))))))
theorem dd_rounds_of (T : Txt K mg) (o_check_turn : Ok P w K mg base 5 "check_turn" s_check_turn p_check_turn (spD K 1 W_check_turn)) (o_rounds_in : Ok P w K mg base 1 "rounds_in" s_rounds_in p_rounds_in (spD K 1 W_rounds_in)) {f : Addr} {cdv : Value} {A : Around} {out : List Env} {s : Shared} {H : Hp} (hr : Room 5 (cx P w K mg base N_rounds_of "rounds_of" s_rounds_of f cdv A out s H).A) (hc : Clear (cx P w K mg base N_rounds_of "rounds_of" s_rounds_of f cdv A out s H).A) :
    DSs (cx P w K mg base N_rounds_of "rounds_of" s_rounds_of f cdv A out s H) (defBody s_rounds_of) wb_rounds_of := (dss_cons (ds_exW (de_call (o_check_turn.mono (by decide)) hr hc rfl (da_cons (de_name 0 (pv 0)) da_nil))) (dss_one (ds_retW (de_callTy oTup_ok rfl T.b_tuple rfl (da_cons (de_call (o_rounds_in.mono (by decide)) hr hc rfl (da_cons (de_name 0 (pv 0)) da_nil)) da_nil)))))
theorem dd_turn_by_rounds (T : Txt K mg) {f : Addr} {cdv : Value} {A : Around} {out : List Env} {s : Shared} {H : Hp} (hr : Room 0 (cx P w K mg base N_turn_by_rounds "turn_by_rounds" s_turn_by_rounds f cdv A out s H).A) (hc : Clear (cx P w K mg base N_turn_by_rounds "turn_by_rounds" s_turn_by_rounds f cdv A out s H).A) :
    DSs (cx P w K mg base N_turn_by_rounds "turn_by_rounds" s_turn_by_rounds f cdv A out s H) (defBody s_turn_by_rounds) wb_turn_by_rounds := (dss_cons (ds_set 2 sc_turn_by_rounds.nd rfl (by first | exact Or.inl rfl | exact Or.inr rfl) (de_lstRg1 rfl rfl T.b_list rfl T.b_range (de_name 0 (pv 0)))) (dss_cons (ds_for PassesOwn.never rfl (di_seq (de_name 1 (pv 1))) (ts := [3]) (dg_name 3 sc_turn_by_rounds.nd rfl (by first | exact Or.inl rfl | exact Or.inr rfl)) (dss_one (ds_for PassesOwn.never rfl (di_enum rfl T.b_enumerate (de_name 3 (pv 3))) (ts := [4, 5]) (dg_tupW rfl (dgs_consW (dg_name 4 sc_turn_by_rounds.nd rfl (by first | exact Or.inl rfl | exact Or.inr rfl)) (dgs_consW (dg_name 5 sc_turn_by_rounds.nd rfl (by first | exact Or.inl rfl | exact Or.inr rfl)) dgs_nilW))) (dss_one (ds_setI 2 (de_at (de_name 3 (pv 3)) (de_op oMod_ok (de_op oAdd_ok (de_name 4 (pv 4)) de_int) (de_callB oLen_ok rfl T.b_len rfl (da_cons (de_name 3 (pv 3)) da_nil)))) (pv 2) (de_name 5 (pv 5))))))) (dss_one (ds_retW (de_callTy oTup_ok rfl T.b_tuple rfl (da_cons (de_name 2 (pv 2)) da_nil))))))
theorem dd_are_rounds (T : Txt K mg) (o_are_between : Ok P w K mg base 3 "are_between" s_are_between p_are_between (spD K 3 W_are_between)) (o_rounds_in : Ok P w K mg base 1 "rounds_in" s_rounds_in p_rounds_in (spD K 1 W_rounds_in)) (o_turn_by_rounds : Ok P w K mg base 1 "turn_by_rounds" s_turn_by_rounds p_turn_by_rounds (spD K 2 W_turn_by_rounds)) {f : Addr} {cdv : Value} {A : Around} {out : List Env} {s : Shared} {H : Hp} (hr : Room 3 (cx P w K mg base N_are_rounds "are_rounds" s_are_rounds f cdv A out s H).A) (hc : Clear (cx P w K mg base N_are_rounds "are_rounds" s_are_rounds f cdv A out s H).A) :
    DSs (cx P w K mg base N_are_rounds "are_rounds" s_are_rounds f cdv A out s H) (defBody s_are_rounds) wb_are_rounds := (dss_cons (ds_if (DW.dt (dw_or (dt_not (dt_val (de_isi (T := "tuple") (de_name 1 (pv 1)) rfl T.b_isinstance rfl rfl T.b_tuple rfl (by decide) (by decide)))) (dw_or1 (dt_not (dt_val (de_callB (oAll_ok rfl) rfl T.b_all rfl (da_cons (de_lc (ts := [3]) (own := [("one", 3)]) rfl sc_are_rounds.nd (dic_name 1 (pv 1)) (show BlkOk N_are_rounds (defScope s_are_rounds) _ _ from ⟨rfl, by decide +kernel, by decide +kernel, by decide +kernel, by decide +kernel⟩) (by decide) (fun _ => (dg_name 3 sc_are_rounds.nd rfl (by first | exact Or.inl rfl | exact Or.inr rfl))) (fun _ => dts_nil) (fun _ => (de_and (de_call (o_are_between.mono (by decide)) hr hc rfl (da_cons (de_name 3 (pv 3)) (da_cons de_int (da_cons (de_op oSub_ok (de_name 0 (pv 0)) de_int) da_nil)))) (de_one (de_cmp oCmp_ok (de_callB oLen_ok rfl T.b_len rfl (da_cons (de_name 3 (pv 3)) da_nil)) de_int))))) da_nil))))))) (dss_one (ds_retW de_bl)) dss_nil) (dss_cons (ds_set 2 sc_are_rounds.nd rfl (by first | exact Or.inl rfl | exact Or.inr rfl) (de_lst da_nil)) (dss_cons (ds_for PassesOwn.never rfl (di_seq (de_name 1 (pv 1))) (ts := [3]) (dg_name 3 sc_are_rounds.nd rfl (by first | exact Or.inl rfl | exact Or.inr rfl)) (dss_one (ds_exW (de_ext 2 (pv 2) (de_name 3 (pv 3)))))) (dss_one (ds_retW (de_and (de_cmp (oEq_ok hr.units) (de_lenSet rfl T.b_len rfl T.b_set (de_name 2 (pv 2)) rfl) (de_callB oLen_ok rfl T.b_len rfl (da_cons (de_name 2 (pv 2)) da_nil))) (de_one (de_cmp (oEq_ok hr.units) (de_callTy oTup_ok rfl T.b_tuple rfl (da_cons (de_call (o_rounds_in.mono (by decide)) hr hc rfl (da_cons (de_call (o_turn_by_rounds.mono (by decide)) hr hc rfl (da_cons (de_name 0 (pv 0)) (da_cons (de_name 1 (pv 1)) da_nil))) da_nil)) da_nil)) (de_name 1 (pv 1))))))))))
theorem dd_turn_of_rounds (T : Txt K mg) (o_check_many : Ok P w K mg base 3 "check_many" s_check_many p_check_many (spD K 1 W_check_many)) (o_are_rounds : Ok P w K mg base 4 "are_rounds" s_are_rounds p_are_rounds (spD K 2 W_are_rounds)) (o_turn_by_rounds : Ok P w K mg base 1 "turn_by_rounds" s_turn_by_rounds p_turn_by_rounds (spD K 2 W_turn_by_rounds)) {f : Addr} {cdv : Value} {A : Around} {out : List Env} {s : Shared} {H : Hp} (hr : Room 4 (cx P w K mg base N_turn_of_rounds "turn_of_rounds" s_turn_of_rounds f cdv A out s H).A) (hc : Clear (cx P w K mg base N_turn_of_rounds "turn_of_rounds" s_turn_of_rounds f cdv A out s H).A) :
    DSs (cx P w K mg base N_turn_of_rounds "turn_of_rounds" s_turn_of_rounds f cdv A out s H) (defBody s_turn_of_rounds) wb_turn_of_rounds := (dss_cons (ds_exW (de_call (o_check_many.mono (by decide)) hr hc rfl (da_cons (de_name 0 (pv 0)) da_nil))) (dss_cons (ds_if (dt_not (dt_val (de_call (o_are_rounds.mono (by decide)) hr hc rfl (da_cons (de_name 0 (pv 0)) (da_cons (de_name 1 (pv 1)) da_nil))))) (dss_one ds_neverW) dss_nil) (dss_one (ds_retW (de_call (o_turn_by_rounds.mono (by decide)) hr hc rfl (da_cons (de_name 0 (pv 0)) (da_cons (de_name 1 (pv 1)) da_nil)))))))
theorem dd_common (T : Txt K mg) {f : Addr} {cdv : Value} {A : Around} {out : List Env} {s : Shared} {H : Hp} (hr : Room 0 (cx P w K mg base N_common "common" s_common f cdv A out s H).A) (hc : Clear (cx P w K mg base N_common "common" s_common f cdv A out s H).A) :
    DSs (cx P w K mg base N_common "common" s_common f cdv A out s H) (defBody s_common) wb_common := (dss_cons (ds_while PassesOwn.never (dt_cmp (oNe_ok hr.units) (de_name 0 (pv 0)) de_int) (dss_one (ds_par 0 1 rfl sc_common.nd rfl rfl (by decide) rfl rfl (da_cons (de_op oMod_ok (de_name 1 (pv 1)) (de_name 0 (pv 0))) (da_cons (de_name 0 (pv 0)) da_nil)) rfl))) (dss_one (ds_retW (de_name 1 (pv 1)))))
theorem dd_order_in (T : Txt K mg) (o_rounds_in : Ok P w K mg base 1 "rounds_in" s_rounds_in p_rounds_in (spD K 1 W_rounds_in)) (o_common : Ok P w K mg base 1 "common" s_common p_common (spD K 2 W_common)) {f : Addr} {cdv : Value} {A : Around} {out : List Env} {s : Shared} {H : Hp} (hr : Room 1 (cx P w K mg base N_order_in "order_in" s_order_in f cdv A out s H).A) (hc : Clear (cx P w K mg base N_order_in "order_in" s_order_in f cdv A out s H).A) :
    DSs (cx P w K mg base N_order_in "order_in" s_order_in f cdv A out s H) (defBody s_order_in) wb_order_in := (dss_cons (ds_set 1 sc_order_in.nd rfl (by first | exact Or.inl rfl | exact Or.inr rfl) de_int) (dss_cons (ds_for PassesOwn.never rfl (di_seq (de_call (o_rounds_in.mono (by decide)) hr hc rfl (da_cons (de_name 0 (pv 0)) da_nil))) (ts := [2]) (dg_name 2 sc_order_in.nd rfl (by first | exact Or.inl rfl | exact Or.inr rfl)) (dss_one (ds_set 1 sc_order_in.nd rfl (by first | exact Or.inl rfl | exact Or.inr rfl) (de_op oDiv_ok (de_op oMul_ok (de_name 1 (pv 1)) (de_callB oLen_ok rfl T.b_len rfl (da_cons (de_name 2 (pv 2)) da_nil))) (de_call (o_common.mono (by decide)) hr hc rfl (da_cons (de_name 1 (pv 1)) (da_cons (de_callB oLen_ok rfl T.b_len rfl (da_cons (de_name 2 (pv 2)) da_nil)) da_nil))))))) (dss_one (ds_retW (de_name 1 (pv 1))))))
theorem dd_order_of (T : Txt K mg) (o_check_turn : Ok P w K mg base 5 "check_turn" s_check_turn p_check_turn (spD K 1 W_check_turn)) (o_order_in : Ok P w K mg base 2 "order_in" s_order_in p_order_in (spD K 1 W_order_in)) {f : Addr} {cdv : Value} {A : Around} {out : List Env} {s : Shared} {H : Hp} (hr : Room 5 (cx P w K mg base N_order_of "order_of" s_order_of f cdv A out s H).A) (hc : Clear (cx P w K mg base N_order_of "order_of" s_order_of f cdv A out s H).A) :
    DSs (cx P w K mg base N_order_of "order_of" s_order_of f cdv A out s H) (defBody s_order_of) wb_order_of := (dss_cons (ds_exW (de_call (o_check_turn.mono (by decide)) hr hc rfl (da_cons (de_name 0 (pv 0)) da_nil))) (dss_one (ds_retW (de_call (o_order_in.mono (by decide)) hr hc rfl (da_cons (de_name 0 (pv 0)) da_nil)))))
theorem dd_is_even_of (T : Txt K mg) (o_rounds_in : Ok P w K mg base 1 "rounds_in" s_rounds_in p_rounds_in (spD K 1 W_rounds_in)) {f : Addr} {cdv : Value} {A : Around} {out : List Env} {s : Shared} {H : Hp} (hr : Room 1 (cx P w K mg base N_is_even_of "is_even_of" s_is_even_of f cdv A out s H).A) (hc : Clear (cx P w K mg base N_is_even_of "is_even_of" s_is_even_of f cdv A out s H).A) :
    DSs (cx P w K mg base N_is_even_of "is_even_of" s_is_even_of f cdv A out s H) (defBody s_is_even_of) wb_is_even_of := (dss_one (ds_retW (de_cmp (oEq_ok hr.units) (de_op oMod_ok (de_callB (oSum_ok rfl) rfl T.b_sum rfl (da_cons (de_lc (ts := [1]) (own := [("one", 1)]) rfl sc_is_even_of.nd (di_c (di_seq (de_call (o_rounds_in.mono (by decide)) hr hc rfl (da_cons (de_name 0 (pv 0)) da_nil)))) (show BlkOk N_is_even_of (defScope s_is_even_of) _ _ from ⟨rfl, by decide +kernel, by decide +kernel, by decide +kernel, by decide +kernel⟩) (by decide) (fun _ => (dg_name 1 sc_is_even_of.nd rfl (by first | exact Or.inl rfl | exact Or.inr rfl))) (fun _ => dts_nil) (fun _ => (de_op oSub_ok (de_callB oLen_ok rfl T.b_len rfl (da_cons (de_name 1 (pv 1)) da_nil)) de_int))) da_nil)) de_int) de_int)))
theorem dd_is_even (T : Txt K mg) (o_check_turn : Ok P w K mg base 5 "check_turn" s_check_turn p_check_turn (spD K 1 W_check_turn)) (o_is_even_of : Ok P w K mg base 2 "is_even_of" s_is_even_of p_is_even_of (spD K 1 W_is_even_of)) {f : Addr} {cdv : Value} {A : Around} {out : List Env} {s : Shared} {H : Hp} (hr : Room 5 (cx P w K mg base N_is_even "is_even" s_is_even f cdv A out s H).A) (hc : Clear (cx P w K mg base N_is_even "is_even" s_is_even f cdv A out s H).A) :
    DSs (cx P w K mg base N_is_even "is_even" s_is_even f cdv A out s H) (defBody s_is_even) wb_is_even := (dss_cons (ds_exW (de_call (o_check_turn.mono (by decide)) hr hc rfl (da_cons (de_name 0 (pv 0)) da_nil))) (dss_one (ds_retW (de_call (o_is_even_of.mono (by decide)) hr hc rfl (da_cons (de_name 0 (pv 0)) da_nil)))))
theorem dd_row_moved (T : Txt K mg) {f : Addr} {cdv : Value} {A : Around} {out : List Env} {s : Shared} {H : Hp} (hr : Room 0 (cx P w K mg base N_row_moved "row_moved" s_row_moved f cdv A out s H).A) (hc : Clear (cx P w K mg base N_row_moved "row_moved" s_row_moved f cdv A out s H).A) :
    DSs (cx P w K mg base N_row_moved "row_moved" s_row_moved f cdv A out s H) (defBody s_row_moved) wb_row_moved := (dss_cons (ds_set 2 sc_row_moved.nd rfl (by first | exact Or.inl rfl | exact Or.inr rfl) (de_rep (de_lst (da_cons de_non da_nil)) (de_callB oLen_ok rfl T.b_len rfl (da_cons (de_name 0 (pv 0)) da_nil)))) (dss_cons (ds_for PassesOwn.never rfl (di_enum rfl T.b_enumerate (de_name 1 (pv 1))) (ts := [3, 4]) (dg_tupW rfl (dgs_consW (dg_name 3 sc_row_moved.nd rfl (by first | exact Or.inl rfl | exact Or.inr rfl)) (dgs_consW (dg_name 4 sc_row_moved.nd rfl (by first | exact Or.inl rfl | exact Or.inr rfl)) dgs_nilW))) (dss_one (ds_setI 2 (de_name 4 (pv 4)) (pv 2) (de_at (de_name 0 (pv 0)) (de_name 3 (pv 3)))))) (dss_one (ds_retW (de_callTy oTup_ok rfl T.b_tuple rfl (da_cons (de_name 2 (pv 2)) da_nil))))))
theorem dd_moved (T : Txt K mg) (o_check_turn : Ok P w K mg base 5 "check_turn" s_check_turn p_check_turn (spD K 1 W_check_turn)) (o_is_tuple_of : Ok P w K mg base 1 "is_tuple_of" s_is_tuple_of p_is_tuple_of (spD K 2 W_is_tuple_of)) (o_row_moved : Ok P w K mg base 1 "row_moved" s_row_moved p_row_moved (spD K 2 W_row_moved)) {f : Addr} {cdv : Value} {A : Around} {out : List Env} {s : Shared} {H : Hp} (hr : Room 5 (cx P w K mg base N_moved "moved" s_moved f cdv A out s H).A) (hc : Clear (cx P w K mg base N_moved "moved" s_moved f cdv A out s H).A) :
    DSs (cx P w K mg base N_moved "moved" s_moved f cdv A out s H) (defBody s_moved) wb_moved := (dss_cons (ds_exW (de_call (o_check_turn.mono (by decide)) hr hc rfl (da_cons (de_name 0 (pv 0)) da_nil))) (dss_cons (ds_if (dt_not (dt_val (de_call (o_is_tuple_of.mono (by decide)) hr hc rfl (da_cons (de_name 1 (pv 1)) (da_cons (de_callB oLen_ok rfl T.b_len rfl (da_cons (de_name 0 (pv 0)) da_nil)) da_nil))))) (dss_one ds_neverW) dss_nil) (dss_one (ds_retW (de_call (o_row_moved.mono (by decide)) hr hc rfl (da_cons (de_name 0 (pv 0)) (da_cons (de_name 1 (pv 1)) da_nil)))))))
theorem dd__law_pot (T : Txt K mg) {f : Addr} {cdv : Value} {A : Around} {out : List Env} {s : Shared} {H : Hp} (hr : Room 0 (cx P w K mg base N__law_pot "_law_pot" s__law_pot f cdv A out s H).A) (hc : Clear (cx P w K mg base N__law_pot "_law_pot" s__law_pot f cdv A out s H).A) :
    DSs (cx P w K mg base N__law_pot "_law_pot" s__law_pot f cdv A out s H) (defBody s__law_pot) wb__law_pot := (dss_cons (ds_set 2 sc__law_pot.nd rfl (by first | exact Or.inl rfl | exact Or.inr rfl) (de_if (dt_cmp oCmp_ok (de_name 1 (pv 1)) (de_callB oLen_ok rfl T.b_len rfl (da_cons (de_name 0 (pv 0)) da_nil))) (de_at (de_name 0 (pv 0)) (de_name 1 (pv 1))) (de_op oAdd_ok (de_op oAdd_ok (de_op oMod_ok (de_callTy oInt_ok rfl T.b_int rfl (da_cons (de_callB (oSum_ok rfl) rfl T.b_sum rfl (da_cons (de_sl (de_name 0 (pv 0)) do_noneW (do_someW de_int)) da_nil)) da_nil)) de_int) (de_op oMul_ok de_int (de_name 1 (pv 1)))) de_int))) (dss_cons (ds_set 3 sc__law_pot.nd rfl (by first | exact Or.inl rfl | exact Or.inr rfl) (de_op oMul_ok (de_op oMod_ok (de_callTy oInt_ok rfl T.b_int rfl (da_cons (de_callB oAbs_ok rfl T.b_abs rfl (da_cons (de_name 2 (pv 2)) da_nil)) da_nil)) (de_op oPow_ok (de_op oPow_ok de_int de_int) de_int)) (de_callTy oInt_ok rfl T.b_int rfl (da_cons (de_cmp oCmp_ok (de_callB oAbs_ok rfl T.b_abs rfl (da_cons (de_name 2 (pv 2)) da_nil)) (de_op oPow_ok de_int de_int)) da_nil)))) (dss_cons (ds_set 4 sc__law_pot.nd rfl (by first | exact Or.inl rfl | exact Or.inr rfl) (de_op oMod_ok (de_callTy oInt_ok rfl T.b_int rfl (da_cons (de_name 2 (pv 2)) da_nil)) de_int)) (dss_one (ds_retW (de_lst (da_cons (de_name 3 (pv 3)) (da_cons (de_op oMod_ok (de_callTy oInt_ok rfl T.b_int rfl (da_cons (de_op oAdd_ok (de_op oAdd_ok (de_op oMul_ok (de_name 4 (pv 4)) de_int) (de_op oMul_ok (de_op oMul_ok de_int (de_name 1 (pv 1))) (de_name 1 (pv 1)))) de_int) da_nil)) de_int) (da_cons de_int da_nil)))))))))
theorem dd__law_take (T : Txt K mg) {f : Addr} {cdv : Value} {A : Around} {out : List Env} {s : Shared} {H : Hp} (hr : Room 0 (cx P w K mg base N__law_take "_law_take" s__law_take f cdv A out s H).A) (hc : Clear (cx P w K mg base N__law_take "_law_take" s__law_take f cdv A out s H).A) :
    DSs (cx P w K mg base N__law_take "_law_take" s__law_take f cdv A out s H) (defBody s__law_take) wb__law_take := (dss_cons (ds_if (dt_cmp oCmp_ok (de_at (de_name 0 (pv 0)) de_int) de_int) (dss_cons (ds_set 2 sc__law_take.nd rfl (by first | exact Or.inl rfl | exact Or.inr rfl) (de_op oMod_ok (de_callTy oInt_ok rfl T.b_int rfl (da_cons (de_at (de_name 0 (pv 0)) de_int) da_nil)) (de_name 1 (pv 1)))) (dss_cons (ds_setI 0 (de_op oDiv_ok (de_at (de_name 0 (pv 0)) de_int) (de_name 1 (pv 1))) (pv 0) de_int) (dss_one (ds_retW (de_name 2 (pv 2)))))) dss_nil) (dss_cons (ds_setI 0 (de_op oAdd_ok (de_at (de_name 0 (pv 0)) de_int) de_int) (pv 0) de_int) (dss_cons (ds_set 3 sc__law_take.nd rfl (by first | exact Or.inl rfl | exact Or.inr rfl) (de_at (de_lst (da_cons de_int (da_cons de_int (da_cons de_int (da_cons de_int da_nil))))) (de_op oMod_ok (de_callTy oInt_ok rfl T.b_int rfl (da_cons (de_at (de_name 0 (pv 0)) de_int) da_nil)) de_int))) (dss_cons (ds_set 4 sc__law_take.nd rfl (by first | exact Or.inl rfl | exact Or.inr rfl) (de_op oMod_ok (de_callTy oInt_ok rfl T.b_int rfl (da_cons (de_op oPow_ok (de_callTy oInt_ok rfl T.b_int rfl (da_cons (de_op oAdd_ok (de_op oAdd_ok (de_at (de_name 0 (pv 0)) de_int) (de_op oMul_ok (de_op oMul_ok de_int (de_at (de_name 0 (pv 0)) de_int)) (de_at (de_name 0 (pv 0)) de_int))) de_int) da_nil)) de_int) da_nil)) (de_name 3 (pv 3)))) (dss_one (ds_retW (de_op oMod_ok (de_callTy oInt_ok rfl T.b_int rfl (da_cons (de_op oDiv_ok (de_op oMul_ok (de_name 4 (pv 4)) (de_op oAdd_ok (de_op oMod_ok (de_callTy oInt_ok rfl T.b_int rfl (da_cons (de_name 4 (pv 4)) da_nil)) de_int) (de_op oMul_ok de_int (de_at (de_name 0 (pv 0)) de_int)))) de_int) da_nil)) (de_name 1 (pv 1)))))))))
theorem dd__law_of (T : Txt K mg) (o__law_take : Ok P w K mg base 1 "_law_take" s__law_take p__law_take (spM K 2 W__law_take)) {f : Addr} {cdv : Value} {A : Around} {out : List Env} {s : Shared} {H : Hp} (hr : Room 1 (cx P w K mg base N__law_of "_law_of" s__law_of f cdv A out s H).A) (hc : Clear (cx P w K mg base N__law_of "_law_of" s__law_of f cdv A out s H).A) :
    DSs (cx P w K mg base N__law_of "_law_of" s__law_of f cdv A out s H) (defBody s__law_of) wb__law_of := (dss_one (ds_retW (de_at (de_name 1 (pv 1)) (de_callM 0 (o__law_take.mono (by decide)) hr hc rfl (pv 0) (da_cons (de_callB oLen_ok rfl T.b_len rfl (da_cons (de_name 1 (pv 1)) da_nil)) da_nil)))))
theorem dd__law_some (T : Txt K mg) (o__law_take : Ok P w K mg base 1 "_law_take" s__law_take p__law_take (spM K 2 W__law_take)) {f : Addr} {cdv : Value} {A : Around} {out : List Env} {s : Shared} {H : Hp} (hr : Room 1 (cx P w K mg base N__law_some "_law_some" s__law_some f cdv A out s H).A) (hc : Clear (cx P w K mg base N__law_some "_law_some" s__law_some f cdv A out s H).A) :
    DSs (cx P w K mg base N__law_some "_law_some" s__law_some f cdv A out s H) (defBody s__law_some) wb__law_some := (dss_cons (ds_par 3 4 rfl sc__law_some.nd rfl rfl (by decide) rfl rfl (da_cons (de_callTy oLst_ok rfl T.b_list rfl (da_cons (de_name 1 (pv 1)) da_nil)) (da_cons (de_lst da_nil) da_nil)) rfl) (dss_cons (ds_for PassesOwn.never rfl (di_rng1 rfl T.b_range (de_name 2 (pv 2))) (ts := [5]) (dg_name 5 sc__law_some.nd rfl (by first | exact Or.inl rfl | exact Or.inr rfl)) (dss_one (ds_exW (de_app 4 (pv 4) (de_popAt 3 (pv 3) (de_callM 0 (o__law_take.mono (by decide)) hr hc rfl (pv 0) (da_cons (de_callB oLen_ok rfl T.b_len rfl (da_cons (de_name 3 (pv 3)) da_nil)) da_nil))))))) (dss_one (ds_retW (de_name 4 (pv 4))))))
theorem dd__law_cells (T : Txt K mg) {f : Addr} {cdv : Value} {A : Around} {out : List Env} {s : Shared} {H : Hp} (hr : Room 0 (cx P w K mg base N__law_cells "_law_cells" s__law_cells f cdv A out s H).A) (hc : Clear (cx P w K mg base N__law_cells "_law_cells" s__law_cells f cdv A out s H).A) :
    DSs (cx P w K mg base N__law_cells "_law_cells" s__law_cells f cdv A out s H) (defBody s__law_cells) wb__law_cells := (dss_one (ds_retW (de_lstRg1 rfl rfl T.b_list rfl T.b_range (de_callB (oMax_ok rfl) rfl T.b_max rfl (da_cons de_int (da_cons (de_callB (oMin_ok rfl) rfl T.b_min rfl (da_cons (de_name 1 (pv 1)) (da_cons (de_callB oLen_ok rfl T.b_len rfl (da_cons (de_name 0 (pv 0)) da_nil)) da_nil))) da_nil))))))
theorem dd__law_turn (T : Txt K mg) (o__law_some : Ok P w K mg base 2 "_law_some" s__law_some p__law_some (spM K 3 W__law_some)) {f : Addr} {cdv : Value} {A : Around} {out : List Env} {s : Shared} {H : Hp} (hr : Room 2 (cx P w K mg base N__law_turn "_law_turn" s__law_turn f cdv A out s H).A) (hc : Clear (cx P w K mg base N__law_turn "_law_turn" s__law_turn f cdv A out s H).A) :
    DSs (cx P w K mg base N__law_turn "_law_turn" s__law_turn f cdv A out s H) (defBody s__law_turn) wb__law_turn := (dss_one (ds_retW (de_callTy oTup_ok rfl T.b_tuple rfl (da_cons (de_callM 0 (o__law_some.mono (by decide)) hr hc rfl (pv 0) (da_cons (de_lstRg1 rfl rfl T.b_list rfl T.b_range (de_name 1 (pv 1))) (da_cons (de_name 1 (pv 1)) da_nil))) da_nil))))
theorem dd__law_led (T : Txt K mg) {f : Addr} {cdv : Value} {A : Around} {out : List Env} {s : Shared} {H : Hp} (hr : Room 0 (cx P w K mg base N__law_led "_law_led" s__law_led f cdv A out s H).A) (hc : Clear (cx P w K mg base N__law_led "_law_led" s__law_led f cdv A out s H).A) :
    DSs (cx P w K mg base N__law_led "_law_led" s__law_led f cdv A out s H) (defBody s__law_led) wb__law_led := (dss_cons (ds_set 2 sc__law_led.nd rfl (by first | exact Or.inl rfl | exact Or.inr rfl) (de_lst da_nil)) (dss_cons (ds_for PassesOwn.never rfl (di_seq (de_name 0 (pv 0))) (ts := [3]) (dg_name 3 sc__law_led.nd rfl (by first | exact Or.inl rfl | exact Or.inr rfl)) (dss_cons (ds_setLc (ts := [6]) (own := [("place", 6)]) 4 rfl sc__law_led.nd rfl rfl (by rfl) (dic_name 3 (pv 3)) (show BlkOk N__law_led (defScope s__law_led) _ _ from ⟨rfl, by decide +kernel, by decide +kernel, by decide +kernel, by decide +kernel⟩) (by decide) (fun _ => (dg_name 6 sc__law_led.nd rfl (by first | exact Or.inl rfl | exact Or.inr rfl))) (fun _ => dts_nil) (fun _ => (de_at (de_name 1 (pv 1)) (de_name 6 (pv 6))))) (dss_cons (ds_set 5 sc__law_led.nd rfl (by first | exact Or.inl rfl | exact Or.inr rfl) (de_idx (de_name 4 (pv 4)) (de_callB (oMin_ok rfl) rfl T.b_min rfl (da_cons (de_name 4 (pv 4)) da_nil)))) (dss_one (ds_exW (de_app 2 (pv 2) (de_callTy oTup_ok rfl T.b_tuple rfl (da_cons (de_op oAdd_ok (de_sl (de_name 4 (pv 4)) (do_someW (de_name 5 (pv 5))) do_noneW) (de_sl (de_name 4 (pv 4)) do_noneW (do_someW (de_name 5 (pv 5))))) da_nil)))))))) (dss_one (ds_retW (de_callTy oTup_ok rfl T.b_tuple rfl (da_cons (de_callB (oSorted_ok hr.units) rfl T.b_sorted rfl (da_cons (de_name 2 (pv 2)) da_nil)) da_nil))))))
theorem dd__law_common (T : Txt K mg) {f : Addr} {cdv : Value} {A : Around} {out : List Env} {s : Shared} {H : Hp} (hr : Room 0 (cx P w K mg base N__law_common "_law_common" s__law_common f cdv A out s H).A) (hc : Clear (cx P w K mg base N__law_common "_law_common" s__law_common f cdv A out s H).A) :
    DSs (cx P w K mg base N__law_common "_law_common" s__law_common f cdv A out s H) (defBody s__law_common) wb__law_common := (dss_one (ds_retW (de_callB (oMax_ok rfl) rfl T.b_max rfl (da_cons (de_lc (ts := [2]) (own := [("number", 2)]) rfl sc__law_common.nd (di_c (di_rng2 rfl T.b_range de_int (de_op oAdd_ok (de_name 0 (pv 0)) de_int))) (show BlkOk N__law_common (defScope s__law_common) _ _ from ⟨rfl, by decide +kernel, by decide +kernel, by decide +kernel, by decide +kernel⟩) (by decide) (fun _ => (dg_name 2 sc__law_common.nd rfl (by first | exact Or.inl rfl | exact Or.inr rfl))) (fun _ => (dts_one (DW.dt (dw_and (dt_cmp (oEq_ok hr.units) (de_op oMod_ok (de_name 0 (pv 0)) (de_name 2 (pv 2))) de_int) (dw_and1 (dt_cmp (oEq_ok hr.units) (de_op oMod_ok (de_name 1 (pv 1)) (de_name 2 (pv 2))) de_int)))))) (fun _ => (de_name 2 (pv 2)))) da_nil))))
theorem dd__law_are_orders_right (T : Txt K mg) (o_rounds_of : Ok P w K mg base 6 "rounds_of" s_rounds_of p_rounds_of (spD K 1 W_rounds_of)) (o__law_common : Ok P w K mg base 1 "_law_common" s__law_common p__law_common (spD K 2 W__law_common)) (o_order_of : Ok P w K mg base 6 "order_of" s_order_of p_order_of (spD K 1 W_order_of)) (o_is_even : Ok P w K mg base 6 "is_even" s_is_even p_is_even (spD K 1 W_is_even)) (o_times : Ok P w K mg base 6 "times" s_times p_times (spD K 2 W_times)) (o_still : Ok P w K mg base 4 "still" s_still p_still (spD K 1 W_still)) (o_behind : Ok P w K mg base 7 "behind" s_behind p_behind (spD K 2 W_behind)) (o_back : Ok P w K mg base 6 "back" s_back p_back (spD K 1 W_back)) {f : Addr} {cdv : Value} {A : Around} {out : List Env} {s : Shared} {H : Hp} (hr : Room 7 (cx P w K mg base N__law_are_orders_right "_law_are_orders_right" s__law_are_orders_right f cdv A out s H).A) (hc : Clear (cx P w K mg base N__law_are_orders_right "_law_are_orders_right" s__law_are_orders_right f cdv A out s H).A) :
    DSs (cx P w K mg base N__law_are_orders_right "_law_are_orders_right" s__law_are_orders_right f cdv A out s H) (defBody s__law_are_orders_right) wb__law_are_orders_right := (dss_cons (ds_par 2 3 rfl sc__law_are_orders_right.nd rfl rfl (by decide) rfl rfl (da_cons (de_lc (ts := [5]) (own := [("row", 5)]) rfl sc__law_are_orders_right.nd (di_c (di_seq (de_call (o_rounds_of.mono (by decide)) hr hc rfl (da_cons (de_name 0 (pv 0)) da_nil)))) (show BlkOk N__law_are_orders_right (defScope s__law_are_orders_right) _ _ from ⟨rfl, by decide +kernel, by decide +kernel, by decide +kernel, by decide +kernel⟩) (by decide) (fun _ => (dg_name 5 sc__law_are_orders_right.nd rfl (by first | exact Or.inl rfl | exact Or.inr rfl))) (fun _ => dts_nil) (fun _ => (de_callB oLen_ok rfl T.b_len rfl (da_cons (de_name 5 (pv 5)) da_nil)))) (da_cons de_int da_nil)) rfl) (dss_cons (ds_frz 2 (ds_for PassesOwn.never rfl (di_seq (de_name 2 (pv 2))) (ts := [4]) (dg_name 4 sc__law_are_orders_right.nd rfl (by first | exact Or.inl rfl | exact Or.inr rfl)) (dss_one (ds_set 3 sc__law_are_orders_right.nd rfl (by first | exact Or.inl rfl | exact Or.inr rfl) (de_op oMul_ok (de_op oDiv_ok (de_name 3 (pv 3)) (de_call (o__law_common.mono (by decide)) hr hc rfl (da_cons (de_name 3 (pv 3)) (da_cons (de_name 4 (pv 4)) da_nil)))) (de_name 4 (pv 4))))))) (dss_cons (ds_if (DW.dt (dw_or (dt_cmp (oNe_ok hr.units) (de_call (o_order_of.mono (by decide)) hr hc rfl (da_cons (de_name 0 (pv 0)) da_nil)) (de_name 3 (pv 3))) (dw_or1 (dt_cmp (oNe_ok hr.units) (de_callB (oRepr_ok hc hr.units) rfl T.b_repr rfl (da_cons (de_call (o_is_even.mono (by decide)) hr hc rfl (da_cons (de_name 0 (pv 0)) da_nil)) da_nil)) (de_callB (oRepr_ok hc hr.units) rfl T.b_repr rfl (da_cons (de_cmp (oEq_ok hr.units) (de_op oMod_ok (de_callB oLen_ok rfl T.b_len rfl (da_cons (de_lc (ts := [4]) (own := [("length", 4)]) rfl sc__law_are_orders_right.nd (dic_name 2 (pv 2)) (show BlkOk N__law_are_orders_right (defScope s__law_are_orders_right) _ _ from ⟨rfl, by decide +kernel, by decide +kernel, by decide +kernel, by decide +kernel⟩) (by decide) (fun _ => (dg_name 4 sc__law_are_orders_right.nd rfl (by first | exact Or.inl rfl | exact Or.inr rfl))) (fun _ => (dts_one (dt_cmp (oEq_ok hr.units) (de_op oMod_ok (de_name 4 (pv 4)) de_int) de_int))) (fun _ => (de_name 4 (pv 4)))) da_nil)) de_int) de_int) da_nil)))))) (dss_one (ds_retW de_bl)) dss_nil) (dss_cons (ds_if (DW.dt (dw_or (dt_val (de_callB (oAny_ok rfl) rfl T.b_any rfl (da_cons (de_lc (ts := [6]) (own := [("number", 6)]) rfl sc__law_are_orders_right.nd (di_c (di_rng2 rfl T.b_range de_int (de_name 3 (pv 3)))) (show BlkOk N__law_are_orders_right (defScope s__law_are_orders_right) _ _ from ⟨rfl, by decide +kernel, by decide +kernel, by decide +kernel, by decide +kernel⟩) (by decide) (fun _ => (dg_name 6 sc__law_are_orders_right.nd rfl (by first | exact Or.inl rfl | exact Or.inr rfl))) (fun _ => dts_nil) (fun _ => (de_cmp (oEq_ok hr.units) (de_call (o_times.mono (by decide)) hr hc rfl (da_cons (de_name 0 (pv 0)) (da_cons (de_name 6 (pv 6)) da_nil))) (de_call (o_still.mono (by decide)) hr hc rfl (da_cons (de_callB oLen_ok rfl T.b_len rfl (da_cons (de_name 0 (pv 0)) da_nil)) da_nil))))) da_nil))) (dw_or1 (dt_cmp (oNe_ok hr.units) (de_call (o_times.mono (by decide)) hr hc rfl (da_cons (de_name 0 (pv 0)) (da_cons (de_name 3 (pv 3)) da_nil))) (de_call (o_still.mono (by decide)) hr hc rfl (da_cons (de_callB oLen_ok rfl T.b_len rfl (da_cons (de_name 0 (pv 0)) da_nil)) da_nil)))))) (dss_one (ds_retW de_bl)) dss_nil) (dss_cons (ds_if (DW.dt (dw_or (dt_cmp (oNe_ok hr.units) (de_call (o_order_of.mono (by decide)) hr hc rfl (da_cons (de_call (o_behind.mono (by decide)) hr hc rfl (da_cons (de_name 0 (pv 0)) (da_cons (de_name 1 (pv 1)) da_nil))) da_nil)) (de_call (o_order_of.mono (by decide)) hr hc rfl (da_cons (de_call (o_behind.mono (by decide)) hr hc rfl (da_cons (de_name 1 (pv 1)) (da_cons (de_name 0 (pv 0)) da_nil))) da_nil))) (dw_or1 (dt_cmp (oNe_ok hr.units) (de_call (o_order_of.mono (by decide)) hr hc rfl (da_cons (de_call (o_back.mono (by decide)) hr hc rfl (da_cons (de_name 0 (pv 0)) da_nil)) da_nil)) (de_name 3 (pv 3)))))) (dss_one (ds_retW de_bl)) dss_nil) (dss_one (ds_retW (de_cmp (oEq_ok hr.units) (de_callB (oRepr_ok hc hr.units) rfl T.b_repr rfl (da_cons (de_lst (da_cons (de_call (o_is_even.mono (by decide)) hr hc rfl (da_cons (de_call (o_behind.mono (by decide)) hr hc rfl (da_cons (de_name 0 (pv 0)) (da_cons (de_name 1 (pv 1)) da_nil))) da_nil)) (da_cons (de_call (o_is_even.mono (by decide)) hr hc rfl (da_cons (de_call (o_back.mono (by decide)) hr hc rfl (da_cons (de_name 1 (pv 1)) da_nil)) da_nil)) da_nil))) da_nil)) (de_callB (oRepr_ok hc hr.units) rfl T.b_repr rfl (da_cons (de_lst (da_cons (de_cmp (oEq_ok hr.units) (de_call (o_is_even.mono (by decide)) hr hc rfl (da_cons (de_name 0 (pv 0)) da_nil)) (de_call (o_is_even.mono (by decide)) hr hc rfl (da_cons (de_name 1 (pv 1)) da_nil))) (da_cons (de_call (o_is_even.mono (by decide)) hr hc rfl (da_cons (de_name 1 (pv 1)) da_nil)) da_nil))) da_nil))))))))))
theorem dd__law_right (T : Txt K mg) (o__law_take : Ok P w K mg base 1 "_law_take" s__law_take p__law_take (spM K 2 W__law_take)) (o__law_turn : Ok P w K mg base 3 "_law_turn" s__law_turn p__law_turn (spM K 2 W__law_turn)) (o__law_of : Ok P w K mg base 2 "_law_of" s__law_of p__law_of (spM K 2 W__law_of)) (o_turned_by : Ok P w K mg base 7 "turned_by" s_turned_by p_turned_by (spD K 2 W_turned_by)) (o_is_turn : Ok P w K mg base 5 "is_turn" s_is_turn p_is_turn (spD K 2 W_is_turn)) (o_rounds_of : Ok P w K mg base 6 "rounds_of" s_rounds_of p_rounds_of (spD K 1 W_rounds_of)) (o__law_led : Ok P w K mg base 1 "_law_led" s__law_led p__law_led (spD K 2 W__law_led)) (o_behind : Ok P w K mg base 7 "behind" s_behind p_behind (spD K 2 W_behind)) (o_back : Ok P w K mg base 6 "back" s_back p_back (spD K 1 W_back)) (o__law_are_orders_right : Ok P w K mg base 8 "_law_are_orders_right" s__law_are_orders_right p__law_are_orders_right (spD K 2 W__law_are_orders_right)) (o_times : Ok P w K mg base 6 "times" s_times p_times (spD K 2 W_times)) (o_order_of : Ok P w K mg base 6 "order_of" s_order_of p_order_of (spD K 1 W_order_of)) (o_moved : Ok P w K mg base 6 "moved" s_moved p_moved (spD K 2 W_moved)) (o__law_some : Ok P w K mg base 2 "_law_some" s__law_some p__law_some (spM K 3 W__law_some)) (o_turn_of_rounds : Ok P w K mg base 5 "turn_of_rounds" s_turn_of_rounds p_turn_of_rounds (spD K 2 W_turn_of_rounds)) {f : Addr} {cdv : Value} {A : Around} {out : List Env} {s : Shared} {H : Hp} (hr : Room 8 (cx P w K mg base N__law_right "_law_right" s__law_right f cdv A out s H).A) (hc : Clear (cx P w K mg base N__law_right "_law_right" s__law_right f cdv A out s H).A) :
    DSs (cx P w K mg base N__law_right "_law_right" s__law_right f cdv A out s H) (defBody s__law_right) wb__law_right := (dss_cons (ds_set 1 sc__law_right.nd rfl (by first | exact Or.inl rfl | exact Or.inr rfl) (de_callTy oInt_ok rfl T.b_int rfl (da_cons (de_op oAdd_ok de_int (de_callM 0 (o__law_take.mono (by decide)) hr hc rfl (pv 0) (da_cons de_int da_nil))) da_nil))) (dss_cons (ds_unp (de_lc (ts := [11]) (own := [("lap", 11)]) rfl sc__law_right.nd (di_c (di_rng1 rfl T.b_range de_int)) (show BlkOk N__law_right (defScope s__law_right) _ _ from ⟨rfl, by decide +kernel, by decide +kernel, by decide +kernel, by decide +kernel⟩) (by decide) (fun _ => (dg_name 11 sc__law_right.nd rfl (by first | exact Or.inl rfl | exact Or.inr rfl))) (fun _ => dts_nil) (fun _ => (de_callM 0 (o__law_turn.mono (by decide)) hr hc rfl (pv 0) (da_cons (de_name 1 (pv 1)) da_nil)))) (dg_unlW rfl (dgs_consW (dg_name 2 sc__law_right.nd rfl (by first | exact Or.inl rfl | exact Or.inr rfl)) (dgs_consW (dg_name 3 sc__law_right.nd rfl (by first | exact Or.inl rfl | exact Or.inr rfl)) (dgs_consW (dg_name 4 sc__law_right.nd rfl (by first | exact Or.inl rfl | exact Or.inr rfl)) dgs_nilW))))) (dss_cons (ds_set 5 sc__law_right.nd rfl (by first | exact Or.inl rfl | exact Or.inr rfl) (de_callM 0 (o__law_of.mono (by decide)) hr hc rfl (pv 0) (da_cons (de_lst (da_cons de_int (da_cons de_int (da_cons (de_neg de_int) (da_cons de_int (da_cons de_int (da_cons (de_neg de_int) (da_cons de_int (da_cons (de_neg de_int) (da_cons (de_op oAdd_ok de_int (de_callM 0 (o__law_take.mono (by decide)) hr hc rfl (pv 0) (da_cons de_int da_nil))) da_nil)))))))))) da_nil))) (dss_cons (ds_set 6 sc__law_right.nd rfl (by first | exact Or.inl rfl | exact Or.inr rfl) (de_callK (ks := ["other", "one"]) [1, 0] (o_turned_by.mono (by decide)) hr hc rfl (dk_cons (de_name 4 (pv 4)) (dk_cons (de_name 2 (pv 2)) dk_nil)) (fun _ _ _ _ _ _ us hl => match us, hl with | [_, _], _ => rfl))) (dss_cons (ds_if (DW.dt (dw_or (dt_cmp oIsnt_ok (de_call (o_is_turn.mono (by decide)) hr hc rfl (da_cons (de_name 1 (pv 1)) (da_cons (de_name 6 (pv 6)) da_nil))) de_bl) (dw_or1 (dt_cmp (oNe_ok hr.units) (de_callB (oRepr_ok hc hr.units) rfl T.b_repr rfl (da_cons (de_call (o_rounds_of.mono (by decide)) hr hc rfl (da_cons (de_name 6 (pv 6)) da_nil)) da_nil)) (de_callB (oRepr_ok hc hr.units) rfl T.b_repr rfl (da_cons (de_call (o__law_led.mono (by decide)) hr hc rfl (da_cons (de_call (o_rounds_of.mono (by decide)) hr hc rfl (da_cons (de_name 2 (pv 2)) da_nil)) (da_cons (de_name 4 (pv 4)) da_nil))) da_nil)))))) (dss_one (ds_retW de_bl)) dss_nil) (dss_cons (ds_if (DW.dt (dw_or (dt_cmp (oNe_ok hr.units) (de_callB (oRepr_ok hc hr.units) rfl T.b_repr rfl (da_cons (de_name 6 (pv 6)) da_nil)) (de_callB (oRepr_ok hc hr.units) rfl T.b_repr rfl (da_cons (de_call (o_behind.mono (by decide)) hr hc rfl (da_cons (de_call (o_behind.mono (by decide)) hr hc rfl (da_cons (de_call (o_back.mono (by decide)) hr hc rfl (da_cons (de_name 4 (pv 4)) da_nil)) (da_cons (de_name 2 (pv 2)) da_nil))) (da_cons (de_name 4 (pv 4)) da_nil))) da_nil))) (dw_or1 (dt_not (dt_val (de_call (o__law_are_orders_right.mono (by decide)) hr hc rfl (da_cons (de_name 2 (pv 2)) (da_cons (de_name 3 (pv 3)) da_nil)))))))) (dss_one (ds_retW de_bl)) dss_nil) (dss_cons (ds_if (DW.dt (dw_or (dt_cmp (oNe_ok hr.units) (de_call (o_turned_by.mono (by decide)) hr hc rfl (da_cons (de_call (o_behind.mono (by decide)) hr hc rfl (da_cons (de_name 2 (pv 2)) (da_cons (de_name 3 (pv 3)) da_nil))) (da_cons (de_name 4 (pv 4)) da_nil))) (de_call (o_behind.mono (by decide)) hr hc rfl (da_cons (de_name 6 (pv 6)) (da_cons (de_call (o_turned_by.mono (by decide)) hr hc rfl (da_cons (de_name 3 (pv 3)) (da_cons (de_name 4 (pv 4)) da_nil))) da_nil)))) (dw_or1 (dt_cmp (oNe_ok hr.units) (de_call (o_turned_by.mono (by decide)) hr hc rfl (da_cons (de_call (o_back.mono (by decide)) hr hc rfl (da_cons (de_name 2 (pv 2)) da_nil)) (da_cons (de_name 4 (pv 4)) da_nil))) (de_call (o_back.mono (by decide)) hr hc rfl (da_cons (de_name 6 (pv 6)) da_nil)))))) (dss_one (ds_retW de_bl)) dss_nil) (dss_cons (ds_if (DW.dt (dw_or (dt_cmp (oNe_ok hr.units) (de_call (o_turned_by.mono (by decide)) hr hc rfl (da_cons (de_call (o_times.mono (by decide)) hr hc rfl (da_cons (de_name 2 (pv 2)) (da_cons (de_name 5 (pv 5)) da_nil))) (da_cons (de_name 4 (pv 4)) da_nil))) (de_call (o_times.mono (by decide)) hr hc rfl (da_cons (de_name 6 (pv 6)) (da_cons (de_name 5 (pv 5)) da_nil)))) (dw_or1 (dt_cmp (oNe_ok hr.units) (de_call (o_turned_by.mono (by decide)) hr hc rfl (da_cons (de_call (o_turned_by.mono (by decide)) hr hc rfl (da_cons (de_name 2 (pv 2)) (da_cons (de_name 3 (pv 3)) da_nil))) (da_cons (de_name 4 (pv 4)) da_nil))) (de_call (o_turned_by.mono (by decide)) hr hc rfl (da_cons (de_name 2 (pv 2)) (da_cons (de_call (o_behind.mono (by decide)) hr hc rfl (da_cons (de_name 3 (pv 3)) (da_cons (de_name 4 (pv 4)) da_nil))) da_nil))))))) (dss_one (ds_retW de_bl)) dss_nil) (dss_cons (ds_if (DW.dt (dw_or (dt_cmp (oNe_ok hr.units) (de_call (o_turned_by.mono (by decide)) hr hc rfl (da_cons (de_name 6 (pv 6)) (da_cons (de_call (o_back.mono (by decide)) hr hc rfl (da_cons (de_name 4 (pv 4)) da_nil)) da_nil))) (de_name 2 (pv 2))) (dw_or1 (dt_cmp (oNe_ok hr.units) (de_call (o_back.mono (by decide)) hr hc rfl (da_cons (de_call (o_behind.mono (by decide)) hr hc rfl (da_cons (de_name 2 (pv 2)) (da_cons (de_name 3 (pv 3)) da_nil))) da_nil)) (de_call (o_behind.mono (by decide)) hr hc rfl (da_cons (de_call (o_back.mono (by decide)) hr hc rfl (da_cons (de_name 3 (pv 3)) da_nil)) (da_cons (de_call (o_back.mono (by decide)) hr hc rfl (da_cons (de_name 2 (pv 2)) da_nil)) da_nil))))))) (dss_one (ds_retW de_bl)) dss_nil) (dss_cons (ds_if (DW.dt (dw_or (dt_cmp (oNe_ok hr.units) (de_call (o_behind.mono (by decide)) hr hc rfl (da_cons (de_call (o_times.mono (by decide)) hr hc rfl (da_cons (de_name 2 (pv 2)) (da_cons (de_op oMod_ok (de_name 5 (pv 5)) de_int) da_nil))) (da_cons (de_call (o_times.mono (by decide)) hr hc rfl (da_cons (de_name 2 (pv 2)) (da_cons (de_op oSub_ok de_int (de_op oMod_ok (de_name 5 (pv 5)) de_int)) da_nil))) da_nil))) (de_call (o_times.mono (by decide)) hr hc rfl (da_cons (de_name 2 (pv 2)) (da_cons de_int da_nil)))) (dw_or1 (dt_cmp (oNe_ok hr.units) (de_call (o_times.mono (by decide)) hr hc rfl (da_cons (de_name 2 (pv 2)) (da_cons (de_name 5 (pv 5)) da_nil))) (de_call (o_times.mono (by decide)) hr hc rfl (da_cons (de_name 2 (pv 2)) (da_cons (de_op oMod_ok (de_name 5 (pv 5)) (de_call (o_order_of.mono (by decide)) hr hc rfl (da_cons (de_name 2 (pv 2)) da_nil))) da_nil))))))) (dss_one (ds_retW de_bl)) dss_nil) (dss_cons (ds_set 7 sc__law_right.nd rfl (by first | exact Or.inl rfl | exact Or.inr rfl) (de_callTy oTup_ok rfl T.b_tuple rfl (da_cons (de_lc (ts := [12]) (own := [("place", 12)]) rfl sc__law_right.nd (di_c (di_rng1 rfl T.b_range (de_name 1 (pv 1)))) (show BlkOk N__law_right (defScope s__law_right) _ _ from ⟨rfl, by decide +kernel, by decide +kernel, by decide +kernel, by decide +kernel⟩) (by decide) (fun _ => (dg_name 12 sc__law_right.nd rfl (by first | exact Or.inl rfl | exact Or.inr rfl))) (fun _ => dts_nil) (fun _ => (de_tup (da_cons de_str (da_cons (de_name 12 (pv 12)) da_nil))))) da_nil))) (dss_cons (ds_if (DW.dt (dw_or (dt_cmp (oNe_ok hr.units) (de_callB (oRepr_ok hc hr.units) rfl T.b_repr rfl (da_cons (de_call (o_moved.mono (by decide)) hr hc rfl (da_cons (de_call (o_behind.mono (by decide)) hr hc rfl (da_cons (de_name 2 (pv 2)) (da_cons (de_name 3 (pv 3)) da_nil))) (da_cons (de_name 7 (pv 7)) da_nil))) da_nil)) (de_callB (oRepr_ok hc hr.units) rfl T.b_repr rfl (da_cons (de_call (o_moved.mono (by decide)) hr hc rfl (da_cons (de_name 3 (pv 3)) (da_cons (de_call (o_moved.mono (by decide)) hr hc rfl (da_cons (de_name 2 (pv 2)) (da_cons (de_name 7 (pv 7)) da_nil))) da_nil))) da_nil))) (dw_or1 (dt_cmp (oNe_ok hr.units) (de_callB (oRepr_ok hc hr.units) rfl T.b_repr rfl (da_cons (de_call (o_moved.mono (by decide)) hr hc rfl (da_cons (de_call (o_back.mono (by decide)) hr hc rfl (da_cons (de_name 2 (pv 2)) da_nil)) (da_cons (de_call (o_moved.mono (by decide)) hr hc rfl (da_cons (de_name 2 (pv 2)) (da_cons (de_name 7 (pv 7)) da_nil))) da_nil))) da_nil)) (de_callB (oRepr_ok hc hr.units) rfl T.b_repr rfl (da_cons (de_name 7 (pv 7)) da_nil)))))) (dss_one (ds_retW de_bl)) dss_nil) (dss_cons (ds_set 8 sc__law_right.nd rfl (by first | exact Or.inl rfl | exact Or.inr rfl) (de_op oDiv_ok (de_name 1 (pv 1)) de_int)) (dss_cons (ds_set 9 sc__law_right.nd rfl (by first | exact Or.inl rfl | exact Or.inr rfl) (de_callTy oTup_ok rfl T.b_tuple rfl (da_cons (de_op oAdd_ok (de_callM 0 (o__law_some.mono (by decide)) hr hc rfl (pv 0) (da_cons (de_lstRg1 rfl rfl T.b_list rfl T.b_range (de_name 8 (pv 8))) (da_cons (de_name 8 (pv 8)) da_nil))) (de_lstRg2 rfl rfl T.b_list rfl T.b_range (de_name 8 (pv 8)) (de_name 1 (pv 1)))) da_nil))) (dss_cons (ds_set 10 sc__law_right.nd rfl (by first | exact Or.inl rfl | exact Or.inr rfl) (de_callTy oTup_ok rfl T.b_tuple rfl (da_cons (de_op oAdd_ok (de_lstRg1 rfl rfl T.b_list rfl T.b_range (de_name 8 (pv 8))) (de_callM 0 (o__law_some.mono (by decide)) hr hc rfl (pv 0) (da_cons (de_lstRg2 rfl rfl T.b_list rfl T.b_range (de_name 8 (pv 8)) (de_name 1 (pv 1))) (da_cons (de_op oSub_ok (de_name 1 (pv 1)) (de_name 8 (pv 8))) da_nil)))) da_nil))) (dss_cons (ds_if (DW.dt (dw_or (dt_cmp (oNe_ok hr.units) (de_call (o_behind.mono (by decide)) hr hc rfl (da_cons (de_name 9 (pv 9)) (da_cons (de_name 10 (pv 10)) da_nil))) (de_call (o_behind.mono (by decide)) hr hc rfl (da_cons (de_name 10 (pv 10)) (da_cons (de_name 9 (pv 9)) da_nil)))) (dw_or1 (dt_cmp (oNe_ok hr.units) (de_call (o_rounds_of.mono (by decide)) hr hc rfl (da_cons (de_call (o_behind.mono (by decide)) hr hc rfl (da_cons (de_name 9 (pv 9)) (da_cons (de_name 10 (pv 10)) da_nil))) da_nil)) (de_callTy oTup_ok rfl T.b_tuple rfl (da_cons (de_callB (oSorted_ok hr.units) rfl T.b_sorted rfl (da_cons (de_op oAdd_ok (de_call (o_rounds_of.mono (by decide)) hr hc rfl (da_cons (de_name 9 (pv 9)) da_nil)) (de_call (o_rounds_of.mono (by decide)) hr hc rfl (da_cons (de_name 10 (pv 10)) da_nil))) da_nil)) da_nil)))))) (dss_one (ds_retW de_bl)) dss_nil) (dss_one (ds_retW (de_cmp (oEq_ok hr.units) (de_callB (oRepr_ok hc hr.units) rfl T.b_repr rfl (da_cons (de_call (o_turn_of_rounds.mono (by decide)) hr hc rfl (da_cons (de_name 1 (pv 1)) (da_cons (de_op oAdd_ok (de_call (o_rounds_of.mono (by decide)) hr hc rfl (da_cons (de_name 9 (pv 9)) da_nil)) (de_call (o_rounds_of.mono (by decide)) hr hc rfl (da_cons (de_name 10 (pv 10)) da_nil))) da_nil))) da_nil)) (de_callB (oRepr_ok hc hr.units) rfl T.b_repr rfl (da_cons (de_call (o_behind.mono (by decide)) hr hc rfl (da_cons (de_name 9 (pv 9)) (da_cons (de_name 10 (pv 10)) da_nil))) da_nil)))))))))))))))))))))
theorem dd_law (T : Txt K mg) (o__law_cells : Ok P w K mg base 1 "_law_cells" s__law_cells p__law_cells (spD K 2 W__law_cells)) (o__law_pot : Ok P w K mg base 1 "_law_pot" s__law_pot p__law_pot (spD K 2 W__law_pot)) (o__law_right : Ok P w K mg base 9 "_law_right" s__law_right p__law_right (spM K 1 W__law_right)) {f : Addr} {cdv : Value} {A : Around} {out : List Env} {s : Shared} {H : Hp} (hr : Room 9 (cx P w K mg base N_law "law" s_law f cdv A out s H).A) (hc : Clear (cx P w K mg base N_law "law" s_law f cdv A out s H).A) :
    DSs (cx P w K mg base N_law "law" s_law f cdv A out s H) (defBody s_law) wb_law := (dss_cons (ds_for PassesOwn.never rfl (di_seq (de_call (o__law_cells.mono (by decide)) hr hc rfl (da_cons (de_name 0 (pv 0)) (da_cons de_int da_nil)))) (ts := [1]) (dg_name 1 sc_law.nd rfl (by first | exact Or.inl rfl | exact Or.inr rfl)) (dss_cons (ds_set 2 sc_law.nd rfl (by first | exact Or.inl rfl | exact Or.inr rfl) (de_call (o__law_pot.mono (by decide)) hr hc rfl (da_cons (de_name 0 (pv 0)) (da_cons (de_name 1 (pv 1)) da_nil)))) (dss_one (ds_if (dt_not (dt_val (de_callB (oAll_ok rfl) rfl T.b_all rfl (da_cons (de_lc (ts := [3]) (own := [("lap", 3)]) rfl sc_law.nd (di_c (di_rng1 rfl T.b_range de_int)) (show BlkOk N_law (defScope s_law) _ _ from ⟨rfl, by decide +kernel, by decide +kernel, by decide +kernel, by decide +kernel⟩) (by decide) (fun _ => (dg_name 3 sc_law.nd rfl (by first | exact Or.inl rfl | exact Or.inr rfl))) (fun _ => dts_nil) (fun _ => (de_callM 2 (o__law_right.mono (by decide)) hr hc rfl (pv 2) da_nil))) da_nil)))) (dss_one (ds_retW de_bl)) dss_nil)))) (dss_one (ds_retW de_bl)))
end
end K05
namespace K05
open PySem PySem.Spec PyProof.Rows L2 Dn
section
variable {P : Program} {w : World} {K : PySem.W.Frag} {mg : Str → Option Value} {base : Heap}
theorem ok_is_integer (T : Txt K mg) : Ok P w K mg base 1 "is_integer" s_is_integer p_is_integer (Dn.spD K 1 W_is_integer) := Df.ok T.d_is_integer sc_is_integer rfl (by decide) fun _ _ _ _ _ _ hr hc => ⟨_, dd_is_integer T  hr hc, rd_is_integer⟩
theorem ok_is_between (T : Txt K mg) : Ok P w K mg base 2 "is_between" s_is_between p_is_between (Dn.spD K 3 W_is_between) := Df.ok T.d_is_between sc_is_between rfl (by decide) fun _ _ _ _ _ _ hr hc => ⟨_, dd_is_between T (ok_is_integer T) hr hc, rd_is_between⟩
theorem ok_are_between (T : Txt K mg) : Ok P w K mg base 3 "are_between" s_are_between p_are_between (Dn.spD K 3 W_are_between) := Df.ok T.d_are_between sc_are_between rfl (by decide) fun _ _ _ _ _ _ hr hc => ⟨_, dd_are_between T (ok_is_between T) hr hc, rd_are_between⟩
theorem ok_is_tuple_of (T : Txt K mg) : Ok P w K mg base 1 "is_tuple_of" s_is_tuple_of p_is_tuple_of (Dn.spD K 2 W_is_tuple_of) := Df.ok T.d_is_tuple_of sc_is_tuple_of rfl (by decide) fun _ _ _ _ _ _ hr hc => ⟨_, dd_is_tuple_of T  hr hc, rd_is_tuple_of⟩
theorem ok_check_many (T : Txt K mg) : Ok P w K mg base 3 "check_many" s_check_many p_check_many (Dn.spD K 1 W_check_many) := Df.ok T.d_check_many sc_check_many rfl (by decide) fun _ _ _ _ _ _ hr hc => ⟨_, dd_check_many T (ok_is_between T) hr hc, rd_check_many⟩
theorem ok_is_turn_of (T : Txt K mg) : Ok P w K mg base 4 "is_turn_of" s_is_turn_of p_is_turn_of (Dn.spD K 2 W_is_turn_of) := Df.ok T.d_is_turn_of sc_is_turn_of rfl (by decide) fun _ _ _ _ _ _ hr hc => ⟨_, dd_is_turn_of T (ok_are_between T) hr hc, rd_is_turn_of⟩
theorem ok_is_turn (T : Txt K mg) : Ok P w K mg base 5 "is_turn" s_is_turn p_is_turn (Dn.spD K 2 W_is_turn) := Df.ok T.d_is_turn sc_is_turn rfl (by decide) fun _ _ _ _ _ _ hr hc => ⟨_, dd_is_turn T (ok_check_many T) (ok_is_turn_of T) hr hc, rd_is_turn⟩
theorem ok_check_turn (T : Txt K mg) : Ok P w K mg base 5 "check_turn" s_check_turn p_check_turn (Dn.spD K 1 W_check_turn) := Df.ok T.d_check_turn sc_check_turn rfl (by decide) fun _ _ _ _ _ _ hr hc => ⟨_, dd_check_turn T (ok_is_turn_of T) hr hc, rd_check_turn⟩
theorem ok_check_both_turns (T : Txt K mg) : Ok P w K mg base 6 "check_both_turns" s_check_both_turns p_check_both_turns (Dn.spD K 2 W_check_both_turns) := Df.ok T.d_check_both_turns sc_check_both_turns rfl (by decide) fun _ _ _ _ _ _ hr hc => ⟨_, dd_check_both_turns T (ok_check_turn T) hr hc, rd_check_both_turns⟩
theorem ok_still_of (T : Txt K mg) : Ok P w K mg base 1 "still_of" s_still_of p_still_of (Dn.spD K 1 W_still_of) := Df.ok T.d_still_of sc_still_of rfl (by decide) fun _ _ _ _ _ _ hr hc => ⟨_, dd_still_of T  hr hc, rd_still_of⟩
theorem ok_still (T : Txt K mg) : Ok P w K mg base 4 "still" s_still p_still (Dn.spD K 1 W_still) := Df.ok T.d_still sc_still rfl (by decide) fun _ _ _ _ _ _ hr hc => ⟨_, dd_still T (ok_check_many T) (ok_still_of T) hr hc, rd_still⟩
theorem ok_then (T : Txt K mg) : Ok P w K mg base 1 "then" s_then p_then (Dn.spD K 2 W_then) := Df.ok T.d_then sc_then rfl (by decide) fun _ _ _ _ _ _ hr hc => ⟨_, dd_then T  hr hc, rd_then⟩
theorem ok_behind (T : Txt K mg) : Ok P w K mg base 7 "behind" s_behind p_behind (Dn.spD K 2 W_behind) := Df.ok T.d_behind sc_behind rfl (by decide) fun _ _ _ _ _ _ hr hc => ⟨_, dd_behind T (ok_check_both_turns T) (ok_then T) hr hc, rd_behind⟩
theorem ok_back_of (T : Txt K mg) : Ok P w K mg base 1 "back_of" s_back_of p_back_of (Dn.spD K 1 W_back_of) := Df.ok T.d_back_of sc_back_of rfl (by decide) fun _ _ _ _ _ _ hr hc => ⟨_, dd_back_of T  hr hc, rd_back_of⟩
theorem ok_back (T : Txt K mg) : Ok P w K mg base 6 "back" s_back p_back (Dn.spD K 1 W_back) := Df.ok T.d_back sc_back rfl (by decide) fun _ _ _ _ _ _ hr hc => ⟨_, dd_back T (ok_check_turn T) (ok_back_of T) hr hc, rd_back⟩
theorem ok_rounds_in (T : Txt K mg) : Ok P w K mg base 1 "rounds_in" s_rounds_in p_rounds_in (Dn.spD K 1 W_rounds_in) := Df.ok T.d_rounds_in sc_rounds_in rfl (by decide) fun _ _ _ _ _ _ hr hc => ⟨_, dd_rounds_in T  hr hc, rd_rounds_in⟩
theorem ok_times (T : Txt K mg) : Ok P w K mg base 6 "times" s_times p_times (Dn.spD K 2 W_times) := Df.ok T.d_times sc_times rfl (by decide) fun _ _ _ _ _ _ hr hc => ⟨_, dd_times T (ok_check_turn T) (ok_is_between T) (ok_rounds_in T) hr hc, rd_times⟩
theorem ok_turned_by (T : Txt K mg) : Ok P w K mg base 7 "turned_by" s_turned_by p_turned_by (Dn.spD K 2 W_turned_by) := Df.ok T.d_turned_by sc_turned_by rfl (by decide) fun _ _ _ _ _ _ hr hc => ⟨_, dd_turned_by T (ok_check_both_turns T) (ok_then T) (ok_back_of T) hr hc, rd_turned_by⟩
theorem ok_rounds_of (T : Txt K mg) : Ok P w K mg base 6 "rounds_of" s_rounds_of p_rounds_of (Dn.spD K 1 W_rounds_of) := Df.ok T.d_rounds_of sc_rounds_of rfl (by decide) fun _ _ _ _ _ _ hr hc => ⟨_, dd_rounds_of T (ok_check_turn T) (ok_rounds_in T) hr hc, rd_rounds_of⟩
theorem ok_turn_by_rounds (T : Txt K mg) : Ok P w K mg base 1 "turn_by_rounds" s_turn_by_rounds p_turn_by_rounds (Dn.spD K 2 W_turn_by_rounds) := Df.ok T.d_turn_by_rounds sc_turn_by_rounds rfl (by decide) fun _ _ _ _ _ _ hr hc => ⟨_, dd_turn_by_rounds T  hr hc, rd_turn_by_rounds⟩
theorem ok_are_rounds (T : Txt K mg) : Ok P w K mg base 4 "are_rounds" s_are_rounds p_are_rounds (Dn.spD K 2 W_are_rounds) := Df.ok T.d_are_rounds sc_are_rounds rfl (by decide) fun _ _ _ _ _ _ hr hc => ⟨_, dd_are_rounds T (ok_are_between T) (ok_rounds_in T) (ok_turn_by_rounds T) hr hc, rd_are_rounds⟩
theorem ok_turn_of_rounds (T : Txt K mg) : Ok P w K mg base 5 "turn_of_rounds" s_turn_of_rounds p_turn_of_rounds (Dn.spD K 2 W_turn_of_rounds) := Df.ok T.d_turn_of_rounds sc_turn_of_rounds rfl (by decide) fun _ _ _ _ _ _ hr hc => ⟨_, dd_turn_of_rounds T (ok_check_many T) (ok_are_rounds T) (ok_turn_by_rounds T) hr hc, rd_turn_of_rounds⟩
theorem ok_common (T : Txt K mg) : Ok P w K mg base 1 "common" s_common p_common (Dn.spD K 2 W_common) := Df.ok T.d_common sc_common rfl (by decide) fun _ _ _ _ _ _ hr hc => ⟨_, dd_common T  hr hc, rd_common⟩
theorem ok_order_in (T : Txt K mg) : Ok P w K mg base 2 "order_in" s_order_in p_order_in (Dn.spD K 1 W_order_in) := Df.ok T.d_order_in sc_order_in rfl (by decide) fun _ _ _ _ _ _ hr hc => ⟨_, dd_order_in T (ok_rounds_in T) (ok_common T) hr hc, rd_order_in⟩
theorem ok_order_of (T : Txt K mg) : Ok P w K mg base 6 "order_of" s_order_of p_order_of (Dn.spD K 1 W_order_of) := Df.ok T.d_order_of sc_order_of rfl (by decide) fun _ _ _ _ _ _ hr hc => ⟨_, dd_order_of T (ok_check_turn T) (ok_order_in T) hr hc, rd_order_of⟩
theorem ok_is_even_of (T : Txt K mg) : Ok P w K mg base 2 "is_even_of" s_is_even_of p_is_even_of (Dn.spD K 1 W_is_even_of) := Df.ok T.d_is_even_of sc_is_even_of rfl (by decide) fun _ _ _ _ _ _ hr hc => ⟨_, dd_is_even_of T (ok_rounds_in T) hr hc, rd_is_even_of⟩
theorem ok_is_even (T : Txt K mg) : Ok P w K mg base 6 "is_even" s_is_even p_is_even (Dn.spD K 1 W_is_even) := Df.ok T.d_is_even sc_is_even rfl (by decide) fun _ _ _ _ _ _ hr hc => ⟨_, dd_is_even T (ok_check_turn T) (ok_is_even_of T) hr hc, rd_is_even⟩
theorem ok_row_moved (T : Txt K mg) : Ok P w K mg base 1 "row_moved" s_row_moved p_row_moved (Dn.spD K 2 W_row_moved) := Df.ok T.d_row_moved sc_row_moved rfl (by decide) fun _ _ _ _ _ _ hr hc => ⟨_, dd_row_moved T  hr hc, rd_row_moved⟩
theorem ok_moved (T : Txt K mg) : Ok P w K mg base 6 "moved" s_moved p_moved (Dn.spD K 2 W_moved) := Df.ok T.d_moved sc_moved rfl (by decide) fun _ _ _ _ _ _ hr hc => ⟨_, dd_moved T (ok_check_turn T) (ok_is_tuple_of T) (ok_row_moved T) hr hc, rd_moved⟩
theorem ok__law_pot (T : Txt K mg) : Ok P w K mg base 1 "_law_pot" s__law_pot p__law_pot (Dn.spD K 2 W__law_pot) := Df.ok T.d__law_pot sc__law_pot rfl (by decide) fun _ _ _ _ _ _ hr hc => ⟨_, dd__law_pot T  hr hc, rd__law_pot⟩
theorem ok__law_take (T : Txt K mg) : Ok P w K mg base 1 "_law_take" s__law_take p__law_take (Dn.spM K 2 W__law_take) := Df.okM T.d__law_take sc__law_take rfl (by decide) fun _ _ _ _ _ _ hr hc => ⟨_, dd__law_take T  hr hc, rd__law_take⟩
theorem ok__law_of (T : Txt K mg) : Ok P w K mg base 2 "_law_of" s__law_of p__law_of (Dn.spM K 2 W__law_of) := Df.okM T.d__law_of sc__law_of rfl (by decide) fun _ _ _ _ _ _ hr hc => ⟨_, dd__law_of T (ok__law_take T) hr hc, rd__law_of⟩
theorem ok__law_some (T : Txt K mg) : Ok P w K mg base 2 "_law_some" s__law_some p__law_some (Dn.spM K 3 W__law_some) := Df.okM T.d__law_some sc__law_some rfl (by decide) fun _ _ _ _ _ _ hr hc => ⟨_, dd__law_some T (ok__law_take T) hr hc, rd__law_some⟩
theorem ok__law_cells (T : Txt K mg) : Ok P w K mg base 1 "_law_cells" s__law_cells p__law_cells (Dn.spD K 2 W__law_cells) := Df.ok T.d__law_cells sc__law_cells rfl (by decide) fun _ _ _ _ _ _ hr hc => ⟨_, dd__law_cells T  hr hc, rd__law_cells⟩
theorem ok__law_turn (T : Txt K mg) : Ok P w K mg base 3 "_law_turn" s__law_turn p__law_turn (Dn.spM K 2 W__law_turn) := Df.okM T.d__law_turn sc__law_turn rfl (by decide) fun _ _ _ _ _ _ hr hc => ⟨_, dd__law_turn T (ok__law_some T) hr hc, rd__law_turn⟩
theorem ok__law_led (T : Txt K mg) : Ok P w K mg base 1 "_law_led" s__law_led p__law_led (Dn.spD K 2 W__law_led) := Df.ok T.d__law_led sc__law_led rfl (by decide) fun _ _ _ _ _ _ hr hc => ⟨_, dd__law_led T  hr hc, rd__law_led⟩
theorem ok__law_common (T : Txt K mg) : Ok P w K mg base 1 "_law_common" s__law_common p__law_common (Dn.spD K 2 W__law_common) := Df.ok T.d__law_common sc__law_common rfl (by decide) fun _ _ _ _ _ _ hr hc => ⟨_, dd__law_common T  hr hc, rd__law_common⟩
theorem ok__law_are_orders_right (T : Txt K mg) : Ok P w K mg base 8 "_law_are_orders_right" s__law_are_orders_right p__law_are_orders_right (Dn.spD K 2 W__law_are_orders_right) := Df.ok T.d__law_are_orders_right sc__law_are_orders_right rfl (by decide) fun _ _ _ _ _ _ hr hc => ⟨_, dd__law_are_orders_right T (ok_rounds_of T) (ok__law_common T) (ok_order_of T) (ok_is_even T) (ok_times T) (ok_still T) (ok_behind T) (ok_back T) hr hc, rd__law_are_orders_right⟩
theorem ok__law_right (T : Txt K mg) : Ok P w K mg base 9 "_law_right" s__law_right p__law_right (Dn.spM K 1 W__law_right) := Df.okM T.d__law_right sc__law_right rfl (by decide) fun _ _ _ _ _ _ hr hc => ⟨_, dd__law_right T (ok__law_take T) (ok__law_turn T) (ok__law_of T) (ok_turned_by T) (ok_is_turn T) (ok_rounds_of T) (ok__law_led T) (ok_behind T) (ok_back T) (ok__law_are_orders_right T) (ok_times T) (ok_order_of T) (ok_moved T) (ok__law_some T) (ok_turn_of_rounds T) hr hc, rd__law_right⟩
theorem ok_law (T : Txt K mg) : Ok P w K mg base 10 "law" s_law p_law (Dn.spD K 1 W_law) := Df.ok T.d_law sc_law rfl (by decide) fun _ _ _ _ _ _ hr hc => ⟨_, dd_law T (ok__law_cells T) (ok__law_pot T) (ok__law_right T) hr hc, rd_law⟩
end
end K05
namespace K05
open PySem PySem.Spec PyProof.Rows L2 Dn
/-- a def of the top, as the head finds it -/
def Has (K : PySem.W.Frag) (x : Str) (st : Stmt) : Prop := ∃ (f : Addr) (oc : Value) (od : Option Addr) (kV dc pm : Value) (an : Option Addr) (cd ct : Value) (sl : Array (Option Value)),
  PySem.W.nsIn K mainGlobals x = some (some (.ref f)) ∧ K.lookup f = some ⟨oc, od, .func (PySem.W.fnOf x x (defArgs st) (defBody st) (defScope st) .none kV dc pm an cd ct), sl⟩ ∧ PySem.W.codeIn K cd x = true ∧ PySem.W.keepIn K (.ref f) = true
theorem has_mk {K : PySem.W.Frag} {x : Str} {st : Stmt} {f : Addr} {oc : Value} {od : Option Addr} {kV dc pm : Value} {an : Option Addr} {cd ct : Value} {sl : Array (Option Value)}
    (a : PySem.W.nsIn K mainGlobals x = some (some (.ref f))) (l : K.lookup f = some ⟨oc, od, .func (PySem.W.fnOf x x (defArgs st) (defBody st) (defScope st) .none kV dc pm an cd ct), sl⟩) (c : PySem.W.codeIn K cd x = true) (k : PySem.W.keepIn K (.ref f) = true) : Has K x st :=
  ⟨f, oc, od, kV, dc, pm, an, cd, ct, sl, a, l, c, k⟩
theorem df_mk {K : PySem.W.Frag} {h : Heap} {mg : Str → Option Value} {x : Str} {st : Stmt} {ps : List Str} (X : K.In h) (G : h.Ns mainGlobals mg) (q : Has K x st)
    (hb : ∀ (kV doc pm : Value) (an : Option Addr) (cdv ct : Value) (us : List Value), us.length = ps.length → bindArgs (PySem.W.fnOf x x (defArgs st) (defBody st) (defScope st) .none kV doc pm an cdv ct) ⟨us, []⟩ = pure (ps.zip us)) : Df K mg x st ps := by
  obtain ⟨f, oc, od, kV, dc, pm, an, cd, ct, sl, a, l, c, k⟩ := q
  have F := fun_mk l c k
  exact ⟨⟨f, _, PySem.W.mg_of X G a, F, F.binds hb⟩⟩
theorem all_mk {l0 : PySem.W.OpenLaw} {w : World} {K : PySem.W.Frag} {h : Heap} {mg : Str → Option Value} {fa f : Addr} (X : K.In h) (G : h.Ns mainGlobals mg) (hfa : mg "law" = some (.ref fa))
    {oc : Value} {od : Option Addr} {kV dc pm : Value} {an : Option Addr} {cd ct : Value} {sl : Array (Option Value)}
    (a : PySem.W.nsIn K mainGlobals "law" = some (some (.ref f))) (l : K.lookup f = some ⟨oc, od, .func (PySem.W.fnOf "law" "law" (defArgs s_law) (defBody s_law) (defScope s_law) .none kV dc pm an cd ct), sl⟩) (c : PySem.W.codeIn K cd "law" = true) (k : PySem.W.keepIn K (.ref f) = true)
    {t_MOST_PLACES t_MOST_TIMES : Tok}
    (z_isinstance : PySem.W.nsIn K mainGlobals "isinstance" = some none)
    (z_int : PySem.W.nsIn K mainGlobals "int" = some none)
    (z_bool : PySem.W.nsIn K mainGlobals "bool" = some none)
    (z_tuple : PySem.W.nsIn K mainGlobals "tuple" = some none)
    (z_all : PySem.W.nsIn K mainGlobals "all" = some none)
    (z_len : PySem.W.nsIn K mainGlobals "len" = some none)
    (z_set : PySem.W.nsIn K mainGlobals "set" = some none)
    (z_range : PySem.W.nsIn K mainGlobals "range" = some none)
    (z_enumerate : PySem.W.nsIn K mainGlobals "enumerate" = some none)
    (z_list : PySem.W.nsIn K mainGlobals "list" = some none)
    (z_dict : PySem.W.nsIn K mainGlobals "dict" = some none)
    (z_sum : PySem.W.nsIn K mainGlobals "sum" = some none)
    (z_abs : PySem.W.nsIn K mainGlobals "abs" = some none)
    (z_min : PySem.W.nsIn K mainGlobals "min" = some none)
    (z_max : PySem.W.nsIn K mainGlobals "max" = some none)
    (z_sorted : PySem.W.nsIn K mainGlobals "sorted" = some none)
    (z_repr : PySem.W.nsIn K mainGlobals "repr" = some none)
    (z_any : PySem.W.nsIn K mainGlobals "any" = some none)
    (n_MOST_PLACES : PySem.W.nsIn K mainGlobals "MOST_PLACES" = some (some (.int 24 t_MOST_PLACES)))
    (n_MOST_TIMES : PySem.W.nsIn K mainGlobals "MOST_TIMES" = some (some (.int 1000000 t_MOST_TIMES)))
    (h_is_integer : Has K "is_integer" s_is_integer)
    (h_is_between : Has K "is_between" s_is_between)
    (h_are_between : Has K "are_between" s_are_between)
    (h_is_tuple_of : Has K "is_tuple_of" s_is_tuple_of)
    (h_check_many : Has K "check_many" s_check_many)
    (h_is_turn_of : Has K "is_turn_of" s_is_turn_of)
    (h_is_turn : Has K "is_turn" s_is_turn)
    (h_check_turn : Has K "check_turn" s_check_turn)
    (h_check_both_turns : Has K "check_both_turns" s_check_both_turns)
    (h_still_of : Has K "still_of" s_still_of)
    (h_still : Has K "still" s_still)
    (h_then : Has K "then" s_then)
    (h_behind : Has K "behind" s_behind)
    (h_back_of : Has K "back_of" s_back_of)
    (h_back : Has K "back" s_back)
    (h_times : Has K "times" s_times)
    (h_turned_by : Has K "turned_by" s_turned_by)
    (h_rounds_in : Has K "rounds_in" s_rounds_in)
    (h_rounds_of : Has K "rounds_of" s_rounds_of)
    (h_turn_by_rounds : Has K "turn_by_rounds" s_turn_by_rounds)
    (h_are_rounds : Has K "are_rounds" s_are_rounds)
    (h_turn_of_rounds : Has K "turn_of_rounds" s_turn_of_rounds)
    (h_common : Has K "common" s_common)
    (h_order_in : Has K "order_in" s_order_in)
    (h_order_of : Has K "order_of" s_order_of)
    (h_is_even_of : Has K "is_even_of" s_is_even_of)
    (h_is_even : Has K "is_even" s_is_even)
    (h_row_moved : Has K "row_moved" s_row_moved)
    (h_moved : Has K "moved" s_moved)
    (h__law_pot : Has K "_law_pot" s__law_pot)
    (h__law_take : Has K "_law_take" s__law_take)
    (h__law_of : Has K "_law_of" s__law_of)
    (h__law_some : Has K "_law_some" s__law_some)
    (h__law_cells : Has K "_law_cells" s__law_cells)
    (h__law_turn : Has K "_law_turn" s__law_turn)
    (h__law_led : Has K "_law_led" s__law_led)
    (h__law_common : Has K "_law_common" s__law_common)
    (h__law_are_orders_right : Has K "_law_are_orders_right" s__law_are_orders_right)
    (h__law_right : Has K "_law_right" s__law_right)
    : ∃ fd : FuncData, (∀ (s : Shared) (v : Value), BindsTo s fd ⟨[v], []⟩ [("script", v)]) ∧ ∀ base : Heap, K.In base → base.Ns mainGlobals mg → FnG l0.prog w K mg base 10 fa fd ["script"] (Dn.spD K 1 W_law) := by
  have T : Txt K mg := ⟨PySem.W.mg_none_of X G z_isinstance,
    PySem.W.mg_none_of X G z_int,
    PySem.W.mg_none_of X G z_bool,
    PySem.W.mg_none_of X G z_tuple,
    PySem.W.mg_none_of X G z_all,
    PySem.W.mg_none_of X G z_len,
    PySem.W.mg_none_of X G z_set,
    PySem.W.mg_none_of X G z_range,
    PySem.W.mg_none_of X G z_enumerate,
    PySem.W.mg_none_of X G z_list,
    PySem.W.mg_none_of X G z_dict,
    PySem.W.mg_none_of X G z_sum,
    PySem.W.mg_none_of X G z_abs,
    PySem.W.mg_none_of X G z_min,
    PySem.W.mg_none_of X G z_max,
    PySem.W.mg_none_of X G z_sorted,
    PySem.W.mg_none_of X G z_repr,
    PySem.W.mg_none_of X G z_any,
    ⟨_, PySem.W.mg_of X G n_MOST_PLACES⟩,
    ⟨_, PySem.W.mg_of X G n_MOST_TIMES⟩,
    (df_mk X G h_is_integer fun _ _ _ _ _ _ us hl => match us, hl with | [_], _ => rfl),
    (df_mk X G h_is_between fun _ _ _ _ _ _ us hl => match us, hl with | [_, _, _], _ => rfl),
    (df_mk X G h_are_between fun _ _ _ _ _ _ us hl => match us, hl with | [_, _, _], _ => rfl),
    (df_mk X G h_is_tuple_of fun _ _ _ _ _ _ us hl => match us, hl with | [_, _], _ => rfl),
    (df_mk X G h_check_many fun _ _ _ _ _ _ us hl => match us, hl with | [_], _ => rfl),
    (df_mk X G h_is_turn_of fun _ _ _ _ _ _ us hl => match us, hl with | [_, _], _ => rfl),
    (df_mk X G h_is_turn fun _ _ _ _ _ _ us hl => match us, hl with | [_, _], _ => rfl),
    (df_mk X G h_check_turn fun _ _ _ _ _ _ us hl => match us, hl with | [_], _ => rfl),
    (df_mk X G h_check_both_turns fun _ _ _ _ _ _ us hl => match us, hl with | [_, _], _ => rfl),
    (df_mk X G h_still_of fun _ _ _ _ _ _ us hl => match us, hl with | [_], _ => rfl),
    (df_mk X G h_still fun _ _ _ _ _ _ us hl => match us, hl with | [_], _ => rfl),
    (df_mk X G h_then fun _ _ _ _ _ _ us hl => match us, hl with | [_, _], _ => rfl),
    (df_mk X G h_behind fun _ _ _ _ _ _ us hl => match us, hl with | [_, _], _ => rfl),
    (df_mk X G h_back_of fun _ _ _ _ _ _ us hl => match us, hl with | [_], _ => rfl),
    (df_mk X G h_back fun _ _ _ _ _ _ us hl => match us, hl with | [_], _ => rfl),
    (df_mk X G h_times fun _ _ _ _ _ _ us hl => match us, hl with | [_, _], _ => rfl),
    (df_mk X G h_turned_by fun _ _ _ _ _ _ us hl => match us, hl with | [_, _], _ => rfl),
    (df_mk X G h_rounds_in fun _ _ _ _ _ _ us hl => match us, hl with | [_], _ => rfl),
    (df_mk X G h_rounds_of fun _ _ _ _ _ _ us hl => match us, hl with | [_], _ => rfl),
    (df_mk X G h_turn_by_rounds fun _ _ _ _ _ _ us hl => match us, hl with | [_, _], _ => rfl),
    (df_mk X G h_are_rounds fun _ _ _ _ _ _ us hl => match us, hl with | [_, _], _ => rfl),
    (df_mk X G h_turn_of_rounds fun _ _ _ _ _ _ us hl => match us, hl with | [_, _], _ => rfl),
    (df_mk X G h_common fun _ _ _ _ _ _ us hl => match us, hl with | [_, _], _ => rfl),
    (df_mk X G h_order_in fun _ _ _ _ _ _ us hl => match us, hl with | [_], _ => rfl),
    (df_mk X G h_order_of fun _ _ _ _ _ _ us hl => match us, hl with | [_], _ => rfl),
    (df_mk X G h_is_even_of fun _ _ _ _ _ _ us hl => match us, hl with | [_], _ => rfl),
    (df_mk X G h_is_even fun _ _ _ _ _ _ us hl => match us, hl with | [_], _ => rfl),
    (df_mk X G h_row_moved fun _ _ _ _ _ _ us hl => match us, hl with | [_, _], _ => rfl),
    (df_mk X G h_moved fun _ _ _ _ _ _ us hl => match us, hl with | [_, _], _ => rfl),
    (df_mk X G h__law_pot fun _ _ _ _ _ _ us hl => match us, hl with | [_, _], _ => rfl),
    (df_mk X G h__law_take fun _ _ _ _ _ _ us hl => match us, hl with | [_, _], _ => rfl),
    (df_mk X G h__law_of fun _ _ _ _ _ _ us hl => match us, hl with | [_, _], _ => rfl),
    (df_mk X G h__law_some fun _ _ _ _ _ _ us hl => match us, hl with | [_, _, _], _ => rfl),
    (df_mk X G h__law_cells fun _ _ _ _ _ _ us hl => match us, hl with | [_, _], _ => rfl),
    (df_mk X G h__law_turn fun _ _ _ _ _ _ us hl => match us, hl with | [_, _], _ => rfl),
    (df_mk X G h__law_led fun _ _ _ _ _ _ us hl => match us, hl with | [_, _], _ => rfl),
    (df_mk X G h__law_common fun _ _ _ _ _ _ us hl => match us, hl with | [_, _], _ => rfl),
    (df_mk X G h__law_are_orders_right fun _ _ _ _ _ _ us hl => match us, hl with | [_, _], _ => rfl),
    (df_mk X G h__law_right fun _ _ _ _ _ _ us hl => match us, hl with | [_], _ => rfl),
    (df_mk X G ⟨_, _, _, _, _, _, _, _, _, _, a, l, c, k⟩ fun _ _ _ _ _ _ us hl => match us, hl with | [_], _ => rfl)⟩
  refine ⟨PySem.W.fnOf "law" "law" (defArgs s_law) (defBody s_law) (defScope s_law) .none kV dc pm an cd ct, fun s v => .of_eq rfl, fun base _ _ => ?_⟩
  obtain ⟨f', fd', hm, F', _, go⟩ := ok_law (P := l0.prog) (w := w) (base := base) T
  have e1 := hm.symm.trans (PySem.W.mg_of X G a)
  have e2 := hfa.symm.trans (PySem.W.mg_of X G a)
  cases e1
  cases e2
  obtain ⟨oc', od', kV', dc', pm', an', cd', ct', sl', e, l', _⟩ := F'.ex
  have e3 := l'.symm.trans l
  simp only [Option.some.injEq, Obj.mk.injEq, Data.func.injEq] at e3
  obtain ⟨_, _, e4, _⟩ := e3
  rw [← e4]
  exact go
theorem want {K : PySem.W.Frag} {H : Hp} {a : Addr} {ns : List Int} (hl : ns.length ≤ 63) (only : Only H) (sq : SqL K H a (ns.map V.int)) : Dn.spD K 1 W_law [.ref a] H (fun v _ => v = .bl true) E0 := by
  refine ⟨H, [.list (ns.map .int)], fun z => z = .fz (.bool true), rfl, .refl _, fun _ _ z => z, ?_, ⟨ns, rfl, hl, rfl⟩, ?_⟩
  · have allI : ∀ ns : List Int, RpAll K H (ns.map V.int) (ns.map .int) := fun ns => by
      induction ns with
      | nil => exact .nil
      | cons n ns ih => exact .cons (.int n) ih
    exact .cons (.lst sq (allI ns)) .nil
  · rintro z v H' rfl _ r
    have r : Rp K _ v (.bool true) := r
    cases r
    rfl
end K05
open PySem PySem.W PyProof.Rows in
set_option maxRecDepth 100000 in
set_option maxHeartbeats 0 in
theorem PySem.Challenge.cw_everyonegetsthere_k05_whole_turns_called_holds : PySem.Challenge.rw_everyonegetsthere_k05_whole_turns_called.Holds := by
  w_on; o_law; k_head; (case hw => w_witness2)
  k_fill
  refine Dn.walkG (l := PySem.Challenge.rw_everyonegetsthere_k05_whole_turns_called) (k := 10) (x := "script") (sp := fun K => Dn.spD K 1 K05.W_law) rfl (by decide) rfl ⟨rfl, by decide, by decide⟩ (fun w h Y => PySem.W.kIn_of Y) ?F ?want
  case want => exact fun K H a ns hl only sq => K05.want hl only sq
  case F =>
    intro w mg fa h KX G hmg
    refine' K05.all_mk KX G hmg ?a ?l ?c ?k ?z_isinstance ?z_int ?z_bool ?z_tuple ?z_all ?z_len ?z_set ?z_range ?z_enumerate ?z_list ?z_dict ?z_sum ?z_abs ?z_min ?z_max ?z_sorted ?z_repr ?z_any ?n_MOST_PLACES ?n_MOST_TIMES ?h_is_integer ?h_is_between ?h_are_between ?h_is_tuple_of ?h_check_many ?h_is_turn_of ?h_is_turn ?h_check_turn ?h_check_both_turns ?h_still_of ?h_still ?h_then ?h_behind ?h_back_of ?h_back ?h_times ?h_turned_by ?h_rounds_in ?h_rounds_of ?h_turn_by_rounds ?h_are_rounds ?h_turn_of_rounds ?h_common ?h_order_in ?h_order_of ?h_is_even_of ?h_is_even ?h_row_moved ?h_moved ?h__law_pot ?h__law_take ?h__law_of ?h__law_some ?h__law_cells ?h__law_turn ?h__law_led ?h__law_common ?h__law_are_orders_right ?h__law_right
    (case a => k_is)
    (case l => k_is)
    (case c => k_is)
    (case k => k_is)
    (case z_isinstance => k_is)
    (case z_int => k_is)
    (case z_bool => k_is)
    (case z_tuple => k_is)
    (case z_all => k_is)
    (case z_len => k_is)
    (case z_set => k_is)
    (case z_range => k_is)
    (case z_enumerate => k_is)
    (case z_list => k_is)
    (case z_dict => k_is)
    (case z_sum => k_is)
    (case z_abs => k_is)
    (case z_min => k_is)
    (case z_max => k_is)
    (case z_sorted => k_is)
    (case z_repr => k_is)
    (case z_any => k_is)
    (case n_MOST_PLACES => k_is)
    (case n_MOST_TIMES => k_is)
    (case h_is_integer => refine' K05.has_mk ?a_h_is_integer ?l_h_is_integer ?c_h_is_integer ?k_h_is_integer; (case a_h_is_integer => k_is); (case l_h_is_integer => k_is); (case c_h_is_integer => k_is); (case k_h_is_integer => k_is))
    (case h_is_between => refine' K05.has_mk ?a_h_is_between ?l_h_is_between ?c_h_is_between ?k_h_is_between; (case a_h_is_between => k_is); (case l_h_is_between => k_is); (case c_h_is_between => k_is); (case k_h_is_between => k_is))
    (case h_are_between => refine' K05.has_mk ?a_h_are_between ?l_h_are_between ?c_h_are_between ?k_h_are_between; (case a_h_are_between => k_is); (case l_h_are_between => k_is); (case c_h_are_between => k_is); (case k_h_are_between => k_is))
    (case h_is_tuple_of => refine' K05.has_mk ?a_h_is_tuple_of ?l_h_is_tuple_of ?c_h_is_tuple_of ?k_h_is_tuple_of; (case a_h_is_tuple_of => k_is); (case l_h_is_tuple_of => k_is); (case c_h_is_tuple_of => k_is); (case k_h_is_tuple_of => k_is))
    (case h_check_many => refine' K05.has_mk ?a_h_check_many ?l_h_check_many ?c_h_check_many ?k_h_check_many; (case a_h_check_many => k_is); (case l_h_check_many => k_is); (case c_h_check_many => k_is); (case k_h_check_many => k_is))
    (case h_is_turn_of => refine' K05.has_mk ?a_h_is_turn_of ?l_h_is_turn_of ?c_h_is_turn_of ?k_h_is_turn_of; (case a_h_is_turn_of => k_is); (case l_h_is_turn_of => k_is); (case c_h_is_turn_of => k_is); (case k_h_is_turn_of => k_is))
    (case h_is_turn => refine' K05.has_mk ?a_h_is_turn ?l_h_is_turn ?c_h_is_turn ?k_h_is_turn; (case a_h_is_turn => k_is); (case l_h_is_turn => k_is); (case c_h_is_turn => k_is); (case k_h_is_turn => k_is))
    (case h_check_turn => refine' K05.has_mk ?a_h_check_turn ?l_h_check_turn ?c_h_check_turn ?k_h_check_turn; (case a_h_check_turn => k_is); (case l_h_check_turn => k_is); (case c_h_check_turn => k_is); (case k_h_check_turn => k_is))
    (case h_check_both_turns => refine' K05.has_mk ?a_h_check_both_turns ?l_h_check_both_turns ?c_h_check_both_turns ?k_h_check_both_turns; (case a_h_check_both_turns => k_is); (case l_h_check_both_turns => k_is); (case c_h_check_both_turns => k_is); (case k_h_check_both_turns => k_is))
    (case h_still_of => refine' K05.has_mk ?a_h_still_of ?l_h_still_of ?c_h_still_of ?k_h_still_of; (case a_h_still_of => k_is); (case l_h_still_of => k_is); (case c_h_still_of => k_is); (case k_h_still_of => k_is))
    (case h_still => refine' K05.has_mk ?a_h_still ?l_h_still ?c_h_still ?k_h_still; (case a_h_still => k_is); (case l_h_still => k_is); (case c_h_still => k_is); (case k_h_still => k_is))
    (case h_then => refine' K05.has_mk ?a_h_then ?l_h_then ?c_h_then ?k_h_then; (case a_h_then => k_is); (case l_h_then => k_is); (case c_h_then => k_is); (case k_h_then => k_is))
    (case h_behind => refine' K05.has_mk ?a_h_behind ?l_h_behind ?c_h_behind ?k_h_behind; (case a_h_behind => k_is); (case l_h_behind => k_is); (case c_h_behind => k_is); (case k_h_behind => k_is))
    (case h_back_of => refine' K05.has_mk ?a_h_back_of ?l_h_back_of ?c_h_back_of ?k_h_back_of; (case a_h_back_of => k_is); (case l_h_back_of => k_is); (case c_h_back_of => k_is); (case k_h_back_of => k_is))
    (case h_back => refine' K05.has_mk ?a_h_back ?l_h_back ?c_h_back ?k_h_back; (case a_h_back => k_is); (case l_h_back => k_is); (case c_h_back => k_is); (case k_h_back => k_is))
    (case h_times => refine' K05.has_mk ?a_h_times ?l_h_times ?c_h_times ?k_h_times; (case a_h_times => k_is); (case l_h_times => k_is); (case c_h_times => k_is); (case k_h_times => k_is))
    (case h_turned_by => refine' K05.has_mk ?a_h_turned_by ?l_h_turned_by ?c_h_turned_by ?k_h_turned_by; (case a_h_turned_by => k_is); (case l_h_turned_by => k_is); (case c_h_turned_by => k_is); (case k_h_turned_by => k_is))
    (case h_rounds_in => refine' K05.has_mk ?a_h_rounds_in ?l_h_rounds_in ?c_h_rounds_in ?k_h_rounds_in; (case a_h_rounds_in => k_is); (case l_h_rounds_in => k_is); (case c_h_rounds_in => k_is); (case k_h_rounds_in => k_is))
    (case h_rounds_of => refine' K05.has_mk ?a_h_rounds_of ?l_h_rounds_of ?c_h_rounds_of ?k_h_rounds_of; (case a_h_rounds_of => k_is); (case l_h_rounds_of => k_is); (case c_h_rounds_of => k_is); (case k_h_rounds_of => k_is))
    (case h_turn_by_rounds => refine' K05.has_mk ?a_h_turn_by_rounds ?l_h_turn_by_rounds ?c_h_turn_by_rounds ?k_h_turn_by_rounds; (case a_h_turn_by_rounds => k_is); (case l_h_turn_by_rounds => k_is); (case c_h_turn_by_rounds => k_is); (case k_h_turn_by_rounds => k_is))
    (case h_are_rounds => refine' K05.has_mk ?a_h_are_rounds ?l_h_are_rounds ?c_h_are_rounds ?k_h_are_rounds; (case a_h_are_rounds => k_is); (case l_h_are_rounds => k_is); (case c_h_are_rounds => k_is); (case k_h_are_rounds => k_is))
    (case h_turn_of_rounds => refine' K05.has_mk ?a_h_turn_of_rounds ?l_h_turn_of_rounds ?c_h_turn_of_rounds ?k_h_turn_of_rounds; (case a_h_turn_of_rounds => k_is); (case l_h_turn_of_rounds => k_is); (case c_h_turn_of_rounds => k_is); (case k_h_turn_of_rounds => k_is))
    (case h_common => refine' K05.has_mk ?a_h_common ?l_h_common ?c_h_common ?k_h_common; (case a_h_common => k_is); (case l_h_common => k_is); (case c_h_common => k_is); (case k_h_common => k_is))
    (case h_order_in => refine' K05.has_mk ?a_h_order_in ?l_h_order_in ?c_h_order_in ?k_h_order_in; (case a_h_order_in => k_is); (case l_h_order_in => k_is); (case c_h_order_in => k_is); (case k_h_order_in => k_is))
    (case h_order_of => refine' K05.has_mk ?a_h_order_of ?l_h_order_of ?c_h_order_of ?k_h_order_of; (case a_h_order_of => k_is); (case l_h_order_of => k_is); (case c_h_order_of => k_is); (case k_h_order_of => k_is))
    (case h_is_even_of => refine' K05.has_mk ?a_h_is_even_of ?l_h_is_even_of ?c_h_is_even_of ?k_h_is_even_of; (case a_h_is_even_of => k_is); (case l_h_is_even_of => k_is); (case c_h_is_even_of => k_is); (case k_h_is_even_of => k_is))
    (case h_is_even => refine' K05.has_mk ?a_h_is_even ?l_h_is_even ?c_h_is_even ?k_h_is_even; (case a_h_is_even => k_is); (case l_h_is_even => k_is); (case c_h_is_even => k_is); (case k_h_is_even => k_is))
    (case h_row_moved => refine' K05.has_mk ?a_h_row_moved ?l_h_row_moved ?c_h_row_moved ?k_h_row_moved; (case a_h_row_moved => k_is); (case l_h_row_moved => k_is); (case c_h_row_moved => k_is); (case k_h_row_moved => k_is))
    (case h_moved => refine' K05.has_mk ?a_h_moved ?l_h_moved ?c_h_moved ?k_h_moved; (case a_h_moved => k_is); (case l_h_moved => k_is); (case c_h_moved => k_is); (case k_h_moved => k_is))
    (case h__law_pot => refine' K05.has_mk ?a_h__law_pot ?l_h__law_pot ?c_h__law_pot ?k_h__law_pot; (case a_h__law_pot => k_is); (case l_h__law_pot => k_is); (case c_h__law_pot => k_is); (case k_h__law_pot => k_is))
    (case h__law_take => refine' K05.has_mk ?a_h__law_take ?l_h__law_take ?c_h__law_take ?k_h__law_take; (case a_h__law_take => k_is); (case l_h__law_take => k_is); (case c_h__law_take => k_is); (case k_h__law_take => k_is))
    (case h__law_of => refine' K05.has_mk ?a_h__law_of ?l_h__law_of ?c_h__law_of ?k_h__law_of; (case a_h__law_of => k_is); (case l_h__law_of => k_is); (case c_h__law_of => k_is); (case k_h__law_of => k_is))
    (case h__law_some => refine' K05.has_mk ?a_h__law_some ?l_h__law_some ?c_h__law_some ?k_h__law_some; (case a_h__law_some => k_is); (case l_h__law_some => k_is); (case c_h__law_some => k_is); (case k_h__law_some => k_is))
    (case h__law_cells => refine' K05.has_mk ?a_h__law_cells ?l_h__law_cells ?c_h__law_cells ?k_h__law_cells; (case a_h__law_cells => k_is); (case l_h__law_cells => k_is); (case c_h__law_cells => k_is); (case k_h__law_cells => k_is))
    (case h__law_turn => refine' K05.has_mk ?a_h__law_turn ?l_h__law_turn ?c_h__law_turn ?k_h__law_turn; (case a_h__law_turn => k_is); (case l_h__law_turn => k_is); (case c_h__law_turn => k_is); (case k_h__law_turn => k_is))
    (case h__law_led => refine' K05.has_mk ?a_h__law_led ?l_h__law_led ?c_h__law_led ?k_h__law_led; (case a_h__law_led => k_is); (case l_h__law_led => k_is); (case c_h__law_led => k_is); (case k_h__law_led => k_is))
    (case h__law_common => refine' K05.has_mk ?a_h__law_common ?l_h__law_common ?c_h__law_common ?k_h__law_common; (case a_h__law_common => k_is); (case l_h__law_common => k_is); (case c_h__law_common => k_is); (case k_h__law_common => k_is))
    (case h__law_are_orders_right => refine' K05.has_mk ?a_h__law_are_orders_right ?l_h__law_are_orders_right ?c_h__law_are_orders_right ?k_h__law_are_orders_right; (case a_h__law_are_orders_right => k_is); (case l_h__law_are_orders_right => k_is); (case c_h__law_are_orders_right => k_is); (case k_h__law_are_orders_right => k_is))
    (case h__law_right => refine' K05.has_mk ?a_h__law_right ?l_h__law_right ?c_h__law_right ?k_h__law_right; (case a_h__law_right => k_is); (case l_h__law_right => k_is); (case c_h__law_right => k_is); (case k_h__law_right => k_is))
#print axioms PySem.Challenge.cw_everyonegetsthere_k05_whole_turns_called_holds
