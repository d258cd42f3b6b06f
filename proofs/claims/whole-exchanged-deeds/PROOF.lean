import PyProof.Rows.All
import Wide.All
import OpenK.AllK
import Wide.FinOn
import HandS.ForMost
import HandS.Zip
import HandS.TupAny
import HandS.TupMul
import HandS.Deep
import HandS.IsInst
import HandS.More
import HandS.Walk
import HandS.Conv
import PySem.Challenge.RW_trialcopies_k62_whole_exchanged_deeds
import PyProof.MeetsSeq2
import PyProof.DictUpdate
import HandS.ForExc
import HandS.WordsExc
import KE.KSuper
import KE.KExcSuper
import HandS.ExcSuper
import HandS.ExcInit
import PyProof.Rows.MatchSeqLen -- for pm_len
import PyProof.RulesMatchSeq
import PyProof.Rows.TupIter
import HandS.DictComp
import HandS.DictTup
import PyProof.DictFindH
import HandS.Iter
import KE.KDictCopyH
import KE.KDictSum
import HandS.Sort
import PyProof.P3In
import HandS.ExcField
import HandS.ExcIs
import PyProof.SeqIndex
import PyProof.EnumMake
import KE.GoesMore
import KE.SortData
import HandS.Dict
import HandS.Small
import PyProof.Rows.NestShow
import HandS.HeadEnd
import HandS.DictEq
import HandS.OwnEq
import HandS.HeadHook2
import KE.KStateDown
import Lean
import HandS.Head0
import HandS.Head1
import HandS.Head2
set_option Elab.async false
set_option linter.all false
set_option maxRecDepth 100000
set_option maxHeartbeats 2500000
/-! A layer over HandS: expressions and statements by the data (PyData) that the slots hold. -/
namespace TC
open PySem L2

/-! ### data under growing heaps -/
theorem seqT_mono {K : PySem.W.Frag} {H H' : Hp} (e : Same H H') {a : Addr} {xs : List V} (h : SqT K H a xs) : SqT K H' a xs := by
  obtain (h | ⟨o, h⟩) | h := h
  · exact .inl (.inl (e _ _ h))
  · refine .inl (.inr ⟨o, e _ _ h⟩)
  · exact .inr h
mutual
theorem dp_mono {K : PySem.W.Frag} {H H' : Hp} (e : Same H H') : ∀ (d : PyData) (v : V), Dp K H v d → Dp K H' v d
  | .none, _, h => by cases h; exact .non
  | .bool b, _, h => by cases h; exact .bl b
  | .int i, _, h => by cases h; exact .int i
  | .str x, _, h => by cases h; exact .str x
  | .list ds, _, h => by
    cases h with
    | lst hs ha => exact .lst (e.seq hs) (dpAll_mono e ds _ ha)
  | .tuple ds, _, h => by
    cases h with
    | tup hs ha => exact .tup (seqT_mono e hs) (dpAll_mono e ds _ ha)
  | .dict _, _, h => by cases h
theorem dpAll_mono {K : PySem.W.Frag} {H H' : Hp} (e : Same H H') : ∀ (ds : List PyData) (vs : List V), DpAll K H vs ds → DpAll K H' vs ds
  | [], _, h => by cases h; exact .nil
  | d :: ds, _, h => by
    cases h with
    | cons h1 h2 => exact .cons (dp_mono e d _ h1) (dpAll_mono e ds _ h2)
end
mutual
def pureD : PyData → Bool
  | .list _ => false
  | .dict _ => false
  | .tuple ds => pureAll ds
  | _ => true
def pureAll : List PyData → Bool
  | [] => true
  | d :: ds => pureD d && pureAll ds
end
/-- the tuples stand -/
def KeepT (K : PySem.W.Frag) (H H' : Hp) : Prop := ∀ a xs, SqT K H a xs → SqT K H' a xs
theorem KeepT.refl {K : PySem.W.Frag} (H : Hp) : KeepT K H H := fun _ _ h => h
theorem KeepT.of {K : PySem.W.Frag} {H H' : Hp} (e : Same H H') : KeepT K H H' := fun _ _ h => seqT_mono e h
theorem KeepT.trans {K : PySem.W.Frag} {H H1 H2 : Hp} (a : KeepT K H H1) (b : KeepT K H1 H2) : KeepT K H H2 := fun x xs h => b x xs (a x xs h)
theorem KeepT.upd {K : PySem.W.Frag} {H : Hp} {p : Addr} {l : List V} {o : HO} (h : H p = some (.lst l)) : KeepT K H (upd H p o) := fun a xs q => by
  have key : ∀ u, H a = some u → u ≠ .lst l → a ≠ p := fun u e ne z => by
    rw [z, h] at e
    exact ne (Option.some.inj e).symm
  rcases q with (q | ⟨ob, q⟩) | q
  · exact .inl (.inl (by rw [upd_ne (key _ q (fun z => nomatch z))]; exact q))
  · exact .inl (.inr ⟨ob, by rw [upd_ne (key _ q (fun z => nomatch z))]; exact q⟩)
  · exact .inr q
mutual
theorem dp_keep {K : PySem.W.Frag} {H H' : Hp} (k : KeepT K H H') : ∀ (d : PyData) (v : V), pureD d = true → Dp K H v d → Dp K H' v d
  | .none, _, _, h => by cases h; exact .non
  | .bool b, _, _, h => by cases h; exact .bl b
  | .int i, _, _, h => by cases h; exact .int i
  | .str x, _, _, h => by cases h; exact .str x
  | .list ds, _, p, h => by cases p
  | .tuple ds, _, p, h => by
    cases h with
    | tup hs ha => exact .tup (k _ _ hs) (dpAll_keep k ds _ p ha)
  | .dict _, _, p, h => by cases h
theorem dpAll_keep {K : PySem.W.Frag} {H H' : Hp} (k : KeepT K H H') : ∀ (ds : List PyData) (vs : List V), pureAll ds = true → DpAll K H vs ds → DpAll K H' vs ds
  | [], _, _, h => by cases h; exact .nil
  | d :: ds, _, p, h => by
    have p' : (pureD d && pureAll ds) = true := p
    rw [Bool.and_eq_true] at p'
    cases h with
    | cons h1 h2 => exact .cons (dp_keep k d _ p'.1 h1) (dpAll_keep k ds _ p'.2 h2)
end
theorem dpa_length {K : PySem.W.Frag} {H : Hp} : ∀ {vs : List V} {ds : List PyData}, DpAll K H vs ds → vs.length = ds.length
  | _, _, .nil => rfl
  | _, _, .cons _ t => by rw [List.length_cons, List.length_cons, dpa_length t]
theorem dpa_get {K : PySem.W.Frag} {H : Hp} : ∀ {vs : List V} {ds : List PyData} {i : Nat} {d : PyData}, DpAll K H vs ds → ds[i]? = some d → ∃ v, vs[i]? = some v ∧ Dp K H v d
  | _, _, _, _, .nil, e =>
    by simp at e
  | _, _, 0, _, .cons h _, e => by
    simp at e
    subst e
    exact ⟨_, rfl, h⟩
  | _, _, i + 1, d, .cons _ t, e => by
    obtain ⟨v, h1, h2⟩ := dpa_get (i := i) (d := d) t (by simpa using e)
    exact ⟨v, by simpa using h1, h2⟩
theorem dpa_getV {K : PySem.W.Frag} {H : Hp} {vs : List V} {ds : List PyData} {i : Nat} {v : V} (h : DpAll K H vs ds) (e : vs[i]? = some v) : ∃ d, ds[i]? = some d ∧ Dp K H v d := by
  have hi : i < ds.length := by
    have := (List.getElem?_eq_some_iff.mp e).1
    rw [← dpa_length h]
    exact this
  obtain ⟨v', e', q⟩ := dpa_get h (List.getElem?_eq_getElem hi)
  rw [e] at e'
  cases e'
  exact ⟨_, List.getElem?_eq_getElem hi, q⟩
theorem dpa_append {K : PySem.W.Frag} {H : Hp} : ∀ {vs ws : List V} {ds es : List PyData}, DpAll K H vs ds → DpAll K H ws es → DpAll K H (vs ++ ws) (ds ++ es)
  | _, _, _, _, .nil, s => s
  | _, _, _, _, .cons h t, s => .cons h (dpa_append t s)
theorem dpa_take {K : PySem.W.Frag} {H : Hp} : ∀ {vs : List V} {ds : List PyData} (n : Nat), DpAll K H vs ds → DpAll K H (vs.take n) (ds.take n)
  | _, _, 0, _ => by rw [List.take_zero, List.take_zero]; exact .nil
  | _, _, _ + 1, .nil => by rw [List.take_nil, List.take_nil]; exact .nil
  | _, _, n + 1, .cons h t => by rw [List.take_succ_cons, List.take_succ_cons]; exact .cons h (dpa_take n t)
theorem dpa_drop {K : PySem.W.Frag} {H : Hp} : ∀ {vs : List V} {ds : List PyData} (n : Nat), DpAll K H vs ds → DpAll K H (vs.drop n) (ds.drop n)
  | _, _, 0, h => h
  | _, _, _ + 1, .nil => by rw [List.drop_nil, List.drop_nil]; exact .nil
  | _, _, n + 1, .cons _ t => by rw [List.drop_succ_cons, List.drop_succ_cons]; exact dpa_drop n t
theorem dpa_set {K : PySem.W.Frag} {H : Hp} {v : V} {d : PyData} (r : Dp K H v d) : ∀ {vs : List V} {ds : List PyData} (i : Nat), DpAll K H vs ds → DpAll K H (vs.set i v) (ds.set i d)
  | _, _, _, .nil => .nil
  | _, _, 0, .cons _ t =>
    .cons r t
  | _, _, i + 1, .cons q t => .cons q (dpa_set r i t)
theorem dpa_atI {K : PySem.W.Frag} {H : Hp} {vs : List V} {ds : List PyData} {i : Int} {d : PyData} (h : DpAll K H vs ds) (e : L2.atI ds i = some d) : ∃ v, L2.atI vs i = some v ∧ Dp K H v d := by
  unfold L2.atI at e ⊢
  rw [dpa_length h]
  cases q : ixN ds.length i with
  | none =>
    rw [q] at e; cases e
  | some j =>
    rw [q] at e
    obtain ⟨v, h1, h2⟩ := dpa_get h (show ds[j]? = some d from e)
    exact ⟨v, h1, h2⟩
theorem dpAll_ints {K : PySem.W.Frag} {H : Hp} : ∀ (ns : List Int), DpAll K H (ns.map V.int) (ns.map PyData.int)
  | [] => .nil
  | n :: ns => .cons (.int n) (dpAll_ints ns)
theorem dpAll_ints_of {K : PySem.W.Frag} {H : Hp} : ∀ {ns : List Int} {vs : List V}, DpAll K H vs (ns.map PyData.int) → vs = ns.map V.int
  | [], _, h => by cases h; rfl
  | n :: ns, _, h => by
    cases h with
    | cons h1 h2 =>
      cases h1
      rw [dpAll_ints_of h2]
      rfl
theorem dpAll_bools_of {K : PySem.W.Frag} {H : Hp} : ∀ {ns : List Bool} {vs : List V}, DpAll K H vs (ns.map PyData.bool) → vs = ns.map V.bl
  | [], _, h => by cases h; rfl
  | n :: ns, _, h => by
    cases h with
    | cons h1 h2 =>
      cases h1
      rw [dpAll_bools_of h2]
      rfl
theorem pureAll_of : ∀ {ds : List PyData}, (∀ d ∈ ds, pureD d = true) → pureAll ds = true
  | [], _ => rfl
  | d :: ds, h => by
    show (pureD d && pureAll ds) = true
    rw [Bool.and_eq_true]
    exact ⟨h d List.mem_cons_self, pureAll_of fun e he => h e (List.mem_cons_of_mem _ he)⟩
theorem pureAll_mem : ∀ {ds : List PyData}, pureAll ds = true → ∀ d ∈ ds, pureD d = true
  | d :: ds, h, e, he => by
    have h' : (pureD d && pureAll ds) = true := h
    rw [Bool.and_eq_true] at h'
    rcases List.mem_cons.mp he with q | q
    · rw [q]; exact h'.1
    · exact pureAll_mem h'.2 e q
theorem pureAll_append {ds es : List PyData} (h : pureAll ds = true) (k : pureAll es = true) : pureAll (ds ++ es) = true :=
  pureAll_of fun d hd => (List.mem_append.mp hd).elim (pureAll_mem h d) (pureAll_mem k d)
theorem pureAll_map {α : Type} {f : α → PyData} (h : ∀ x, pureD (f x) = true) (xs : List α) : pureAll (xs.map f) = true := pureAll_of fun d hd => by
  obtain ⟨x, _, rfl⟩ := List.mem_map.mp hd
  exact h x
theorem pureAll_set {ds : List PyData} {i : Nat} {d : PyData} (h : pureAll ds = true) (k : pureD d = true) : pureAll (ds.set i d) = true :=
  pureAll_of fun e he => by
    rcases List.mem_or_eq_of_mem_set he with q | q
    · exact pureAll_mem h e q
    · rw [q]; exact k
theorem pure_ints (ns : List Int) : pureAll (ns.map PyData.int) = true := pureAll_map (fun _ => rfl) ns

/-! ### bases -/
/-- all objects stay but those of l, which stay in being -/
def Off (l : List Addr) (H H' : Hp) : Prop := ∀ a o, H a = some o → (a ∉ l → H' a = some o) ∧ H' a ≠ none
theorem Off.of_same {l : List Addr} {H H' : Hp} (s : Same H H') : Off l H H' := fun a o h => ⟨fun _ => s a o h, fun z => by rw [s a o h] at z; cases z⟩
theorem Off.same {H H' : Hp} (f : Off [] H H') : Same H H' := fun a o h => (f a o h).1 (fun z => nomatch z)
theorem Off.refl {l : List Addr} (H : Hp) : Off l H H := Off.of_same (Same.refl H)
theorem Off.trans {l : List Addr} {H H1 H2 : Hp} (f : Off l H H1) (g : Off l H1 H2) : Off l H H2 := fun a o h => by
  cases e : H1 a with
  | none => exact absurd e (f a o h).2
  | some o1 =>
    refine ⟨fun na => ?_, (g a o1 e).2⟩
    have e1 := (f a o h).1 na
    exact (g a o e1).1 na
theorem Off.then {l : List Addr} {H H1 H2 : Hp} (f : Off l H H1) (s : Same H1 H2) : Off l H H2 := f.trans (.of_same s)
theorem Off.free {l : List Addr} {H H' : Hp} {p : Addr} (f : Off l H H') (n : H' p = none) : H p = none := by
  cases e : H p with
  | none => rfl
  | some o => exact absurd n (f p o e).2
theorem Off.more {l l' : List Addr} {H H' : Hp} (f : Off l H H') (i : ∀ a ∈ l, a ∈ l') : Off l' H H' := fun a o h => ⟨fun na => (f a o h).1 (fun z => na (i a z)), (f a o h).2⟩
/-- where a def starts: its heap, what it may change, how it may raise -/
structure Bs where
  h : Hp
  l : List Addr
  E : XK
  DF : Addr
abbrev Bs.pu (H : Hp) : Bs := ⟨H, [], fun _ _ _ => False, default⟩
/-! ### what the slots hold -/
/-- c: data; b: data that stood before the own object was made; o: an own list of pure data; w: an own instance with pure data; x: a value that the base tells of; n: anything -/
inductive SV where
  | c (d : PyData)
  | b (d : PyData)
  | o (ds : List PyData)
  | w (C : Addr) (fs : List (Str × PyData))
  | x (F : Hp → V → Prop)
  | n
/-- attributes that hold data -/
def FldsD (K : PySem.W.Frag) (H : Hp) : List (Str × V) → List (Str × PyData) → Prop
  | [], [] => True
  | (x, v) :: vs, (y, d) :: fs => x = y ∧ Dp K H v d ∧ pureD d = true ∧ FldsD K H vs fs
  | _, _ => False
theorem FldsD.keep {K : PySem.W.Frag} {H H' : Hp} (k : KeepT K H H') : ∀ {vs : List (Str × V)} {fs : List (Str × PyData)}, FldsD K H vs fs → FldsD K H' vs fs
  | [], [], _ => trivial
  | (x, v) :: vs, (y, d) :: fs, h => ⟨h.1, dp_keep k d v h.2.2.1 h.2.1, h.2.2.1, FldsD.keep k h.2.2.2⟩
  | [], _ :: _, h => h.elim
  | _ :: _, [], h => h.elim
abbrev G := List SV
def SlotOk (K : PySem.W.Frag) (H0 H : Hp) (ov : Option V) : SV → Prop
  | .c d => ∃ v, ov = some v ∧ Dp K H v d
  | .b d => ∃ v, ov = some v ∧ Dp K H0 v d
  | .o ds => ∃ p vs, ov = some (.ref p) ∧ H0 p = none ∧ H p = some (.lst vs) ∧ DpAll K H vs ds ∧ pureAll ds = true
  | .w C fs => ∃ p dx vs, ov = some (.ref p) ∧ H0 p = none ∧ H p = some (.ins C dx vs) ∧ FldsD K H vs fs
  | .x F => ∃ v, ov = some v ∧ ∀ H1, Same H0 H1 → F H1 v
  | .n => True
structure EnvOk (K : PySem.W.Frag) (Hb : Bs) (H0 H : Hp) (σ : St) (Γ : G) : Prop where
  sb : Off Hb.l Hb.h H0
  s0 : Same H0 H
  ln : σ.length = Γ.length
  sl : ∀ (i : Nat) (g : SV), Γ[i]? = some g → ∃ ov, σ[i]? = some ov ∧ SlotOk K H0 H ov g
theorem EnvOk.mono {K : PySem.W.Frag} {Hb : Bs} {H0 H H' : Hp} {σ : St} {Γ : G} (e : EnvOk K Hb H0 H σ Γ) (s : Same H H') : EnvOk K Hb H0 H' σ Γ :=
  ⟨e.sb, e.s0.trans s, e.ln, fun i g h => by
    obtain ⟨ov, h1, h2⟩ := e.sl i g h
    refine ⟨ov, h1, ?_⟩
    cases g with
    | c d => obtain ⟨v, q1, q2⟩ := h2; exact ⟨v, q1, dp_mono s d v q2⟩
    | b d => exact h2
    | o ds => obtain ⟨p, vs, q1, q2, q3, q4, q5⟩ := h2; exact ⟨p, vs, q1, q2, s _ _ q3, dpAll_mono s ds vs q4, q5⟩
    | w C fs => obtain ⟨p, dx, vs, q1, q2, q3, q4⟩ := h2; exact ⟨p, dx, vs, q1, q2, s _ _ q3, q4.keep (KeepT.of s)⟩
    | x F => exact h2
    | n => trivial⟩
theorem getElem?_set_cases {α : Type} {l : List α} {i j : Nat} {x y : α} (h : (l.set i x)[j]? = some y) : (j = i ∧ y = x) ∨ (j ≠ i ∧ l[j]? = some y) := by
  by_cases e : j = i
  · subst e
    left
    refine ⟨rfl, ?_⟩
    have hl : j < l.length := by
      have := (List.getElem?_eq_some_iff.mp h).1
      rw [List.length_set] at this
      exact this
    rw [List.getElem?_set_self hl] at h
    exact (Option.some.inj h).symm
  · right
    rw [List.getElem?_set_ne (Ne.symm e)] at h
    exact ⟨e, h⟩
/-- a slot stored -/
theorem EnvOk.store {K : PySem.W.Frag} {Hb : Bs} {H0 H : Hp} {σ : St} {Γ : G} {i : Nat} {v : V} {g : SV} (e : EnvOk K Hb H0 H σ Γ) (h : SlotOk K H0 H (some v) g) : EnvOk K Hb H0 H (σ.set i (some v)) (Γ.set i g) :=
  ⟨e.sb, e.s0, by rw [List.length_set, List.length_set]; exact e.ln, fun j g' hj => by
    rcases getElem?_set_cases hj with ⟨rfl, rfl⟩ | ⟨ne, hj⟩
    · have hl : j < Γ.length := by
        have := (List.getElem?_eq_some_iff.mp hj).1
        rw [List.length_set] at this
        exact this
      exact ⟨some v, by rw [List.getElem?_set_self (by rw [e.ln]; exact hl)], h⟩
    · obtain ⟨ov, h1, h2⟩ := e.sl j g' hj
      exact ⟨ov, by rw [List.getElem?_set_ne (Ne.symm ne)]; exact h1, h2⟩⟩
/-- data of a slot -/
def look (Γ : G) (i : Nat) : Option PyData := match Γ[i]? with
  | some (.c d) => some d
  | some (.b d) => some d
  | some (.o ds) => some (.list ds)
  | _ => none
theorem EnvOk.look {K : PySem.W.Frag} {Hb : Bs} {H0 H : Hp} {σ : St} {Γ : G} {i : Nat} {d : PyData} (e : EnvOk K Hb H0 H σ Γ) (h : TC.look Γ i = some d) : ∃ v, σ[i]? = some (some v) ∧ Dp K H v d := by
  unfold TC.look at h
  cases q : Γ[i]? with
  | none => rw [q] at h; cases h
  | some g =>
    rw [q] at h
    obtain ⟨ov, h1, h2⟩ := e.sl i g q
    cases g with
    | c d' =>
      cases h
      obtain ⟨v, rfl, q2⟩ := h2
      exact ⟨v, h1, q2⟩
    | b d' =>
      cases h
      obtain ⟨v, rfl, q2⟩ := h2
      exact ⟨v, h1, dp_mono e.s0 _ v q2⟩
    | o ds =>
      cases h
      obtain ⟨p, vs, rfl, _, q3, q4, _⟩ := h2
      exact ⟨.ref p, h1, .lst (SqL.of q3) q4⟩
    | w C fs => cases h
    | x F => cases h
    | n => cases h
/-- no own lists: the base may be the present heap -/
def noOwn : G → Bool
  | [] => true
  | .o _ :: _ => false
  | .w _ _ :: _ => false
  | _ :: r => noOwn r
/-- ahead of an own list's making: all data stand in the base -/
def rebase : SV → SV
  | .c d => .b d
  | g => g
def SV.own : SV → Bool
  | .o _ => true
  | .w _ _ => true
  | _ => false
theorem noOwn_get : ∀ {Γ : G} {i : Nat} {g : SV}, noOwn Γ = true → Γ[i]? = some g → g.own = false
  | [], _, _, _, h =>
    by simp at h
  | .o _ :: _, _, _, h, _ => by cases h
  | .w _ _ :: _, _, _, h, _ => by cases h
  | .c _ :: r, 0, _, _, h => by simp at h; rw [← h]; rfl
  | .b _ :: r, 0, _, _, h => by simp at h; rw [← h]; rfl
  | .x _ :: r, 0, _, _, h => by simp at h; rw [← h]; rfl
  | .n :: r, 0, _, _, h => by simp at h; rw [← h]; rfl
  | .c _ :: r, i + 1, ds, n, h => noOwn_get (Γ := r) (i := i) n (by simpa using h)
  | .b _ :: r, i + 1, ds, n, h => noOwn_get (Γ := r) (i := i) n (by simpa using h)
  | .x _ :: r, i + 1, ds, n, h => noOwn_get (Γ := r) (i := i) n (by simpa using h)
  | .n :: r, i + 1, ds, n, h => noOwn_get (Γ := r) (i := i) n (by simpa using h)
theorem EnvOk.rebase {K : PySem.W.Frag} {Hb : Bs} {H0 H : Hp} {σ : St} {Γ : G} (e : EnvOk K Hb H0 H σ Γ) (n : noOwn Γ = true) : EnvOk K Hb H H σ (Γ.map TC.rebase) :=
  ⟨e.sb.then e.s0, Same.refl H, by rw [List.length_map]; exact e.ln, fun i g h => by
    rw [List.getElem?_map] at h
    cases q : Γ[i]? with
    | none => rw [q] at h; cases h
    | some g0 =>
      rw [q] at h
      obtain ⟨ov, h1, h2⟩ := e.sl i g0 q
      refine ⟨ov, h1, ?_⟩
      cases g0 with
      | c d => cases h; exact h2
      | b d => cases h; obtain ⟨v, q1, q2⟩ := h2; exact ⟨v, q1, dp_mono e.s0 d v q2⟩
      | o ds => exact Bool.noConfusion (noOwn_get n q)
      | w C fs => exact Bool.noConfusion (noOwn_get n q)
      | x F => cases h; obtain ⟨v, q1, q2⟩ := h2; exact ⟨v, q1, fun H1 s => q2 H1 (e.s0.trans s)⟩
      | n => cases h; trivial⟩
/-- behind a change of the own list: what is not sure is forgotten -/
def demote : SV → SV
  | .c d => if pureD d = true then .c d else .n
  | .b d => .b d
  | .x F => .x F
  | _ => .n
theorem EnvOk.change {K : PySem.W.Frag} {Hb : Bs} {H0 H : Hp} {σ : St} {Γ : G} {i : Nat} {p : Addr} {vs ws : List V} {ds es : List PyData} (e : EnvOk K Hb H0 H σ Γ) (hi : Γ[i]? = some (.o ds)) (hσ : σ[i]? = some (some (.ref p))) (h0 : H0 p = none) (hp : H p = some (.lst vs))
    (hw : DpAll K H ws es) (pe : pureAll es = true) : EnvOk K Hb H0 (upd H p (.lst ws)) σ ((Γ.map demote).set i (.o es)) := by
  have kt : KeepT K H (upd H p (.lst ws)) := KeepT.upd hp
  have s0 : Same H0 (upd H p (.lst ws)) := fun b o q => by
    rw [upd_ne (ne_of_none q h0)]
    exact e.s0 b o q
  refine ⟨e.sb, s0, by rw [List.length_set, List.length_map]; exact e.ln, fun j g hj => ?_⟩
  rcases getElem?_set_cases hj with ⟨rfl, rfl⟩ | ⟨ne, hj⟩
  · exact ⟨_, hσ, p, ws, rfl, h0, upd_same, dpAll_keep kt es ws pe hw, pe⟩
  · rw [List.getElem?_map] at hj
    cases q : Γ[j]? with
    | none => rw [q] at hj; cases hj
    | some g0 =>
      rw [q] at hj
      obtain ⟨ov, h1, h2⟩ := e.sl j g0 q
      refine ⟨ov, h1, ?_⟩
      cases g0 with
      | c d =>
        have hg : g = if pureD d = true then SV.c d else SV.n := (Option.some.inj hj).symm
        by_cases pd : pureD d = true
        · rw [if_pos pd] at hg
          subst hg
          obtain ⟨v, q1, q2⟩ := h2
          exact ⟨v, q1, dp_keep kt d v pd q2⟩
        · rw [if_neg pd] at hg
          subst hg
          trivial
      | b d => cases hj; exact h2
      | o ds' => cases hj; trivial
      | w C fs => cases hj; trivial
      | x F => cases hj; exact h2
      | n => cases hj; trivial
/-- the names of a comprehension forgotten -/
def wipeG (Γ : G) : List Nat → G
  | [] => Γ
  | v :: vs => (wipeG Γ vs).set v .n
theorem EnvOk.wipe {K : PySem.W.Frag} {Hb : Bs} {H0 H : Hp} {σ : St} {Γ : G} (e : EnvOk K Hb H0 H σ Γ) : ∀ vs : List Nat, EnvOk K Hb H0 H (L2.wipe σ vs) (wipeG Γ vs)
  | [] => e
  | v :: vs => by
    have ih := EnvOk.wipe e vs
    refine ⟨ih.sb, ih.s0, ?_, fun j g hj => ?_⟩
    · show ((L2.wipe σ vs).set v none).length = ((wipeG Γ vs).set v .n).length
      rw [List.length_set, List.length_set]; exact ih.ln
    · have hj : ((wipeG Γ vs).set v .n)[j]? = some g := hj
      show ∃ ov, ((L2.wipe σ vs).set v none)[j]? = some ov ∧ _
      rcases getElem?_set_cases hj with ⟨rfl, rfl⟩ | ⟨ne, hj⟩
      · have hl : j < (wipeG Γ vs).length := by
          have := (List.getElem?_eq_some_iff.mp hj).1
          rw [List.length_set] at this
          exact this
        exact ⟨none, by rw [List.getElem?_set_self (by rw [ih.ln]; exact hl)], trivial⟩
      · obtain ⟨ov, h1, h2⟩ := ih.sl j g hj
        exact ⟨ov, by rw [List.getElem?_set_ne (Ne.symm ne)]; exact h1, h2⟩
end TC
namespace TC
open PySem L2

/-! ### judgements over data -/
def tX (K : PySem.W.Frag) (Γ : G) (d : PyData) : TE := fun σ H Q => (∃ Hb H0, EnvOk K Hb H0 H σ Γ) ∧ ∀ v H', Same H H' → Dp K H' v d → Q v H'
/-- e gives the data d -/
abbrev XE (X : Cx) (e : Expr) (Γ : G) (d : PyData) : Prop := PE X e (tX X.K Γ d)
def tXF (K : PySem.W.Frag) (Γ : G) (ds : List PyData) : TE := fun σ H Q => (∃ Hb H0, EnvOk K Hb H0 H σ Γ) ∧ ∀ p vs H', H p = none → Same H H' → H' p = some (.lst vs) → DpAll K H' vs ds → Q (.ref p) H'
/-- e makes a new list of the data ds -/
abbrev XF (X : Cx) (e : Expr) (Γ : G) (ds : List PyData) : Prop := PE X e (tXF X.K Γ ds)
def tXT (K : PySem.W.Frag) (Γ : G) (b : Bool) : TT := fun σ H Q => (∃ Hb H0, EnvOk K Hb H0 H σ Γ) ∧ ∀ H', Same H H' → Q b H'
abbrev XT (X : Cx) (e : Expr) (Γ : G) (b : Bool) : Prop := PT X e (tXT X.K Γ b)
abbrev XW (X : Cx) (e : Expr) (Γ : G) (b : Bool) : Prop := PW X e (tXT X.K Γ b)
def tXA (K : PySem.W.Frag) (Γ : G) (ds : List PyData) : TA := fun σ H Q => (∃ Hb H0, EnvOk K Hb H0 H σ Γ) ∧ ∀ vs H', Same H H' → DpAll K H' vs ds → Q vs H'
abbrev XA (X : Cx) (es : List Expr) (Γ : G) (ds : List PyData) : Prop := PA X es (tXA X.K Γ ds)

/-! ### consequence -/
theorem pe_imp {X : Cx} {e : Expr} {t t' : TE} (h : PE X e t) (i : ∀ σ H Q, t' σ H Q → t σ H Q) : PE X e t' := ⟨fun pins s σ H Q I q => h.run pins s σ H Q I (i σ H Q q)⟩
theorem pt_imp {X : Cx} {e : Expr} {t t' : TT} (h : PT X e t) (i : ∀ σ H Q, t' σ H Q → t σ H Q) : PT X e t' := ⟨fun pins s σ H Q I q => h.run pins s σ H Q I (i σ H Q q)⟩
theorem pw_imp {X : Cx} {e : Expr} {t t' : TT} (h : PW X e t) (i : ∀ σ H Q, t' σ H Q → t σ H Q) : PW X e t' := ⟨fun wh pins s σ H Q I q => h.run wh pins s σ H Q I (i σ H Q q)⟩
theorem pa_imp {X : Cx} {es : List Expr} {t t' : TA} (h : PA X es t) (i : ∀ σ H Q, t' σ H Q → t σ H Q) : PA X es t' := ⟨fun pos pins s σ H Q I q => h.run pos pins s σ H Q I (i σ H Q q)⟩
theorem ps_imp {X : Cx} {st : Stmt} {t t' : TS} (h : PS X st t) (i : ∀ D σ H, t' D σ H → t D σ H) : PS X st t' := ⟨fun pins s σ H D I q => h.run pins s σ H D I (i D σ H q)⟩
theorem pss_imp {X : Cx} {st : List Stmt} {t t' : TS} (h : PSs X st t) (i : ∀ D σ H, t' D σ H → t D σ H) : PSs X st t' := ⟨fun pins s σ H D I q => h.run pins s σ H D I (i D σ H q)⟩
theorem pe_not_reached {X : Cx} {e : Expr} : PE X e (fun _ _ _ => False) := ⟨fun _ _ _ _ _ _ h => h.elim⟩
theorem pt_not_reached {X : Cx} {e : Expr} : PT X e (fun _ _ _ => False) := ⟨fun _ _ _ _ _ _ h => h.elim⟩
theorem pw_not_reached {X : Cx} {e : Expr} : PW X e (fun _ _ _ => False) := ⟨fun _ _ _ _ _ _ _ h => h.elim⟩

section
variable {X : Cx} {Γ : G} {a b c e : Expr} {es : List Expr} {pos : Pos} {d d1 d2 d3 : PyData} {ds : List PyData}

/-! ### names, constants -/
theorem xe_var (i : Nat) {x : Str} (h : look Γ i = some d) (hN : X.N[i]? = some x := by rfl) (hv : Vis X.env.scope x := by first | exact Or.inl rfl | exact Or.inr (Or.inl rfl) | exact Or.inr (Or.inr rfl)) (hd : (x == ("__debug__" : Str)) = false := by decide)
    (hcd : (x == ("__classdict__" : Str)) = false := by decide) : XE X (.Name x pos) Γ d :=
  pe_imp (pv i hN hv hd hcd) fun σ H Q ⟨⟨Hb, H0, E⟩, k⟩ => by
    obtain ⟨v, h1, h2⟩ := E.look h
    exact ⟨v, h1, k v H (Same.refl H) h2⟩
theorem xe_int {i : Int} {j : Nat} : XE X (.Constant (.int i) j pos) Γ (.int i) := pe_imp pe_int fun σ H Q ⟨_, k⟩ => k _ H (Same.refl H) (.int i)
theorem xe_str {i : Str} {j : Nat} : XE X (.Constant (.str i) j pos) Γ (.str i) := pe_imp pe_str fun σ H Q ⟨_, k⟩ => k _ H (Same.refl H) (.str i)
theorem xe_bl {i : Bool} {j : Nat} : XE X (.Constant (.bool i) j pos) Γ (.bool i) := pe_imp pe_bl fun σ H Q ⟨_, k⟩ => k _ H (Same.refl H) (.bl i)
theorem xe_non {j : Nat} : XE X (.Constant .none j pos) Γ .none := pe_imp pe_non fun σ H Q ⟨_, k⟩ => k _ H (Same.refl H) .non
/-- a module's int -/
theorem xe_gint {x : Str} {i : Int} (hm : ∃ t, X.mg x = some (.int i t)) (hg : Gl X x := by rfl) (hd : (x == ("__debug__" : Str)) = false := by decide) : XE X (.Name x pos) Γ (.int i) := by
  obtain ⟨t, hm⟩ := hm
  exact pe_imp (pe_glob (v := .int i) hg hm ⟨t, rfl⟩ hd) fun σ H Q ⟨_, k⟩ => k _ H (Same.refl H) (.int i)
theorem xe_eq (h : XE X e Γ d1) (q : d1 = d2) : XE X e Γ d2 := by
  rw [← q]
  exact h
theorem xt_eq {b1 b2 : Bool} (h : XT X e Γ b1) (q : b1 = b2) : XT X e Γ b2 := by
  rw [← q]
  exact h
theorem xf_eq {ds1 ds2 : List PyData} (h : XF X e Γ ds1) (q : ds1 = ds2) : XF X e Γ ds2 := by
  rw [← q]
  exact h

/-! ### operators by what they do to data -/
def RD (K : PySem.W.Frag) (r : R2) (a b d : PyData) : Prop := ∀ H x y (Q : VK), Dp K H x a → Dp K H y b → (∀ v H', Same H H' → Dp K H' v d → Q v H') → r x y H Q
def RDF (K : PySem.W.Frag) (r : R2) (a b : PyData) (ds : List PyData) : Prop := ∀ H x y (Q : VK), Dp K H x a → Dp K H y b → (∀ p vs H', H p = none → Same H H' → H' p = some (.lst vs) → DpAll K H' vs ds → Q (.ref p) H') → r x y H Q
theorem tX_two {K : PySem.W.Frag} {σ : St} {H : Hp} {r : R2} {Q : VK} (rd : RD K r d1 d2 d) (k : tX K Γ d σ H Q) : tOp r (tX K Γ d1) (tX K Γ d2) σ H Q := by
  obtain ⟨⟨Hb, H0, E⟩, k⟩ := k
  refine ⟨⟨Hb, H0, E⟩, fun v1 H1 s1 q1 => ⟨⟨Hb, H0, E.mono s1⟩, fun v2 H2 s2 q2 => ?_⟩⟩
  exact rd H2 v1 v2 Q (dp_mono s2 _ _ q1) q2 fun v H3 s3 q3 => k v H3 ((s1.trans s2).trans s3) q3
theorem xe_bin {op : Operator} {r : R2} (ho : OpR X (binaryOp op) r) (rd : RD X.K r d1 d2 d) (ha : XE X a Γ d1) (hb : XE X b Γ d2) : XE X (.BinOp a op b pos) Γ d :=
  pe_imp (pe_op ho ha hb) fun _ _ _ k => tX_two rd k
theorem xe_cmp {op : CmpOp} {r : R2} (ho : OpR X (compareOp op) r) (rd : RD X.K r d1 d2 d) (ha : XE X a Γ d1) (hb : XE X b Γ d2) (hm : behindInMarks op b = false) : XE X (.Compare a [op] [b] pos) Γ d :=
  pe_imp (pe_cmpR ho ha hb hm) fun _ _ _ k => tX_two rd k
theorem xt_cmp {op : CmpOp} {r : R2} {k : Bool} (ho : OpR X (compareOp op) r) (rd : RD X.K r d1 d2 (.bool k)) (ha : XE X a Γ d1) (hb : XE X b Γ d2) (hm : behindInMarks op b = false) : XT X (.Compare a [op] [b] pos) Γ k :=
  pt_imp (pt_cmpR ho ha hb hm) fun σ H Q ⟨E, q⟩ => tX_two (d := .bool k) rd ⟨E, fun v H' s h => by
    cases h
    exact ⟨k, rfl, q H' s⟩⟩
theorem xf_bin {op : Operator} {r : R2} (ho : OpR X (binaryOp op) r) (rd : RDF X.K r d1 d2 ds) (ha : XE X a Γ d1) (hb : XE X b Γ d2) : XF X (.BinOp a op b pos) Γ ds :=
  pe_imp (pe_op ho ha hb) fun σ H Q ⟨⟨Hb, H0, E⟩, k⟩ => ⟨⟨Hb, H0, E⟩, fun v1 H1 s1 q1 => ⟨⟨Hb, H0, E.mono s1⟩, fun v2 H2 s2 q2 =>
    rd H2 v1 v2 Q (dp_mono s2 _ _ q1) q2 fun p vs H3 n s3 e3 q3 => k p vs H3 ((s1.trans s2).free n) ((s1.trans s2).trans s3) e3 q3⟩⟩
theorem xe_of_f (h : XF X e Γ ds) : XE X e Γ (.list ds) := pe_imp h fun σ H Q ⟨E, k⟩ => ⟨E, fun p vs H' n s e' q => k (.ref p) H' s (.lst (SqL.of e') q)⟩
theorem rd_I0 {K : PySem.W.Frag} {g : Int → Int → V} {i j : Int} {d : PyData} (h : ∀ H, Dp K H (g i j) d) : RD K (rI0 g) (.int i) (.int j) d := fun H x y Q q1 q2 k => by
  cases q1
  cases q2
  exact ⟨i, j, rfl, rfl, k _ H (Same.refl H) (h H)⟩
theorem rd_I {K : PySem.W.Frag} {C : Int → Int → Prop} {g : Int → Int → V} {i j : Int} {d : PyData} (hc : C i j) (h : ∀ H, Dp K H (g i j) d) : RD K (rI C g) (.int i) (.int j) d := fun H x y Q q1 q2 k => by
  cases q1
  cases q2
  exact ⟨i, j, rfl, rfl, hc, k _ H (Same.refl H) (h H)⟩
variable {i j : Int}
theorem xe_add (ha : XE X a Γ (.int i)) (hb : XE X b Γ (.int j)) : XE X (.BinOp a .Add b pos) Γ (.int (i + j)) := xe_bin op_add (rd_I0 fun _ => .int _) ha hb
theorem xe_sub (ha : XE X a Γ (.int i)) (hb : XE X b Γ (.int j)) : XE X (.BinOp a .Sub b pos) Γ (.int (i - j)) := xe_bin op_sub (rd_I0 fun _ => .int _) ha hb
theorem xe_mul (ha : XE X a Γ (.int i)) (hb : XE X b Γ (.int j)) (hc : CMul i j) : XE X (.BinOp a .Mult b pos) Γ (.int (i * j)) := xe_bin op_mul (rd_I hc fun _ => .int _) ha hb
theorem xe_mod (ha : XE X a Γ (.int i)) (hb : XE X b Γ (.int j)) (hc : 0 < j) : XE X (.BinOp a .Mod b pos) Γ (.int (i % j)) := xe_bin op_mod (rd_I hc fun _ => .int _) ha hb
theorem xe_fdiv (ha : XE X a Γ (.int i)) (hb : XE X b Γ (.int j)) (hc : 0 < j ∧ j < 1073741824) : XE X (.BinOp a .FloorDiv b pos) Γ (.int (i / j)) := xe_bin op_fdiv (rd_I hc fun _ => .int _) ha hb
theorem xe_pow (ha : XE X a Γ (.int i)) (hb : XE X b Γ (.int j)) (hc : CPow i j) : XE X (.BinOp a .Pow b pos) Γ (.int (i ^ j.toNat)) := xe_bin op_pow (rd_I hc fun _ => .int _) ha hb
theorem xe_neg (ha : XE X a Γ (.int i)) : XE X (.UnaryOp .USub a pos) Γ (.int (-i)) := pe_imp (pe_un un_neg ha) fun σ H Q ⟨E, k⟩ => ⟨E, fun v H' s q => by
  cases q
  exact ⟨i, rfl, k _ H' s (.int _)⟩⟩
theorem xt_lt (ha : XE X a Γ (.int i)) (hb : XE X b Γ (.int j)) : XT X (.Compare a [.Lt] [b] pos) Γ (decide (i < j)) := xt_cmp op_lt (rd_I0 fun _ => .bl _) ha hb (nomark _)
theorem xt_le (ha : XE X a Γ (.int i)) (hb : XE X b Γ (.int j)) : XT X (.Compare a [.LtE] [b] pos) Γ (decide (i ≤ j)) := xt_cmp op_le (rd_I0 fun _ => .bl _) ha hb (nomark _)
theorem xt_gt (ha : XE X a Γ (.int i)) (hb : XE X b Γ (.int j)) : XT X (.Compare a [.Gt] [b] pos) Γ (decide (j < i)) := xt_cmp op_gt (rd_I0 fun _ => .bl _) ha hb (nomark _)
theorem xt_ge (ha : XE X a Γ (.int i)) (hb : XE X b Γ (.int j)) : XT X (.Compare a [.GtE] [b] pos) Γ (decide (j ≤ i)) := xt_cmp op_ge (rd_I0 fun _ => .bl _) ha hb (nomark _)
theorem xe_gt (ha : XE X a Γ (.int i)) (hb : XE X b Γ (.int j)) : XE X (.Compare a [.Gt] [b] pos) Γ (.bool (decide (j < i))) := xe_cmp op_gt (rd_I0 fun _ => .bl _) ha hb (nomark _)
/-- l <= x <= m, as a value and as a test -/
theorem xe_chain {op op' : CmpOp} {r r' : R2} {b1 b2 : Bool} (ho : OpR X (compareOp op) r) (ho' : OpR X (compareOp op') r') (rd : RD X.K r d1 d2 (.bool b1)) (rd' : RD X.K r' d2 d3 (.bool b2)) (ha : XE X a Γ d1) (hb : XE X b Γ d2) (hc : XE X c Γ d3)
    (h1 : lastMarks [op, op'] [b, c] = false := by with_unfolding_all rfl) : XE X (.Compare a [op, op'] [b, c] pos) Γ (.bool (b1 && b2)) :=
  pe_imp (pe_chain ho ho' ha hb hc h1) fun σ H Q ⟨⟨Hb, H0, E⟩, k⟩ => ⟨⟨Hb, H0, E⟩, fun v1 H1 s1 q1 => ⟨⟨Hb, H0, E.mono s1⟩, fun v2 H2 s2 q2 => rd H2 v1 v2 _ (dp_mono s2 _ _ q1) q2 fun v H3 s3 q3 => by
    cases q3
    refine ⟨b1, rfl, ?_⟩
    cases b1 with
    | false =>
      rw [if_neg nofun]
      exact k _ H3 ((s1.trans s2).trans s3) (.bl _)
    | true =>
      rw [if_pos rfl]
      refine ⟨⟨Hb, H0, E.mono ((s1.trans s2).trans s3)⟩, fun v3 H4 s4 q4 => rd' H4 v2 v3 _ (dp_mono (s3.trans s4) _ _ q2) q4 fun v H5 s5 q5 => ?_⟩
      exact k v H5 (((s1.trans s2).trans s3).trans (s4.trans s5)) q5⟩⟩
theorem xt_chain {op op' : CmpOp} {r r' : R2} {b1 b2 : Bool} (ho : OpR X (compareOp op) r) (ho' : OpR X (compareOp op') r') (rd : RD X.K r d1 d2 (.bool b1)) (rd' : RD X.K r' d2 d3 (.bool b2)) (ha : XE X a Γ d1) (hb : XE X b Γ d2) (hc : XE X c Γ d3)
    (h1 : lastMarks [op, op'] [b, c] = false := by with_unfolding_all rfl) : XT X (.Compare a [op, op'] [b, c] pos) Γ (b1 && b2) :=
  pt_imp (pt_chain ho ho' ha hb hc h1) fun σ H Q ⟨⟨Hb, H0, E⟩, k⟩ => ⟨⟨Hb, H0, E⟩, fun v1 H1 s1 q1 => ⟨⟨Hb, H0, E.mono s1⟩, fun v2 H2 s2 q2 => rd H2 v1 v2 _ (dp_mono s2 _ _ q1) q2 fun v H3 s3 q3 => by
    cases q3
    refine ⟨b1, rfl, ?_⟩
    cases b1 with
    | false =>
      rw [if_neg nofun]
      exact ⟨false, rfl, k H3 ((s1.trans s2).trans s3)⟩
    | true =>
      rw [if_pos rfl]
      refine ⟨⟨Hb, H0, E.mono ((s1.trans s2).trans s3)⟩, fun v3 H4 s4 q4 => rd' H4 v2 v3 _ (dp_mono (s3.trans s4) _ _ q2) q4 fun v H5 s5 q5 => ?_⟩
      cases q5
      exact ⟨b2, rfl, k H5 (((s1.trans s2).trans s3).trans (s4.trans s5))⟩⟩⟩
theorem rd_le {K : PySem.W.Frag} : RD K (rI0 fun i j => .bl (decide (i ≤ j))) (.int i) (.int j) (.bool (decide (i ≤ j))) := rd_I0 fun _ => .bl _
theorem rd_lt {K : PySem.W.Frag} : RD K (rI0 fun i j => .bl (decide (i < j))) (.int i) (.int j) (.bool (decide (i < j))) := rd_I0 fun _ => .bl _

/-! ### == of scalars, of data; is None; in -/
/-- scalars of one kind -/
def sameK : PyData → PyData → Bool
  | .int _, .int _ => true
  | .str _, .str _ => true
  | .bool _, .bool _ => true
  | _, _ => false
def eqS : PyData → PyData → Bool
  | .int i, .int j => decide (i = j)
  | .str i, .str j => decide (i = j)
  | .bool i, .bool j => decide (i = j)
  | _, _ => false
theorem rd_eq {K : PySem.W.Frag} (h : sameK d1 d2 = true) : RD K rEq d1 d2 (.bool (eqS d1 d2)) := fun H x y Q q1 q2 k => by
  cases d1 <;> cases d2 <;> first
    | (cases q1; cases q2; refine ⟨rfl, ?_⟩; have z := k (.bl _) H (Same.refl H) (.bl _); simpa [eqS, decide_eq_decide] using z)
    | cases h
theorem rd_ne {K : PySem.W.Frag} (h : sameK d1 d2 = true) : RD K rNe d1 d2 (.bool (!eqS d1 d2)) := fun H x y Q q1 q2 k => by
  cases d1 <;> cases d2 <;> first
    | (cases q1; cases q2; refine ⟨rfl, ?_⟩; have z := k (.bl _) H (Same.refl H) (.bl _); simpa [eqS, decide_eq_decide] using z)
    | cases h
theorem xt_eqS (ha : XE X a Γ d1) (hb : XE X b Γ d2) (h : sameK d1 d2 = true) : XT X (.Compare a [.Eq] [b] pos) Γ (eqS d1 d2) := xt_cmp op_eq (rd_eq h) ha hb (nomark _)
theorem xt_neS (ha : XE X a Γ d1) (hb : XE X b Γ d2) (h : sameK d1 d2 = true) : XT X (.Compare a [.NotEq] [b] pos) Γ (!eqS d1 d2) := xt_cmp op_ne (rd_ne h) ha hb (nomark _)
theorem xe_eqS (ha : XE X a Γ d1) (hb : XE X b Γ d2) (h : sameK d1 d2 = true) : XE X (.Compare a [.Eq] [b] pos) Γ (.bool (eqS d1 d2)) := xe_cmp op_eq (rd_eq h) ha hb (nomark _)
theorem rd_eqD {K : PySem.W.Frag} (h1 : SeqAt.shaped d1 = true) (h2 : SeqAt.shaped d2 = true) : RD K (rEqD K) d1 d2 (.bool (PyData.eqv d1 d2)) := fun H x y Q q1 q2 k => ⟨d1, d2, q1, q2, h1, h2, k _ H (Same.refl H) (.bl _)⟩
theorem rd_neD {K : PySem.W.Frag} (h1 : SeqAt.shaped d1 = true) (h2 : SeqAt.shaped d2 = true) : RD K (rNeD K) d1 d2 (.bool (!PyData.eqv d1 d2)) := fun H x y Q q1 q2 k => ⟨d1, d2, q1, q2, h1, h2, k _ H (Same.refl H) (.bl _)⟩
theorem xt_eqD (hu : X.A.units + 64 < cLine) (ha : XE X a Γ d1) (hb : XE X b Γ d2) (h1 : SeqAt.shaped d1 = true) (h2 : SeqAt.shaped d2 = true) : XT X (.Compare a [.Eq] [b] pos) Γ (PyData.eqv d1 d2) := xt_cmp (op_eqD hu) (rd_eqD h1 h2) ha hb (nomark _)
theorem xt_neD (hu : X.A.units + 64 < cLine) (ha : XE X a Γ d1) (hb : XE X b Γ d2) (h1 : SeqAt.shaped d1 = true) (h2 : SeqAt.shaped d2 = true) : XT X (.Compare a [.NotEq] [b] pos) Γ (!PyData.eqv d1 d2) := xt_cmp (op_neD hu) (rd_neD h1 h2) ha hb (nomark _)
theorem xe_eqD (hu : X.A.units + 64 < cLine) (ha : XE X a Γ d1) (hb : XE X b Γ d2) (h1 : SeqAt.shaped d1 = true) (h2 : SeqAt.shaped d2 = true) : XE X (.Compare a [.Eq] [b] pos) Γ (.bool (PyData.eqv d1 d2)) := xe_cmp (op_eqD hu) (rd_eqD h1 h2) ha hb (nomark _)
def isNone : PyData → Bool
  | .none => true
  | _ => false
theorem dp_none {K : PySem.W.Frag} {H : Hp} {v : V} (h : Dp K H v d) : decide (v = V.non) = isNone d := by
  cases d <;> cases h <;> rfl
theorem xt_isN {j : Nat} {p2 : Pos} (ha : XE X a Γ d) : XT X (.Compare a [.Is] [.Constant .none j p2] pos) Γ (isNone d) :=
  pt_imp (pt_cmpR op_isN ha pe_non (nomark _)) fun σ H Q ⟨E, k⟩ => ⟨E, fun v H' s q => ⟨rfl, _, rfl, by rw [dp_none q]; exact k H' s⟩⟩
theorem xt_notN {j : Nat} {p2 : Pos} (ha : XE X a Γ d) : XT X (.Compare a [.IsNot] [.Constant .none j p2] pos) Γ (!isNone d) :=
  pt_imp (pt_cmpR op_notN ha pe_non (nomark _)) fun σ H Q ⟨E, k⟩ => ⟨E, fun v H' s q => ⟨rfl, _, rfl, by rw [dp_none q]; exact k H' s⟩⟩

/-! ### and, or, not, if else -/
theorem xt_not {k : Bool} (ha : XT X a Γ k) : XT X (.UnaryOp .Not a pos) Γ (!k) := pt_imp (pt_not ha) fun σ H Q ⟨E, q⟩ => ⟨E, fun H' s => q H' s⟩
theorem xw_and1 {k : Bool} (ha : XT X a Γ k) : XW X (.BoolOp .And [a] pos) Γ k := pw_and1 ha
theorem xw_or1 {k : Bool} (ha : XT X a Γ k) : XW X (.BoolOp .Or [a] pos) Γ k := pw_or1 ha
theorem xw_and {k l : Bool} (ha : XT X a Γ k) (hb : k = true → XW X (.BoolOp .And (b :: es) pos) Γ l) : XW X (.BoolOp .And (a :: b :: es) pos) Γ (k && l) := by
  cases k with
  | true => exact pw_imp (pw_and ha (hb rfl)) fun σ H Q ⟨⟨Hb, H0, E⟩, q⟩ => ⟨⟨Hb, H0, E⟩, fun H' s => by
      refine iteT ?_
      exact ⟨⟨Hb, H0, E.mono s⟩, fun H2 s2 => q H2 (s.trans s2)⟩⟩
  | false => exact pw_imp (pw_and ha pw_not_reached) fun σ H Q ⟨E, q⟩ => ⟨E, fun H' s => by
      refine iteF ?_
      exact q H' s⟩
theorem xw_or {k l : Bool} (ha : XT X a Γ k) (hb : k = false → XW X (.BoolOp .Or (b :: es) pos) Γ l) : XW X (.BoolOp .Or (a :: b :: es) pos) Γ (k || l) := by
  cases k with
  | false => exact pw_imp (pw_or ha (hb rfl)) fun σ H Q ⟨⟨Hb, H0, E⟩, q⟩ => ⟨⟨Hb, H0, E⟩, fun H' s => by
      refine iteF ?_
      exact ⟨⟨Hb, H0, E.mono s⟩, fun H2 s2 => q H2 (s.trans s2)⟩⟩
  | true => exact pw_imp (pw_or ha pw_not_reached) fun σ H Q ⟨E, q⟩ => ⟨E, fun H' s => by
      refine iteT ?_
      exact q H' s⟩
theorem xt_w {k : Bool} (h : XW X e Γ k) : XT X e Γ k := h.pt
/-- a bool's value as a test -/
theorem xt_val {k : Bool} (h : XE X e Γ (.bool k)) (he : ∀ whole, isTrue e X.env whole = (do let v ← whole; standAt e.pos; holding [v] (truthy v)) := by intro _; rfl) : XT X e Γ k :=
  pt_imp (pt_val h he) fun σ H Q ⟨E, q⟩ => ⟨E, fun v H' s z => by
    cases z
    exact ⟨k, rfl, q H' s⟩⟩
theorem xe_not {k : Bool} (ha : XE X a Γ (.bool k)) : XE X (.UnaryOp .Not a pos) Γ (.bool (!k)) := pe_imp (pe_not ha) fun σ H Q ⟨E, q⟩ => ⟨E, fun v H' s z => by
  cases z
  exact ⟨k, rfl, q _ H' s (.bl _)⟩⟩
theorem xe_one {op : BoolOp} (h : XE X a Γ d) : XE X (.BoolOp op [a] pos) Γ d := pe_one h
theorem xe_and {k l : Bool} (ha : XE X a Γ (.bool k)) (hb : k = true → XE X (.BoolOp .And (b :: es) pos) Γ (.bool l)) : XE X (.BoolOp .And (a :: b :: es) pos) Γ (.bool (k && l)) := by
  cases k with
  | true => exact pe_imp (pe_and ha (hb rfl)) fun σ H Q ⟨⟨Hb, H0, E⟩, q⟩ => ⟨⟨Hb, H0, E⟩, fun v H' s z => by
      cases z
      refine ⟨true, rfl, ?_⟩
      refine iteT ?_
      exact ⟨⟨Hb, H0, E.mono s⟩, fun v2 H2 s2 z2 => q v2 H2 (s.trans s2) z2⟩⟩
  | false => exact pe_imp (pe_and ha pe_not_reached) fun σ H Q ⟨E, q⟩ => ⟨E, fun v H' s z => by
      cases z
      refine ⟨false, rfl, ?_⟩
      rw [if_neg nofun]
      exact q _ H' s (.bl _)⟩
theorem xe_ifE {k : Bool} (hc : XT X c Γ k) (ha : k = true → XE X a Γ d) (hb : k = false → XE X b Γ d) : XE X (.IfExp c a b pos) Γ d := by
  cases k with
  | true => exact pe_imp (pe_ifExp hc (ha rfl) pe_not_reached) fun σ H Q ⟨⟨Hb, H0, E⟩, q⟩ => ⟨⟨Hb, H0, E⟩, fun H' s => by
      refine iteT ?_
      exact ⟨⟨Hb, H0, E.mono s⟩, fun v2 H2 s2 z2 => q v2 H2 (s.trans s2) z2⟩⟩
  | false => exact pe_imp (pe_ifExp hc pe_not_reached (hb rfl)) fun σ H Q ⟨⟨Hb, H0, E⟩, q⟩ => ⟨⟨Hb, H0, E⟩, fun H' s => by
      refine iteF ?_
      exact ⟨⟨Hb, H0, E.mono s⟩, fun v2 H2 s2 z2 => q v2 H2 (s.trans s2) z2⟩⟩

/-! ### displays, argument lists -/
theorem xa_nil : XA X [] Γ [] := pa_imp pa_nil fun σ H Q ⟨E, k⟩ => k [] H (Same.refl H) .nil
theorem xa_cons (ha : XE X a Γ d) (hr : XA X es Γ ds) (hs : starEach (a :: es) X.env = (false, eval a X.env) :: starEach es X.env := by rfl) : XA X (a :: es) Γ (d :: ds) :=
  pa_imp (pa_cons ha hr hs) fun σ H Q ⟨⟨Hb, H0, E⟩, k⟩ => ⟨⟨Hb, H0, E⟩, fun v H1 s1 q1 => ⟨⟨Hb, H0, E.mono s1⟩, fun vs H2 s2 q2 => k (v :: vs) H2 (s1.trans s2) (.cons (dp_mono s2 _ _ q1) q2)⟩⟩
theorem line_of {n : Nat} (h : n ≤ 10000000) : n ≤ sizeLine := Nat.le_trans h (by decide)
theorem xe_tup {x1 : Nat} (h : XA X es Γ ds) (hl : ds.length ≤ 10000000) : XE X (.Tuple es x1 pos) Γ (.tuple ds) :=
  pe_imp (pe_tup h) fun σ H Q ⟨E, k⟩ => ⟨E, fun vs H1 s1 q1 => ⟨line_of (by rw [dpa_length q1]; exact hl), fun p hp =>
    k (.ref p) (upd H1 p (.tup vs)) (s1.trans fun b o z => by rw [upd_ne (ne_of_none z hp)]; exact z) (.tup (SqT.of upd_same) (dpAll_mono (fun b o z => by rw [upd_ne (ne_of_none z hp)]; exact z) _ _ q1))⟩⟩
theorem xf_lst (h : XA X es Γ ds) (hl : ds.length ≤ 10000000) : XF X (.List es pos) Γ ds :=
  pe_imp (pe_lst h) fun σ H Q ⟨E, k⟩ => ⟨E, fun vs H1 s1 q1 => ⟨line_of (by rw [dpa_length q1]; exact hl), fun p hp =>
    k p vs (upd H1 p (.lst vs)) (s1.free hp) (s1.trans fun b o z => by rw [upd_ne (ne_of_none z hp)]; exact z) upd_same (dpAll_mono (fun b o z => by rw [upd_ne (ne_of_none z hp)]; exact z) _ _ q1)⟩⟩

/-! ### places, slices -/
theorem rd_ixT {K : PySem.W.Frag} (h : atI ds i = some d) : RD K (rIxT K) (.tuple ds) (.int i) d := fun H x y Q q1 q2 k => by
  cases q2
  cases q1 with
  | tup hs ha =>
    obtain ⟨v, h1, h2⟩ := dpa_atI ha h
    exact ⟨_, _, i, v, rfl, rfl, hs, h1, k v H (Same.refl H) h2⟩
theorem rd_ixL {K : PySem.W.Frag} (h : atI ds i = some d) : RD K (rIxL K) (.list ds) (.int i) d := fun H x y Q q1 q2 k => by
  cases q2
  cases q1 with
  | lst hs ha =>
    obtain ⟨v, h1, h2⟩ := dpa_atI ha h
    exact ⟨_, _, i, v, rfl, rfl, hs, h1, k v H (Same.refl H) h2⟩
theorem xe_ixT (ha : XE X a Γ (.tuple ds)) (hb : XE X b Γ (.int i)) (h : atI ds i = some d) (hs : PlainIx b := by intro _ _; rfl) : XE X (.Subscript a b pos) Γ d :=
  pe_imp (pe_ix ix_tup ha hb hs) fun _ _ _ k => tX_two (rd_ixT h) k
theorem xe_ixL (ha : XE X a Γ (.list ds)) (hb : XE X b Γ (.int i)) (h : atI ds i = some d) (hs : PlainIx b := by intro _ _; rfl) : XE X (.Subscript a b pos) Γ d :=
  pe_imp (pe_ix ix_list ha hb hs) fun _ _ _ k => tX_two (rd_ixL h) k
theorem atI_getD {α : Type} {f : α → PyData} {xs : List α} {i : Int} (h0 : 0 ≤ i) (h : i < xs.length) (z : α) : atI (xs.map f) i = some (f (xs.getD i.toNat z)) := by
  obtain ⟨j, rfl⟩ : ∃ j : Nat, i = j := ⟨i.toNat, by omega⟩
  have hj : j < xs.length := by omega
  refine atI_nat ?_
  rw [List.getElem?_map, List.getElem?_eq_getElem hj]
  show some (f xs[j]) = some (f (xs.getD ((j : Int)).toNat z))
  rw [Int.toNat_natCast, List.getD_eq_getElem?_getD, List.getElem?_eq_getElem hj]
  rfl
/-- xs[i], 0 ≤ i: the data of a typed list -/
theorem xe_ixTm {α : Type} {f : α → PyData} {xs : List α} (z : α) (ha : XE X a Γ (.tuple (xs.map f))) (hb : XE X b Γ (.int i)) (h : 0 ≤ i ∧ i < xs.length) (hs : PlainIx b := by intro _ _; rfl) : XE X (.Subscript a b pos) Γ (f (xs.getD i.toNat z)) := xe_ixT ha hb (atI_getD h.1 h.2 z) hs
theorem xe_ixLm {α : Type} {f : α → PyData} {xs : List α} (z : α) (ha : XE X a Γ (.list (xs.map f))) (hb : XE X b Γ (.int i)) (h : 0 ≤ i ∧ i < xs.length) (hs : PlainIx b := by intro _ _; rfl) : XE X (.Subscript a b pos) Γ (f (xs.getD i.toNat z)) := xe_ixL ha hb (atI_getD h.1 h.2 z) hs
def tXO (K : PySem.W.Frag) (Γ : G) (o : Option Int) : TO := fun σ H Q => (∃ Hb H0, EnvOk K Hb H0 H σ Γ) ∧ ∀ H', Same H H' → Q o H'
abbrev XO (X : Cx) (e : Option Expr) (Γ : G) (o : Option Int) : Prop := PO X e (tXO X.K Γ o)
theorem po_imp {e : Option Expr} {t t' : TO} (h : PO X e t) (q : ∀ σ H Q, t' σ H Q → t σ H Q) : PO X e t' := ⟨fun pins s σ H Q I z => h.run pins s σ H Q I (q σ H Q z)⟩
theorem xo_none : XO X none Γ none := po_imp po_none fun σ H Q ⟨E, k⟩ => k H (Same.refl H)
theorem xo_some (h : XE X e Γ (.int i)) : XO X (some e) Γ (some i) := po_imp (po_some h) fun σ H Q ⟨E, k⟩ => ⟨E, fun v H' s q => by
  cases q
  exact ⟨i, rfl, k H' s⟩⟩
def cutD (ds : List PyData) (lo hi : Option Int) : List PyData := (ds.drop (HT.sIx ds.length 0 lo)).take (HT.sIx ds.length ds.length hi - HT.sIx ds.length 0 lo)
theorem cut_all {K : PySem.W.Frag} {H : Hp} {vs : List V} (h : DpAll K H vs ds) (lo hi : Option Int) : DpAll K H (cutV vs lo hi) (cutD ds lo hi) := by
  unfold cutV cutD
  rw [dpa_length h]
  exact dpa_take _ (dpa_drop _ h)
theorem cut_whole {α : Type} {xs : List α} {lo hi : Nat} (h1 : lo = 0) (h2 : hi = xs.length) : (xs.drop lo).take (hi - lo) = xs := by
  subst h1 h2
  simp
theorem xe_slT {lo hi : Option Expr} {l u : Option Int} {p2 : Pos} (ha : XE X a Γ (.tuple ds)) (hl : XO X lo Γ l) (hh : XO X hi Γ u) : XE X (.Subscript a (.Slice lo hi none p2) pos) Γ (.tuple (cutD ds l u)) :=
  pe_imp (pe_slice sl_tupA ha hl hh) fun σ H Q ⟨⟨Hb, H0, E⟩, k⟩ => ⟨⟨Hb, H0, E⟩, fun v1 H1 s1 q1 => ⟨⟨Hb, H0, E.mono s1⟩, fun H2 s2 => ⟨⟨Hb, H0, E.mono (s1.trans s2)⟩, fun H3 s3 => by
    cases q1 with
    | @tup p xs _ hs hall =>
      have hs3 := seqT_mono (s2.trans s3) hs
      have ha3 := dpAll_mono (s2.trans s3) _ _ hall
      refine ⟨p, xs, rfl, hs3, fun w => ?_, fun nw q hq => ?_⟩
      · refine k (.ref p) H3 ((s1.trans s2).trans s3) (.tup hs3 ?_)
        have e1 : cutD ds l u = ds := by
          unfold cutD
          have z := w
          rw [dpa_length ha3] at z
          exact cut_whole z.1 z.2
        rw [e1]
        exact ha3
      · have s4 : Same H3 (upd H3 q (.tup (cutV xs l u))) := fun b o z => by rw [upd_ne (ne_of_none z hq)]; exact z
        exact k (.ref q) _ (((s1.trans s2).trans s3).trans s4) (.tup (SqT.of upd_same) (dpAll_mono s4 _ _ (cut_all ha3 l u)))⟩⟩⟩
theorem xf_slL {lo hi : Option Expr} {l u : Option Int} {p2 : Pos} (ha : XE X a Γ (.list ds)) (hl : XO X lo Γ l) (hh : XO X hi Γ u) : XF X (.Subscript a (.Slice lo hi none p2) pos) Γ (cutD ds l u) :=
  pe_imp (pe_slice sl_list ha hl hh) fun σ H Q ⟨⟨Hb, H0, E⟩, k⟩ => ⟨⟨Hb, H0, E⟩, fun v1 H1 s1 q1 => ⟨⟨Hb, H0, E.mono s1⟩, fun H2 s2 => ⟨⟨Hb, H0, E.mono (s1.trans s2)⟩, fun H3 s3 => by
    cases q1 with
    | @lst p xs _ hs hall =>
      have hs3 := (s2.trans s3).seq hs
      have ha3 := dpAll_mono (s2.trans s3) _ _ hall
      refine ⟨p, xs, rfl, hs3, fun q hq => ?_⟩
      have s4 : Same H3 (upd H3 q (.lst (cutV xs l u))) := fun b o z => by rw [upd_ne (ne_of_none z hq)]; exact z
      exact k q _ _ (((s1.trans s2).trans s3).free hq) (((s1.trans s2).trans s3).trans s4) upd_same (dpAll_mono s4 _ _ (cut_all ha3 l u))⟩⟩⟩

/-! ### + of tuples, of lists; * -/
variable {ds1 ds2 : List PyData}
theorem rd_catT {K : PySem.W.Frag} (hl : ds1.length + ds2.length ≤ 10000000) : RD K (rCatA K) (.tuple ds1) (.tuple ds2) (.tuple (ds1 ++ ds2)) := fun H x y Q q1 q2 k => by
  cases q1 with
  | @tup p xs _ h1 a1 =>
    cases q2 with
    | @tup q ys _ h2 a2 =>
      refine ⟨p, q, xs, ys, rfl, rfl, h1, h2, line_of (by rw [dpa_length a1, dpa_length a2]; exact hl), fun e => ?_, fun _ e => ?_, fun _ _ r hr => ?_⟩
      · subst e
        cases a1
        exact k _ H (Same.refl H) (.tup h2 a2)
      · subst e
        cases a2
        rw [List.append_nil] at k
        exact k _ H (Same.refl H) (.tup h1 a1)
      · have s4 : Same H (upd H r (.tup (xs ++ ys))) := fun b o z => by rw [upd_ne (ne_of_none z hr)]; exact z
        exact k (.ref r) _ s4 (.tup (SqT.of upd_same) (dpAll_mono s4 _ _ (dpa_append a1 a2)))
theorem xe_catT (ha : XE X a Γ (.tuple ds1)) (hb : XE X b Γ (.tuple ds2)) (hl : ds1.length + ds2.length ≤ 10000000) : XE X (.BinOp a .Add b pos) Γ (.tuple (ds1 ++ ds2)) := xe_bin op_catA (rd_catT hl) ha hb

/-! ### len, int, tuple, sum, all, max -/
def CD (K : PySem.W.Frag) (r : List V → Hp → VK → Prop) (ds : List PyData) (d : PyData) : Prop := ∀ H vs (Q : VK), DpAll K H vs ds → (∀ v H', Same H H' → Dp K H' v d → Q v H') → r vs H Q
theorem xe_bi {x : Str} {id : String} {p : Pos} {r : List V → Hp → VK → Prop} (cd : CD X.K r (d1 :: ds) d) (hc : CallR X (.builtin id) r) (hg : Gl X x) (hm : X.mg x = none) (hv : bootBuiltins x = some (.builtin id)) (ha : XA X (a :: es) Γ (d1 :: ds)) (hn : x ≠ "__name__" := by decide) (hdb : (x == ("__debug__" : Str)) = false := by decide)
    (he : starEach (a :: es) X.env = (false, eval a X.env) :: starEach es X.env := by rfl) (hpl : (backTo pos (starEach es X.env)).any (·.1) = false := by rfl) : XE X (.Call (.Name x p) (a :: es) [] pos) Γ d :=
  pe_imp (pe_callB hc hg hm hv ha hn hdb he hpl) fun σ H Q ⟨E, k⟩ => ⟨E, fun vs H1 s1 q1 => cd H1 vs Q q1 fun v H2 s2 q2 => k v H2 (s1.trans s2) q2⟩
theorem xe_ty {x : Str} {id : String} {p : Pos} {r : List V → Hp → VK → Prop} (cd : CD X.K r (d1 :: ds) d) (hc : CallR X (.type id) r) (hg : Gl X x) (hm : X.mg x = none) (hv : bootBuiltins x = some (.type id)) (ha : XA X (a :: es) Γ (d1 :: ds)) (hn : x ≠ "__name__" := by decide) (hdb : (x == ("__debug__" : Str)) = false := by decide)
    (he : starEach (a :: es) X.env = (false, eval a X.env) :: starEach es X.env := by rfl) (hpl : (backTo pos (starEach es X.env)).any (·.1) = false := by rfl) : XE X (.Call (.Name x p) (a :: es) [] pos) Γ d :=
  pe_imp (pe_callTy hc hg hm hv ha hn hdb he hpl) fun σ H Q ⟨E, k⟩ => ⟨E, fun vs H1 s1 q1 => cd H1 vs Q q1 fun v H2 s2 q2 => k v H2 (s1.trans s2) q2⟩
end
end TC
namespace TC
open PySem L2

section
variable {X : Cx} {Γ : G} {a b c e : Expr} {es : List Expr} {p pos : Pos} {d d1 d2 d3 : PyData} {ds : List PyData}

/-! ### built-ins -/
theorem cd_lenT {K : PySem.W.Frag} : CD K (fun xs H Q => ∃ p ys, xs = [.ref p] ∧ (SqL K H p ys ∨ SqT K H p ys) ∧ Q (.int ys.length) H) [.tuple ds] (.int ds.length) := fun H vs Q h k => by
  cases h with
  | cons h1 h2 =>
    cases h2
    cases h1 with
    | @tup p xs _ hs ha => exact ⟨p, xs, rfl, .inr hs, by have z := k (.int ds.length) H (Same.refl H) (.int _); rw [← dpa_length ha] at z; exact z⟩
theorem cd_lenL {K : PySem.W.Frag} : CD K (fun xs H Q => ∃ p ys, xs = [.ref p] ∧ (SqL K H p ys ∨ SqT K H p ys) ∧ Q (.int ys.length) H) [.list ds] (.int ds.length) := fun H vs Q h k => by
  cases h with
  | cons h1 h2 =>
    cases h2
    cases h1 with
    | @lst p xs _ hs ha => exact ⟨p, xs, rfl, .inl hs, by have z := k (.int ds.length) H (Same.refl H) (.int _); rw [← dpa_length ha] at z; exact z⟩
theorem xe_lenT (hm : X.mg "len" = none) (ha : XE X a Γ (.tuple ds)) (hg : Gl X "len" := by rfl) (hs : starEach (a :: []) X.env = (false, eval a X.env) :: starEach [] X.env := by rfl) : XE X (.Call (.Name "len" p) [a] [] pos) Γ (.int ds.length) :=
  xe_bi cd_lenT call_len_seq hg hm PySem.boot_len (xa_cons ha xa_nil hs) (he := hs)
theorem xe_lenL (hm : X.mg "len" = none) (ha : XE X a Γ (.list ds)) (hg : Gl X "len" := by rfl) (hs : starEach (a :: []) X.env = (false, eval a X.env) :: starEach [] X.env := by rfl) : XE X (.Call (.Name "len" p) [a] [] pos) Γ (.int ds.length) :=
  xe_bi cd_lenL call_len_seq hg hm PySem.boot_len (xa_cons ha xa_nil hs) (he := hs)
/-- int(n), int(flag) -/
def toI : PyData → Option Int
  | .int i => some i
  | .bool b =>
    some (if b then 1 else 0)
  | _ => none
theorem xe_toI {i : Int} (hm : X.mg "int" = none) (ha : XE X a Γ d) (h : toI d = some i) (hg : Gl X "int" := by rfl) (hs : starEach (a :: []) X.env = (false, eval a X.env) :: starEach [] X.env := by rfl) : XE X (.Call (.Name "int" p) [a] [] pos) Γ (.int i) :=
  xe_ty (fun H vs Q h' k => by
    cases h' with
    | cons h1 h2 =>
      cases h2
      cases d with
      | int j =>
        cases h
        cases h1
        exact .inl ⟨_, rfl, k _ H (Same.refl H) (.int _)⟩
      | bool j =>
        cases h
        cases h1
        exact .inr ⟨_, rfl, k _ H (Same.refl H) (.int _)⟩
      | _ => cases h) call_int1 hg hm (by decide +kernel) (xa_cons ha xa_nil hs) (he := hs)
theorem xe_max2 {i j : Int} (hc : X.calm = true) (hm : X.mg "max" = none) (ha : XE X a Γ (.int i)) (hb : XE X b Γ (.int j)) (hg : Gl X "max" := by rfl) (hs : starEach [a, b] X.env = (false, eval a X.env) :: starEach [b] X.env := by rfl)
    (hs2 : starEach [b] X.env = (false, eval b X.env) :: starEach [] X.env := by rfl) (hpl : (backTo pos (starEach [b] X.env)).any (·.1) = false := by rfl) : XE X (.Call (.Name "max" p) [a, b] [] pos) Γ (.int (if j > i then j else i)) :=
  xe_bi (fun H vs Q h k => by
    cases h with
    | cons h1 h2 =>
      cases h2 with
      | cons h2 h3 =>
        cases h3
        cases h1
        cases h2
        exact ⟨i, j, rfl, k _ H (Same.refl H) (.int _)⟩) (call_max2 hc) hg hm (by decide +kernel) (xa_cons ha (xa_cons hb xa_nil hs2) hs) (he := hs) (hpl := hpl)
/-- tuple(a list) -/
theorem xe_tupleL (hm : X.mg "tuple" = none) (ha : XE X a Γ (.list ds)) (hg : Gl X "tuple" := by rfl) (hs : starEach (a :: []) X.env = (false, eval a X.env) :: starEach [] X.env := by rfl) : XE X (.Call (.Name "tuple" p) [a] [] pos) Γ (.tuple ds) :=
  xe_ty (fun H vs Q h k => by
    cases h with
    | cons h1 h2 =>
      cases h2
      cases h1 with
      | @lst q xs _ hs ha =>
        refine ⟨q, xs, rfl, .inl ⟨hs, fun l hl => ?_⟩⟩
        have s4 : Same H (upd H l (.tup xs)) := fun b o z => by rw [upd_ne (ne_of_none z hl)]; exact z
        exact k (.ref l) _ s4 (.tup (SqT.of upd_same) (dpAll_mono s4 _ _ ha))) call_tuple_of hg hm (by decide +kernel) (xa_cons ha xa_nil hs) (he := hs)
theorem xe_sum {ns : List Int} (hc : X.calm = true) (hm : X.mg "sum" = none) (ha : XE X a Γ (.list (ns.map .int))) (hg : Gl X "sum" := by rfl) (hs : starEach (a :: []) X.env = (false, eval a X.env) :: starEach [] X.env := by rfl) : XE X (.Call (.Name "sum" p) [a] [] pos) Γ (.int ns.sum) :=
  xe_bi (fun H vs Q h k => by
    cases h with
    | cons h1 h2 =>
      cases h2
      cases h1 with
      | @lst q xs _ hs ha =>
        have e := dpAll_ints_of ha
        subst e
        exact ⟨q, ns, rfl, hs, k _ H (Same.refl H) (.int _)⟩) (cr_sum hc) hg hm (by decide +kernel) (xa_cons ha xa_nil hs) (he := hs)
theorem xe_all {bs : List Bool} (hc : X.calm = true) (hm : X.mg "all" = none) (ha : XE X a Γ (.list (bs.map .bool))) (hg : Gl X "all" := by rfl) (hs : starEach (a :: []) X.env = (false, eval a X.env) :: starEach [] X.env := by rfl) : XE X (.Call (.Name "all" p) [a] [] pos) Γ (.bool (bs.all id)) :=
  xe_bi (fun H vs Q h k => by
    cases h with
    | cons h1 h2 =>
      cases h2
      cases h1 with
      | @lst q xs _ hs ha =>
        have e := dpAll_bools_of ha
        subst e
        exact ⟨q, bs, rfl, hs, k _ H (Same.refl H) (.bl _)⟩) (cr_all hc) hg hm (by decide +kernel) (xa_cons ha xa_nil hs) (he := hs)
/-- list(range(n)) -/
theorem xf_listRg {i : Int} {p2 p3 : Pos} (hc : X.calm = true) (hm : X.mg "list" = none) (hm2 : X.mg "range" = none) (ha : XE X a Γ (.int i)) (hi : 0 ≤ i ∧ i ≤ 1000000) (hg : Gl X "list" := by rfl) (hg2 : Gl X "range" := by rfl) (hs : starEach [a] X.env = (false, eval a X.env) :: starEach [] X.env := by rfl)
    (hs2 : starEach [Expr.Call (.Name "range" p2) [a] [] p3] X.env = (false, eval (Expr.Call (.Name "range" p2) [a] [] p3) X.env) :: starEach [] X.env := by rfl) :
    XF X (.Call (.Name "list" p) [.Call (.Name "range" p2) [a] [] p3] [] pos) Γ ((List.range i.toNat).map fun j => .int (j : Nat)) :=
  pe_imp (pe_listRg hc hg hm (prg_1 hg2 hm2 ha hs) hs2) fun σ H Q ⟨E, k⟩ => ⟨E, fun v H1 s1 q1 => by
    cases q1
    refine ⟨i, rfl, ⟨by omega, by omega, by omega, by omega, by omega⟩, fun q hq => ?_⟩
    have s4 : Same H1 (upd H1 q (.lst (rgV 0 i))) := fun b o z => by rw [upd_ne (ne_of_none z hq)]; exact z
    refine k q _ _ (s1.free hq) (s1.trans s4) upd_same ?_
    have e1 : rgV 0 i = ((List.range i.toNat).map fun (j : Nat) => (j : Int)).map V.int := by
      unfold rgV
      rw [List.map_map, Int.sub_zero]
      exact List.map_congr_left fun j _ => by show V.int (0 + (j : Nat)) = V.int (j : Nat); rw [Int.zero_add]
    have e2 : ((List.range i.toNat).map fun (j : Nat) => PyData.int (j : Nat)) = ((List.range i.toNat).map fun (j : Nat) => (j : Int)).map PyData.int := by
      rw [List.map_map]; rfl
    rw [e1, e2]
    exact dpAll_ints _⟩
/-- isinstance(x, T) -/
def tyN : PyData → String
  | .none => "NoneType"
  | .bool _ => "bool"
  | .int _ => "int"
  | .str _ => "str"
  | .list _ => "list"
  | .tuple _ => "tuple"
  | .dict _ => "dict"
theorem tyX_of {K : PySem.W.Frag} {H : Hp} {v : V} (h : Dp K H v d) : TyX K H v (.type (tyN d)) := by
  cases h with
  | non => exact .base .non
  | bl b => exact .base (.bl b)
  | int i => exact .base (.int i)
  | str x => exact .base (.str x)
  | lst hs ha =>
    rcases hs with (h | ⟨o, h⟩) | ⟨o, its, n, h1, h2, _⟩
    · exact .base (.lst h)
    · exact .base (.frz h)
    · exact .kList h1 h2
  | tup hs ha =>
    rcases hs with (h | ⟨o, h⟩) | ⟨o, its, n, h1, h2, _⟩
    · exact .base (.tup h)
    · exact .fTuple h
    · exact .kTuple h1 h2
theorem xe_isi {T : Str} {n : String} {r : Bool} {p2 : Pos} (hm : X.mg "isinstance" = none) (hmT : X.mg T = none) (hvT : bootBuiltins T = some (.type n))
    (ha : XE X a Γ d) (hk : kitB (tyN d) n = some r) (hg : Gl X "isinstance" := by rfl) (hgT : Gl X T := by rfl) (hnT : T ≠ "__name__" := by decide) (hdT : (T == ("__debug__" : Str)) = false := by decide) (hs : starEach [a, .Name T p2] X.env = (false, eval a X.env) :: starEach [.Name T p2] X.env := by rfl)
    (hs2 : starEach [.Name T p2] X.env = (false, eval (.Name T p2) X.env) :: starEach [] X.env := by rfl) (hpl : (backTo pos (starEach [.Name T p2] X.env)).any (·.1) = false := by rfl) : XE X (.Call (.Name "isinstance" p) [a, .Name T p2] [] pos) Γ (.bool r) :=
  pe_imp (pe_callB call_isi hg hm (by decide +kernel) (pa_cons ha (pa_cons (pe_bltn (v := .ty n) hgT hmT hvT rfl hnT hdT) pa_nil hs2) hs) (he := hs) (hpl := hpl)) fun σ H Q ⟨E, k⟩ => ⟨E, fun v H1 s1 q1 => by
    exact ⟨v, .ty n, _, _, r, rfl, .ty n, tyX_of q1, kit_ty hk, k _ H1 s1 (.bl r)⟩⟩

/-! ### a call of a def of the text -/
/-- a pure def: P arguments result -/
def spR (K : PySem.W.Frag) (n : Nat) (P : List PyData → PyData → Prop) : Sp := fun vs H Q _ => ∃ ds r, vs.length = n ∧ DpAll K H vs ds ∧ P ds r ∧ ∀ v H', Same H H' → Dp K H' v r → Q v H'
/-- a pure def that makes a list -/
def spF (K : PySem.W.Frag) (n : Nat) (P : List PyData → List PyData → Prop) : Sp := fun vs H Q _ => ∃ ds rs, vs.length = n ∧ DpAll K H vs ds ∧ P ds rs ∧ ∀ p xs H', H p = none → Same H H' → H' p = some (.lst xs) → DpAll K H' xs rs → Q (.ref p) H'
theorem xe_call {k : Nat} {f : Addr} {fd : FuncData} {ps : List Str} {n : Nat} {P : List PyData → PyData → Prop} {x : Str} (F : FnOk X.prog X.w X.K X.mg X.base CX0 k f fd ps (spR X.K n P)) (hP : P (d1 :: ds) d) (hn : (d1 :: ds).length = n) (hr : Room k X.A) (hg : Gl X x) (hm : X.mg x = some (.ref f)) (hk : PySem.W.keepIn X.K (.ref f) = true) (hb : Binds X.K fd ps [])
    (ha : XA X (e :: es) Γ (d1 :: ds)) (hdb : (x == ("__debug__" : Str)) = false := by decide) (he : starEach (e :: es) X.env = (false, eval e X.env) :: starEach es X.env := by rfl) (hpl : (backTo pos (starEach es X.env)).any (·.1) = false := by rfl) :
    XE X (.Call (.Name x p) (e :: es) [] pos) Γ d :=
  pe_imp (pe_call F hr hg hm hk hb .nil pass0 ha hdb he hpl) fun σ H Q ⟨E, q⟩ => ⟨E, fun vs H1 s1 q1 => by
    show spR X.K n P (vs ++ []) H1 Q E0
    rw [List.append_nil]
    exact ⟨d1 :: ds, d, by rw [dpa_length q1]; exact hn, q1, hP, fun v H2 s2 q2 => q v H2 (s1.trans s2) q2⟩⟩
theorem xf_call {k : Nat} {f : Addr} {fd : FuncData} {ps : List Str} {n : Nat} {P : List PyData → List PyData → Prop} {rs : List PyData} {x : Str} (F : FnOk X.prog X.w X.K X.mg X.base CX0 k f fd ps (spF X.K n P)) (hP : P (d1 :: ds) rs) (hn : (d1 :: ds).length = n) (hr : Room k X.A) (hg : Gl X x) (hm : X.mg x = some (.ref f)) (hk : PySem.W.keepIn X.K (.ref f) = true) (hb : Binds X.K fd ps [])
    (ha : XA X (e :: es) Γ (d1 :: ds)) (hdb : (x == ("__debug__" : Str)) = false := by decide) (he : starEach (e :: es) X.env = (false, eval e X.env) :: starEach es X.env := by rfl) (hpl : (backTo pos (starEach es X.env)).any (·.1) = false := by rfl) :
    XF X (.Call (.Name x p) (e :: es) [] pos) Γ rs :=
  pe_imp (pe_call F hr hg hm hk hb .nil pass0 ha hdb he hpl) fun σ H Q ⟨E, q⟩ => ⟨E, fun vs H1 s1 q1 => by
    show spF X.K n P (vs ++ []) H1 Q E0
    rw [List.append_nil]
    exact ⟨d1 :: ds, rs, by rw [dpa_length q1]; exact hn, q1, hP, fun p xs H2 n2 s2 e2 q2 => q p xs H2 (s1.free n2) (s1.trans s2) e2 q2⟩⟩
end

/-! ### targets -/
/-- a target: a name, or a tuple of names -/
inductive Tg where
  | nm (i : Nat)
  | tp (is : List Nat)
def gNames : List Nat → TGs
  | [] => gNil
  | i :: is => gCons (gName i) (gNames is)
def gT (K : PySem.W.Frag) : Tg → TG
  | .nm i => gName i
  | .tp is => gTup K is.length (gNames is)
def Tg.slots : Tg → List Nat
  | .nm i => [i]
  | .tp is => is
def putL : List Nat → List PyData → G → Option G
  | [], [], Γ => some Γ
  | i :: is, d :: ds, Γ => putL is ds (Γ.set i (.c d))
  | _, _, _ => none
def Tg.put : Tg → PyData → G → Option G
  | .nm i, d, Γ => some (Γ.set i (.c d))
  | .tp is, .tuple ds, Γ => putL is ds Γ
  | _, _, _ => none
/-- the frame's values changed at these slots alone -/
def OnlyAt (is : List Nat) (σ σ' : St) : Prop := σ'.length = σ.length ∧ ∀ j, j ∉ is → σ'[j]? = σ[j]?
theorem wipe_get {j : Nat} : ∀ (vs : List Nat) (σ : St), (L2.wipe σ vs)[j]? = if j ∈ vs then (if j < σ.length then some none else none) else σ[j]? := by
  intro vs σ
  induction vs with
  | nil => simp [L2.wipe]
  | cons v r ih =>
    show ((L2.wipe σ r).set v none)[j]? = _
    by_cases e : v = j
    · subst e
      by_cases hl : v < σ.length
      · rw [List.getElem?_set_self (by rw [wipe_length]; exact hl), if_pos List.mem_cons_self, if_pos hl]
      · rw [List.getElem?_eq_none (by rw [List.length_set, wipe_length]; omega), if_pos List.mem_cons_self, if_neg hl]
    · rw [List.getElem?_set_ne e, ih]
      by_cases hr : j ∈ r
      · rw [if_pos hr, if_pos (List.mem_cons_of_mem _ hr)]
      · rw [if_neg hr, if_neg (fun z => (List.mem_cons.mp z).elim (fun q => e q.symm) hr)]
theorem onlyAt_wipe {is vs : List Nat} {σ σ' : St} (h : OnlyAt is σ σ') (hs : ∀ i ∈ is, i ∈ vs) : L2.wipe σ' vs = L2.wipe σ vs := by
  apply List.ext_getElem?
  intro j
  rw [wipe_get, wipe_get, h.1]
  by_cases hj : j ∈ vs
  · rw [if_pos hj, if_pos hj]
  · rw [if_neg hj, if_neg hj]
    exact h.2 j fun z => hj (hs j z)
theorem wipe_twice (σ : St) (vs : List Nat) : L2.wipe (L2.wipe σ vs) vs = L2.wipe σ vs :=
  onlyAt_wipe (is := vs) ⟨wipe_length _ _, fun j hj => by rw [wipe_get, if_neg hj]⟩ fun _ h => h
theorem gNames_ok {K : PySem.W.Frag} {H : Hp} {Q : St → Hp → Prop} : ∀ (is : List Nat) (ds : List PyData) (vs : List V) (σ : St) (Γ Γ' : G), DpAll K H vs ds → putL is ds Γ = some Γ' →
    (∀ σ', OnlyAt is σ σ' → (∀ Hb H0, EnvOk K Hb H0 H σ Γ → EnvOk K Hb H0 H σ' Γ') → Q σ' H) → gNames is vs σ H Q
  | [], [], _, σ, Γ, Γ', h, e, k => by
    cases h
    cases e
    exact ⟨rfl, k σ ⟨rfl, fun _ _ => rfl⟩ fun _ _ E => E⟩
  | i :: is, d :: ds, _, σ, Γ, Γ', h, e, k => by
    cases h with
    | @cons v vs _ _ h1 h2 =>
      refine ⟨v, vs, rfl, ?_⟩
      refine gNames_ok is ds vs (σ.set i (some v)) (Γ.set i (.c d)) Γ' h2 e fun σ' o E => k σ' ⟨by rw [o.1, List.length_set], fun j hj => ?_⟩ fun Hb H0 e0 => E Hb H0 (e0.store ⟨v, rfl, h1⟩)
      rw [o.2 j (fun z => hj (List.mem_cons_of_mem _ z)), List.getElem?_set_ne (fun z => hj (by rw [z]; exact List.mem_cons_self))]
  | [], _ :: _, _, _, _, _, _, e, _ => by cases e
  | _ :: _, [], _, _, _, _, _, e, _ => by cases e
theorem gT_ok {K : PySem.W.Frag} {H : Hp} {Q : St → Hp → Prop} {d : PyData} {v : V} {σ : St} {Γ Γ' : G} (t : Tg) (h : Dp K H v d) (e : t.put d Γ = some Γ')
    (k : ∀ σ', OnlyAt t.slots σ σ' → (∀ Hb H0, EnvOk K Hb H0 H σ Γ → EnvOk K Hb H0 H σ' Γ') → Q σ' H) : gT K t v σ H Q := by
  cases t with
  | nm i =>
    cases e
    exact k _ ⟨by rw [List.length_set], fun j hj => by rw [List.getElem?_set_ne (fun z => hj (by rw [z]; exact List.mem_cons_self))]⟩ fun Hb H0 E => E.store ⟨v, rfl, h⟩
  | tp is =>
    cases h with
    | @tup a xs ds hs ha =>
      have e' : putL is ds Γ = some Γ' := e
      have hl : xs.length = is.length := by
        rw [dpa_length ha]
        have key : ∀ (is : List Nat) (ds : List PyData) (Γ : G), putL is ds Γ = some Γ' → ds.length = is.length := by
          intro is
          induction is with
          | nil => intro ds Γ e; cases ds with
            | nil => rfl
            | cons _ _ => cases e
          | cons i is ih => intro ds Γ e; cases ds with
            | nil => cases e
            | cons d ds => rw [List.length_cons, List.length_cons, ih ds _ e]
        exact key is ds Γ e'
      exact ⟨a, xs, rfl, hs, hl, gNames_ok is ds xs σ Γ Γ' ha e' k⟩
    | _ => cases e

/-! ### what a for or a comprehension walks -/
def DWalk (K : PySem.W.Frag) (R : Hp → Hp → Prop) (H : Hp) (J : It) (ys : List PyData) : Prop := ∃ (Gd : Hp → Prop) (Y : Nat → Hp → V → Hp → Prop), Walk J ys.length Gd Y ∧ Gd H ∧ (∀ H1 H2, Gd H1 → R H1 H2 → Gd H2) ∧
  ∀ i H1 x H2, i < ys.length → Gd H1 → Y i H1 x H2 → Same H1 H2 ∧ Gd H2 ∧ ∃ d, ys[i]? = some d ∧ Dp K H2 x d
def tXI (K : PySem.W.Frag) (R : Hp → Hp → Prop) (Γ : G) (ys : List PyData) : TI := fun σ H k => (∃ Hb H0, EnvOk K Hb H0 H σ Γ) ∧ ∀ J H', Same H H' → DWalk K R H' J ys → k J H'
abbrev XI (X : Cx) (R : Hp → Hp → Prop) (tg iter : Expr) (Γ : G) (ys : List PyData) : Prop := PI X tg iter (tXI X.K R Γ ys)
theorem pi_imp {X : Cx} {tg e : Expr} {t t' : TI} (h : PI X tg e t) (i : ∀ σ H Q, t' σ H Q → t σ H Q) : PI X tg e t' := ⟨fun pins s σ H Q I q => h.run pins s σ H Q I (i σ H Q q)⟩
theorem DWalk.weak {K : PySem.W.Frag} {R R' : Hp → Hp → Prop} {H : Hp} {J : It} {ys : List PyData} (h : DWalk K R H J ys) (i : ∀ a b, R' a b → R a b) : DWalk K R' H J ys := by
  obtain ⟨Gd, Y, w, g, st, y⟩ := h
  exact ⟨Gd, Y, w, g, fun H1 H2 q r => st H1 H2 q (i _ _ r), y⟩
theorem xi_same {X : Cx} {tg iter : Expr} {Γ : G} {ys : List PyData} (h : XI X (KeepT X.K) tg iter Γ ys) : XI X Same tg iter Γ ys :=
  pi_imp h fun σ H Q ⟨E, k⟩ => ⟨E, fun J H' s w => k J H' s (w.weak fun _ _ => KeepT.of)⟩
section
variable {X : Cx} {Γ : G} {a b c e tg : Expr} {es : List Expr} {p pos : Pos} {ds ds2 : List PyData}
theorem xi_tup (h : XE X e Γ (.tuple ds)) (pu : pureAll ds = true) : XI X (KeepT X.K) tg e Γ ds :=
  pi_imp (pi_tup h) fun σ H Q ⟨E, k⟩ => ⟨E, fun v H1 s1 q1 => by
    cases q1 with
    | @tup q xs _ hs ha =>
      refine ⟨q, rfl, ⟨xs, hs⟩, k _ H1 s1 ⟨fun H' => SqT X.K H' q xs ∧ DpAll X.K H' xs ds, YAt xs, ?_, ⟨hs, ha⟩, fun H1 H2 g r => ⟨r _ _ g.1, dpAll_keep r _ _ pu g.2⟩, ?_⟩⟩
      · rw [← dpa_length ha]
        exact (walk_tup (K := X.K) (a := q) (xs := xs)).mono (fun H' g => g.1) fun _ _ _ _ _ _ y => y
      · rintro i H1 x H2 hi g ⟨rfl, hx⟩
        obtain ⟨d, h1, h2⟩ := dpa_getV g.2 hx
        exact ⟨Same.refl _, g, d, h1, h2⟩⟩
theorem xi_list (h : XE X e Γ (.list ds)) : XI X Same tg e Γ ds :=
  pi_imp (pi_list h) fun σ H Q ⟨E, k⟩ => ⟨E, fun v H1 s1 q1 => by
    cases q1 with
    | @lst q xs _ hs ha =>
      refine ⟨q, rfl, ⟨xs, hs⟩, k _ H1 s1 ⟨fun H' => SqL X.K H' q xs ∧ DpAll X.K H' xs ds, YAt xs, ?_, ⟨hs, ha⟩, fun H1 H2 g r => ⟨r.seq g.1, dpAll_mono r _ _ g.2⟩, ?_⟩⟩
      · rw [← dpa_length ha]
        exact (walk_list (K := X.K) (a := q) (xs := xs)).mono (fun H' g => g.1) fun _ _ _ _ _ _ y => y
      · rintro i H1 x H2 hi g ⟨rfl, hx⟩
        obtain ⟨d, h1, h2⟩ := dpa_getV g.2 hx
        exact ⟨Same.refl _, g, d, h1, h2⟩⟩
/-- the ints lo, lo + c, .. -/
def stepsD (lo c : Int) (n : Nat) : List PyData := (List.range n).map fun i => .int (lo + (i : Nat) * c)
theorem dwalk_c {K : PySem.W.Frag} {R : Hp → Hp → Prop} {H : Hp} {J : It} {lo c : Int} {n : Nat} {Y : Nat → Hp → V → Hp → Prop} (w : Walk J n (fun _ => True) Y) (hy : ∀ i H1 x H2, i < n → Y i H1 x H2 → H2 = H1 ∧ x = .int (lo + (i : Nat) * c)) : DWalk K R H J (stepsD lo c n) := by
  have hl : (stepsD lo c n).length = n := by unfold stepsD; rw [List.length_map, List.length_range]
  refine ⟨fun _ => True, Y, by rw [hl]; exact w, trivial, fun _ _ _ _ => trivial, fun i H1 x H2 hi _ y => ?_⟩
  rw [hl] at hi
  obtain ⟨rfl, rfl⟩ := hy i H1 x H2 hi y
  refine ⟨Same.refl _, trivial, _, ?_, .int _⟩
  unfold stepsD
  rw [List.getElem?_map, List.getElem?_range hi]
  rfl
theorem xi_range1 {n : Int} (hm : X.mg "range" = none) (ha : XE X a Γ (.int n)) (hn : -(2 ^ 62) ≤ n ∧ n < 2 ^ 62) (hg : Gl X "range" := by rfl) (hs : starEach [a] X.env = [(false, eval a X.env)] := by rfl) : XI X (KeepT X.K) tg (.Call (.Name "range" p) [a] [] pos) Γ (stepsD 0 1 n.toNat) :=
  pi_imp (pi_range1 hg hm (xa_cons ha xa_nil hs) hs) fun σ H Q ⟨E, k⟩ => ⟨E, fun vs H1 s1 q1 => by
    cases q1 with
    | cons h1 h2 =>
      cases h2
      cases h1
      exact ⟨n, rfl, hn.1, hn.2, k _ H1 s1 (dwalk_c walk_range fun i H1 x H2 _ y => ⟨y.1, by rw [y.2, Int.mul_one]⟩)⟩⟩
theorem xi_range2 {m n : Int} (hm : X.mg "range" = none) (ha : XE X a Γ (.int m)) (hb : XE X b Γ (.int n)) (hn : -(2 ^ 62) ≤ m ∧ m < 2 ^ 62 ∧ -(2 ^ 62) ≤ n ∧ n < 2 ^ 62) (hg : Gl X "range" := by rfl) (hs : starEach [a, b] X.env = [(false, eval a X.env), (false, eval b X.env)] := by rfl) (hs2 : starEach [b] X.env = [(false, eval b X.env)] := by rfl) :
    XI X (KeepT X.K) tg (.Call (.Name "range" p) [a, b] [] pos) Γ (stepsD m 1 (n - m).toNat) :=
  pi_imp (pi_range2 hg hm (xa_cons ha (xa_cons hb xa_nil hs2) (by rw [hs, hs2])) hs hs2) fun σ H Q ⟨E, k⟩ => ⟨E, fun vs H1 s1 q1 => by
    cases q1 with
    | cons h1 h2 =>
      cases h2 with
      | cons h2 h3 =>
        cases h3
        cases h1
        cases h2
        exact ⟨m, n, rfl, hn, k _ H1 s1 (dwalk_c walk_range fun i H1 x H2 _ y => ⟨y.1, by rw [y.2, Int.mul_one]⟩)⟩⟩
theorem xi_range3 {m n : Int} (hn : -(2 ^ 62) ≤ m ∧ m < 2 ^ 62 ∧ -(2 ^ 62) ≤ n ∧ n < 2 ^ 62) (ha : XA X [a, b, c] Γ [.int m, .int n, .int (-1)]) (hs : PI X tg (.Call (.Name "range" p) [a, b, c] [] pos) (iRng3 (tXA X.K Γ [.int m, .int n, .int (-1)]))) :
    XI X (KeepT X.K) tg (.Call (.Name "range" p) [a, b, c] [] pos) Γ (stepsD m (-1) (m - n).toNat) :=
  pi_imp hs fun σ H Q ⟨E, k⟩ => ⟨E, fun vs H1 s1 q1 => by
    cases q1 with
    | cons h1 h2 =>
      cases h2 with
      | cons h2 h3 =>
        cases h3 with
        | cons h3 h4 =>
          cases h4
          cases h1
          cases h2
          cases h3
          exact ⟨m, n, -1, _, rfl, RgC.neg hn.1 hn.2.1 hn.2.2.1 hn.2.2.2, k _ H1 s1 (dwalk_c walk_rangeC fun i H1 x H2 _ y => y)⟩⟩
/-- zip of two tuples -/
def zipD (ds ds2 : List PyData) : List PyData := List.zipWith (fun u y => .tuple [u, y]) ds ds2
theorem walk_zipTu {K : PySem.W.Frag} {a b : Addr} {xs ys : List V} {n : Nat} (hn : n = min xs.length ys.length) : Walk (RZ.ItzT K a b) n (fun H => SqT K H a xs ∧ SqT K H b ys) (YPair (fun j => xs[j]?) (fun j => ys[j]?)) := by
  subst hn
  refine ⟨fun j _ hi p => ?_, fun _ p => ⟨xs, ys, p.1, p.2, by omega⟩, fun j H v H' _ p y => ?_⟩
  · have l1 : j < xs.length := by omega
    have l2 : j < ys.length := by omega
    exact ⟨xs, ys, xs[j], ys[j], p.1, p.2, by simp [l1], by simp [l2]⟩
  · obtain ⟨T, u, v1, l1, l2, h3, h4, h5⟩ := y
    exact ⟨T, u, v1, l1, l2, h3, h4 xs p.1, h5 ys p.2⟩
theorem xi_zipT {elts : List Expr} {kk : Nat} {tpos : Pos} (hm : X.mg "zip" = none) (ha : XE X a Γ (.tuple ds)) (hb : XE X b Γ (.tuple ds2)) (pu : pureAll ds = true) (pu2 : pureAll ds2 = true) (hg : Gl X "zip" := by rfl)
    (hs : starEach [a, b] X.env = (false, eval a X.env) :: starEach [b] X.env := by rfl) (hs2 : starEach [b] X.env = (false, eval b X.env) :: starEach [] X.env := by rfl) (hpl : (backTo pos (starEach [b] X.env)).any (·.1) = false := by rfl) :
    XI X (KeepT X.K) (.Tuple elts kk tpos) (.Call (.Name "zip" p) [a, b] [] pos) Γ (zipD ds ds2) :=
  pi_imp (RZ.pi_zipA hg hm (xa_cons ha (xa_cons hb xa_nil hs2) hs) hs hpl) fun σ H Q ⟨E, k⟩ => ⟨E, fun vs H1 s1 q1 => by
    cases q1 with
    | cons h1 h2 =>
      cases h2 with
      | cons h2 h3 =>
        cases h3
        cases h1 with
        | @tup q xs _ hs1 ha1 =>
          cases h2 with
          | @tup r ys _ hs2 ha2 =>
            have hl : (zipD ds ds2).length = min xs.length ys.length := by unfold zipD; rw [List.length_zipWith, dpa_length ha1, dpa_length ha2]
            refine ⟨q, r, xs, ys, rfl, .inr ⟨hs1, hs2, k _ H1 s1 ⟨fun H' => (SqT X.K H' q xs ∧ SqT X.K H' r ys) ∧ DpAll X.K H' xs ds ∧ DpAll X.K H' ys ds2, _, (walk_zipTu (K := X.K) (a := q) (b := r) (xs := xs) (ys := ys) hl).mono (fun _ g => g.1) fun _ _ _ _ _ _ y => y, ⟨⟨hs1, hs2⟩, ha1, ha2⟩,
              fun H1 H2 g k => ⟨⟨k _ _ g.1.1, k _ _ g.1.2⟩, dpAll_keep k _ _ pu g.2.1, dpAll_keep k _ _ pu2 g.2.2⟩, ?_⟩⟩⟩
            rintro i H1 x H2 hi g ⟨T, y, z, rfl, hT, rfl, hy, hz⟩
            have s4 : Same H1 (upd H1 T (.tup [y, z])) := fun b o z => by rw [upd_ne (ne_of_none z hT)]; exact z
            obtain ⟨d, e1, e2⟩ := dpa_getV g.2.1 hy
            obtain ⟨d', e1', e2'⟩ := dpa_getV g.2.2 hz
            refine ⟨s4, ⟨⟨seqT_mono s4 g.1.1, seqT_mono s4 g.1.2⟩, dpAll_mono s4 _ _ g.2.1, dpAll_mono s4 _ _ g.2.2⟩, .tuple [d, d'], ?_, .tup (SqT.of upd_same) (.cons (dp_mono s4 _ _ e2) (.cons (dp_mono s4 _ _ e2') .nil))⟩
            unfold zipD
            rw [List.getElem?_zipWith, e1, e1']⟩
end

/-! ### a comprehension -/
section
variable {X : Cx} {Γ : G} {tg iter elt : Expr} {ifs : List Expr} {scope : Scope} {own : List (Str × Nat)} {pos : Pos} {ys : List PyData}
/-- the reading of an expression in a block, whatever its slots hold -/
def semE (X : Cx) (scope : Scope) (e : Expr) : TE := fun σ H Q => ∃ Γ d, (∀ (s : Shared) (H : Hp) (C : Addr) (cl : List (Str × Addr)) (fp : List Addr), XE (X.blk s H scope (compEnvC scope cl C X.env) fp) e Γ d) ∧ tX X.K Γ d σ H Q
def semTs (X : Cx) (scope : Scope) (es : List Expr) : TT := fun σ H Q => ∃ Γ b, (∀ (s : Shared) (H : Hp) (C : Addr) (cl : List (Str × Addr)) (fp : List Addr), PTs (X.blk s H scope (compEnvC scope cl C X.env) fp) es (tXT X.K Γ b)) ∧ tXT X.K Γ b σ H Q
/-- what the turns give -/
def givenD (n : Nat) (f : Nat → Bool) (r : Nat → PyData) : List PyData := ((List.range n).filter f).map r
theorem givenD_yes {n : Nat} {f : Nat → Bool} {v : Nat → PyData} (h : f n = true) : givenD (n + 1) f v = givenD n f v ++ [v n] := by
  unfold givenD
  rw [List.range_succ]
  rw [List.filter_append, List.map_append, List.filter_cons, if_pos h] <;> rfl
theorem givenD_no {n : Nat} {f : Nat → Bool} {v : Nat → PyData} (h : f n = false) : givenD (n + 1) f v = givenD n f v := by
  unfold givenD
  rw [List.range_succ]
  rw [List.filter_append, List.map_append, List.filter_cons, if_neg (by rw [h]; decide)]
  show _ ++ [] = _
  rw [List.append_nil]
theorem givenD_len (n : Nat) (f : Nat → Bool) (v : Nat → PyData) : (givenD n f v).length ≤ n := by
  unfold givenD
  rw [List.length_map]
  have h :=
    List.length_filter_le f (List.range n)
  rw [List.length_range] at h
  exact h
theorem lc_data (f : Nat → Bool) (r : Nat → PyData) (t : Tg) (hsl : ∀ i ∈ t.slots, i ∈ own.map (·.2)) (hlen : ys.length ≤ 1000000)
    (turn : ∀ i y, ys[i]? = some y → ∃ Γ', t.put y (wipeG Γ (own.map (·.2))) = some Γ' ∧ (∀ (s : Shared) (H : Hp) (C : Addr) (cl : List (Str × Addr)) (fp : List Addr), PTs (X.blk s H scope (compEnvC scope cl C X.env) fp) ifs (tXT X.K Γ' (f i))) ∧ (f i = true → (∀ (s : Shared) (H : Hp) (C : Addr) (cl : List (Str × Addr)) (fp : List Addr), XE (X.blk s H scope (compEnvC scope cl C X.env) fp) elt Γ' (r i)) ∧ pureD (r i) = true))
    (σ : St) (H : Hp) (Q : VK) (hq : tXF X.K Γ (givenD ys.length f r) σ H Q) : tLc (tXI X.K Same Γ ys) (gT X.K t) (semTs X scope ifs) (semE X scope elt) (own.map (·.2)) σ H Q := by
  obtain ⟨⟨Hb, H0, E⟩, k⟩ := hq
  refine ⟨⟨Hb, H0, E⟩, fun J H1 s1 hw D hD => ?_⟩
  obtain ⟨Gd, Y, w, g, st, yd⟩ := hw
  have hD0 : H D = none := s1.free hD
  have E1 := E.mono s1
  refine lc_it w (fun i H2 => Same H1 H2 ∧ ∃ acc, H2 D = some (.lst acc) ∧ DpAll X.K H2 acc (givenD i f r)) ⟨fun b o z => by rw [upd_ne (ne_of_none z hD)]; exact z, [], upd_same, .nil⟩ (fun i H2 _ p => st _ _ g p.1) ?_ ?_
  · rintro i x H2 H3 hi ⟨sm, acc, hacc, hall⟩ y
    have gd := st _ _ g sm
    obtain ⟨s3, g3, d, hd, dx⟩ := yd i H2 x H3 hi gd y
    obtain ⟨Γ', hput, ht, he⟩ := turn i d hd
    refine gT_ok t dx hput fun σ' oa EE => ⟨?_, ?_⟩
    · rw [onlyAt_wipe oa hsl]
      exact wipe_twice σ _
    · have E3 : EnvOk X.K Hb H0 H3 σ' Γ' := EE Hb H0 ((E1.mono (sm.trans s3)).wipe _)
      refine ⟨Γ', f i, ht, ⟨Hb, H0, E3⟩, fun H4 s4 => ?_⟩
      have h4 : H4 D = some (.lst acc) := s4 _ _ (s3 _ _ hacc)
      have a4 : DpAll X.K H4 acc (givenD i f r) := dpAll_mono (s3.trans s4) _ _ hall
      cases hf : f i with
      | false =>
        refine iteF ⟨(sm.trans s3).trans s4, acc, h4, ?_⟩
        rw [givenD_no hf]
        exact a4
      | true =>
        refine iteT ?_
        obtain ⟨he, pu⟩ := he hf
        refine ⟨Γ', r i, he, ⟨Hb, H0, E3.mono s4⟩, fun v H5 s5 q5 => ⟨acc, s5 _ _ h4, ?_, ?_, ?_⟩⟩
        · rw [dpa_length hall]
          have := givenD_len i f r
          have hs : (1000000 : Nat) < sizeLine := by decide
          omega
        · intro b o z
          rw [upd_ne (ne_of_none z hD)]
          exact (((sm.trans s3).trans s4).trans s5) b o z
        · refine ⟨_, upd_same, ?_⟩
          rw [givenD_yes hf]
          have kt : KeepT X.K H5 (upd H5 D (.lst (acc ++ [v]))) := KeepT.upd (s5 _ _ h4)
          have pall : pureAll (givenD i f r) = true := by
            apply pureAll_of
            intro d hd
            unfold givenD at hd
            obtain ⟨j, hj, rfl⟩ := List.mem_map.mp hd
            obtain ⟨hj1, hj2⟩ := List.mem_filter.mp hj
            have hj3 : j < i := List.mem_range.mp hj1
            obtain ⟨_, _, _, hej⟩ := turn j ys[j] (List.getElem?_eq_getElem (by omega))
            exact (hej hj2).2
          exact dpa_append (dpAll_keep kt _ _ pall (dpAll_mono s5 _ _ a4)) (.cons (dp_keep kt _ _ pu q5) .nil)
  · rintro H2 ⟨sm, acc, hacc, hall⟩
    exact k D acc H2 hD0 (s1.trans sm) hacc hall
theorem xf_lc (f : Nat → Bool) (r : Nat → PyData) (t : Tg) (hc : X.calm = true) (hN : X.N.Nodup) (hi : XI X Same tg iter Γ ys) (ok : BlkOk X.N X.env.scope scope own) (hg : ∀ (s : Shared) (H : Hp) (C : Addr) (cl : List (Str × Addr)) (fp : List Addr), PG (X.blk s H scope (compEnvC scope cl C X.env) fp) tg (gT X.K t))
    (hsl : ∀ i ∈ t.slots, i ∈ own.map (·.2)) (hlen : ys.length ≤ 1000000)
    (turn : ∀ i y, ys[i]? = some y → ∃ Γ', t.put y (wipeG Γ (own.map (·.2))) = some Γ' ∧ (∀ (s : Shared) (H : Hp) (C : Addr) (cl : List (Str × Addr)) (fp : List Addr), PTs (X.blk s H scope (compEnvC scope cl C X.env) fp) ifs (tXT X.K Γ' (f i))) ∧ (f i = true → (∀ (s : Shared) (H : Hp) (C : Addr) (cl : List (Str × Addr)) (fp : List Addr), XE (X.blk s H scope (compEnvC scope cl C X.env) fp) elt Γ' (r i)) ∧ pureD (r i) = true))
    (hs : ∀ x, foldedSetIterable iter X.env x = pure x := by intro _; rfl) : XF X (.ListComp elt [⟨tg, iter, ifs, 0⟩] scope pos) Γ (givenD ys.length f r) := by
  refine pe_imp (pe_lc (te := semE X scope elt) (tt := semTs X scope ifs) hc hN hi ok hg (fun s H C cl fp => ?_) (fun s H C cl fp => ?_) hs) fun σ H Q q => lc_data f r t hsl hlen turn σ H Q q
  · refine ⟨fun pins s1 σ H1 Q I h => ?_⟩
    obtain ⟨Γ', b, hb, q⟩ := h
    exact (hb s H C cl fp).run pins s1 σ H1 Q I q
  · refine ⟨fun pins s1 σ H1 Q I h => ?_⟩
    obtain ⟨Γ', d, hb, q⟩ := h
    exact (hb s H C cl fp).run pins s1 σ H1 Q I q
/-- no test -/
theorem pts_yes {X : Cx} {Γ : G} : PTs X [] (tXT X.K Γ true) := ⟨fun pins s σ H Q I h => pts_nil.run pins s σ H Q I (h.2 H (Same.refl H))⟩
end
end TC
namespace TC
open PySem L2

/-- what a def hands back: data, or a list of its own -/
inductive Rk where
  | d (x : PyData)
  | l (xs : List PyData)
  | w (C : Addr) (fs : List (Str × PyData))
  | v (F : Hp → V → Prop)
  | x (s : Str)
/-- an instance whose attributes hold data -/
def InsAt (K : PySem.W.Frag) (H : Hp) (q C : Addr) (fs : List (Str × PyData)) : Prop := ∃ dx vs, H q = some (.ins C dx vs) ∧ FldsD K H vs fs
/-- what is wanted where a def ends -/
structure RT (K : PySem.W.Frag) (Hb : Bs) (R : Rk → G → Prop) (rt : VK) : Prop where
  d : ∀ Γ' σ' v d H' H0', EnvOk K Hb H0' H' σ' Γ' → Dp K H' v d → R (.d d) Γ' → rt v H'
  l : ∀ Γ' σ' p vs ds H' H0', EnvOk K Hb H0' H' σ' Γ' → H0' p = none → H' p = some (.lst vs) → DpAll K H' vs ds → R (.l ds) Γ' → rt (.ref p) H'
  w : ∀ Γ' σ' q C fs H' H0', EnvOk K Hb H0' H' σ' Γ' → H0' q = none → InsAt K H' q C fs → R (.w C fs) Γ' → rt (.ref q) H'
  v : ∀ Γ' σ' v F H' H0', EnvOk K Hb H0' H' σ' Γ' → F H' v → R (.v F) Γ' → rt v H'
  x : ∀ Γ' σ' s d H' H0', EnvOk K Hb H0' H' σ' Γ' → H' d = some (.xd [("reason", .str s)]) → R (.x s) Γ' → Hb.E (.ref Hb.DF) (some d) H'
def tS (K : PySem.W.Frag) (Hb : Bs) (Γ : G) (N : G → Prop) (R : Rk → G → Prop) : TS := fun D σ H => (∃ H0, EnvOk K Hb H0 H σ Γ) ∧
  (∀ Γ' σ' H' H0', KeepT K H H' → EnvOk K Hb H0' H' σ' Γ' → N Γ' → D.nx σ' H') ∧ RT K Hb R D.rt
/-- a statement, a block: from Γ it comes to some Γ' of N, or returns what R tells -/
abbrev XS (X : Cx) (Hb : Bs) (st : Stmt) (Γ : G) (N : G → Prop) (R : Rk → G → Prop) : Prop := PS X st (tS X.K Hb Γ N R)
abbrev XSs (X : Cx) (Hb : Bs) (st : List Stmt) (Γ : G) (N : G → Prop) (R : Rk → G → Prop) : Prop := PSs X st (tS X.K Hb Γ N R)
def semS (X : Cx) (Hb : Bs) (st : List Stmt) : TS := fun D σ H => ∃ Γ N R, XSs X Hb st Γ N R ∧ tS X.K Hb Γ N R D σ H
theorem pss_sem {X : Cx} {Hb : Bs} {st : List Stmt} : PSs X st (semS X Hb st) := ⟨fun pins s σ H D I h => by
  obtain ⟨Γ, N, R, hb, q⟩ := h
  exact hb.run pins s σ H D I q⟩
/-- .. started at another heap, its tuples kept -/
theorem tS_on {K : PySem.W.Frag} {Hb : Bs} {H H1 : Hp} {Γ Γ' : G} {N N' : G → Prop} {R : Rk → G → Prop} {D : Ends} {σ σ1 : St} {nx : St → Hp → Prop} (q : tS K Hb Γ N R D σ H) (k : KeepT K H H1) (E : ∃ H0, EnvOk K Hb H0 H1 σ1 Γ')
    (h : ∀ Γ2 σ2 H2 H0, KeepT K H H2 → EnvOk K Hb H0 H2 σ2 Γ2 → N' Γ2 → nx σ2 H2) : tS K Hb Γ' N' R { D with nx := nx } σ1 H1 :=
  ⟨E, fun Γ2 σ2 H2 H0 k2 e n => h Γ2 σ2 H2 H0 (k.trans k2) e n, q.2.2⟩
theorem tS_to {K : PySem.W.Frag} {Hb : Bs} {H H1 : Hp} {Γ Γ' : G} {N : G → Prop} {R : Rk → G → Prop} {D : Ends} {σ σ1 : St} (q : tS K Hb Γ N R D σ H) (k : KeepT K H H1) (E : ∃ H0, EnvOk K Hb H0 H1 σ1 Γ') : tS K Hb Γ' N R D σ1 H1 :=
  ⟨E, fun Γ2 σ2 H2 H0 k2 e n => q.2.1 Γ2 σ2 H2 H0 (k.trans k2) e n, q.2.2⟩
theorem EnvOk.forget {K : PySem.W.Frag} {Hb : Bs} {H0 H : Hp} {σ : St} {Γ : G} (e : EnvOk K Hb H0 H σ Γ) (i : Nat) : EnvOk K Hb H0 H σ (Γ.set i .n) :=
  ⟨e.sb, e.s0, by rw [List.length_set]; exact e.ln, fun j g hj => by
    rcases getElem?_set_cases hj with ⟨rfl, rfl⟩ | ⟨ne, hj⟩
    · have hl : j < Γ.length := by
        have := (List.getElem?_eq_some_iff.mp hj).1
        rw [List.length_set] at this
        exact this
      obtain ⟨ov, h1, _⟩ := e.sl j _ (List.getElem?_eq_getElem hl)
      exact ⟨ov, h1, trivial⟩
    · exact e.sl j g hj⟩

section
variable {X : Cx} {Hb : Bs} {Γ : G} {N N' : G → Prop} {R : Rk → G → Prop} {st : Stmt} {rest sts : List Stmt} {a b c e : Expr} {es : List Expr} {p pos pos' : Pos} {d d1 d2 : PyData} {ds : List PyData}
theorem xs_nx (h : XS X Hb st Γ N R) (k : ∀ Γ', N Γ' → N' Γ') : XS X Hb st Γ N' R := ps_imp h fun D σ H q => ⟨q.1, fun Γ' σ' H' H0 k1 e n => q.2.1 Γ' σ' H' H0 k1 e (k _ n), q.2.2⟩
theorem xss_nx (h : XSs X Hb sts Γ N R) (k : ∀ Γ', N Γ' → N' Γ') : XSs X Hb sts Γ N' R := pss_imp h fun D σ H q => ⟨q.1, fun Γ' σ' H' H0 k1 e n => q.2.1 Γ' σ' H' H0 k1 e (k _ n), q.2.2⟩
/-- slots forgotten ahead -/
theorem xss_weak {Γ2 : G} (h : XSs X Hb sts Γ2 N R) (k : ∀ H0 H σ, EnvOk X.K Hb H0 H σ Γ → EnvOk X.K Hb H0 H σ Γ2) : XSs X Hb sts Γ N R := pss_imp h fun D σ H q => tS_to q (KeepT.refl H) (by
  obtain ⟨H0, E⟩ := q.1
  exact ⟨H0, k _ _ _ E⟩)
theorem xss_nil (h : N Γ) : XSs X Hb [] Γ N R := pss_imp pss_nil fun D σ H q => by
  obtain ⟨⟨H0, E⟩, n, _⟩ := q
  exact n Γ σ H H0 (KeepT.refl H) E h
theorem xss_cons (h : XS X Hb st Γ (fun Γ' => XSs X Hb rest Γ' N R) R) : XSs X Hb (st :: rest) Γ N R :=
  pss_imp (pss_cons h (pss_sem (Hb := Hb))) fun D σ H q => tS_on q (KeepT.refl H) q.1 fun Γ2 σ2 H2 H0 k e n => ⟨Γ2, N, R, n, tS_to q k ⟨H0, e⟩⟩
theorem xss_one (h : XS X Hb st Γ N R) : XSs X Hb [st] Γ N R := pss_one h
/-- x = e -/
theorem xs_set (i : Nat) {x : Str} (he : XE X e Γ d) (h : N (Γ.set i (.c d))) (hN : X.N.Nodup) (hi : X.N[i]? = some x := by rfl) (hx : Loc X.env.scope x := by first | exact Or.inl rfl | exact Or.inr rfl) (hs : swapsWith e (some (.Name x pos')) pos.line X.env = pure false := by rfl)
    (hf : X.fn x = true ∨ X.env.scope.names.lookup x = some .local := by first | exact .inl rfl | exact .inr rfl) : XS X Hb (.Assign [.Name x pos'] e pos) Γ N R :=
  ps_imp (ps_set hN hi hx he hs hf) fun D σ H q => by
    obtain ⟨H0, E⟩ := q.1
    exact ⟨⟨Hb, H0, E⟩, fun v H1 s1 q1 => q.2.1 _ _ H1 H0 (KeepT.of s1) ((E.mono s1).store (g := .c d) ⟨v, rfl, q1⟩) h⟩
/-- x = (a new list), from then on an own one -/
theorem xs_setF (i : Nat) {x : Str} (he : XF X e Γ ds) (hn : noOwn (Γ.set i .n) = true) (hp : pureAll ds = true) (h : N (((Γ.set i .n).map rebase).set i (.o ds))) (hN : X.N.Nodup) (hi : X.N[i]? = some x := by rfl) (hx : Loc X.env.scope x := by first | exact Or.inl rfl | exact Or.inr rfl) (hs : swapsWith e (some (.Name x pos')) pos.line X.env = pure false := by rfl)
    (hf : X.fn x = true ∨ X.env.scope.names.lookup x = some .local := by first | exact .inl rfl | exact .inr rfl) : XS X Hb (.Assign [.Name x pos'] e pos) Γ N R :=
  ps_imp (ps_set hN hi hx he hs hf) fun D σ H q => by
    obtain ⟨H0, E⟩ := q.1
    exact ⟨⟨Hb, H0, E⟩, fun l vs H1 n1 s1 e1 q1 => q.2.1 _ _ H1 H (KeepT.of s1) ((((E.forget i).rebase hn).mono s1).store (g := .o ds) ⟨l, vs, rfl, n1, e1, q1, hp⟩) h⟩
/-- a, b = e -/
theorem xs_asg (t : Tg) {tg : Expr} (he : XE X e Γ d) (hg : PG X tg (gT X.K t)) (hp : ∃ Γ', t.put d Γ = some Γ' ∧ N Γ') (hs : swapsWithSole [tg] e pos.line X.env = pure false := by rfl) (hw : swappedStores [tg] e X.env = pure none := by rfl)
    (h1 : (assignEach [tg] X.env).map (·.2) = [assign tg X.env] := by rfl) : XS X Hb (.Assign [tg] e pos) Γ N R :=
  ps_imp (ps_asg he hg hs hw h1) fun D σ H q => by
    obtain ⟨H0, E⟩ := q.1
    obtain ⟨Γ', hput, hN⟩ := hp
    exact ⟨⟨Hb, H0, E⟩, fun v H1 s1 q1 => gT_ok t q1 hput fun σ' _ EE => q.2.1 _ _ H1 H0 (KeepT.of s1) (EE _ _ (E.mono s1)) hN⟩
/-- x += e (ints) -/
theorem xs_augI (i : Nat) {x : Str} {m n : Int} (hl : look Γ i = some (.int m)) (he : XE X e Γ (.int n)) (h : N (Γ.set i (.c (.int (m + n))))) (hN : X.N.Nodup) (hi : X.N[i]? = some x := by rfl) (hx : Loc X.env.scope x := by first | exact Or.inl rfl | exact Or.inr rfl)
    (hf : X.fn x = true ∨ X.env.scope.names.lookup x = some .local := by first | exact .inl rfl | exact .inr rfl) : XS X Hb (.AugAssign (.Name x pos') .Add e pos) Γ N R :=
  ps_imp (ps_aug hN hi hx he ip_add hf) fun D σ H q => by
    obtain ⟨H0, E⟩ := q.1
    obtain ⟨v, h1, h2⟩ := E.look hl
    cases h2
    refine ⟨_, h1, ⟨Hb, H0, E⟩, fun v H1 s1 q1 => ?_⟩
    cases q1
    exact ⟨m, n, rfl, rfl, q.2.1 _ _ H1 H0 (KeepT.of s1) ((E.mono s1).store (g := .c (.int (m + n))) ⟨_, rfl, .int _⟩) h⟩
theorem xs_ret (he : XE X e Γ d) (h : R (.d d) Γ) : XS X Hb (.Return (some e) pos) Γ N R :=
  ps_imp (ps_ret he) fun D σ H q => by
    obtain ⟨H0, E⟩ := q.1
    exact ⟨⟨Hb, H0, E⟩, fun v H1 s1 q1 => q.2.2.d Γ σ v d H1 H0 (E.mono s1) q1 h⟩
theorem xs_retF (he : XF X e Γ ds) (h : R (.l ds) Γ) : XS X Hb (.Return (some e) pos) Γ N R :=
  ps_imp (ps_ret he) fun D σ H q => by
    obtain ⟨H0, E⟩ := q.1
    exact ⟨⟨Hb, H0, E⟩, fun l vs H1 n1 s1 e1 q1 => q.2.2.l Γ σ l vs ds H1 H0 (E.mono s1) (E.s0.free n1) e1 q1 h⟩
/-- return x, x an own list -/
theorem xs_retO (i : Nat) {x : Str} (hl : Γ[i]? = some (.o ds)) (h : R (.l ds) Γ) (hN : X.N[i]? = some x := by rfl) (hv : Vis X.env.scope x := by first | exact Or.inl rfl | exact Or.inr (Or.inl rfl) | exact Or.inr (Or.inr rfl)) (hd : (x == ("__debug__" : Str)) = false := by decide)
    (hcd : (x == ("__classdict__" : Str)) = false := by decide) : XS X Hb (.Return (some (.Name x p)) pos) Γ N R :=
  ps_imp (ps_ret (pv i hN hv hd hcd)) fun D σ H q => by
    obtain ⟨H0, E⟩ := q.1
    obtain ⟨ov, h1, l, vs, rfl, n0, e1, q1, _⟩ := E.sl i _ hl
    exact ⟨_, h1, q.2.2.l Γ σ l vs ds H H0 E n0 e1 q1 h⟩
theorem xs_retN (h : R (.d .none) Γ) : XS X Hb (.Return none pos) Γ N R :=
  ps_imp ps_retN fun D σ H q => by
    obtain ⟨H0, E⟩ := q.1
    exact q.2.2.d Γ σ .non .none H H0 E .non h
theorem xs_if {k : Bool} {tb fb : List Stmt} (hc : XT X c Γ k) (ht : k = true → XSs X Hb tb Γ N R) (hf : k = false → XSs X Hb fb Γ N R) : XS X Hb (.If c tb fb pos) Γ N R := by
  cases k with
  | true =>
    refine ps_imp (ps_if hc (ht rfl) pss_never) fun D σ H q => ?_
    obtain ⟨H0, E⟩ := q.1
    exact ⟨⟨Hb, H0, E⟩, fun H1 s1 => iteT (tS_to q (KeepT.of s1) ⟨H0, E.mono s1⟩)⟩
  | false =>
    refine ps_imp (ps_if hc pss_never (hf rfl)) fun D σ H q => ?_
    obtain ⟨H0, E⟩ := q.1
    exact ⟨⟨Hb, H0, E⟩, fun H1 s1 => iteF (tS_to q (KeepT.of s1) ⟨H0, E.mono s1⟩)⟩
theorem xs_ifT {k : Bool} {tb fb : List Stmt} (hc : XT X c Γ k) (hk : k = true) (ht : XSs X Hb tb Γ N R) : XS X Hb (.If c tb fb pos) Γ N R := xs_if hc (fun _ => ht) fun z => by rw [hk] at z; cases z
theorem xs_ifF {k : Bool} {tb fb : List Stmt} (hc : XT X c Γ k) (hk : k = false) (hf : XSs X Hb fb Γ N R) : XS X Hb (.If c tb fb pos) Γ N R := xs_if hc (fun z => by rw [hk] at z; cases z) fun _ => hf
theorem xs_expr (he : XE X e Γ d) (h : N Γ) (hs : swapsWith e none pos.line X.env = pure false := by rfl) : XS X Hb (.Expr e pos) Γ N R :=
  ps_imp (ps_expr he hs) fun D σ H q => by
    obtain ⟨H0, E⟩ := q.1
    exact ⟨⟨Hb, H0, E⟩, fun v H1 s1 _ => q.2.1 _ _ H1 H0 (KeepT.of s1) (E.mono s1) h⟩
/-- x.append(e), x an own list -/
theorem xs_append (i : Nat) {x : Str} {apos mpos : Pos} (hl : Γ[i]? = some (.o ds)) (he : XE X e Γ d) (hp : pureD d = true) (hz : ds.length ≤ 1000000) (h : N ((Γ.map demote).set i (.o (ds ++ [d])))) (hN : X.N[i]? = some x := by rfl) (hv : Vis X.env.scope x := by first | exact Or.inl rfl | exact Or.inr (Or.inl rfl) | exact Or.inr (Or.inr rfl))
    (hd : (x == ("__debug__" : Str)) = false := by decide)
    (hcd : (x == ("__classdict__" : Str)) = false := by decide)
    (hps : PS X (.Expr (.Call (.Attribute (.Name x p) "append" apos) [e] [] mpos) pos) (tDrop (tBM X.K "list" rAppend (tVar i) (tCons (tX X.K Γ d) tNil)))) : XS X Hb (.Expr (.Call (.Attribute (.Name x p) "append" apos) [e] [] mpos) pos) Γ N R :=
  ps_imp hps fun D σ H q => by
    obtain ⟨H0, E⟩ := q.1
    obtain ⟨ov, h1, l, vs, rfl, n0, e1, q1, pu⟩ := E.sl i _ hl
    refine ⟨_, h1, Or.inl ⟨rfl, vs, SqL.of e1⟩, ⟨Hb, H0, E⟩, fun v H1 s1 q2 => ⟨l, vs, v, rfl, rfl, s1 _ _ e1, ?_, ?_⟩⟩
    · rw [dpa_length q1]
      have hs : (1000000 : Nat) < sizeLine := by decide
      omega
    · have E1 := E.mono s1
      have e1' := s1 _ _ e1
      exact q.2.1 _ _ _ H0 ((KeepT.of s1).trans (KeepT.upd e1')) (E1.change hl h1 n0 e1' (dpa_append (dpAll_mono s1 _ _ q1) (.cons q2 .nil)) (pureAll_append pu (by show (pureD d && true) = true; rw [hp]; rfl))) h
/-- x[j] = e, x an own list -/
theorem xs_store (i : Nat) {x : Str} {m : Int} {j : Nat} {spos : Pos} (hl : Γ[i]? = some (.o ds)) (he : XE X e Γ d) (hi : XE X b Γ (.int m)) (hj : ixN ds.length m = some j) (hp : pureD d = true) (h : N ((Γ.map demote).set i (.o (ds.set j d))))
    (hps : PS X (.Assign [.Subscript (.Name x p) b spos] e pos) (tAsg (tX X.K Γ d) (gSub (tVar i) (tX X.K Γ (.int m)) rSetL))) : XS X Hb (.Assign [.Subscript (.Name x p) b spos] e pos) Γ N R :=
  ps_imp hps fun D σ H q => by
    obtain ⟨H0, E⟩ := q.1
    obtain ⟨ov, h1, l, vs, rfl, n0, e1, q1, pu⟩ := E.sl i _ hl
    refine ⟨⟨Hb, H0, E⟩, fun v H1 s1 q2 => ⟨_, h1, ⟨Hb, H0, E.mono s1⟩, fun v2 H2 s2 q3 => ?_⟩⟩
    cases q3
    have e2 := s2 _ _ (s1 _ _ e1)
    refine ⟨l, vs, m, j, rfl, rfl, e2, by rw [dpa_length q1]; exact hj, ?_⟩
    exact q.2.1 _ _ _ H0 ((KeepT.of (s1.trans s2)).trans (KeepT.upd e2)) ((E.mono (s1.trans s2)).change hl h1 n0 e2 (dpa_set (dp_mono s2 _ _ q2) j (dpAll_mono (s1.trans s2) _ _ q1)) (pureAll_set pu hp)) h
/-- for t in iter: body -/
theorem xs_for {tg iter : Expr} {body : List Stmt} {ys : List PyData} (t : Tg) (J : Nat → G → Prop) (hi : XI X (KeepT X.K) tg iter Γ ys) (hg : PG X tg (gT X.K t)) (h0 : J 0 Γ)
    (turn : ∀ i y Γi, ys[i]? = some y → J i Γi → ∃ Γ', t.put y Γi = some Γ' ∧ XSs X Hb body Γ' (J (i + 1)) R) (hd : ∀ Γ', J ys.length Γ' → N Γ') (hc : X.calm = true) (hpo : PassesOwn (model X.prog X.w) X.A X.env X.xe)
    (hs : ∀ x, foldedSetIterable iter X.env x = pure x := by intro _; rfl) : XS X Hb (.For tg iter body [] pos) Γ N R :=
  ps_imp (ps_for hpo hc hi hg (pss_sem (Hb := Hb)) hs) fun D σ H q => by
    obtain ⟨H0, E⟩ := q.1
    refine ⟨⟨Hb, H0, E⟩, fun Ji H1 s1 hw => ?_⟩
    obtain ⟨Gd, Y, w, g, st, yd⟩ := hw
    refine for_it w (fun i σ' H2 => KeepT X.K H1 H2 ∧ ∃ Γi H0', EnvOk X.K Hb H0' H2 σ' Γi ∧ J i Γi) ⟨KeepT.refl _, Γ, H0, E.mono s1, h0⟩ (fun i σ' H2 _ p => st _ _ g p.1) ?_ ?_
    · rintro i x σ' H2 H3 hi ⟨kt, Γi, H0', Ei, hJ⟩ y
      have gd := st _ _ g kt
      obtain ⟨s3, g3, d, hd', dx⟩ := yd i H2 x H3 hi gd y
      obtain ⟨Γ', hput, hbody⟩ := turn i d Γi hd' hJ
      refine gT_ok t dx hput fun σ2 _ EE => ⟨Γ', _, _, hbody, ⟨H0', EE _ _ (Ei.mono s3)⟩, fun Γ2 σ3 H4 H0'' k4 e4 n4 => ?_, q.2.2⟩
      exact ⟨(kt.trans (KeepT.of s3)).trans k4, Γ2, H0'', e4, n4⟩
    · rintro σ' H2 ⟨kt, Γi, H0', Ei, hJ⟩
      exact q.2.1 _ _ H2 H0' ((KeepT.of s1).trans kt) Ei (hd _ hJ)
end

/-! ### a pure def -/
def startG (m : Nat) (ds : List PyData) : G := ds.map .c ++ List.replicate (m - ds.length) .n
theorem env_start {K : PySem.W.Frag} {Hb : Bs} {N : List Str} {vs : List V} {ds : List PyData} (h : DpAll K Hb.h vs ds) : EnvOk K Hb Hb.h Hb.h (L2.start N vs) (startG N.length ds) := by
  have hl := dpa_length h
  refine ⟨Off.refl Hb.h, Same.refl Hb.h, ?_, fun i g hg => ?_⟩
  · unfold L2.start startG
    rw [List.length_append, List.length_append, List.length_map, List.length_map, List.length_replicate, List.length_replicate, hl]
  · unfold startG at hg
    unfold L2.start
    by_cases hi : i < ds.length
    · rw [List.getElem?_append_left (by rw [List.length_map]; exact hi), List.getElem?_map, List.getElem?_eq_getElem hi] at hg
      cases hg
      obtain ⟨v, h1, h2⟩ := dpa_get h (List.getElem?_eq_getElem hi)
      exact ⟨some v, by rw [List.getElem?_append_left (by rw [List.length_map, hl]; exact hi), List.getElem?_map, h1]; rfl, v, rfl, h2⟩
    · rw [List.getElem?_append_right (by rw [List.length_map]; omega), List.length_map] at hg
      rw [List.getElem?_append_right (by rw [List.length_map, hl]; omega), List.length_map, hl]
      rw [List.getElem?_replicate] at hg ⊢
      split at hg
      · rename_i hlt
        cases hg
        exact ⟨none, by rw [if_pos hlt], trivial⟩
      · cases hg
section
variable {P : Program} {w : World}
variable {K : PySem.W.Frag} {mg : Str → Option Value} {base : Heap}
theorem ok_pure {x qual : Str} {st : Stmt} {f : Addr} {fd : FuncData} {N ps : List Str} {k n : Nat} {Pr : List PyData → PyData → Prop} (F : Fun K x qual st f fd) (S : FnScope N ps (defScope st)) (hl : ps.length = n)
    (body : ∀ (cdv : Value) (A : Around) (outer : List Env) (s : Shared) (H : Hp) (E : XK) (ds : List PyData) (r : PyData), Room k (A.deeper (PyProof.Rows.envOfC qual (defScope st) s.heap.objs.size f cdv)) → Pr ds r → ds.length = n →
      XSs (cxOf CX0 P w K mg base N qual (defScope st) f cdv A outer s H E).nox (.pu H) (defBody st) (startG N.length ds) (fun _ => r = .none) (fun q _ => q = .d r)) : FnOk P w K mg base CX0 (k + 1) f fd ps (spR K n Pr) := by
  refine F.ok S (fun vs H Q E h => ?_) (fun cdv A outer s H vs Q E hr h => ?_)
  · obtain ⟨ds, r, h1, _⟩ := h
    rw [h1, hl]
  · obtain ⟨ds, r, h1, h2, h3, h4⟩ := h
    refine ⟨_, body cdv A outer s H E ds r hr h3 (by rw [← dpa_length h2]; exact h1), ⟨H, env_start (Hb := .pu H) h2⟩, fun Γ' σ' H' H0 kt e n => ?_, ⟨fun Γ' σ' v d H' H0 e q z => ?_, fun _ _ _ _ _ _ _ _ _ _ _ z => (nomatch z), fun _ _ _ _ _ _ _ _ _ _ z => (nomatch z), fun _ _ _ _ _ _ _ _ z => (nomatch z), fun _ _ _ _ _ _ _ _ z => (nomatch z)⟩⟩
    · subst n
      exact h4 .non H' (e.sb.same.trans e.s0) .non
    · cases z
      exact h4 v H' (e.sb.same.trans e.s0) q
theorem ok_list {x qual : Str} {st : Stmt} {f : Addr} {fd : FuncData} {N ps : List Str} {k n : Nat} {Pr : List PyData → List PyData → Prop} (F : Fun K x qual st f fd) (S : FnScope N ps (defScope st)) (hl : ps.length = n)
    (body : ∀ (cdv : Value) (A : Around) (outer : List Env) (s : Shared) (H : Hp) (E : XK) (ds rs : List PyData), Room k (A.deeper (PyProof.Rows.envOfC qual (defScope st) s.heap.objs.size f cdv)) → Pr ds rs → ds.length = n →
      XSs (cxOf CX0 P w K mg base N qual (defScope st) f cdv A outer s H E).nox (.pu H) (defBody st) (startG N.length ds) (fun _ => False) (fun q _ => q = .l rs)) : FnOk P w K mg base CX0 (k + 1) f fd ps (spF K n Pr) := by
  refine F.ok S (fun vs H Q E h => ?_) (fun cdv A outer s H vs Q E hr h => ?_)
  · obtain ⟨ds, r, h1, _⟩ := h
    rw [h1, hl]
  · obtain ⟨ds, rs, h1, h2, h3, h4⟩ := h
    refine ⟨_, body cdv A outer s H E ds rs hr h3 (by rw [← dpa_length h2]; exact h1), ⟨H, env_start (Hb := .pu H) h2⟩, fun Γ' σ' H' H0 kt e n => n.elim, ⟨fun _ _ _ _ _ _ _ _ z => (nomatch z), fun Γ' σ' p vs' ds' H' H0 e n0 e1 q z => ?_, fun _ _ _ _ _ _ _ _ _ _ z => (nomatch z), fun _ _ _ _ _ _ _ _ z => (nomatch z), fun _ _ _ _ _ _ _ _ z => (nomatch z)⟩⟩
    cases z
    exact h4 p vs' H' (e.sb.same.free n0) (e.sb.same.trans e.s0) e1 q
end
end TC
namespace TC
open PySem L2
section
variable {X : Cx} {Hb : Bs} {Γ : G} {N N' : G → Prop} {R : Rk → G → Prop} {a b c e va vb : Expr} {es : List Expr} {p p1 p2 p3 pos pos' : Pos} {d d1 d2 : PyData} {ds : List PyData}
/-! ### the truth of tuples and lists -/
def truD : PyData → Option Bool
  | .none => some false
  | .bool b => some b
  | .int i => some (i != 0)
  | .tuple ds => some (!ds.isEmpty)
  | .list ds => some (!ds.isEmpty)
  | _ => none
theorem isEmpty_all {K : PySem.W.Frag} {H : Hp} {vs : List V} (h : DpAll K H vs ds) : vs.isEmpty = ds.isEmpty := by
  cases h <;> rfl
theorem xt_tru {k : Bool} (ha : XE X a Γ d) (h : truD d = some k) (he : ∀ whole, isTrue a X.env whole = (do let v ← whole; standAt a.pos; holding [v] (truthy v)) := by intro _; rfl) : XT X a Γ k :=
  pt_imp (pt_truth ha he) fun σ H Q ⟨E, q⟩ => ⟨E, fun v H1 s1 q1 => by
    refine ⟨k, ?_, q H1 s1⟩
    cases q1 with
    | non => cases h; rfl
    | bl x => cases h; rfl
    | int x => cases h; rfl
    | str x => cases h
    | lst hs hz =>
      cases h
      exact .inl ⟨_, hs, by rw [isEmpty_all hz]⟩
    | tup hs hz =>
      cases h
      exact .inr (.inl ⟨_, hs, by rw [isEmpty_all hz]⟩)⟩
/-! ### the own list: append by its rule, two places exchanged -/
theorem xs_app (i : Nat) {x : Str} {apos mpos : Pos} (hl : Γ[i]? = some (.o ds)) (he : XE X e Γ d) (hp : pureD d = true) (hz : ds.length ≤ 1000000) (h : N ((Γ.map demote).set i (.o (ds ++ [d])))) (hN : X.N[i]? = some x := by rfl) (hv : Vis X.env.scope x := by first | exact Or.inl rfl | exact Or.inr (Or.inl rfl) | exact Or.inr (Or.inr rfl))
    (hd : (x == ("__debug__" : Str)) = false := by decide)
    (hcd : (x == ("__classdict__" : Str)) = false := by decide)
    (hbase : attributeBase (.Name x p) "append" X.env (eval (.Name x p) X.env) = eval (.Name x p) X.env := by rfl)
    (hfew : ((backTo mpos (starEach (e :: []) X.env)).all (fun x => !x.1) && (backToKw mpos (keywordEach [] X.env)).all (fun x => x.1.isSome)
      && decide ((e :: ([] : List Expr)).length + ([] : List Keyword).length + (if ([] : List Keyword).isEmpty then 0 else 1) < 30)) = true := by rfl)
    (hline : (apos.endLine == mpos.line) = true := by rfl) (hs : starEach (e :: []) X.env = (false, eval e X.env) :: starEach [] X.env := by rfl) (hplain : (backTo mpos (starEach [] X.env)).any (·.1) = false := by rfl)
    (hsw : swapsWith (.Call (.Attribute (.Name x p) "append" apos) [e] [] mpos) none pos.line X.env = pure false := by rfl) : XS X Hb (.Expr (.Call (.Attribute (.Name x p) "append" apos) [e] [] mpos) pos) Γ N R :=
  xs_append i hl he hp hz h hN hv hd hcd (ps_expr (pe_bm PySem.F.plainAttrs_list PySem.F.slot_list_append PySem.F.type_list_append mt_append (pv i hN hv hd hcd) (pa_cons he pa_nil hs) hbase hfew hline hs hplain) hsw)
theorem xs_swap (i : Nat) {x : Str} {m n : Int} {j1 j2 : Nat} {kt k2 : Nat} {pt pt2 : Pos} (hl : Γ[i]? = some (.o ds)) (hva : XE X va Γ d1) (hvb : XE X vb Γ d2) (ha : XE X a Γ (.int m)) (hj1 : ixN ds.length m = some j1) (hp1 : pureD d1 = true) (hp2 : pureD d2 = true)
    (hb : XE X b ((Γ.map demote).set i (.o (ds.set j1 d1))) (.int n)) (hj2 : ixN ds.length n = some j2) (h : N ((((Γ.map demote).set i (.o (ds.set j1 d1))).map demote).set i (.o ((ds.set j1 d1).set j2 d2))))
    (hps : PS X (.Assign [.Tuple [.Subscript (.Name x p) a p1, .Subscript (.Name x p2) b p3] kt pt] (.Tuple [va, vb] k2 pt2) pos)
      (tAsg (tTup (tXA X.K Γ [d1, d2])) (gTup X.K 2 (gCons (gSub (tVar i) (tX X.K Γ (.int m)) rSetL) (gCons (gSub (tVar i) (tX X.K ((Γ.map demote).set i (.o (ds.set j1 d1))) (.int n)) rSetL) gNil))))) :
    XS X Hb (.Assign [.Tuple [.Subscript (.Name x p) a p1, .Subscript (.Name x p2) b p3] kt pt] (.Tuple [va, vb] k2 pt2) pos) Γ N R :=
  ps_imp hps fun D σ H q => by
    obtain ⟨H0, E⟩ := q.1
    obtain ⟨ov, h1, l, vs, rfl, n0, e1, q1, pu⟩ := E.sl i _ hl
    refine ⟨⟨Hb, H0, E⟩, fun us H1 s1 hall => ?_⟩
    cases hall with
    | @cons v1 _ _ _ r1 t1 =>
      cases t1 with
      | @cons v2 _ _ _ r2 t2 =>
        cases t2
        refine ⟨by show 2 ≤ sizeLine; decide, fun t ht => ?_⟩
        have s2 : Same H1 (upd H1 t (.tup [v1, v2])) := fun b o z => by rw [upd_ne (ne_of_none z ht)]; exact z
        refine ⟨t, [v1, v2], rfl, SqT.of upd_same, rfl, v1, [v2], rfl, ?_⟩
        refine ⟨_, h1, ⟨Hb, H0, E.mono (s1.trans s2)⟩, fun w1 H2 s3 q3 => ?_⟩
        cases q3
        have st2 := (s1.trans s2).trans s3
        have e2 := st2 _ _ e1
        have all2 := dpAll_mono st2 _ _ q1
        refine ⟨l, vs, m, j1, rfl, rfl, e2, by rw [dpa_length q1]; exact hj1, ?_⟩
        have r1' : Dp X.K H2 v1 d1 := dp_mono (s2.trans s3) _ _ r1
        have E2 := (E.mono st2).change hl h1 n0 e2 (dpa_set r1' j1 all2) (pureAll_set pu hp1)
        have kt2 : KeepT X.K H2 (upd H2 l (.lst (vs.set j1 v1))) := KeepT.upd e2
        refine ⟨v2, [], rfl, ?_⟩
        refine ⟨_, h1, ⟨Hb, H0, E2⟩, fun w2 H3 s4 q4 => ?_⟩
        cases q4
        have e3 : H3 l = some (.lst (vs.set j1 v1)) := s4 _ _ upd_same
        refine ⟨l, vs.set j1 v1, n, j2, rfl, rfl, e3, by rw [List.length_set, dpa_length q1]; exact hj2, rfl, ?_⟩
        have r2' : Dp X.K H3 v2 d2 := dp_mono s4 _ _ (dp_keep kt2 _ _ hp2 (dp_mono (s2.trans s3) _ _ r2))
        have all3 : DpAll X.K H3 (vs.set j1 v1) (ds.set j1 d1) := dpAll_mono s4 _ _ (dpAll_keep kt2 _ _ (pureAll_set pu hp1) (dpa_set r1' j1 all2))
        have hl2 : ((Γ.map demote).set i (.o (ds.set j1 d1)))[i]? = some (.o (ds.set j1 d1)) := by
          have : i < Γ.length := (List.getElem?_eq_some_iff.mp hl).1
          rw [List.getElem?_set_self (by rw [List.length_map]; exact this)]
        exact q.2.1 _ _ _ H0 (((KeepT.of st2).trans kt2).trans ((KeepT.of s4).trans (KeepT.upd e3))) ((E2.mono s4).change hl2 h1 n0 e3 (dpa_set r2' j2 all3) (pureAll_set (pureAll_set pu hp1) hp2)) h
/-- x += l.pop()[2] (l an own list of triples) -/
theorem xs_popAug (i j : Nat) {x y : Str} {u v : PyData} {m z : Int} {apos mpos spos : Pos} {jc : Nat} (hl : Γ[i]? = some (.o (ds ++ [.tuple [u, v, .int z]]))) (hj : look Γ j = some (.int m)) (hij : i ≠ j) (h : N (((Γ.map demote).set i (.o ds)).set j (.c (.int (m + z)))))
    (hps : PS X (.AugAssign (.Name x p) .Add (.Subscript (.Call (.Attribute (.Name y p2) "pop" apos) [] [] mpos) (.Constant (.int 2) jc p3) spos) pos) (tAug j (tOp (rIxT X.K) (tBM0 X.K "list" rPop (tVar i)) (tC (.int 2))) (ipI fun i j => i + j))) :
    XS X Hb (.AugAssign (.Name x p) .Add (.Subscript (.Call (.Attribute (.Name y p2) "pop" apos) [] [] mpos) (.Constant (.int 2) jc p3) spos) pos) Γ N R :=
  ps_imp hps fun D σ H q => by
    obtain ⟨H0, E⟩ := q.1
    obtain ⟨ov, h1, l, vs, rfl, n0, e1, q1, pu⟩ := E.sl i _ hl
    obtain ⟨vm, g1, g2⟩ := E.look hj
    cases g2
    have hlen := dpa_length q1
    rw [List.length_append, List.length_singleton] at hlen
    have hlast : (ds ++ [PyData.tuple [u, v, .int z]])[ds.length]? = some (.tuple [u, v, .int z]) := by simp
    obtain ⟨vt, t1, t2⟩ := dpa_get q1 hlast
    cases t2 with
    | @tup ta tx _ ht hat =>
      refine ⟨_, g1, _, h1, Or.inl ⟨rfl, vs, SqL.of e1⟩, l, vs, .ref ta, rfl, rfl, e1, by rw [show vs.length - 1 = ds.length by omega]; exact t1, ?_⟩
      have kt : KeepT X.K H (upd H l (.lst vs.dropLast)) := KeepT.upd e1
      have hd : DpAll X.K H vs.dropLast ds := by
        have := dpa_take ds.length q1
        rw [List.take_left] at this
        rw [List.dropLast_eq_take, show vs.length - 1 = ds.length by omega]
        exact this
      have pu1 : pureAll ds = true := pureAll_of fun d hd => pureAll_mem pu d (List.mem_append_left _ hd)
      have E2 := E.change hl h1 n0 e1 hd pu1
      obtain ⟨vz, z1, z2⟩ := dpa_get hat (i := 2) rfl
      cases z2
      refine ⟨ta, tx, 2, .int z, rfl, rfl, kt _ _ ht, atI_nat (j := 2) z1, m, z, rfl, rfl, ?_⟩
      exact q.2.1 _ _ _ H0 kt (E2.store (g := .c (.int (m + z))) ⟨_, rfl, .int _⟩) h
end
theorem stepsD_get {lo c : Int} {n i : Nat} {y : PyData} (h : (stepsD lo c n)[i]? = some y) : y = .int (lo + (i : Nat) * c) ∧ i < n := by
  unfold stepsD at h
  rw [List.getElem?_map] at h
  cases q : (List.range n)[i]? with
  | none => rw [q] at h; cases h
  | some j =>
    rw [q] at h
    have hi : i < n := by
      have := (List.getElem?_eq_some_iff.mp q).1
      rw [List.length_range] at this
      exact this
    rw [List.getElem?_range hi] at q
    cases q
    exact ⟨(Option.some.inj h).symm, hi⟩
theorem stepsD_len (lo c : Int) (n : Nat) : (stepsD lo c n).length = n := by unfold stepsD; rw [List.length_map, List.length_range]
theorem ixN_of {n j : Nat} {i : Int} (h : i = j) (hj : j < n) : ixN n i = some j := by
  subst h
  unfold ixN
  rw [if_pos (by omega)]
  rw [if_pos (by omega)]
  simp
end TC
namespace TC
open PySem L2
/-! ### the text by places -/
def topS (i : Nat) : Stmt := PySem.Challenge.pw_trialcopies_k62_whole_exchanged_deeds.main.body.getD i (.Pass ⟨0, 0, 0, 0⟩)
/-- a def of the top, as it stands behind the top -/
def RawD (K : PySem.W.Frag) (mg : Str → Option Value) (x : Str) (st : Stmt) : Prop := ∃ f fd, mg x = some (.ref f) ∧ Fun K x x st f fd
/-- .. with its promise -/
def Def (P : Program) (w : World) (K : PySem.W.Frag) (mg : Str → Option Value) (base : Heap) (x : Str) (k : Nat) (ps : List Str) (sp : Sp) : Prop :=
  ∃ f fd, mg x = some (.ref f) ∧ PySem.W.keepIn K (.ref f) = true ∧ Binds K fd ps [] ∧ FnOk P w K mg base CX0 k f fd ps sp
/-- what the built-in names are -/
structure Bi (mg : Str → Option Value) : Prop where
  len : mg "len" = none
  isinstance : mg "isinstance" = none
  int : mg "int" = none
  bool : mg "bool" = none
  tuple : mg "tuple" = none
  range : mg "range" = none
  list : mg "list" = none
  sum : mg "sum" = none
  zip : mg "zip" = none
  all : mg "all" = none
  max : mg "max" = none
  repr : mg "repr" = none
  sorted : mg "sorted" = none
  enumerate : mg "enumerate" = none
  super : mg "super" = none
  mMod : ∃ t, mg "MODULUS" = some (.int 2147483647 t)
  mFac : ∃ t, mg "FACTOR" = some (.int 48271 t)
  mFea : ∃ t, mg "MOST_FEATURES" = some (.int 8 t)
  mVal : ∃ t, mg "MOST_VALUE" = some (.int 100 t)
  mExa : ∃ t, mg "MOST_EXAMPLES" = some (.int 50 t)
  mPos : ∃ t, mg "MOST_POSITION" = some (.int 10000 t)
  mSav : ∃ t, mg "MOST_SAVES" = some (.int 1000 t)
section
variable {X : Cx} {Γ : G} {e : Expr} {es : List Expr} {p pos : Pos} {d d1 : PyData} {ds : List PyData}
theorem xd_call {k : Nat} {ps : List Str} {n : Nat} {Pr : List PyData → PyData → Prop} {x : Str} (D : Def X.prog X.w X.K X.mg X.base x k ps (spR X.K n Pr)) (hr : Room k X.A) (ha : XA X (e :: es) Γ (d1 :: ds)) (hP : Pr (d1 :: ds) d) (hn : (d1 :: ds).length = n := by rfl) (hg : Gl X x := by rfl) (hdb : (x == ("__debug__" : Str)) = false := by decide) (he : starEach (e :: es) X.env = (false, eval e X.env) :: starEach es X.env := by rfl) (hpl : (backTo pos (starEach es X.env)).any (·.1) = false := by rfl) :
    XE X (.Call (.Name x p) (e :: es) [] pos) Γ d := by
  obtain ⟨f, fd, h1, h2, h3, h4⟩ := D
  exact xe_call h4 hP hn hr hg h1 h2 h3 ha hdb he hpl
theorem xd_callF {k : Nat} {ps : List Str} {n : Nat} {Pr : List PyData → List PyData → Prop} {rs : List PyData} {x : Str} (D : Def X.prog X.w X.K X.mg X.base x k ps (spF X.K n Pr)) (hr : Room k X.A) (ha : XA X (e :: es) Γ (d1 :: ds)) (hP : Pr (d1 :: ds) rs) (hn : (d1 :: ds).length = n := by rfl) (hg : Gl X x := by rfl) (hdb : (x == ("__debug__" : Str)) = false := by decide) (he : starEach (e :: es) X.env = (false, eval e X.env) :: starEach es X.env := by rfl) (hpl : (backTo pos (starEach es X.env)).any (·.1) = false := by rfl) :
    XF X (.Call (.Name x p) (e :: es) [] pos) Γ rs := by
  obtain ⟨f, fd, h1, h2, h3, h4⟩ := D
  exact xf_call h4 hP hn hr hg h1 h2 h3 ha hdb he hpl
end
section
variable {P : Program} {w : World}
variable {K : PySem.W.Frag} {mg : Str → Option Value} {base : Heap}
theorem def_pure {x : Str} {st : Stmt} {N ps : List Str} {k n : Nat} {Pr : List PyData → PyData → Prop} (R : RawD K mg x st) (S : FnScope N ps (defScope st)) (hl : ps.length = n)
    (hb : ∀ (kV doc pm : Value) (an : Option Addr) (cdv ct : Value) (us : List Value), us.length = ps.length → bindArgs (PySem.W.fnOf x x (defArgs st) (defBody st) (defScope st) .none kV doc pm an cdv ct) ⟨us, []⟩ = pure (ps.zip us))
    (body : ∀ (f : Addr) (cdv : Value) (A : Around) (outer : List Env) (s : Shared) (H : Hp) (E : XK) (ds : List PyData) (r : PyData), Room k (A.deeper (PyProof.Rows.envOfC x (defScope st) s.heap.objs.size f cdv)) → Pr ds r → ds.length = n →
      XSs (cxOf CX0 P w K mg base N x (defScope st) f cdv A outer s H E).nox (.pu H) (defBody st) (startG N.length ds) (fun _ => r = .none) (fun q _ => q = .d r)) : Def P w K mg base x (k + 1) ps (spR K n Pr) := by
  obtain ⟨f, fd, h1, F⟩ := R
  exact ⟨f, fd, h1, F.kp, F.binds hb, ok_pure F S hl (body f)⟩
theorem def_list {x : Str} {st : Stmt} {N ps : List Str} {k n : Nat} {Pr : List PyData → List PyData → Prop} (R : RawD K mg x st) (S : FnScope N ps (defScope st)) (hl : ps.length = n)
    (hb : ∀ (kV doc pm : Value) (an : Option Addr) (cdv ct : Value) (us : List Value), us.length = ps.length → bindArgs (PySem.W.fnOf x x (defArgs st) (defBody st) (defScope st) .none kV doc pm an cdv ct) ⟨us, []⟩ = pure (ps.zip us))
    (body : ∀ (f : Addr) (cdv : Value) (A : Around) (outer : List Env) (s : Shared) (H : Hp) (E : XK) (ds rs : List PyData), Room k (A.deeper (PyProof.Rows.envOfC x (defScope st) s.heap.objs.size f cdv)) → Pr ds rs → ds.length = n →
      XSs (cxOf CX0 P w K mg base N x (defScope st) f cdv A outer s H E).nox (.pu H) (defBody st) (startG N.length ds) (fun _ => False) (fun q _ => q = .l rs)) : Def P w K mg base x (k + 1) ps (spF K n Pr) := by
  obtain ⟨f, fd, h1, F⟩ := R
  exact ⟨f, fd, h1, F.kp, F.binds hb, ok_list F S hl (body f)⟩
end
/-! ### small laws of lists -/
theorem givenD_eq {n : Nat} {r : Nat → PyData} {l : List PyData} (hl : l.length = n) (h : ∀ i x, l[i]? = some x → r i = x) : givenD n (fun _ => true) r = l := by
  unfold givenD
  apply List.ext_getElem?
  intro j
  have e : ∀ l : List Nat, l.filter (fun _ => true) = l := fun l => List.filter_eq_self.mpr fun _ _ => rfl
  rw [e, List.getElem?_map]
  by_cases hj : j < n
  · rw [List.getElem?_range hj]
    have hj' : j < l.length := by omega
    show some (r j) = _
    rw [h j l[j] (List.getElem?_eq_getElem hj'), List.getElem?_eq_getElem hj']
  · rw [List.getElem?_eq_none (by rw [List.length_range]; omega), List.getElem?_eq_none (by omega)]
    rfl
theorem getD_of {α : Type} {l : List α} {i : Nat} {x d : α} (h : l[i]? = some x) : l.getD i d = x := by
  rw [List.getD_eq_getElem?_getD, h]
  rfl
theorem kit_ii : kitB "int" "int" = some true := by decide +kernel
theorem kit_ib : kitB "int" "bool" = some false := by decide +kernel
theorem kit_tt : kitB "tuple" "tuple" = some true := by decide +kernel
/-- a tuple of ints -/
def dInts (ws : List Int) : PyData := .tuple (ws.map .int)
end TC
namespace TC
open PySem L2
/-! ### mirrors: training -/
abbrev Ex := List Int × Int
def dEx (e : Ex) : PyData := .tuple [dInts e.1, .int e.2]
def dExs (es : List Ex) : PyData := .tuple (es.map dEx)
/-- small numbers -/
def Small (fs : List Int) : Prop := ∀ x ∈ fs, -100 ≤ x ∧ x ≤ 100
/-- examples of n features -/
structure ExsOk (n : Nat) (es : List Ex) : Prop where
  n1 : 1 ≤ n
  n2 : n ≤ 8
  l1 : 1 ≤ es.length
  l2 : es.length ≤ 50
  ok : ∀ e ∈ es, e.1.length = n ∧ Small e.1 ∧ (e.2 = 1 ∨ e.2 = -1)
def dot (ws fs : List Int) : Int := (List.zipWith (· * ·) ws fs).sum
def stepM (ws : List Int) (e : Ex) (rate margin : Int) : List Int := if e.2 * dot ws e.1 > margin then ws else List.zipWith (fun w f => w + rate * e.2 * f) ws e.1
/-- one exchange of the shuffle at place p -/
def ordStep (p : Nat) (s : Int × List Int) : Int × List Int :=
  let num := 48271 * s.1 % 2147483647
  let o := (num % ((p : Int) + 1)).toNat
  (num, (s.2.set p (s.2.getD o 0)).set o (s.2.getD p 0))
/-- the exchanges at n - 1, n - 2, .., so many -/
def ordRun (n : Nat) : Nat → Int × List Int → Int × List Int
  | 0, s => s
  | k + 1, s => ordStep (n - 1 - k) (ordRun n k s)
def orderM (seed epoch : Int) (n : Nat) : List Int := (ordRun n (n - 1) (1 + 1009 * seed + epoch, (List.range n).map fun (i : Nat) => (i : Int))).2
/-- the example of step p -/
def exAt (es : List Ex) (seed : Int) (p : Nat) : Ex := es.getD ((orderM seed ((p / es.length : Nat) : Int) es.length).getD (p % es.length) 0).toNat ([], 0)
def wStep (es : List Ex) (seed : Int) (p : Nat) (ws : List Int) (rate margin : Int) : List Int := stepM ws (exAt es seed p) rate margin
/-- k steps from position p on -/
def trainM (es : List Ex) (seed : Int) (p : Nat) (ws : List Int) (rate margin : Int) : Nat → List Int
  | 0 => ws
  | k + 1 => wStep es seed (p + k) (trainM es seed p ws rate margin k) rate margin
def scoreM (es : List Ex) (ws : List Int) : Int := ((es.filter fun e => decide (e.2 * dot ws e.1 > 0)).length : Int)
abbrev Str3 := Int × Int × Nat
def dStr3 (s : Str3) : PyData := .tuple [.int s.1, .int s.2.1, .int (s.2.2 : Int)]
def posM (st : List Str3) : Nat := (st.map fun s => s.2.2).sum
def joinStep (acc : List Str3) (s : Str3) : List Str3 := match acc.getLast? with
  | some l => if l.1 = s.1 ∧ l.2.1 = s.2.1 then acc.dropLast ++ [(s.1, s.2.1, s.2.2 + l.2.2)] else acc ++ [s]
  | none => [s]
def joinM (st : List Str3) : List Str3 := st.foldl joinStep []

/-! ### laws of these -/
theorem ordStep_len (p : Nat) (s : Int × List Int) : (ordStep p s).2.length = s.2.length := by
  unfold ordStep
  simp
theorem ordRun_len (n : Nat) : ∀ (k : Nat) (s : Int × List Int), (ordRun n k s).2.length = s.2.length
  | 0, _ => rfl
  | k + 1, s => by
    show (ordStep _ (ordRun n k s)).2.length = _
    rw [ordStep_len, ordRun_len n k s]
theorem orderM_len (seed epoch : Int) (n : Nat) : (orderM seed epoch n).length = n := by
  unfold orderM
  rw [ordRun_len, List.length_map, List.length_range]
theorem ordStep_mem {p : Nat} {s : Int × List Int} {n : Nat} (hl : s.2.length = n) (hp : p < n) (h : ∀ x ∈ s.2, 0 ≤ x ∧ x < n) : ∀ x ∈ (ordStep p s).2, 0 ≤ x ∧ x < n := by
  intro x hx
  unfold ordStep at hx
  have key : ∀ j, j < n → 0 ≤ s.2.getD j 0 ∧ s.2.getD j 0 < n := fun j hj => by
    rw [List.getD_eq_getElem?_getD, List.getElem?_eq_getElem (by omega)]
    exact h _ (List.getElem_mem _)
  have ho : (48271 * s.1 % 2147483647 % ((p : Int) + 1)).toNat < n := by
    have h1 : 0 ≤ 48271 * s.1 % 2147483647 % ((p : Int) + 1) := Int.emod_nonneg _ (by omega)
    have h2 : 48271 * s.1 % 2147483647 % ((p : Int) + 1) < (p : Int) + 1 := Int.emod_lt_of_pos _ (by omega)
    omega
  rcases List.mem_or_eq_of_mem_set hx with q | q
  · rcases List.mem_or_eq_of_mem_set q with r | r
    · exact h x r
    · rw [r]; exact key _ ho
  · rw [q]; exact key _ hp
theorem ordRun_mem {n : Nat} (hn : 1 ≤ n) : ∀ (k : Nat) (s : Int × List Int), s.2.length = n → (∀ x ∈ s.2, 0 ≤ x ∧ x < n) → ∀ x ∈ (ordRun n k s).2, 0 ≤ x ∧ x < n
  | 0, _, _, h => h
  | k + 1, s, hl, h => ordStep_mem (n := n) (by rw [ordRun_len]; exact hl) (by omega) (ordRun_mem hn k s hl h)
theorem range_mem (n : Nat) : ∀ x ∈ (List.range n).map (fun (i : Nat) => (i : Int)), 0 ≤ x ∧ x < n := fun x hx => by
  obtain ⟨i, hi, rfl⟩ := List.mem_map.mp hx
  have := List.mem_range.mp hi
  omega
theorem orderM_mem {seed epoch : Int} {n : Nat} (hn : 1 ≤ n) : ∀ x ∈ orderM seed epoch n, 0 ≤ x ∧ x < n :=
  ordRun_mem hn (n - 1) _ (by rw [List.length_map, List.length_range]) (range_mem n)
theorem orderM_get {seed epoch : Int} {n i : Nat} (hn : 1 ≤ n) (hi : i < n) : 0 ≤ (orderM seed epoch n).getD i 0 ∧ (orderM seed epoch n).getD i 0 < n := by
  rw [List.getD_eq_getElem?_getD, List.getElem?_eq_getElem (by rw [orderM_len]; exact hi)]
  exact orderM_mem hn _ (List.getElem_mem _)
theorem exAt_mem {es : List Ex} {seed : Int} {p : Nat} (h : 1 ≤ es.length) : exAt es seed p ∈ es := by
  unfold exAt
  have hp : p % es.length < es.length := Nat.mod_lt _ h
  have q := orderM_get (seed := seed) (epoch := ((p / es.length : Nat) : Int)) h hp
  rw [List.getD_eq_getElem?_getD, List.getElem?_eq_getElem (by omega)]
  exact List.getElem_mem _
theorem stepM_len {ws : List Int} {e : Ex} {r m : Int} (h : ws.length = e.1.length) : (stepM ws e r m).length = ws.length := by
  unfold stepM
  split
  · rfl
  · rw [List.length_zipWith]; omega
theorem trainM_len {n : Nat} {es : List Ex} (ok : ExsOk n es) {seed : Int} {p : Nat} {ws : List Int} {r m : Int} (h : ws.length = n) : ∀ k, (trainM es seed p ws r m k).length = n
  | 0 => h
  | k + 1 => by
    have ih := trainM_len ok (seed := seed) (p := p) (r := r) (m := m) h k
    show (stepM _ _ r m).length = n
    rw [stepM_len, ih]
    rw [ih, (ok.ok _ (exAt_mem ok.l1)).1]
theorem pureEx (e : Ex) : pureD (dEx e) = true := by
  show (pureD (dInts e.1) && (true && true)) = true
  have h : pureD (dInts e.1) = true := pure_ints e.1
  rw [h]
  rfl
theorem pureExs (es : List Ex) : pureAll (es.map dEx) = true := pureAll_map pureEx es
end TC
namespace TC
open PySem L2
section
variable {P : Program} {w : World}
variable {K : PySem.W.Frag} {mg : Str → Option Value} {base : Heap}
/-! is_number -/
abbrev sIsNum : Stmt := topS 6
def pIsNum (ds : List PyData) (r : PyData) : Prop := ∃ v l m : Int, ds = [.int v, .int l, .int m] ∧ l ≤ v ∧ v ≤ m ∧ r = .bool true
theorem sc_isNum : FnScope ["value", "least", "most"] ["value", "least", "most"] (defScope sIsNum) := ⟨rfl, rfl, rfl, by decide +kernel, rfl, by decide +kernel, by decide +kernel⟩
theorem ok_isNum (R : RawD K mg "is_number" sIsNum) (B : Bi mg) : Def P w K mg base "is_number" 1 ["value", "least", "most"] (spR K 3 pIsNum) := by
  refine def_pure R sc_isNum rfl (fun _ _ _ _ _ _ us hl => match us, hl with | [_, _, _], _ => rfl) fun f cdv A outer s H E ds r hr hp hl => ?_
  obtain ⟨v, l, m, rfl, h1, h2, rfl⟩ := hp
  refine xss_one (xs_ret (xe_eq (xe_and (xe_isi B.isinstance B.int PyProof.Rows.boot_int (xe_var 0 rfl) kit_ii)
    (fun _ => xe_and (xe_not (xe_isi B.isinstance B.bool PyProof.Rows.boot_bool (xe_var 0 rfl) kit_ib))
    (fun _ => xe_one (xe_chain op_le op_le rd_le rd_le (xe_var 1 rfl) (xe_var 0 rfl) (xe_var 2 rfl))))) ?_) rfl)
  rw [decide_eq_true h1, decide_eq_true h2]
  rfl
/-! product -/
abbrev sProd : Stmt := topS 19
def pProd (ds : List PyData) (r : PyData) : Prop := ∃ ws fs : List Int, ds = [dInts ws, dInts fs] ∧ ws.length = fs.length ∧ fs.length ≤ 1000 ∧ Small fs ∧ r = .int (dot ws fs)
theorem sc_prod : FnScope ["weights", "features", "weight", "feature"] ["weights", "features"] (defScope sProd) := ⟨rfl, rfl, rfl, by decide +kernel, rfl, by decide +kernel, by decide +kernel⟩
/-- the pairs of a zip of two tuples of ints -/
theorem zipD_get {ws fs : List Int} {i : Nat} {y : PyData} (hy : (zipD (ws.map .int) (fs.map .int))[i]? = some y) : y = .tuple [.int (ws.getD i 0), .int (fs.getD i 0)] ∧ i < fs.length ∧ i < ws.length := by
  unfold zipD at hy
  rw [List.getElem?_zipWith, List.getElem?_map, List.getElem?_map] at hy
  cases h1 : ws[i]? with
  | none => rw [h1] at hy; simp at hy
  | some x =>
    cases h2 : fs[i]? with
    | none => rw [h1, h2] at hy; simp at hy
    | some z =>
      rw [h1, h2] at hy
      rw [getD_of h1, getD_of h2]
      exact ⟨(Option.some.inj hy).symm, (List.getElem?_eq_some_iff.mp h2).1, (List.getElem?_eq_some_iff.mp h1).1⟩
theorem zipD_len (ws fs : List Int) : (zipD (ws.map .int) (fs.map .int)).length = min ws.length fs.length := by
  unfold zipD
  rw [List.length_zipWith, List.length_map, List.length_map]
theorem zipW_given {ws fs : List Int} {g : Int → Int → Int} : givenD (zipD (ws.map .int) (fs.map .int)).length (fun _ => true) (fun i => .int (g (ws.getD i 0) (fs.getD i 0))) = (List.zipWith g ws fs).map .int := by
  refine givenD_eq ?_ fun i x hx => ?_
  · rw [zipD_len, List.length_map, List.length_zipWith]
  · rw [List.getElem?_map, List.getElem?_zipWith] at hx
    cases h1 : ws[i]? with
    | none => rw [h1] at hx; simp at hx
    | some a =>
      cases h2 : fs[i]? with
      | none => rw [h1, h2] at hx; simp at hx
      | some b =>
        rw [h1, h2] at hx
        rw [getD_of h1, getD_of h2]
        exact Option.some.inj hx
theorem small_get {fs : List Int} (hs : Small fs) {i : Nat} (hi : i < fs.length) : -100 ≤ fs.getD i 0 ∧ fs.getD i 0 ≤ 100 :=
  hs (fs.getD i 0) (by rw [List.getD_eq_getElem?_getD, List.getElem?_eq_getElem hi]; exact List.getElem_mem hi)
theorem ok_prod (R : RawD K mg "product" sProd) (B : Bi mg) : Def P w K mg base "product" 1 ["weights", "features"] (spR K 2 pProd) := by
  refine def_pure R sc_prod rfl (fun _ _ _ _ _ _ us hl => match us, hl with | [_, _], _ => rfl) fun f cdv A outer s H E ds r hr hp hl => ?_
  obtain ⟨ws, fs, rfl, hlen, hlen2, hs, rfl⟩ := hp
  refine xss_one (xs_ret (xe_sum (ns := List.zipWith (· * ·) ws fs) rfl B.sum (xe_of_f (xf_eq (xf_lc (own := [("weight", 2), ("feature", 3)]) (fun _ => true) (fun i => .int (ws.getD i 0 * fs.getD i 0)) (.tp [2, 3]) rfl sc_prod.nd (xi_same (xi_zipT B.zip (xe_var 0 rfl) (xe_var 1 rfl) (pure_ints ws) (pure_ints fs)))
    (blkOk_by (own := [("weight", 2), ("feature", 3)]) (N := ["weights", "features", "weight", "feature"]) (sc := defScope sProd) (by decide +kernel)) (fun _ _ _ _ _ => pg_tup rfl (pgs_cons (pg_name (i := 2) sc_prod.nd rfl (Or.inl rfl)) (pgs_cons (pg_name (i := 3) sc_prod.nd rfl (Or.inl rfl)) pgs_nil))) (by decide) ?_ (fun i y hy => ?_)) zipW_given))) rfl)
  · rw [zipD_len]
    omega
  · obtain ⟨rfl, hi, _⟩ := zipD_get hy
    refine ⟨_, rfl, fun _ _ _ _ _ => pts_yes, fun _ => ⟨fun _ _ _ _ _ => ?_, rfl⟩⟩
    have hb := small_get hs hi
    exact xe_mul (xe_var 2 rfl) (xe_var 3 rfl) (.inr (by omega))
/-! is_example -/
abbrev sIsEx : Stmt := topS 15
def ExOk (n : Nat) (e : Ex) : Prop := e.1.length = n ∧ Small e.1 ∧ (e.2 = 1 ∨ e.2 = -1)
def pIsEx (ds : List PyData) (r : PyData) : Prop := ∃ (e : Ex) (n : Nat), ds = [dEx e, .int (n : Int)] ∧ n ≤ 8 ∧ ExOk n e ∧ r = .bool true
theorem sc_isEx : FnScope ["value", "size", "part"] ["value", "size"] (defScope sIsEx) := ⟨rfl, rfl, rfl, by decide +kernel, rfl, by decide +kernel, by decide +kernel⟩
theorem ok_isEx (R : RawD K mg "is_example" sIsEx) (B : Bi mg) (D1 : Def P w K mg base "is_number" 1 ["value", "least", "most"] (spR K 3 pIsNum)) : Def P w K mg base "is_example" 2 ["value", "size"] (spR K 2 pIsEx) := by
  refine def_pure R sc_isEx rfl (fun _ _ _ _ _ _ us hl => match us, hl with | [_, _], _ => rfl) fun f cdv A outer s H E ds r hr hp hl => ?_
  obtain ⟨⟨fs, lab⟩, n, rfl, hn, ⟨h1, h2, h3⟩, rfl⟩ := hp
  have h1 : fs.length = n := h1
  refine xss_cons (xs_ifF (xt_w (xw_or (xt_not (xt_val (xe_isi B.isinstance B.tuple PyProof.Rows.boot_tuple (xe_var 0 rfl) kit_tt))) (fun _ => xw_or (xt_neS (xe_lenT B.len (xe_var 0 rfl)) xe_int rfl)
    (fun _ => xw_or (xt_not (xt_val (xe_isi B.isinstance B.tuple PyProof.Rows.boot_tuple (xe_ixT (xe_var 0 rfl) xe_int rfl) kit_tt))) (fun _ => xw_or1 (xt_neS (xe_lenT B.len (xe_ixT (xe_var 0 rfl) xe_int rfl)) (xe_var 1 rfl) rfl)))))) ?_ (xss_nil ?_))
  · rw [List.length_map, h1]
    simp [eqS]
  refine xss_cons (xs_ifF (xt_w (xw_or (xt_not (xt_val (xd_call D1 (hr.mono (by decide)) (xa_cons (xe_ixT (xe_var 0 rfl) xe_int rfl) (xa_cons (xe_neg xe_int) (xa_cons xe_int xa_nil))) ⟨lab, -1, 1, rfl, by rcases h3 with h | h <;> (have h : lab = _ := h; omega), by rcases h3 with h | h <;> (have h : lab = _ := h; omega), rfl⟩)))
    (fun _ => xw_or1 (xt_eqS (xe_ixT (xe_var 0 rfl) xe_int rfl) xe_int rfl)))) ?_ (xss_nil ?_))
  · have : ¬ lab = 0 := by rcases h3 with h | h <;> (have h : lab = _ := h; omega)
    simp [eqS, this]
  refine xss_one (xs_ret (xe_eq (xe_all (bs := List.replicate n true) rfl B.all (xe_of_f (xf_eq (xf_lc (own := [("part", 2)]) (fun _ => true) (fun i => .bool true) (.nm 2) rfl sc_isEx.nd (xi_same (xi_tup (xe_ixT (xe_var 0 rfl) xe_int rfl) (pure_ints fs)))
    (blkOk_by (own := [("part", 2)]) (N := ["value", "size", "part"]) (sc := defScope sIsEx) (by decide +kernel)) (fun _ _ _ _ _ => pg_name (i := 2) sc_isEx.nd rfl (Or.inl rfl)) (by decide) ?_ (fun i y hy => ?_)) ?_))) ?_) rfl)
  · rw [List.length_map]
    omega
  · rw [List.getElem?_map] at hy
    cases q : fs[i]? with
    | none => rw [q] at hy; cases hy
    | some z =>
      rw [q] at hy
      cases hy
      have hb := h2 z (List.mem_of_getElem? q)
      exact ⟨_, rfl, fun _ _ _ _ _ => pts_yes, fun _ => ⟨fun _ _ _ _ _ => xd_call D1 (hr.mono (by decide)) (xa_cons (xe_var 2 rfl) (xa_cons (xe_neg (xe_gint B.mVal)) (xa_cons (xe_gint B.mVal) xa_nil))) ⟨z, -100, 100, rfl, hb.1, hb.2, rfl⟩, rfl⟩⟩
  · refine givenD_eq (by rw [List.length_map, List.length_replicate, List.length_map, h1]) fun i x hx => ?_
    rw [List.getElem?_map, List.getElem?_replicate] at hx
    split at hx
    · exact Option.some.inj hx
    · cases hx
  · simp
/-! features_of, check_examples -/
abbrev sFeat : Stmt := topS 16
def pFeat (ds : List PyData) (r : PyData) : Prop := ∃ (n : Nat) (es : List Ex), ds = [dExs es] ∧ ExsOk n es ∧ r = .int (n : Int)
theorem sc_feat : FnScope ["value"] ["value"] (defScope sFeat) := ⟨rfl, rfl, rfl, by decide +kernel, rfl, by decide +kernel, by decide +kernel⟩
theorem ok_feat (R : RawD K mg "features_of" sFeat) (B : Bi mg) : Def P w K mg base "features_of" 1 ["value"] (spR K 1 pFeat) := by
  refine def_pure R sc_feat rfl (fun _ _ _ _ _ _ us hl => match us, hl with | [_], _ => rfl) fun f cdv A outer s H E ds r hr hp hl => ?_
  obtain ⟨n, es, rfl, ok, rfl⟩ := hp
  obtain ⟨⟨fs, lab⟩, r, rfl⟩ : ∃ e r, es = e :: r := by
    cases es with
    | nil => exact absurd ok.l1 (by decide)
    | cons e r => exact ⟨e, r, rfl⟩
  have h1 : fs.length = n := (ok.ok _ List.mem_cons_self).1
  have l2 := ok.l2
  refine xss_cons (xs_ifF (xt_w (xw_or (xt_not (xt_val (xe_isi B.isinstance B.tuple PyProof.Rows.boot_tuple (xe_var 0 rfl) kit_tt))) (fun _ => xw_or1 (xt_not (xt_chain op_le op_le rd_le rd_le xe_int (xe_lenT B.len (xe_var 0 rfl)) (xe_gint B.mExa)))))) ?_ (xss_nil ?_))
  · rw [List.length_cons] at l2
    have a1 : (1 : Int) ≤ ((((fs, lab) :: r).map dEx).length : Int) := by rw [List.length_map, List.length_cons]; omega
    have a2 : ((((fs, lab) :: r).map dEx).length : Int) ≤ 50 := by rw [List.length_map, List.length_cons]; omega
    rw [decide_eq_true a1, decide_eq_true a2]
    rfl
  refine xss_cons (xs_ifF (xt_w (xw_or (xt_not (xt_val (xe_isi B.isinstance B.tuple PyProof.Rows.boot_tuple (xe_ixT (xe_var 0 rfl) xe_int (atI_nat (j := 0) rfl)) kit_tt))) (fun _ => xw_or (xt_neS (xe_lenT B.len (xe_ixT (xe_var 0 rfl) xe_int (atI_nat (j := 0) rfl))) xe_int rfl)
    (fun _ => xw_or1 (xt_not (xt_val (xe_isi B.isinstance B.tuple PyProof.Rows.boot_tuple (xe_ixT (xe_ixT (xe_var 0 rfl) xe_int (atI_nat (j := 0) rfl)) xe_int (atI_nat (j := 0) rfl)) kit_tt))))))) rfl (xss_nil ?_))
  refine xss_one (xs_ret (xe_eq (xe_lenT B.len (xe_ixT (xe_ixT (xe_var 0 rfl) xe_int (atI_nat (j := 0) rfl)) xe_int (atI_nat (j := 0) rfl))) ?_) rfl)
  rw [List.length_map, h1]
end
end TC
namespace TC
open PySem L2
section
variable {P : Program} {w : World}
variable {K : PySem.W.Frag} {mg : Str → Option Value} {base : Heap}
/-! check_examples -/
abbrev sChk : Stmt := topS 17
def pChk (ds : List PyData) (r : PyData) : Prop := ∃ (n : Nat) (es : List Ex), ds = [dExs es] ∧ ExsOk n es ∧ r = .none
theorem sc_chk : FnScope ["value", "size", "part"] ["value"] (defScope sChk) := ⟨rfl, rfl, rfl, by decide +kernel, rfl, by decide +kernel, by decide +kernel⟩
theorem ok_chk (R : RawD K mg "check_examples" sChk) (B : Bi mg) (D1 : Def P w K mg base "features_of" 1 ["value"] (spR K 1 pFeat)) (D2 : Def P w K mg base "is_example" 2 ["value", "size"] (spR K 2 pIsEx)) : Def P w K mg base "check_examples" 3 ["value"] (spR K 1 pChk) := by
  refine def_pure R sc_chk rfl (fun _ _ _ _ _ _ us hl => match us, hl with | [_], _ => rfl) fun f cdv A outer s H E ds r hr hp hl => ?_
  obtain ⟨n, es, rfl, ok, rfl⟩ := hp
  refine xss_cons (xs_set 1 (xd_call D1 (hr.mono (by decide)) (xa_cons (xe_var 0 rfl) xa_nil) ⟨n, es, rfl, ok, rfl⟩) ?_ sc_chk.nd)
  refine xss_one (xs_ifF (xt_w (xw_or (xt_not (xt_chain op_le op_le rd_le rd_le xe_int (xe_var 1 rfl) (xe_gint B.mFea))) (fun _ => xw_or1 (xt_not (xt_val (xe_all (bs := List.replicate es.length true) rfl B.all (xe_of_f (xf_eq (xf_lc (own := [("part", 2)]) (fun _ => true) (fun i => .bool true) (.nm 2) rfl sc_chk.nd (xi_same (xi_tup (xe_var 0 rfl) (pureExs es)))
    (blkOk_by (own := [("part", 2)]) (N := ["value", "size", "part"]) (sc := defScope sChk) (by decide +kernel)) (fun _ _ _ _ _ => pg_name (i := 2) sc_chk.nd rfl (Or.inl rfl)) (by decide) ?_ (fun i y hy => ?_)) ?_)))))))) ?_ (xss_nil rfl))
  · rw [List.length_map]
    have := ok.l2
    omega
  · rw [List.getElem?_map] at hy
    cases q : es[i]? with
    | none => rw [q] at hy; cases hy
    | some z =>
      rw [q] at hy
      cases hy
      exact ⟨_, rfl, fun _ _ _ _ _ => pts_yes, fun _ => ⟨fun _ _ _ _ _ => xd_call D2 (hr.mono (by decide)) (xa_cons (xe_var 2 rfl) (xa_cons (xe_var 1 rfl) xa_nil)) ⟨z, n, rfl, ok.n2, ok.ok z (List.mem_of_getElem? q), rfl⟩, rfl⟩⟩
  · refine givenD_eq (by rw [List.length_map, List.length_replicate, List.length_map]) fun i x hx => ?_
    rw [List.getElem?_map, List.getElem?_replicate] at hx
    split at hx
    · exact Option.some.inj hx
    · cases hx
  · have h1 := ok.n1
    have h2 := ok.n2
    rw [decide_eq_true (show (1 : Int) ≤ (n : Int) by omega), decide_eq_true (show (n : Int) ≤ 8 by omega)]
    simp
/-! epoch_order -/
abbrev sOrd : Stmt := topS 18
def pOrd (ds : List PyData) (r : PyData) : Prop := ∃ (seed epoch : Int) (n : Nat), ds = [.int seed, .int epoch, .int (n : Int)] ∧ 1 ≤ n ∧ n ≤ 50 ∧ r = dInts (orderM seed epoch n)
theorem sc_ord : FnScope ["seed", "epoch", "size", "number", "order", "place", "other"] ["seed", "epoch", "size"] (defScope sOrd) := ⟨rfl, rfl, rfl, by decide +kernel, rfl, by decide +kernel, by decide +kernel⟩
theorem ok_ord (R : RawD K mg "epoch_order" sOrd) (B : Bi mg) : Def P w K mg base "epoch_order" 1 ["seed", "epoch", "size"] (spR K 3 pOrd) := by
  refine def_pure R sc_ord rfl (fun _ _ _ _ _ _ us hl => match us, hl with | [_, _, _], _ => rfl) fun f cdv A outer s H E ds r hr hp hl => ?_
  obtain ⟨seed, epoch, n, rfl, hn1, hn2, rfl⟩ := hp
  refine xss_cons (xs_set 3 (xe_add (xe_add xe_int (xe_mul xe_int (xe_var 0 rfl) (.inl (by decide)))) (xe_var 1 rfl)) ?_ sc_ord.nd)
  refine xss_cons (xs_setF 4 (xf_eq (xf_listRg rfl B.list B.range (xe_var 2 rfl) (by omega)) (show _ = ((List.range n).map fun (i : Nat) => (i : Int)).map PyData.int by rw [List.map_map]; rfl)) rfl (pure_ints _) ?_ sc_ord.nd)
  refine xss_cons (xs_for (.nm 5) (fun i Γ => ∃ s3 s5 s6, Γ = [.b (.int seed), .b (.int epoch), .b (.int (n : Int)), s3, .o ((ordRun n i (1 + 1009 * seed + epoch, (List.range n).map fun (i : Nat) => (i : Int))).2.map .int), s5, s6] ∧
      look [.b (.int seed), .b (.int epoch), .b (.int (n : Int)), s3] 3 = some (.int (ordRun n i (1 + 1009 * seed + epoch, (List.range n).map fun (i : Nat) => (i : Int))).1))
    (xi_range3 (m := (n : Int) - 1) (n := 0) (by omega) (xa_cons (xe_sub (xe_var 2 rfl) xe_int) (xa_cons xe_int (xa_cons (xe_neg xe_int) xa_nil))) (pi_range3 rfl B.range (xa_cons (xe_sub (xe_var 2 rfl) xe_int) (xa_cons xe_int (xa_cons (xe_neg xe_int) xa_nil)))))
    (pg_name (i := 5) sc_ord.nd rfl (Or.inl rfl)) ⟨_, _, _, rfl, rfl⟩ ?_ ?_ rfl PassesOwn.never)
  · rintro i y Γi hy ⟨s3, s5, s6, rfl, hs3⟩
    obtain ⟨rfl, hi⟩ := stepsD_get hy
    obtain ⟨S, hS⟩ : ∃ S, S = ordRun n i (1 + 1009 * seed + epoch, (List.range n).map fun (i : Nat) => (i : Int)) := ⟨_, rfl⟩
    rw [← hS] at hs3 ⊢
    have hlen : S.2.length = n := by rw [hS, ordRun_len, List.length_map, List.length_range]
    have hi' : i < n - 1 := by omega
    have hstep : ordRun n (i + 1) (1 + 1009 * seed + epoch, (List.range n).map fun (i : Nat) => (i : Int)) = ordStep (n - 1 - i) S := by rw [hS]; rfl
    rw [hstep]
    have hpl : (n : Int) - 1 + (i : Nat) * (-1) = ((n - 1 - i : Nat) : Int) := by omega
    obtain ⟨p, hp⟩ : ∃ p, p = n - 1 - i := ⟨_, rfl⟩
    rw [← hp] at hpl ⊢
    rw [hpl]
    have hpn : p < n := by omega
    obtain ⟨num, hnum⟩ : ∃ num, num = 48271 * S.1 % 2147483647 := ⟨_, rfl⟩
    have ho1 : 0 ≤ num % ((p : Int) + 1) := Int.emod_nonneg _ (by omega)
    have ho2 : num % ((p : Int) + 1) < (p : Int) + 1 := Int.emod_lt_of_pos _ (by omega)
    have hso : (num % ((p : Int) + 1)).toNat < n := by omega
    refine ⟨_, rfl, ?_⟩
    refine xss_cons (xs_set 3 (xe_eq (xe_mod (xe_mul (xe_gint B.mFac) (xe_var 3 hs3) (.inl (by decide))) (xe_gint B.mMod) (by decide)) (show _ = PyData.int num by rw [hnum])) ?_ sc_ord.nd)
    refine xss_cons (xs_set 6 (xe_mod (xe_var 3 rfl) (xe_add (xe_var 5 rfl) xe_int) (by omega)) ?_ sc_ord.nd)
    refine xss_one (xs_swap 4 (d1 := .int (S.2.getD (num % ((p : Int) + 1)).toNat 0)) (d2 := .int (S.2.getD p 0)) (m := (p : Int)) (n := num % ((p : Int) + 1)) (j1 := p) (j2 := (num % ((p : Int) + 1)).toNat) rfl (xe_ixLm (f := PyData.int) (xs := S.2) 0 (xe_var 4 rfl) (xe_var 6 rfl) ⟨ho1, by rw [hlen]; omega⟩)
      (xe_ixLm (f := PyData.int) (xs := S.2) (i := (p : Int)) 0 (xe_var 4 rfl) (xe_var 5 rfl) ⟨by omega, by rw [hlen]; omega⟩) (xe_var 5 rfl) (ixN_of rfl (by rw [List.length_map, hlen]; exact hpn)) rfl rfl
      (xe_var 6 rfl) (ixN_of (by omega) (by rw [List.length_map, hlen]; exact hso)) ?_
      (ps_asg (pe_tup (xa_cons (xe_ixLm (f := PyData.int) (xs := S.2) 0 (xe_var 4 rfl) (xe_var 6 rfl) ⟨ho1, by rw [hlen]; omega⟩) (xa_cons (xe_ixLm (f := PyData.int) (xs := S.2) (i := (p : Int)) 0 (xe_var 4 rfl) (xe_var 5 rfl) ⟨by omega, by rw [hlen]; omega⟩) xa_nil)))
        (pg_tup rfl (pgs_cons (pg_sub (pv 4) (xe_var 5 rfl) set_list) (pgs_cons (pg_sub (pv 4) (xe_var 6 rfl) set_list) pgs_nil)))))
    refine ⟨.c (.int num), .c (.int (p : Int)), .c (.int (num % ((p : Int) + 1))), ?_, ?_⟩
    · unfold ordStep
      simp only [List.map_set, ← hnum]
      rfl
    · unfold ordStep
      simp only [← hnum]
      rfl
  · rintro Γ' ⟨s3, s5, s6, rfl, _⟩
    rw [stepsD_len, show ((n : Int) - 1 - 0).toNat = n - 1 by omega]
    exact xss_one (xs_ret (xe_tupleL B.tuple (xe_var 4 rfl)) rfl)
end
end TC
namespace TC
open PySem L2
section
variable {P : Program} {w : World}
variable {K : PySem.W.Frag} {mg : Str → Option Value} {base : Heap}
/-! stepped -/
abbrev sStep : Stmt := topS 20
def RateOk (r : Int) : Prop := -1000 ≤ r ∧ r ≤ 1000
def pStep (ds : List PyData) (r : PyData) : Prop := ∃ (ws : List Int) (e : Ex) (rate margin : Int) (n : Nat), ds = [dInts ws, dEx e, .int rate, .int margin] ∧ n ≤ 8 ∧ ws.length = n ∧ ExOk n e ∧ RateOk rate ∧ r = dInts (stepM ws e rate margin)
theorem sc_step : FnScope ["weights", "example", "rate", "margin", "features", "label", "weight", "feature"] ["weights", "example", "rate", "margin"] (defScope sStep) := ⟨rfl, rfl, rfl, by decide +kernel, rfl, by decide +kernel, by decide +kernel⟩
theorem ok_step (R : RawD K mg "stepped" sStep) (B : Bi mg) (D1 : Def P w K mg base "product" 1 ["weights", "features"] (spR K 2 pProd)) : Def P w K mg base "stepped" 2 ["weights", "example", "rate", "margin"] (spR K 4 pStep) := by
  refine def_pure R sc_step rfl (fun _ _ _ _ _ _ us hl => match us, hl with | [_, _, _, _], _ => rfl) fun f cdv A outer s H E ds r hr hp hl => ?_
  obtain ⟨ws, ⟨fs, lab⟩, rate, margin, n, rfl, hn, hw, ⟨h1, h2, h3⟩, hrate, rfl⟩ := hp
  have h1 : fs.length = n := h1
  have hlab : -1 ≤ lab ∧ lab ≤ 1 := by rcases h3 with h | h <;> (have h : lab = _ := h; omega)
  refine xss_cons (xs_asg (.tp [4, 5]) (xe_var 1 rfl) (pg_tup rfl (pgs_cons (pg_name (i := 4) sc_step.nd rfl (Or.inl rfl)) (pgs_cons (pg_name (i := 5) sc_step.nd rfl (Or.inr rfl)) pgs_nil))) ⟨_, rfl, ?_⟩)
  have body : ∀ Γ : G, Γ = [.c (dInts ws), .c (dEx (fs, lab)), .c (.int rate), .c (.int margin), .c (dInts fs), .c (.int lab), .n, .n] → _ := fun Γ e => e
  refine xss_cons (xs_if (xt_gt (xe_mul (xe_var 5 rfl) (xd_call D1 (hr.mono (by decide)) (xa_cons (xe_var 0 rfl) (xa_cons (xe_var 4 rfl) xa_nil)) ⟨ws, fs, rfl, by omega, by omega, h2, rfl⟩) (.inl (by omega))) (xe_var 3 rfl)) (fun hk => ?_) fun hk => xss_nil ?_)
  · have hk := of_decide_eq_true hk
    exact xss_one (xs_ret (xe_var 0 rfl) (by unfold stepM; rw [if_pos hk]))
  · have hk := of_decide_eq_false hk
    refine xss_one (xs_ret (xe_eq (xe_tupleL B.tuple (xe_of_f (xf_eq (xf_lc (own := [("weight", 6), ("feature", 7)]) (fun _ => true) (fun i => .int ((fun w f => w + rate * lab * f) (ws.getD i 0) (fs.getD i 0))) (.tp [6, 7]) rfl sc_step.nd (xi_same (xi_zipT B.zip (xe_var 0 rfl) (xe_var 4 rfl) (pure_ints ws) (pure_ints fs)))
      (blkOk_by (own := [("weight", 6), ("feature", 7)]) (N := ["weights", "example", "rate", "margin", "features", "label", "weight", "feature"]) (sc := defScope sStep) (by decide +kernel)) (fun _ _ _ _ _ => pg_tup rfl (pgs_cons (pg_name (i := 6) sc_step.nd rfl (Or.inl rfl)) (pgs_cons (pg_name (i := 7) sc_step.nd rfl (Or.inl rfl)) pgs_nil))) (by decide) ?_ (fun i y hy => ?_)) (zipW_given (ws := ws) (fs := fs) (g := fun w f => w + rate * lab * f))))) ?_) rfl)
    · rw [zipD_len]
      omega
    · obtain ⟨rfl, hi, _⟩ := zipD_get hy
      refine ⟨_, rfl, fun _ _ _ _ _ => pts_yes, fun _ => ⟨fun _ _ _ _ _ => ?_, rfl⟩⟩
      have hb : -100 ≤ fs.getD i 0 ∧ fs.getD i 0 ≤ 100 := small_get h2 hi
      unfold RateOk at hrate
      exact xe_add (xe_var 6 rfl) (xe_mul (xe_mul (xe_var 2 rfl) (xe_var 5 rfl) (.inl (by omega))) (xe_var 7 rfl) (.inr (by omega)))
    · unfold stepM
      rw [if_neg hk]
      rfl
/-! score_of -/
abbrev sScore : Stmt := topS 22
def pScore (ds : List PyData) (r : PyData) : Prop := ∃ (n : Nat) (es : List Ex) (ws : List Int), ds = [dExs es, dInts ws] ∧ ExsOk n es ∧ ws.length = n ∧ r = .int (scoreM es ws)
theorem sc_score : FnScope ["examples", "weights", "features", "label"] ["examples", "weights"] (defScope sScore) := ⟨rfl, rfl, rfl, by decide +kernel, rfl, by decide +kernel, by decide +kernel⟩
theorem givenD_count {n : Nat} {f : Nat → Bool} {v : Nat → PyData} : (givenD n f v).length = ((List.range n).filter f).length := by unfold givenD; rw [List.length_map]
theorem filter_range {α : Type} (p : α → Bool) (z : α) : ∀ (l : List α), ((List.range l.length).filter fun i => p (l.getD i z)).length = (l.filter p).length
  | [] => rfl
  | a :: l => by
    have ih := filter_range p z l
    rw [List.length_cons, List.range_succ_eq_map, List.filter_cons, List.filter_cons, List.filter_map]
    have e : (a :: l).getD 0 z = a := rfl
    have e2 : ((fun i => p ((a :: l).getD i z)) ∘ Nat.succ) = fun i => p (l.getD i z) := rfl
    rw [e, e2]
    by_cases h : p a = true
    · rw [if_pos h, if_pos h, List.length_cons, List.length_cons, List.length_map, ih]
    · rw [if_neg h, if_neg h, List.length_map, ih]
theorem ok_score (R : RawD K mg "score_of" sScore) (B : Bi mg) (D1 : Def P w K mg base "product" 1 ["weights", "features"] (spR K 2 pProd)) : Def P w K mg base "score_of" 2 ["examples", "weights"] (spR K 2 pScore) := by
  refine def_pure R sc_score rfl (fun _ _ _ _ _ _ us hl => match us, hl with | [_, _], _ => rfl) fun f cdv A outer s H E ds r hr hp hl => ?_
  obtain ⟨n, es, ws, rfl, ok, hw, rfl⟩ := hp
  have l2 := ok.l2
  have n2 := ok.n2
  refine xss_one (xs_ret (xe_eq (xe_lenL B.len (xe_of_f (xf_lc (own := [("features", 2), ("label", 3)]) (fun i => (fun e : Ex => decide (0 < e.2 * dot ws e.1)) (es.getD i ([], 0))) (fun i => .int 1) (.tp [2, 3]) rfl sc_score.nd (xi_same (xi_tup (xe_var 0 rfl) (pureExs es)))
    (blkOk_by (own := [("features", 2), ("label", 3)]) (N := ["examples", "weights", "features", "label"]) (sc := defScope sScore) (by decide +kernel)) (fun _ _ _ _ _ => pg_tup rfl (pgs_cons (pg_name (i := 2) sc_score.nd rfl (Or.inl rfl)) (pgs_cons (pg_name (i := 3) sc_score.nd rfl (Or.inl rfl)) pgs_nil))) (by decide) ?_ (fun i y hy => ?_)))) ?_) rfl)
  · rw [List.length_map]
    omega
  · rw [List.getElem?_map] at hy
    cases q : es[i]? with
    | none => rw [q] at hy; cases hy
    | some z =>
      rw [q] at hy
      cases hy
      obtain ⟨fs, lab⟩ := z
      have ho := ok.ok _ (List.mem_of_getElem? q)
      have h1 : fs.length = n := ho.1
      have hlab : -1 ≤ lab ∧ lab ≤ 1 := by rcases ho.2.2 with h | h <;> (have h : lab = _ := h; omega)
      rw [getD_of q]
      refine ⟨_, rfl, fun _ _ _ _ _ => pts_one (xt_gt (xe_mul (xe_var 3 rfl) (xd_call D1 (hr.mono (by decide)) (xa_cons (xe_var 1 rfl) (xa_cons (xe_var 2 rfl) xa_nil)) ⟨ws, fs, rfl, by omega, by omega, ho.2.1, rfl⟩) (.inl (by omega))) xe_int), fun _ => ⟨fun _ _ _ _ _ => xe_int, rfl⟩⟩
  · rw [givenD_count, List.length_map]
    have q := filter_range (fun e : Ex => decide (0 < e.2 * dot ws e.1)) ([], 0) es
    show PyData.int _ = PyData.int _
    unfold scoreM
    rw [← q]
/-! position_of -/
abbrev sPos : Stmt := topS 7
def pPos (ds : List PyData) (r : PyData) : Prop := ∃ (seed : Int) (st : List Str3), ds = [.tuple [.int seed, .tuple (st.map dStr3)]] ∧ st.length ≤ 1000 ∧ r = .int (posM st : Int)
theorem pureStr3 (s : Str3) : pureD (dStr3 s) = true := rfl
theorem sc_pos : FnScope ["script", "_", "steps"] ["script"] (defScope sPos) := ⟨rfl, rfl, rfl, by decide +kernel, rfl, by decide +kernel, by decide +kernel⟩
theorem sum_cast : ∀ l : List Nat, (l.map fun (i : Nat) => (i : Int)).sum = (l.sum : Int)
  | [] => rfl
  | a :: l => by rw [List.map_cons, List.sum_cons, List.sum_cons, sum_cast l]; omega
theorem ok_pos (R : RawD K mg "position_of" sPos) (B : Bi mg) : Def P w K mg base "position_of" 1 ["script"] (spR K 1 pPos) := by
  refine def_pure R sc_pos rfl (fun _ _ _ _ _ _ us hl => match us, hl with | [_], _ => rfl) fun f cdv A outer s H E ds r hr hp hl => ?_
  obtain ⟨seed, st, rfl, hl2, rfl⟩ := hp
  refine xss_one (xs_ret (xe_eq (xe_sum (ns := st.map fun s => (s.2.2 : Int)) rfl B.sum (xe_of_f (xf_eq (xf_lc (own := [("_", 1), ("steps", 2)]) (fun _ => true) (fun i => .int ((st.getD i (0, 0, 0)).2.2 : Int)) (.tp [1, 1, 2]) rfl sc_pos.nd (xi_same (xi_tup (xe_ixT (xe_var 0 rfl) xe_int (atI_nat (j := 1) rfl)) (pureAll_map pureStr3 st)))
    (blkOk_by (own := [("_", 1), ("steps", 2)]) (N := ["script", "_", "steps"]) (sc := defScope sPos) (by decide +kernel)) (fun _ _ _ _ _ => pg_tup rfl (pgs_cons (pg_name (i := 1) sc_pos.nd rfl (Or.inl rfl)) (pgs_cons (pg_name (i := 1) sc_pos.nd rfl (Or.inl rfl)) (pgs_cons (pg_name (i := 2) sc_pos.nd rfl (Or.inl rfl)) pgs_nil)))) (by decide) ?_ (fun i y hy => ?_)) ?_))) ?_) rfl)
  · rw [List.length_map]
    omega
  · rw [List.getElem?_map] at hy
    cases q : st[i]? with
    | none => rw [q] at hy; cases hy
    | some z =>
      rw [q] at hy
      cases hy
      rw [getD_of q]
      exact ⟨_, rfl, fun _ _ _ _ _ => pts_yes, fun _ => ⟨fun _ _ _ _ _ => xe_var 2 rfl, rfl⟩⟩
  · refine givenD_eq (by rw [List.length_map, List.length_map, List.length_map]) fun i x hx => ?_
    rw [List.getElem?_map, List.getElem?_map] at hx
    cases q : st[i]? with
    | none => rw [q] at hx; cases hx
    | some z =>
      rw [q] at hx
      rw [getD_of q]
      exact Option.some.inj hx
  · show PyData.int _ = PyData.int _
    unfold posM
    rw [← sum_cast, List.map_map]
    rfl
end
end TC
namespace TC
open PySem L2
section
variable {P : Program} {w : World}
variable {K : PySem.W.Frag} {mg : Str → Option Value} {base : Heap}
/-! trained -/
abbrev sTrain : Stmt := topS 21
def pTrained (ds : List PyData) (r : PyData) : Prop := ∃ (n : Nat) (es : List Ex) (seed : Int) (pos : Nat) (ws : List Int) (rate margin : Int) (k : Nat), ds = [dExs es, .int seed, .int (pos : Int), dInts ws, dStr3 (rate, margin, k)] ∧ ExsOk n es ∧ ws.length = n ∧ RateOk rate ∧ pos ≤ 100000 ∧ k ≤ 100000 ∧ r = dInts (trainM es seed pos ws rate margin k)
theorem sc_train : FnScope ["examples", "seed", "position", "weights", "stretch", "rate", "margin", "steps", "size", "order", "step"] ["examples", "seed", "position", "weights", "stretch"] (defScope sTrain) := ⟨rfl, rfl, rfl, by decide +kernel, rfl, by decide +kernel, by decide +kernel⟩
theorem ok_train (R : RawD K mg "trained" sTrain) (B : Bi mg) (D1 : Def P w K mg base "epoch_order" 1 ["seed", "epoch", "size"] (spR K 3 pOrd)) (D2 : Def P w K mg base "stepped" 2 ["weights", "example", "rate", "margin"] (spR K 4 pStep)) :
    Def P w K mg base "trained" 3 ["examples", "seed", "position", "weights", "stretch"] (spR K 5 pTrained) := by
  refine def_pure R sc_train rfl (fun _ _ _ _ _ _ us hl => match us, hl with | [_, _, _, _, _], _ => rfl) fun f cdv A outer s H E ds r hr hp hl => ?_
  obtain ⟨n, es, seed, pos, ws, rate, margin, k, rfl, ok, hw, hrate, hp1, hk1, rfl⟩ := hp
  have l1 := ok.l1
  have l2 := ok.l2
  refine xss_cons (xs_asg (.tp [5, 6, 7]) (xe_var 4 rfl) (pg_tup rfl (pgs_cons (pg_name (i := 5) sc_train.nd rfl (Or.inl rfl)) (pgs_cons (pg_name (i := 6) sc_train.nd rfl (Or.inl rfl)) (pgs_cons (pg_name (i := 7) sc_train.nd rfl (Or.inl rfl)) pgs_nil)))) ⟨_, rfl, ?_⟩)
  refine xss_cons (xs_set 8 (xe_eq (xe_lenT B.len (xe_var 0 rfl)) (show _ = PyData.int (es.length : Int) by rw [List.length_map])) ?_ sc_train.nd)
  refine xss_cons (xs_set 9 (xe_tup xa_nil (by decide)) ?_ sc_train.nd)
  refine xss_cons (xs_for (.nm 10) (fun i Γ => ∃ (ord : List Int) (s10 : SV), Γ = [.c (dExs es), .c (.int seed), .c (.int (pos : Int)), .c (dInts (trainM es seed pos ws rate margin i)), .c (dStr3 (rate, margin, k)), .c (.int rate), .c (.int margin), .c (.int (k : Int)), .c (.int (es.length : Int)), .c (dInts ord), s10] ∧
      (ord = [] ∨ (1 ≤ pos + i ∧ ord = orderM seed (((pos + i - 1) / es.length : Nat) : Int) es.length)))
    (xi_range2 (n := (pos : Int) + (k : Int)) B.range (xe_var 2 rfl) (xe_add (xe_var 2 rfl) (xe_var 7 rfl)) (by omega)) (pg_name (i := 10) sc_train.nd rfl (Or.inl rfl)) ⟨[], .n, rfl, .inl rfl⟩ ?_ ?_ rfl PassesOwn.never)
  · rintro i y Γi hy ⟨ord, s10, rfl, hord⟩
    obtain ⟨rfl, hi⟩ := stepsD_get hy
    obtain ⟨p, hp⟩ : ∃ p, p = pos + i := ⟨_, rfl⟩
    rw [show (pos : Int) + (i : Nat) * 1 = (p : Int) by omega]
    refine ⟨_, rfl, ?_⟩
    have hpm : p % es.length < es.length := Nat.mod_lt _ l1
    have hex : ExOk n (exAt es seed p) := ok.ok _ (exAt_mem l1)
    have hog := orderM_get (seed := seed) (epoch := ((p / es.length : Nat) : Int)) l1 hpm
    have hwl : (trainM es seed pos ws rate margin i).length = n := trainM_len ok hw i
    -- what follows the test
    have rest : ∀ Γ : G, Γ = [.c (dExs es), .c (.int seed), .c (.int (pos : Int)), .c (dInts (trainM es seed pos ws rate margin i)), .c (dStr3 (rate, margin, k)), .c (.int rate), .c (.int margin), .c (.int (k : Int)), .c (.int (es.length : Int)), .c (dInts (orderM seed ((p / es.length : Nat) : Int) es.length)), .c (.int (p : Int))] →
        XSs (cxOf CX0 P w K mg base ["examples", "seed", "position", "weights", "stretch", "rate", "margin", "steps", "size", "order", "step"] "trained" (defScope sTrain) f cdv A outer s H E).nox (.pu H) [((match ((defBody sTrain).getD 3 (.Pass ⟨0, 0, 0, 0⟩)) with | .For _ _ b _ _ => b | _ => []).getD 1 (.Pass ⟨0, 0, 0, 0⟩))] Γ
          (fun Γ => ∃ (ord : List Int) (s10 : SV), Γ = [.c (dExs es), .c (.int seed), .c (.int (pos : Int)), .c (dInts (trainM es seed pos ws rate margin (i + 1))), .c (dStr3 (rate, margin, k)), .c (.int rate), .c (.int margin), .c (.int (k : Int)), .c (.int (es.length : Int)), .c (dInts ord), s10] ∧
            (ord = [] ∨ (1 ≤ pos + (i + 1) ∧ ord = orderM seed (((pos + (i + 1) - 1) / es.length : Nat) : Int) es.length))) (fun q _ => q = .d (dInts (trainM es seed pos ws rate margin k))) := by
      rintro Γ rfl
      have hmod : (p : Int) % (es.length : Int) = ((p % es.length : Nat) : Int) := (Int.natCast_emod p es.length).symm
      refine xss_one (xs_set 3 (xd_call D2 (hr.mono (by decide)) (xa_cons (xe_var 3 rfl) (xa_cons (xe_eq (d2 := dEx (exAt es seed p)) (xe_ixTm (f := dEx) (xs := es) ([], 0) (xe_var 0 rfl) (xe_ixTm (f := PyData.int) (xs := orderM seed ((p / es.length : Nat) : Int) es.length) (i := ((p % es.length : Nat) : Int)) 0 (xe_var 9 rfl) (xe_eq (xe_mod (xe_var 10 rfl) (xe_var 8 rfl) (by omega)) (by rw [hmod])) ?_) ?_) ?_) (xa_cons (xe_var 5 rfl) (xa_cons (xe_var 6 rfl) xa_nil))))
        ⟨_, _, rate, margin, n, rfl, ok.n2, hwl, hex, hrate, rfl⟩) ?_ sc_train.nd)
      · rw [orderM_len]
        omega
      · rw [Int.toNat_natCast]
        omega
      · rw [Int.toNat_natCast]
        rfl
      · refine ⟨orderM seed ((p / es.length : Nat) : Int) es.length, .c (.int (p : Int)), ?_, .inr ⟨by omega, ?_⟩⟩
        · subst hp
          rfl
        · rw [show pos + (i + 1) - 1 = p by omega]
    refine xss_cons (xs_if (xt_w (xw_or (xt_not (xt_tru (xe_var 9 rfl) rfl)) (fun _ => xw_or1 (xt_eqS (xe_mod (xe_var 10 rfl) (xe_var 8 rfl) (by omega)) xe_int rfl)))) (fun hk => ?_) fun hk => xss_nil ?_)
    · have hdiv : (p : Int) / (es.length : Int) = ((p / es.length : Nat) : Int) := (Int.natCast_ediv p es.length).symm
      exact xss_one (xs_set 9 (xd_call D1 (hr.mono (by decide)) (xa_cons (xe_var 1 rfl) (xa_cons (xe_eq (xe_fdiv (xe_var 10 rfl) (xe_var 8 rfl) (by omega)) (by rw [hdiv])) (xa_cons (xe_var 8 rfl) xa_nil))) ⟨seed, _, es.length, rfl, l1, l2, rfl⟩) (rest _ rfl) sc_train.nd)
    · refine rest _ ?_
      rw [Bool.or_eq_false_iff] at hk
      obtain ⟨hk1, hk2⟩ := hk
      rcases hord with rfl | ⟨h1, rfl⟩
      · cases hk1
      · have hne : ¬ (p : Int) % (es.length : Int) = 0 := of_decide_eq_false hk2
        have hmod : (p : Int) % (es.length : Int) = ((p % es.length : Nat) : Int) := (Int.natCast_emod p es.length).symm
        have hne' : p % es.length ≠ 0 := by omega
        have hdd : (pos + i - 1) / es.length = p / es.length := by
          rw [← hp]
          have e1 := Nat.div_add_mod p es.length
          have hlt : p % es.length < es.length := hpm
          have e2 : p - 1 = es.length * (p / es.length) + (p % es.length - 1) := by
            obtain ⟨z, hz⟩ : ∃ z, z = es.length * (p / es.length) := ⟨_, rfl⟩
            rw [← hz] at e1 ⊢
            omega
          rw [e2, Nat.mul_add_div (by omega), Nat.div_eq_of_lt (a := p % es.length - 1) (by omega), Nat.add_zero]
        rw [hdd]
        rfl
  · rintro Γ' ⟨ord, s10, rfl, _⟩
    rw [stepsD_len, show ((pos : Int) + (k : Int) - (pos : Int)).toNat = k by omega]
    exact xss_one (xs_ret (xe_var 3 rfl) rfl)
/-! joined -/
abbrev sJoin : Stmt := topS 8
def pJoin (ds : List PyData) (r : PyData) : Prop := ∃ st : List Str3, ds = [.tuple (st.map dStr3)] ∧ st.length ≤ 1000 ∧ r = .tuple ((joinM st).map dStr3)
theorem sc_join : FnScope ["stretches", "found", "rate", "margin", "steps"] ["stretches"] (defScope sJoin) := ⟨rfl, rfl, rfl, by decide +kernel, rfl, by decide +kernel, by decide +kernel⟩
theorem nil_or_snoc {α : Type} (l : List α) : l = [] ∨ ∃ L b, l = L ++ [b] := by
  cases l with
  | nil => exact .inl rfl
  | cons a t => exact .inr ⟨_, _, (List.dropLast_concat_getLast (List.cons_ne_nil a t)).symm⟩
theorem joinStep_len (acc : List Str3) (s : Str3) : (joinStep acc s).length ≤ acc.length + 1 := by
  unfold joinStep
  split
  · split
    · rw [List.length_append, List.length_dropLast, List.length_singleton]; omega
    · rw [List.length_append]
      rw [List.length_singleton]; omega
  · simp
theorem join_len : ∀ (st acc : List Str3), (st.foldl joinStep acc).length ≤ acc.length + st.length
  | [], _ => Nat.le_refl _
  | s :: st, acc => by
    have h1 := joinStep_len acc s
    have h2 := join_len st (joinStep acc s)
    rw [List.foldl_cons]
    rw [List.length_cons]
    omega
theorem take_fold {st : List Str3} {i : Nat} {s : Str3} (h : st[i]? = some s) : joinM (st.take (i + 1)) = joinStep (joinM (st.take i)) s := by
  unfold joinM
  rw [List.take_add_one]
  rw [h, List.foldl_append]
  rfl
theorem ok_join (R : RawD K mg "joined" sJoin) (B : Bi mg) : Def P w K mg base "joined" 1 ["stretches"] (spR K 1 pJoin) := by
  refine def_pure R sc_join rfl (fun _ _ _ _ _ _ us hl => match us, hl with | [_], _ => rfl) fun f cdv A outer s H E ds r hr hp hl => ?_
  obtain ⟨st, rfl, hst, rfl⟩ := hp
  refine xss_cons (xs_setF 1 (xf_lst xa_nil (by decide)) rfl rfl ?_ sc_join.nd)
  refine xss_cons (xs_for (.tp [2, 3, 4]) (fun i Γ => ∃ s2 s3 s4, Γ = [.b (.tuple (st.map dStr3)), .o ((joinM (st.take i)).map dStr3), s2, s3, s4]) (xi_tup (xe_var 0 rfl) (pureAll_map pureStr3 st))
    (pg_tup rfl (pgs_cons (pg_name (i := 2) sc_join.nd rfl (Or.inl rfl)) (pgs_cons (pg_name (i := 3) sc_join.nd rfl (Or.inl rfl)) (pgs_cons (pg_name (i := 4) sc_join.nd rfl (Or.inl rfl)) pgs_nil)))) ⟨_, _, _, rfl⟩ ?_ ?_ rfl PassesOwn.never)
  · rintro i y Γi hy ⟨s2, s3, s4, rfl⟩
    rw [List.getElem?_map] at hy
    cases q : st[i]? with
    | none => rw [q] at hy; cases hy
    | some z =>
      rw [q] at hy
      cases hy
      obtain ⟨rate, margin, k⟩ := z
      have hi : i < st.length := (List.getElem?_eq_some_iff.mp q).1
      rw [take_fold q]
      obtain ⟨acc, hacc⟩ : ∃ acc, acc = joinM (st.take i) := ⟨_, rfl⟩
      have hal : acc.length ≤ 1000 := by
        have := join_len (st.take i) []
        rw [hacc]
        unfold joinM
        rw [List.length_take] at this
        simp only [List.length_nil] at this
        omega
      rw [← hacc]
      refine ⟨_, rfl, ?_⟩
      rcases nil_or_snoc acc with rfl | ⟨acc', l, rfl⟩
      · refine xss_cons (xs_ifF (xt_w (xw_and (xt_tru (xe_var 1 rfl) rfl) (fun h => by cases h) (l := false))) rfl (xss_nil ?_))
        exact xss_one (xs_app 1 (d := dStr3 (rate, margin, k)) rfl (xe_tup (xa_cons (xe_var 2 rfl) (xa_cons (xe_var 3 rfl) (xa_cons (xe_var 4 rfl) xa_nil))) (by simp)) rfl (by simp) ⟨_, _, _, rfl⟩)
      · obtain ⟨r', m', k'⟩ := l
        have hlast : ((acc' ++ [(r', m', k')]).map dStr3) = acc'.map dStr3 ++ [dStr3 (r', m', k')] := by rw [List.map_append]; rfl
        rw [hlast]
        have hne : (acc'.map dStr3 ++ [dStr3 (r', m', k')]).isEmpty = false := by cases acc'.map dStr3 <;> rfl
        have eqk : ∀ a b c d : Int, PyData.eqv (.tuple [.int a, .int b]) (.tuple [.int c, .int d]) = (decide (a = c ∧ b = d)) := fun a b c d => by
          have e : PyData.eqv (.tuple [.int a, .int b]) (.tuple [.int c, .int d]) = ((a == c) && ((b == d) && true)) := by simp only [PyData.eqv, PyData.eqvAll]
          rw [e, Bool.and_true]
          by_cases h1 : a = c <;> by_cases h2 : b = d <;> simp [h1, h2]
        have hjs : joinStep (acc' ++ [(r', m', k')]) (rate, margin, k) = if r' = rate ∧ m' = margin then acc' ++ [(rate, margin, k + k')] else (acc' ++ [(r', m', k')]) ++ [(rate, margin, k)] := by
          unfold joinStep
          rw [List.getLast?_concat, List.dropLast_concat]
        rw [hjs]
        refine xss_cons (xs_if (xt_w (xw_and (xt_tru (xe_var 1 rfl) rfl) (fun _ => xw_and1 (xt_eqD hr.units (xe_slT (xe_ixL (xe_var 1 rfl) (xe_neg xe_int) (atI_last _ _)) xo_none (xo_some xe_int)) (xe_tup (xa_cons (xe_var 2 rfl) (xa_cons (xe_var 3 rfl) xa_nil)) (by simp)) rfl rfl)))) (fun hk => ?_) fun hk => xss_nil ?_)
        · have hk2 : PyData.eqv (.tuple [.int r', .int m']) (.tuple [.int rate, .int margin]) = true := (Bool.and_eq_true_iff.mp hk).2
          rw [eqk] at hk2
          have hk3 := of_decide_eq_true hk2
          rw [if_pos hk3]
          refine xss_one (xs_popAug 1 4 (m := (k : Int)) rfl rfl (by decide) ?_ (ps_aug (i := 4) sc_join.nd rfl (Or.inl rfl) (pe_ix ix_tup (pe_bm0 PySem.F.plainAttrs_list PySem.F.slot_list_pop PySem.F.type_list_pop mt_pop (pv 1)) pe_int (fun _ _ => rfl)) ip_add))
          refine xss_one (xs_app 1 (d := dStr3 (rate, margin, k + k')) rfl (xe_eq (xe_tup (xa_cons (xe_var 2 rfl) (xa_cons (xe_var 3 rfl) (xa_cons (xe_var 4 rfl) xa_nil))) (by simp)) ?_) rfl ?_ ⟨.c (.int rate), .c (.int margin), .c (.int ((k : Int) + (k' : Int))), ?_⟩)
          · show PyData.tuple _ = PyData.tuple _
            congr 4
          · rw [List.length_map]
            rw [List.length_append] at hal
            omega
          · rw [List.map_append]
            rfl
        · have hk2 : PyData.eqv (.tuple [.int r', .int m']) (.tuple [.int rate, .int margin]) = false := by
            have h1 : (!(acc'.map dStr3 ++ [dStr3 (r', m', k')]).isEmpty && PyData.eqv (.tuple [.int r', .int m']) (.tuple [.int rate, .int margin])) = false := hk
            rw [hne] at h1
            exact h1
          rw [eqk] at hk2
          have hk3 := of_decide_eq_false hk2
          rw [if_neg hk3]
          refine xss_one (xs_app 1 (d := dStr3 (rate, margin, k)) rfl (xe_tup (xa_cons (xe_var 2 rfl) (xa_cons (xe_var 3 rfl) (xa_cons (xe_var 4 rfl) xa_nil))) (by simp)) rfl ?_ ⟨.c (.int rate), .c (.int margin), .c (.int (k : Int)), ?_⟩)
          · rw [← hlast, List.length_map]
            omega
          · rw [List.map_append, List.map_append]
            rfl
  · rintro Γ' ⟨s2, s3, s4, rfl⟩
    rw [List.length_map]
    rw [List.take_length]
    exact xss_one (xs_ret (xe_tupleL B.tuple (xe_var 1 rfl)) rfl)
end
end TC
namespace TC
open PySem L2
/-! ### mirrors: the law's draws, examples, deeds -/
/-- one draw: the list so far, the rest -/
def drawStep (cell : Int) (k : Nat) (s : List Int × Int) : List Int × Int :=
  let m := (cell * 48271 + (k : Int) * 69621 + 1) % 2147483647
  if cell ≥ 10 ^ 18 then (s.1 ++ [s.2 % 1009], s.2 / 1009) else (s.1 ++ [(m * m + m * 40692) % 2147483399 / 7], s.2)
def drawRun (cell : Int) : Nat → List Int × Int
  | 0 => ([], cell)
  | k + 1 => drawStep cell k (drawRun cell k)
def drawsM (cell : Int) (n : Nat) : List Int := (drawRun cell n).1
theorem drawStep_len (cell : Int) (k : Nat) (s : List Int × Int) : (drawStep cell k s).1.length = s.1.length + 1 := by
  unfold drawStep
  dsimp only
  split <;> simp
theorem draws_len (cell : Int) : ∀ n, (drawsM cell n).length = n
  | 0 => rfl
  | n + 1 => by
    show (drawStep cell n (drawRun cell n)).1.length = n + 1
    rw [drawStep_len]
    exact congrArg (· + 1) (draws_len cell n)
theorem draws_mem (cell : Int) : ∀ n, ∀ x ∈ drawsM cell n, 0 ≤ x ∧ x < 2147483648
  | 0, x, h => by cases h
  | n + 1, x, h => by
    have h' : x ∈ (drawStep cell n (drawRun cell n)).1 := h
    unfold drawStep at h'
    dsimp only at h'
    split at h'
    · rcases List.mem_append.mp h' with q | q
      · exact draws_mem cell n x q
      · have e := List.mem_singleton.mp q
        omega
    · rcases List.mem_append.mp h' with q | q
      · exact draws_mem cell n x q
      · have e := List.mem_singleton.mp q
        omega
theorem draws_get (cell : Int) {n i : Nat} (h : i < n) : 0 ≤ (drawsM cell n).getD i 0 ∧ (drawsM cell n).getD i 0 < 2147483648 := by
  rw [List.getD_eq_getElem?_getD, List.getElem?_eq_getElem (by rw [draws_len]; exact h)]
  exact draws_mem cell n _ (List.getElem_mem _)
/-- examples from a list of draws -/
def exM (n : List Int) (size k : Nat) : Ex := ((List.range size).map fun j => n.getD (1 + 4 * k + j) 0 % 9 - 4, 1 - 2 * (n.getD (4 + 4 * k) 0 % 2))
def examplesM (cell : Int) (size : Nat) : List Ex := (List.range (1 + ((drawsM cell 40).getD 0 0 % 5).toNat)).map fun k => exM (drawsM cell 40) size k
theorem examples_ok (cell : Int) {size : Nat} (h1 : 1 ≤ size) (h2 : size ≤ 3) : ExsOk size (examplesM cell size) := by
  have h := draws_get cell (n := 40) (i := 0) (by decide)
  refine ⟨h1, by omega, ?_, ?_, fun e he => ?_⟩
  · unfold examplesM
    rw [List.length_map]
    rw [List.length_range]
    omega
  · unfold examplesM
    rw [List.length_map]
    rw [List.length_range]
    omega
  · unfold examplesM at he
    obtain ⟨k, hk, rfl⟩ := List.mem_map.mp he
    refine ⟨?_, fun x hx => ?_, ?_⟩
    · show (List.map _ _).length = size
      rw [List.length_map]
      rw [List.length_range]
    · obtain ⟨j, hj, rfl⟩ := List.mem_map.mp (show x ∈ (List.range size).map _ from hx)
      omega
    · show 1 - 2 * _ = 1 ∨ 1 - 2 * _ = -1
      omega
/-- a deed -/
inductive Deed where
  | found (t s r m : Int)
  | train (t i k : Int)
  | save (t i : Int)
  | crash (t : Int)
  | evaluate (t i : Int)
  | copy (t i d x r m : Int)
  | stop (t i : Int)
  | drop (t x : Int)
  deriving DecidableEq
def Deed.name : Deed → Str
  | .found .. => "found"
  | .train .. => "train"
  | .save .. => "save"
  | .crash .. => "crash"
  | .evaluate .. => "evaluate"
  | .copy .. => "copy"
  | .stop .. => "stop"
  | .drop .. => "drop"
def Deed.args : Deed → List Int
  | .found t s r m => [t, s, r, m]
  | .train t i k => [t, i, k]
  | .save t i => [t, i]
  | .crash t => [t]
  | .evaluate t i => [t, i]
  | .copy t i d x r m => [t, i, d, x, r, m]
  | .stop t i => [t, i]
  | .drop t x => [t, x]
def Deed.trial : Deed → Int
  | .found t .. => t
  | .train t .. => t
  | .save t .. => t
  | .crash t => t
  | .evaluate t .. => t
  | .copy t .. => t
  | .stop t .. => t
  | .drop t .. => t
def dDeed (d : Deed) : PyData := .tuple (.str d.name :: d.args.map .int)
def dDeeds (ds : List Deed) : PyData := .tuple (ds.map dDeed)
def Deed.isDrop : Deed → Bool
  | .drop .. => true
  | _ => false
/-- a copies a saved state of the trial that b founds or saves -/
def copiesM (a b : Deed) : Bool := match a with
  | .copy _ _ d _ _ _ => (match b with
    | .found t _ _ _ => decide (d = t)
    | .save t _ => decide (d = t)
    | _ => false)
  | _ => false
def freeM (a b : Deed) : Bool := !(a.isDrop || b.isDrop || decide (a.trial = b.trial)) && (!copiesM a b && !copiesM b a)
/-- what the law draws -/
structure DeedOk (d : Deed) : Prop where
  tr : 0 ≤ d.trial ∧ d.trial ≤ 2
  ok : match d with
    | .found _ s r m => 0 ≤ s ∧ s ≤ 1 ∧ 1 ≤ r ∧ r ≤ 4 ∧ 0 ≤ m ∧ m ≤ 9
    | .train _ i k => 1 ≤ i ∧ i ≤ 2 ∧ 1 ≤ k ∧ k ≤ 4
    | .save _ i => 1 ≤ i ∧ i ≤ 2
    | .crash _ => True
    | .evaluate _ i => 1 ≤ i ∧ i ≤ 2
    | .copy _ i d x r m => 1 ≤ i ∧ i ≤ 2 ∧ 0 ≤ d ∧ d ≤ 2 ∧ 0 ≤ x ∧ x ≤ 2 ∧ 1 ≤ r ∧ r ≤ 4 ∧ 0 ≤ m ∧ m ≤ 9
    | .stop _ i => 1 ≤ i ∧ i ≤ 2
    | .drop _ x => 0 ≤ x ∧ x ≤ 2
def deedOf (g0 g1 g2 g3 g4 : Int) : Deed :=
  if g0 % 16 < 2 then .found (g1 % 3) (g3 % 2) (1 + g3 % 3) (g3 % 4 * 3)
  else if g0 % 16 < 6 then .train (g1 % 3) (1 + g2 % 9 / 7) (1 + g3 % 4)
  else if g0 % 16 < 9 then .save (g1 % 3) (1 + g2 % 9 / 7)
  else if g0 % 16 = 9 then .crash (g1 % 3)
  else if g0 % 16 < 12 then .evaluate (g1 % 3) (1 + g2 % 9 / 7)
  else if g0 % 16 < 14 then .copy (g1 % 3) (1 + g2 % 9 / 7) (g3 % 3) (g4 % 3) (1 + g3 % 4) (g3 % 3)
  else if g0 % 16 = 14 then .drop (g1 % 3) (g3 % 3)
  else if g3 % 3 = 0 then .stop (g1 % 3) (1 + g2 % 9 / 7) else .crash (g1 % 3)
def deedM (n : List Int) (a : Nat) : Deed := deedOf (n.getD (a % n.length) 0) (n.getD ((a + 1) % n.length) 0) (n.getD ((a + 2) % n.length) 0) (n.getD ((a + 3) % n.length) 0) (n.getD ((a + 4) % n.length) 0)
theorem deedOf_ok (a b c d e : Int) : DeedOk (deedOf a b c d e) := by
  unfold deedOf
  repeat' split
  all_goals exact ⟨by show 0 ≤ b % 3 ∧ b % 3 ≤ 2; omega, by first | trivial | (dsimp only; omega)⟩
theorem deedM_ok (n : List Int) (a : Nat) : DeedOk (deedM n a) := deedOf_ok _ _ _ _ _
def startM : List Deed := [.found 0 0 1 0, .found 1 1 2 3, .train 0 1 2, .save 0 1]
def deedsM (cell : Int) (most : Nat) : List Deed :=
  startM.take ((drawsM cell 59).getD 58 0 % 5).toNat ++ (List.range ((drawsM cell 59).getD 57 0 % ((most : Int) + 1)).toNat).map fun k => deedM (drawsM cell 59) (5 * k + k / 9)
theorem deeds_ok (cell : Int) (most : Nat) : ∀ d ∈ deedsM cell most, DeedOk d := fun d hd => by
  unfold deedsM at hd
  rcases List.mem_append.mp hd with h | h
  · have h := List.mem_of_mem_take h
    have : d = .found 0 0 1 0 ∨ d = .found 1 1 2 3 ∨ d = .train 0 1 2 ∨ d = .save 0 1 := by simpa [startM] using h
    rcases this with rfl | rfl | rfl | rfl <;> exact ⟨by decide, by decide⟩
  · obtain ⟨k, _, rfl⟩ := List.mem_map.mp h
    exact deedM_ok _ _
theorem deeds_len (cell : Int) (most : Nat) : (deedsM cell most).length ≤ 4 + most := by
  unfold deedsM
  rw [List.length_append, List.length_take, List.length_map, List.length_range]
  have : startM.length = 4 := rfl
  have h := Int.emod_lt_of_pos ((drawsM cell 59).getD 57 0) (show (0 : Int) < (most : Int) + 1 by omega)
  omega
/-- neighbours exchanged -/
def swapAt (l : List Deed) (p : Nat) : List Deed := l.take p ++ [l.getD (p + 1) (.crash 0), l.getD p (.crash 0)] ++ l.drop (p + 2)
/-- max(1, length) -/
def max1 (k : Nat) : Int := if (k : Int) > 1 then (k : Int) else 1
def mixStep (n : List Int) (k : Nat) (s : List Deed × List Int) : List Deed × List Int :=
  if (n.getD k 0 % max1 s.1.length).toNat + 1 < s.1.length ∧ freeM (s.1.getD (n.getD k 0 % max1 s.1.length).toNat (.crash 0)) (s.1.getD ((n.getD k 0 % max1 s.1.length).toNat + 1) (.crash 0)) = true then
    (swapAt s.1 (n.getD k 0 % max1 s.1.length).toNat, s.2 ++ [(((n.getD k 0 % max1 s.1.length).toNat : Nat) : Int)]) else s
def mixRun (n : List Int) (ds : List Deed) : Nat → List Deed × List Int
  | 0 => (ds, [])
  | k + 1 => mixStep n k (mixRun n ds k)
def mixedM (ds : List Deed) (cell : Int) (many : Nat) : List Deed × List Int := mixRun (drawsM cell 50) ds many
theorem swapAt_len (l : List Deed) (p : Nat) (h : p + 1 < l.length) : (swapAt l p).length = l.length := by
  unfold swapAt
  rw [List.length_append, List.length_append, List.length_take, List.length_drop]
  simp only [List.length_nil, List.length_cons]
  omega
theorem mixStep_len (n : List Int) (k : Nat) (s : List Deed × List Int) : (mixStep n k s).1.length = s.1.length := by
  unfold mixStep
  split
  · rename_i h
    exact swapAt_len _ _ h.1
  · rfl
theorem mixRun_len (n : List Int) (ds : List Deed) : ∀ k, (mixRun n ds k).1.length = ds.length
  | 0 => rfl
  | k + 1 => by
    show (mixStep n k (mixRun n ds k)).1.length = _
    rw [mixStep_len, mixRun_len n ds k]
theorem mixStep_len2 (n : List Int) (k : Nat) (s : List Deed × List Int) : (mixStep n k s).2.length ≤ s.2.length + 1 := by
  unfold mixStep
  split
  · show (s.2 ++ [_]).length ≤ _
    rw [List.length_append]
    rw [List.length_singleton]
    omega
  · omega
theorem mixRun_len2 (n : List Int) (ds : List Deed) : ∀ k, (mixRun n ds k).2.length ≤ k
  | 0 => Nat.le_refl _
  | k + 1 => by
    have h1 := mixStep_len2 n k (mixRun n ds k)
    have h2 := mixRun_len2 n ds k
    show (mixStep n k (mixRun n ds k)).2.length ≤ _
    omega
theorem pureDeed (d : Deed) : pureD (dDeed d) = true := by
  show (true && pureAll (d.args.map .int)) = true
  rw [pure_ints]
  rfl
end TC
namespace TC
open PySem L2
/-! ### two more rules: y = [..] on one line, [..] * k -/
section
variable {X : Cx} {Hb : Bs} {Γ : G} {N : G → Prop} {R : Rk → G → Prop} {tg iter elt a b : Expr} {ifs : List Expr} {scope : Scope} {own : List (Str × Nat)} {pos : Pos} {ys ds : List PyData}
theorem xs_setLc (i : Nat) {y : Str} {py spos : Pos} (f : Nat → Bool) (r : Nat → PyData) (t : Tg) (hc : X.calm = true) (hN : X.N.Nodup) (hi : XI X Same tg iter Γ ys) (ok : BlkOk X.N X.env.scope scope own)
    (hg : ∀ (s : Shared) (H : Hp) (C : Addr) (cl : List (Str × Addr)) (fp : List Addr), PG (X.blk s H scope (compEnvC scope cl C X.env) fp) tg (gT X.K t)) (hsl : ∀ i ∈ t.slots, i ∈ own.map (·.2)) (hlen : ys.length ≤ 1000000)
    (turn : ∀ i y, ys[i]? = some y → ∃ Γ', t.put y (wipeG Γ (own.map (·.2))) = some Γ' ∧ (∀ (s : Shared) (H : Hp) (C : Addr) (cl : List (Str × Addr)) (fp : List Addr), PTs (X.blk s H scope (compEnvC scope cl C X.env) fp) ifs (tXT X.K Γ' (f i))) ∧
      (f i = true → (∀ (s : Shared) (H : Hp) (C : Addr) (cl : List (Str × Addr)) (fp : List Addr), XE (X.blk s H scope (compEnvC scope cl C X.env) fp) elt Γ' (r i)) ∧ pureD (r i) = true))
    (e : givenD ys.length f r = ds) (h : N (Γ.set i (.c (.list ds)))) (hy : X.N[i]? = some y := by rfl) (hyl : X.env.scope.names.lookup y = some .local := by rfl)
    (hsw : swapsWith (.ListComp elt [⟨tg, iter, ifs, 0⟩] scope pos) (some (.Name y py)) spos.line X.env = pure true := by exact sw_true rfl rfl rfl (by decide +kernel)) (hs : ∀ x, foldedSetIterable iter X.env x = pure x := by intro _; rfl) :
    XS X Hb (.Assign [.Name y py] (.ListComp elt [⟨tg, iter, ifs, 0⟩] scope pos) spos) Γ N R := by
  subst e
  refine ps_imp (ps_setLc (i := i) (te := semE X scope elt) (tt := semTs X scope ifs) hc hN hy hyl hsw hi ok hg (fun s H C cl fp => ?_) (fun s H C cl fp => ?_) hs) fun D σ H q => ?_
  · refine ⟨fun pins s1 σ H1 Q I h => ?_⟩
    obtain ⟨Γ', b, hb, q⟩ := h
    exact (hb s H C cl fp).run pins s1 σ H1 Q I q
  · refine ⟨fun pins s1 σ H1 Q I h => ?_⟩
    obtain ⟨Γ', d, hb, q⟩ := h
    exact (hb s H C cl fp).run pins s1 σ H1 Q I q
  · obtain ⟨H0, E⟩ := q.1
    refine lc_data f r t hsl hlen turn σ H _ ⟨⟨Hb, H0, E⟩, fun p vs H1 n1 s1 e1 q1 => ?_⟩
    exact q.2.1 _ _ H1 H0 (KeepT.of s1) ((E.mono s1).store (g := .c (.list (givenD ys.length f r))) ⟨_, rfl, .lst (SqL.of e1) q1⟩) h
theorem xf_rep {k : Int} (ha : XF X a Γ ds) (hb : XE X b Γ (.int k)) (hk : 0 ≤ k ∧ k ≤ 1000 ∧ ds.length ≤ 1000) : XF X (.BinOp a .Mult b pos) Γ (List.replicate k.toNat ds).flatten :=
  pe_imp (pe_op op_rep ha hb) fun σ H Q ⟨⟨Hb, H0, E⟩, q⟩ => ⟨⟨Hb, H0, E⟩, fun l vs H1 n1 s1 e1 q1 => ⟨⟨Hb, H0, E.mono s1⟩, fun v H2 s2 q2 => by
    cases q2
    refine ⟨l, k, vs, rfl, rfl, s2 _ _ e1, by omega, by omega, ?_, fun p hp => ?_⟩
    · rw [dpa_length q1]
      have h1 : ds.length * k.toNat ≤ 1000 * 1000 := Nat.mul_le_mul hk.2.2 (by omega)
      have hs : (1000 * 1000 : Nat) ≤ sizeLine := by decide
      omega
    · have s3 : Same H2 (upd H2 p (.lst (List.replicate k.toNat vs).flatten)) := fun b o z => by rw [upd_ne (ne_of_none z hp)]; exact z
      have key : ∀ n : Nat, DpAll X.K H2 (List.replicate n vs).flatten (List.replicate n ds).flatten := by
        intro n
        induction n with
        | zero => exact .nil
        | succ n ih =>
          rw [List.replicate_succ]
          rw [List.replicate_succ, List.flatten_cons, List.flatten_cons]
          exact dpa_append (dpAll_mono s2 _ _ q1) ih
      exact q p _ _ ((s1.trans s2).free hp) ((s1.trans s2).trans s3) upd_same (dpAll_mono s3 _ _ (key k.toNat))⟩⟩
end
section
variable {P : Program} {w : World}
variable {K : PySem.W.Frag} {mg : Str → Option Value} {base : Heap}
/-! _law_cell -/
abbrev sCell : Stmt := topS 38
def cellM (ns : List Int) (k : Nat) : Int := ns.getD k 0
def pCell (ds : List PyData) (r : PyData) : Prop := ∃ (ns : List Int) (k : Nat), ds = [.list (ns.map .int), .int (k : Int)] ∧ r = .int (cellM ns k)
theorem sc_cell : FnScope ["_law_script", "_law_k"] ["_law_script", "_law_k"] (defScope sCell) := ⟨rfl, rfl, rfl, by decide +kernel, rfl, by decide +kernel, by decide +kernel⟩
theorem ok_cell (R : RawD K mg "_law_cell" sCell) (B : Bi mg) : Def P w K mg base "_law_cell" 1 ["_law_script", "_law_k"] (spR K 2 pCell) := by
  refine def_pure R sc_cell rfl (fun _ _ _ _ _ _ us hl => match us, hl with | [_, _], _ => rfl) fun f cdv A outer s H E ds r hr hp hl => ?_
  obtain ⟨ns, k, rfl, rfl⟩ := hp
  refine xss_cons (xs_if (xt_lt (xe_var 1 rfl) (xe_lenL B.len (xe_var 0 rfl))) (fun hk => ?_) fun hk => xss_nil ?_)
  · have hk := of_decide_eq_true hk
    rw [List.length_map] at hk
    refine xss_one (xs_ret (xe_ixLm (f := PyData.int) (xs := ns) 0 (xe_var 0 rfl) (xe_var 1 rfl) (by omega)) ?_)
    rw [Int.toNat_natCast]
    rfl
  · have hk := of_decide_eq_false hk
    rw [List.length_map] at hk
    refine xss_one (xs_ret xe_int ?_)
    unfold cellM
    rw [List.getD_eq_getElem?_getD, (List.getElem?_eq_none (by omega) : _ = none)]
    rfl
/-! _law_draws -/
abbrev sDraws : Stmt := topS 39
def pDraws (ds : List PyData) (r : List PyData) : Prop := ∃ (cell : Int) (n : Nat), ds = [.int cell, .int (n : Int)] ∧ n ≤ 1000 ∧ r = (drawsM cell n).map .int
theorem sc_draws : FnScope ["_law_cell_here", "_law_count", "_law_result", "_law_rest", "_law_k", "_law_mixed_here"] ["_law_cell_here", "_law_count"] (defScope sDraws) := ⟨rfl, rfl, rfl, by decide +kernel, rfl, by decide +kernel, by decide +kernel⟩
theorem ok_draws (R : RawD K mg "_law_draws" sDraws) (B : Bi mg) : Def P w K mg base "_law_draws" 1 ["_law_cell_here", "_law_count"] (spF K 2 pDraws) := by
  refine def_list R sc_draws rfl (fun _ _ _ _ _ _ us hl => match us, hl with | [_, _], _ => rfl) fun f cdv A outer s H E ds r hr hp hl => ?_
  obtain ⟨cell, n, rfl, hn, rfl⟩ := hp
  refine xss_cons (xs_setF 2 (xf_lst xa_nil (by decide)) rfl rfl ?_ sc_draws.nd)
  refine xss_cons (xs_set 3 (xe_toI B.int (xe_var 0 rfl) rfl) ?_ sc_draws.nd)
  refine xss_cons (xs_for (.nm 4) (fun i Γ => ∃ s3 s4 s5, Γ = [.b (.int cell), .b (.int (n : Int)), .o ((drawRun cell i).1.map .int), s3, s4, s5] ∧ look [.b (.int cell), .b (.int (n : Int)), .n, s3] 3 = some (.int (drawRun cell i).2))
    (xi_range1 B.range (xe_var 1 rfl) (by omega)) (pg_name (i := 4) sc_draws.nd rfl (Or.inl rfl)) ⟨_, _, _, rfl, rfl⟩ ?_ ?_ rfl PassesOwn.never)
  · rintro i y Γi hy ⟨s3, s4, s5, rfl, hs3⟩
    obtain ⟨rfl, hi⟩ := stepsD_get hy
    rw [show (0 : Int) + (i : Nat) * 1 = (i : Int) by omega]
    obtain ⟨S, hS⟩ : ∃ S, S = drawRun cell i := ⟨_, rfl⟩
    have hst : drawRun cell (i + 1) = drawStep cell i S := by rw [hS]; rfl
    have hlen : S.1.length = i := by rw [hS]; exact draws_len cell i
    rw [hst]
    rw [← hS] at hs3 ⊢
    refine ⟨_, rfl, ?_⟩
    have hm1 : 0 ≤ (cell * 48271 + (i : Int) * 69621 + 1) % 2147483647 := Int.emod_nonneg _ (by decide)
    have hm2 : (cell * 48271 + (i : Int) * 69621 + 1) % 2147483647 < 2147483647 := Int.emod_lt_of_pos _ (by decide)
    obtain ⟨m, hm⟩ : ∃ m, m = (cell * 48271 + (i : Int) * 69621 + 1) % 2147483647 := ⟨_, rfl⟩
    refine xss_cons (xs_set 5 (xe_eq (xe_mod (xe_toI B.int (xe_add (xe_add (xe_mul (xe_var 0 rfl) xe_int (.inr (by decide))) (xe_mul (xe_var 4 rfl) xe_int (.inr (by decide)))) xe_int) rfl) xe_int (by decide)) (show _ = PyData.int m by rw [hm])) ?_ sc_draws.nd)
    have h10 : ((10 : Int) ^ (Int.toNat 18)) = 10 ^ 18 := rfl
    unfold drawStep
    dsimp only
    rw [← hm]
    rw [← hm] at hm1 hm2
    refine xss_one (xs_if (xt_ge (xe_var 0 rfl) (xe_pow xe_int xe_int ⟨by decide, by decide, by decide⟩)) (fun hk => ?_) fun hk => ?_)
    · have hk := of_decide_eq_true hk
      rw [h10] at hk
      rw [if_pos hk]
      refine xss_cons (xs_app 2 rfl (xe_mod (xe_var 3 hs3) xe_int (by decide)) rfl (by rw [List.length_map]; omega) ?_)
      refine xss_one (xs_set 3 (xe_fdiv (xe_var 3 (d := .int S.2) ?_) xe_int (by decide)) ?_ sc_draws.nd)
      · cases s3 with
        | c d =>
          have : d = .int S.2 := Option.some.inj hs3
          subst this
          rfl
        | b d =>
          have : d = .int S.2 := Option.some.inj hs3
          subst this
          rfl
        | o d => cases hs3
        | w C fs => cases hs3
        | x F => cases hs3
        | n => cases hs3
      · refine ⟨.c (.int (S.2 / 1009)), .c (.int (i : Int)), .c (.int m), ?_, rfl⟩
        rw [List.map_append]
        rfl
    · have hk := of_decide_eq_false hk
      rw [h10] at hk
      rw [if_neg hk]
      refine xss_one (xs_app 2 rfl (xe_fdiv (xe_mod (xe_toI B.int (xe_add (xe_mul (xe_var 5 rfl) (xe_var 5 rfl) (.inl (by omega))) (xe_mul (xe_var 5 rfl) xe_int (.inr (by decide)))) rfl) xe_int (by decide)) xe_int (by decide)) rfl (by rw [List.length_map]; omega) ?_)
      refine ⟨demote s3, .c (.int (i : Int)), .c (.int m), ?_, ?_⟩
      · rw [List.map_append]
        rfl
      · cases s3 with
        | c d =>
          have : d = .int S.2 := Option.some.inj hs3
          subst this
          rfl
        | b d =>
          have : d = .int S.2 := Option.some.inj hs3
          subst this
          rfl
        | o d => cases hs3
        | w C fs => cases hs3
        | x F => cases hs3
        | n => cases hs3
  · rintro Γ' ⟨s3, s4, s5, rfl, _⟩
    rw [stepsD_len, Int.toNat_natCast]
    exact xss_one (xs_retO 2 rfl rfl)
end
end TC
namespace TC
open PySem L2
section
variable {P : Program} {w : World}
variable {K : PySem.W.Frag} {mg : Str → Option Value} {base : Heap}
/-! _law_order -/
abbrev sLOrd : Stmt := topS 40
def pLOrd (ds : List PyData) (r : List PyData) : Prop := ∃ (seed epoch : Int) (n : Nat), ds = [.int seed, .int epoch, .int (n : Int)] ∧ 1 ≤ n ∧ n ≤ 50 ∧ r = (orderM seed epoch n).map .int
theorem sc_lord : FnScope ["_law_seed", "_law_epoch", "_law_size", "_law_number", "_law_order_here", "_law_turn", "_law_place", "_law_other", "_law_kept"] ["_law_seed", "_law_epoch", "_law_size"] (defScope sLOrd) := ⟨rfl, rfl, rfl, by decide +kernel, rfl, by decide +kernel, by decide +kernel⟩
theorem ok_lord (R : RawD K mg "_law_order" sLOrd) (B : Bi mg) : Def P w K mg base "_law_order" 1 ["_law_seed", "_law_epoch", "_law_size"] (spF K 3 pLOrd) := by
  refine def_list R sc_lord rfl (fun _ _ _ _ _ _ us hl => match us, hl with | [_, _, _], _ => rfl) fun f cdv A outer s H E ds r hr hp hl => ?_
  obtain ⟨seed, epoch, n, rfl, hn1, hn2, rfl⟩ := hp
  refine xss_cons (xs_set 3 (xe_add (xe_add xe_int (xe_mul xe_int (xe_var 0 rfl) (.inl (by decide)))) (xe_var 1 rfl)) ?_ sc_lord.nd)
  refine xss_cons (xs_setF 4 (xf_eq (xf_listRg rfl B.list B.range (xe_var 2 rfl) (by omega)) (show _ = ((List.range n).map fun (i : Nat) => (i : Int)).map PyData.int by rw [List.map_map]; rfl)) rfl (pure_ints _) ?_ sc_lord.nd)
  refine xss_cons (xs_for (.nm 5) (fun i Γ => ∃ s3 s5 s6 s7 s8, Γ = [.b (.int seed), .b (.int epoch), .b (.int (n : Int)), s3, .o ((ordRun n i (1 + 1009 * seed + epoch, (List.range n).map fun (i : Nat) => (i : Int))).2.map .int), s5, s6, s7, s8] ∧
      look [.b (.int seed), .b (.int epoch), .b (.int (n : Int)), s3] 3 = some (.int (ordRun n i (1 + 1009 * seed + epoch, (List.range n).map fun (i : Nat) => (i : Int))).1))
    (xi_range1 (n := (n : Int) - 1) B.range (xe_sub (xe_var 2 rfl) xe_int) (by omega))
    (pg_name (i := 5) sc_lord.nd rfl (Or.inl rfl)) ⟨_, _, _, _, _, rfl, rfl⟩ ?_ ?_ rfl PassesOwn.never)
  · rintro i y Γi hy ⟨s3, s5, s6, s7, s8, rfl, hs3⟩
    obtain ⟨rfl, hi⟩ := stepsD_get hy
    rw [show (0 : Int) + (i : Nat) * 1 = (i : Int) by omega]
    obtain ⟨S, hS⟩ : ∃ S, S = ordRun n i (1 + 1009 * seed + epoch, (List.range n).map fun (i : Nat) => (i : Int)) := ⟨_, rfl⟩
    rw [← hS] at hs3 ⊢
    have hlen : S.2.length = n := by rw [hS, ordRun_len, List.length_map, List.length_range]
    have hi' : i < n - 1 := by omega
    have hstep : ordRun n (i + 1) (1 + 1009 * seed + epoch, (List.range n).map fun (i : Nat) => (i : Int)) = ordStep (n - 1 - i) S := by rw [hS]; rfl
    rw [hstep]
    obtain ⟨p, hp⟩ : ∃ p, p = n - 1 - i := ⟨_, rfl⟩
    have hpl : (n : Int) - 1 - (i : Int) = (p : Int) := by omega
    rw [← hp]
    have hpn : p < n := by omega
    obtain ⟨num, hnum⟩ : ∃ num, num = 48271 * S.1 % 2147483647 := ⟨_, rfl⟩
    have ho1 : 0 ≤ num % ((p : Int) + 1) := Int.emod_nonneg _ (by omega)
    have ho2 : num % ((p : Int) + 1) < (p : Int) + 1 := Int.emod_lt_of_pos _ (by omega)
    obtain ⟨o, hoo⟩ : ∃ o : Nat, num % ((p : Int) + 1) = (o : Int) := ⟨(num % ((p : Int) + 1)).toNat, by omega⟩
    have hon : o < n := by omega
    refine ⟨_, rfl, ?_⟩
    refine xss_cons (xs_set 6 (xe_eq (xe_sub (xe_sub (xe_var 2 rfl) xe_int) (xe_var 5 rfl)) (show PyData.int _ = PyData.int (p : Int) by rw [hpl])) ?_ sc_lord.nd)
    refine xss_cons (xs_set 3 (xe_eq (xe_mod (xe_toI B.int (xe_mul xe_int (xe_var 3 hs3) (.inl (by decide))) rfl) xe_int (by decide)) (show _ = PyData.int num by rw [hnum])) ?_ sc_lord.nd)
    refine xss_cons (xs_set 7 (xe_eq (xe_mod (xe_toI B.int (xe_var 3 rfl) rfl) (xe_add (xe_var 6 rfl) xe_int) (by omega)) (show _ = PyData.int (o : Int) by rw [hoo])) ?_ sc_lord.nd)
    refine xss_cons (xs_set 8 (xe_eq (xe_ixLm (f := PyData.int) (xs := S.2) (i := (p : Int)) 0 (xe_var 4 rfl) (xe_var 6 rfl) ⟨by omega, by rw [hlen]; omega⟩) (show _ = PyData.int (S.2.getD p 0) by rw [Int.toNat_natCast])) ?_ sc_lord.nd)
    refine xss_cons (xs_store 4 (m := (p : Int)) (j := p) (d := .int (S.2.getD o 0)) rfl (xe_eq (xe_ixLm (f := PyData.int) (xs := S.2) (i := (o : Int)) 0 (xe_var 4 rfl) (xe_var 7 rfl) ⟨by omega, by rw [hlen]; omega⟩) (show _ = PyData.int (S.2.getD o 0) by rw [Int.toNat_natCast])) (xe_var 6 rfl) (ixN_of rfl (by rw [List.length_map, hlen]; exact hpn)) rfl ?_
      (ps_asg (xe_eq (xe_ixLm (f := PyData.int) (xs := S.2) (i := (o : Int)) 0 (xe_var 4 rfl) (xe_var 7 rfl) ⟨by omega, by rw [hlen]; omega⟩) (show _ = PyData.int (S.2.getD o 0) by rw [Int.toNat_natCast])) (pg_sub (pv 4) (xe_var 6 rfl) set_list)))
    refine xss_one (xs_store 4 (m := (o : Int)) (j := o) (d := .int (S.2.getD p 0)) rfl (xe_var 8 rfl) (xe_var 7 rfl) (ixN_of rfl (by rw [List.length_set, List.length_map, hlen]; exact hon)) rfl ?_
      (ps_asg (xe_var 8 rfl) (pg_sub (pv 4) (xe_var 7 rfl) set_list)))
    refine ⟨.c (.int num), .c (.int (i : Int)), .c (.int (p : Int)), .c (.int (o : Int)), .c (.int (S.2.getD p 0)), ?_, ?_⟩
    · unfold ordStep
      simp only [List.map_set, ← hnum, hoo, Int.toNat_natCast]
      rfl
    · unfold ordStep
      simp only [← hnum]
      rfl
  · rintro Γ' ⟨s3, s5, s6, s7, s8, rfl, _⟩
    rw [stepsD_len, show ((n : Int) - 1).toNat = n - 1 by omega]
    exact xss_one (xs_retO 4 rfl rfl)
/-! _law_score -/
abbrev sLScore : Stmt := topS 41
theorem dot_given {ws fs : List Int} {n : Nat} (h1 : ws.length = n) (h2 : fs.length = n) : givenD n (fun _ => true) (fun i => .int (ws.getD i 0 * fs.getD i 0)) = (List.zipWith (· * ·) ws fs).map .int := by
  have q := zipW_given (ws := ws) (fs := fs) (g := (· * ·))
  rw [zipD_len, h1, h2, Nat.min_self] at q
  exact q
theorem sc_lscore : FnScope ["_law_examples_here", "_law_weights_here", "_law_found", "_law_features", "_law_label", "_law_total", "_law_k"] ["_law_examples_here", "_law_weights_here"] (defScope sLScore) := ⟨rfl, rfl, rfl, by decide +kernel, rfl, by decide +kernel, by decide +kernel⟩
theorem score_take {es : List Ex} {ws : List Int} {i : Nat} {e : Ex} (h : es[i]? = some e) : scoreM (es.take (i + 1)) ws = scoreM (es.take i) ws + (if decide (0 < e.2 * dot ws e.1) = true then 1 else 0) := by
  unfold scoreM
  rw [List.take_add_one, h, List.filter_append, List.length_append]
  by_cases q : 0 < e.2 * dot ws e.1
  · rw [if_pos (decide_eq_true q)]
    have : (List.filter (fun e : Ex => decide (e.2 * dot ws e.1 > 0)) (some e).toList).length = 1 := by
      show (List.filter _ [e]).length = 1
      rw [List.filter_cons_of_pos (by exact decide_eq_true q)]
      rfl
    rw [this]
    omega
  · rw [if_neg (by rw [decide_eq_false q]; decide)]
    have : (List.filter (fun e : Ex => decide (e.2 * dot ws e.1 > 0)) (some e).toList).length = 0 := by
      show (List.filter _ [e]).length = 0
      rw [List.filter_cons_of_neg (by rw [decide_eq_false q]; decide)]
      rfl
    rw [this]
    omega
theorem ok_lscore (R : RawD K mg "_law_score" sLScore) (B : Bi mg) : Def P w K mg base "_law_score" 1 ["_law_examples_here", "_law_weights_here"] (spR K 2 pScore) := by
  refine def_pure R sc_lscore rfl (fun _ _ _ _ _ _ us hl => match us, hl with | [_, _], _ => rfl) fun f cdv A outer s H E ds r hr hp hl => ?_
  obtain ⟨n, es, ws, rfl, ok, hw, rfl⟩ := hp
  have n2 := ok.n2
  refine xss_cons (xs_set 2 xe_int ?_ sc_lscore.nd)
  refine xss_cons (xs_for (.tp [3, 4]) (fun i Γ => ∃ s3 s4 s5, Γ = [.c (dExs es), .c (dInts ws), .c (.int (scoreM (es.take i) ws)), s3, s4, s5, .n])
    (xi_tup (xe_var 0 rfl) (pureExs es)) (pg_tup rfl (pgs_cons (pg_name (i := 3) sc_lscore.nd rfl (Or.inr rfl)) (pgs_cons (pg_name (i := 4) sc_lscore.nd rfl (Or.inl rfl)) pgs_nil))) ⟨_, _, _, rfl⟩ ?_ ?_ rfl PassesOwn.never)
  · rintro i y Γi hy ⟨s3, s4, s5, rfl⟩
    rw [List.getElem?_map] at hy
    cases q : es[i]? with
    | none => rw [q] at hy; cases hy
    | some z =>
      rw [q] at hy
      cases hy
      obtain ⟨fs, lab⟩ := z
      have ho := ok.ok _ (List.mem_of_getElem? q)
      have h1 : fs.length = n := ho.1
      have hlab : -1 ≤ lab ∧ lab ≤ 1 := by rcases ho.2.2 with h | h <;> (have h : lab = _ := h; omega)
      refine ⟨_, rfl, ?_⟩
      refine xss_cons (xs_set 5 (xe_sum (ns := List.zipWith (· * ·) ws fs) rfl B.sum (xe_of_f (xf_eq (xf_lc (own := [("_law_k", 6)]) (fun _ => true) (fun i => .int (ws.getD i 0 * fs.getD i 0)) (.nm 6) rfl sc_lscore.nd (xi_same (xi_range1 (n := (n : Int)) B.range (xe_eq (xe_lenT B.len (xe_var 3 rfl)) (by rw [List.length_map, h1])) (by omega)))
        (blkOk_by (own := [("_law_k", 6)]) (N := ["_law_examples_here", "_law_weights_here", "_law_found", "_law_features", "_law_label", "_law_total", "_law_k"]) (sc := defScope sLScore) (by decide +kernel)) (fun _ _ _ _ _ => pg_name (i := 6) sc_lscore.nd rfl (Or.inl rfl)) (by decide) ?_ (fun j y hy => ?_)) ?_))) ?_ sc_lscore.nd)
      · rw [stepsD_len]
        omega
      · obtain ⟨rfl, hj⟩ := stepsD_get hy
        rw [show (0 : Int) + (j : Nat) * 1 = (j : Int) by omega]
        have hb : -100 ≤ fs.getD j 0 ∧ fs.getD j 0 ≤ 100 := small_get ho.2.1 (show j < fs.length by omega)
        exact ⟨_, rfl, fun _ _ _ _ _ => pts_yes, fun _ => ⟨fun _ _ _ _ _ => xe_mul (xe_ixTm (f := PyData.int) (xs := ws) (i := (j : Int)) 0 (xe_var 1 rfl) (xe_var 6 rfl) (by omega)) (xe_ixTm (f := PyData.int) (xs := fs) (i := (j : Int)) 0 (xe_var 3 rfl) (xe_var 6 rfl) (by omega)) (.inr (by omega)), rfl⟩⟩
      · rw [stepsD_len, Int.toNat_natCast]
        exact dot_given hw h1
      · refine xss_one (xs_set 2 (xe_add (xe_var 2 rfl) (xe_toI B.int (xe_gt (xe_mul (xe_var 4 rfl) (xe_var 5 rfl) (.inl (by omega))) xe_int) rfl)) ?_ sc_lscore.nd)
        rw [score_take q]
        exact ⟨_, _, _, rfl⟩
  · rintro Γ' ⟨s3, s4, s5, rfl⟩
    rw [List.length_map]
    rw [List.take_length]
    exact xss_one (xs_ret (xe_var 2 rfl) rfl)
end
end TC
namespace TC
open PySem L2
/-- settings of steps -/
abbrev Set2 := Int × Int
def dSet (s : Set2) : PyData := .tuple [.int s.1, .int s.2]
/-- the law's weights: step by step from nothing -/
def lwRun (es : List Ex) (seed : Int) (st : List Set2) (n : Nat) : Nat → List Int
  | 0 => List.replicate n 0
  | p + 1 => wStep es seed p (lwRun es seed st n p) (st.getD p (0, 0)).1 (st.getD p (0, 0)).2
def lwM (es : List Ex) (seed : Int) (st : List Set2) (n : Nat) : List Int := lwRun es seed st n st.length
theorem lwRun_len {n : Nat} {es : List Ex} (ok : ExsOk n es) {seed : Int} {st : List Set2} : ∀ p, (lwRun es seed st n p).length = n
  | 0 => List.length_replicate
  | p + 1 => by
    have ih := lwRun_len ok (seed := seed) (st := st) p
    show (stepM _ _ _ _).length = n
    rw [stepM_len, ih]
    rw [ih, (ok.ok _ (exAt_mem ok.l1)).1]
section
variable {P : Program} {w : World}
variable {K : PySem.W.Frag} {mg : Str → Option Value} {base : Heap}
/-! _law_weights -/
abbrev sLW : Stmt := topS 42
def pLW (ds : List PyData) (r : PyData) : Prop := ∃ (n : Nat) (es : List Ex) (seed : Int) (st : List Set2), ds = [dExs es, .int seed, .list (st.map dSet)] ∧ ExsOk n es ∧ st.length ≤ 100000 ∧ (∀ s ∈ st, RateOk s.1) ∧ r = dInts (lwM es seed st n)
theorem sc_lw : FnScope ["_law_examples_here", "_law_seed", "_law_steps", "_law_weights_here", "_law_place", "_law_order_here", "_law_features", "_law_label", "_law_total", "_law_k"] ["_law_examples_here", "_law_seed", "_law_steps"] (defScope sLW) := ⟨rfl, rfl, rfl, by decide +kernel, rfl, by decide +kernel, by decide +kernel⟩
theorem ok_lw (R : RawD K mg "_law_weights" sLW) (B : Bi mg) (D1 : Def P w K mg base "_law_order" 1 ["_law_seed", "_law_epoch", "_law_size"] (spF K 3 pLOrd)) : Def P w K mg base "_law_weights" 2 ["_law_examples_here", "_law_seed", "_law_steps"] (spR K 3 pLW) := by
  refine def_pure R sc_lw rfl (fun _ _ _ _ _ _ us hl => match us, hl with | [_, _, _], _ => rfl) fun f cdv A outer s H E ds r hr hp hl => ?_
  obtain ⟨n, es, seed, st, rfl, ok, hst, hrate, rfl⟩ := hp
  have l1 := ok.l1
  have l2 := ok.l2
  have n1 := ok.n1
  have n2 := ok.n2
  obtain ⟨⟨fs0, lab0⟩, r0, hes⟩ : ∃ e r, es = e :: r := by
    cases es with
    | nil => exact absurd ok.l1 (by decide)
    | cons e r => exact ⟨e, r, rfl⟩
  have h0 : fs0.length = n := (ok.ok (fs0, lab0) (by rw [hes]; exact List.mem_cons_self)).1
  have hmap : es.map dEx = dEx (fs0, lab0) :: r0.map dEx := by rw [hes]; rfl
  refine xss_cons (xs_set 3 (xe_eq (xe_of_f (xf_rep (k := (n : Int)) (xf_lst (xa_cons xe_int xa_nil) (by simp)) (xe_eq (xe_lenT B.len (xe_ixT (xe_ixT (xe_var 0 rfl) xe_int (show atI (es.map dEx) 0 = some (dEx (fs0, lab0)) from by rw [hmap]; exact atI_nat (j := 0) rfl)) xe_int (atI_nat (j := 0) rfl))) (by rw [List.length_map, h0])) ⟨by omega, by omega, by simp⟩)) (show _ = PyData.list ((List.replicate n (0 : Int)).map .int) by
    rw [Int.toNat_natCast, List.map_replicate, List.flatten_replicate_singleton])) ?_ sc_lw.nd)
  refine xss_cons (xs_for (.nm 4) (fun i Γ => ∃ s4 s5 s6 s7 s8, Γ = [.c (dExs es), .c (.int seed), .c (.list (st.map dSet)), .c (.list ((lwRun es seed st n i).map .int)), s4, s5, s6, s7, s8, .n])
    (xi_range1 (n := (st.length : Int)) B.range (xe_eq (xe_lenL B.len (xe_var 2 rfl)) (by rw [List.length_map])) (by omega)) (pg_name (i := 4) sc_lw.nd rfl (Or.inr rfl)) ⟨_, _, _, _, _, rfl⟩ ?_ ?_ rfl PassesOwn.never)
  · rintro p y Γi hy ⟨s4, s5, s6, s7, s8, rfl⟩
    obtain ⟨rfl, hp⟩ := stepsD_get hy
    rw [show (0 : Int) + (p : Nat) * 1 = (p : Int) by omega]
    have hp' : p < st.length := by omega
    obtain ⟨ws, hws⟩ : ∃ ws, ws = lwRun es seed st n p := ⟨_, rfl⟩
    have hwl : ws.length = n := by rw [hws]; exact lwRun_len ok p
    have hnext : lwRun es seed st n (p + 1) = stepM ws (exAt es seed p) (st.getD p (0, 0)).1 (st.getD p (0, 0)).2 := by rw [hws]; rfl
    rw [hnext, ← hws]
    obtain ⟨rate, margin, hrm⟩ : ∃ a b, st.getD p (0, 0) = (a, b) := ⟨_, _, rfl⟩
    have hrt : RateOk rate := by
      have h1 : st.getD p (0, 0) ∈ st := by rw [List.getD_eq_getElem?_getD, List.getElem?_eq_getElem hp']; exact List.getElem_mem hp'
      have := hrate _ h1
      rw [hrm] at this
      exact this
    obtain ⟨fs, lab, hex⟩ : ∃ a b, exAt es seed p = (a, b) := ⟨_, _, rfl⟩
    have hoe : ExOk n (exAt es seed p) := ok.ok _ (exAt_mem l1)
    rw [hex] at hoe
    have h1 : fs.length = n := hoe.1
    have hlab : -1 ≤ lab ∧ lab ≤ 1 := by rcases hoe.2.2 with h | h <;> (have h : lab = _ := h; omega)
    have hpm : p % es.length < es.length := Nat.mod_lt _ l1
    have hog := orderM_get (seed := seed) (epoch := ((p / es.length : Nat) : Int)) l1 hpm
    have hmod : (p : Int) % (es.length : Int) = ((p % es.length : Nat) : Int) := (Int.natCast_emod p es.length).symm
    have hdiv : (p : Int) / (es.length : Int) = ((p / es.length : Nat) : Int) := (Int.natCast_ediv p es.length).symm
    rw [hrm, hex]
    refine ⟨_, rfl, ?_⟩
    have hlenE : ∀ {X : Cx} {Γ : G} {e : Expr} {q pos : Pos}, X.mg "len" = none → XE X e Γ (dExs es) → Gl X "len" → (starEach (e :: []) X.env = (false, eval e X.env) :: starEach [] X.env) → XE X (.Call (.Name "len" q) [e] [] pos) Γ (.int (es.length : Int)) := fun {X Γ e q pos} hm h hg hs => xe_eq (xe_lenT hm h hg hs) (by rw [List.length_map])
    refine xss_cons (xs_set 5 (xe_of_f (xd_callF D1 (hr.mono (by decide)) (xa_cons (xe_var 1 rfl) (xa_cons (xe_eq (xe_fdiv (xe_var 4 rfl) (hlenE B.len (xe_var 0 rfl) rfl rfl) (by omega)) (by rw [hdiv])) (xa_cons (hlenE B.len (xe_var 0 rfl) rfl rfl) xa_nil))) ⟨seed, _, es.length, rfl, l1, l2, rfl⟩)) ?_ sc_lw.nd)
    refine xss_cons (xs_asg (.tp [6, 7]) (xe_eq (xe_ixTm (f := dEx) (xs := es) ([], 0) (xe_var 0 rfl) (xe_ixLm (f := PyData.int) (xs := orderM seed ((p / es.length : Nat) : Int) es.length) (i := ((p % es.length : Nat) : Int)) 0 (xe_var 5 rfl) (xe_eq (xe_mod (xe_var 4 rfl) (hlenE B.len (xe_var 0 rfl) rfl rfl) (by omega)) (by rw [hmod])) (by rw [orderM_len]; omega)) (by rw [Int.toNat_natCast]; omega)) (show _ = dEx (fs, lab) by rw [← hex, Int.toNat_natCast]; rfl))
      (pg_tup rfl (pgs_cons (pg_name (i := 6) sc_lw.nd rfl (Or.inr rfl)) (pgs_cons (pg_name (i := 7) sc_lw.nd rfl (Or.inr rfl)) pgs_nil))) ⟨_, rfl, ?_⟩)
    refine xss_cons (xs_set 8 (xe_sum (ns := List.zipWith (· * ·) ws fs) rfl B.sum (xe_of_f (xf_eq (xf_lc (own := [("_law_k", 9)]) (fun _ => true) (fun i => .int (ws.getD i 0 * fs.getD i 0)) (.nm 9) rfl sc_lw.nd (xi_same (xi_range1 (n := (n : Int)) B.range (xe_eq (xe_lenT B.len (xe_var 6 rfl)) (by rw [List.length_map, h1])) (by omega)))
        (blkOk_by (own := [("_law_k", 9)]) (N := ["_law_examples_here", "_law_seed", "_law_steps", "_law_weights_here", "_law_place", "_law_order_here", "_law_features", "_law_label", "_law_total", "_law_k"]) (sc := defScope sLW) (by decide +kernel)) (fun _ _ _ _ _ => pg_name (i := 9) sc_lw.nd rfl (Or.inl rfl)) (by decide) ?_ (fun j y hy => ?_)) ?_))) ?_ sc_lw.nd)
    · rw [stepsD_len]
      omega
    · obtain ⟨rfl, hj⟩ := stepsD_get hy
      rw [show (0 : Int) + (j : Nat) * 1 = (j : Int) by omega]
      have hb : -100 ≤ fs.getD j 0 ∧ fs.getD j 0 ≤ 100 := small_get hoe.2.1 (show j < fs.length by omega)
      exact ⟨_, rfl, fun _ _ _ _ _ => pts_yes, fun _ => ⟨fun _ _ _ _ _ => xe_mul (xe_ixLm (f := PyData.int) (xs := ws) (i := (j : Int)) 0 (xe_var 3 rfl) (xe_var 9 rfl) (by omega)) (xe_ixTm (f := PyData.int) (xs := fs) (i := (j : Int)) 0 (xe_var 6 rfl) (xe_var 9 rfl) (by omega)) (.inr (by omega)), rfl⟩⟩
    · rw [stepsD_len, Int.toNat_natCast]
      exact dot_given hwl h1
    · have hsteps : ∀ {X : Cx} {Γ : G} {a b : Expr} {pos : Pos}, XE X a Γ (.list (st.map dSet)) → XE X b Γ (.int (p : Int)) → PlainIx b → XE X (.Subscript a b pos) Γ (dSet (rate, margin)) := fun {X Γ a b pos} h1 h2 h3 => xe_eq (xe_ixLm (f := dSet) (xs := st) (i := (p : Int)) (0, 0) h1 h2 (by omega) h3) (by rw [Int.toNat_natCast, hrm])
      unfold RateOk at hrt
      refine xss_one (xs_if (xt_le (xe_mul (xe_var 7 rfl) (xe_var 8 rfl) (.inl (by omega))) (xe_ixT (hsteps (xe_var 2 rfl) (xe_var 4 rfl) (fun _ _ => rfl)) xe_int (atI_nat (j := 1) rfl))) (fun hk => ?_) fun hk => xss_nil ?_)
      · have hk : lab * dot ws fs ≤ margin := of_decide_eq_true hk
        have hgt : ¬ lab * dot ws fs > margin := by omega
        refine xss_one (xs_set 3 (xe_of_f (xf_eq (xf_lc (own := [("_law_k", 9)]) (fun _ => true) (fun i => .int ((fun w f => w + rate * lab * f) (ws.getD i 0) (fs.getD i 0))) (.nm 9) rfl sc_lw.nd (xi_same (xi_range1 (n := (n : Int)) B.range (xe_eq (xe_lenT B.len (xe_var 6 rfl)) (by rw [List.length_map, h1])) (by omega)))
          (blkOk_by (own := [("_law_k", 9)]) (N := ["_law_examples_here", "_law_seed", "_law_steps", "_law_weights_here", "_law_place", "_law_order_here", "_law_features", "_law_label", "_law_total", "_law_k"]) (sc := defScope sLW) (by decide +kernel)) (fun _ _ _ _ _ => pg_name (i := 9) sc_lw.nd rfl (Or.inl rfl)) (by decide) ?_ (fun j y hy => ?_))
          (show _ = (List.zipWith (fun w f => w + rate * lab * f) ws fs).map PyData.int from ?_))) ?_ sc_lw.nd)
        · rw [stepsD_len]
          omega
        · obtain ⟨rfl, hj⟩ := stepsD_get hy
          rw [show (0 : Int) + (j : Nat) * 1 = (j : Int) by omega]
          have hb : -100 ≤ fs.getD j 0 ∧ fs.getD j 0 ≤ 100 := small_get hoe.2.1 (show j < fs.length by omega)
          refine ⟨_, rfl, fun _ _ _ _ _ => pts_yes, fun _ => ⟨fun _ _ _ _ _ => xe_add (xe_ixLm (f := PyData.int) (xs := ws) (i := (j : Int)) 0 (xe_var 3 rfl) (xe_var 9 rfl) (by omega))
            (xe_mul (xe_mul (xe_ixT (hsteps (xe_var 2 rfl) (xe_var 4 rfl) (fun _ _ => rfl)) xe_int (atI_nat (j := 0) rfl)) (xe_var 7 rfl) (.inl (by omega))) (xe_ixTm (f := PyData.int) (xs := fs) (i := (j : Int)) 0 (xe_var 6 rfl) (xe_var 9 rfl) (by omega)) (.inr (by omega))), rfl⟩⟩
        · rw [stepsD_len, Int.toNat_natCast]
          have q := zipW_given (ws := ws) (fs := fs) (g := fun w f => w + rate * lab * f)
          rw [zipD_len, hwl, h1, Nat.min_self] at q
          exact q
        · unfold stepM
          rw [if_neg hgt]
          exact ⟨_, _, _, _, _, rfl⟩
      · have hk : ¬ lab * dot ws fs ≤ margin := of_decide_eq_false hk
        have hgt : lab * dot ws fs > margin := by omega
        unfold stepM
        rw [if_pos hgt]
        exact ⟨_, _, _, _, _, rfl⟩
  · rintro Γ' ⟨s4, s5, s6, s7, s8, rfl⟩
    rw [stepsD_len, Int.toNat_natCast]
    exact xss_one (xs_ret (xe_tupleL B.tuple (xe_var 3 rfl)) rfl)
end
end TC
namespace TC
open PySem L2
theorem cut_to (ds : List PyData) (k : Nat) : cutD ds none (some (k : Int)) = ds.take k := by
  unfold cutD
  rw [HT.sIx_none, HT.sIx_nat, List.drop_zero, Nat.sub_zero]
  rcases Nat.le_total k ds.length with h | h
  · rw [Nat.min_eq_left h]
  · rw [Nat.min_eq_right h, List.take_length, List.take_of_length_le h]
theorem cut_from (ds : List PyData) (k : Nat) : cutD ds (some (k : Int)) none = ds.drop k := by
  unfold cutD
  rw [HT.sIx_none, HT.sIx_nat]
  rcases Nat.le_total k ds.length with h | h
  · rw [Nat.min_eq_left h]
    refine List.take_of_length_le (by rw [List.length_drop]; omega)
  · rw [Nat.min_eq_right h, List.drop_length, List.drop_of_length_le h, List.take_nil]
/-- x in a tuple of texts -/
def inS (x : Str) (ss : List Str) : Bool := ss.any fun y => y == x
theorem rd_inS {K : PySem.W.Frag} {x : Str} {ss : List Str} : RD K (rIn K false) (.str x) (.tuple (ss.map .str)) (.bool (inS x ss)) := fun H a b Q q1 q2 k => by
  cases q1
  cases q2 with
  | @tup p xs _ hs ha =>
    have key : ∀ {ss : List Str} {xs : List V}, DpAll K H xs (ss.map .str) → xs = ss.map V.str := by
      intro ss
      induction ss with
      | nil => intro xs h; cases h; rfl
      | cons s ss ih =>
        intro xs h
        cases h with
        | cons h1 h2 =>
          cases h1
          rw [ih h2]
          rfl
    have e := key ha
    subst e
    refine ⟨p, _, rfl, .inr hs, rfl, ?_, ?_⟩
    · rw [List.all_map]
      refine List.all_eq_true.mpr fun _ _ => rfl
    · have z := k (.bl (inS x ss)) H (Same.refl H) (.bl _)
      have e2 : inV (V.str x) (ss.map V.str) = inS x ss := by
        unfold inV inS
        rw [List.any_map]
        rfl
      rw [← e2] at z
      exact z
section
variable {X : Cx} {Γ : G} {a b : Expr} {pos : Pos}
theorem xe_inS {x : Str} {ss : List Str} (ha : XE X a Γ (.str x)) (hb : XE X b Γ (.tuple (ss.map .str))) (hm : behindInMarks .In b = false := by rfl) : XE X (.Compare a [.In] [b] pos) Γ (.bool (inS x ss)) := xe_cmp op_in_seq rd_inS ha hb hm
end
section
variable {P : Program} {w : World}
variable {K : PySem.W.Frag} {mg : Str → Option Value} {base : Heap}
/-! _law_examples -/
abbrev sLEx : Stmt := topS 43
def pLEx (ds : List PyData) (r : PyData) : Prop := ∃ (cell : Int) (size : Nat), ds = [.int cell, .int (size : Int)] ∧ 1 ≤ size ∧ size ≤ 3 ∧ r = dExs (examplesM cell size)
theorem sc_lex : FnScope ["_law_cell_here", "_law_size", "_law_n", "_law_found", "_law_k", "_law_features", "_law_j"] ["_law_cell_here", "_law_size"] (defScope sLEx) := ⟨rfl, rfl, rfl, by decide +kernel, rfl, by decide +kernel, by decide +kernel⟩
theorem ok_lex (R : RawD K mg "_law_examples" sLEx) (B : Bi mg) (D1 : Def P w K mg base "_law_draws" 1 ["_law_cell_here", "_law_count"] (spF K 2 pDraws)) : Def P w K mg base "_law_examples" 2 ["_law_cell_here", "_law_size"] (spR K 2 pLEx) := by
  refine def_pure R sc_lex rfl (fun _ _ _ _ _ _ us hl => match us, hl with | [_, _], _ => rfl) fun f cdv A outer s H E ds r hr hp hl => ?_
  obtain ⟨cell, size, rfl, h1, h3, rfl⟩ := hp
  obtain ⟨n, hn⟩ : ∃ n, n = drawsM cell 40 := ⟨_, rfl⟩
  have hlen : n.length = 40 := by rw [hn]; exact draws_len cell 40
  have hg : ∀ i, i < 40 → 0 ≤ n.getD i 0 ∧ n.getD i 0 < 2147483648 := fun i hi => by rw [hn]; exact draws_get cell hi
  have h0 := hg 0 (by decide)
  refine xss_cons (xs_set 2 (xe_of_f (xd_callF D1 (hr.mono (by decide)) (xa_cons (xe_toI B.int (xe_var 0 rfl) rfl) (xa_cons xe_int xa_nil)) ⟨cell, 40, rfl, by decide, by rw [← hn]⟩)) ?_ sc_lex.nd)
  refine xss_cons (xs_setF 3 (xf_lst xa_nil (by decide)) rfl rfl ?_ sc_lex.nd)
  refine xss_cons (xs_for (.nm 4) (fun i Γ => ∃ s4 s5, Γ = [.b (.int cell), .b (.int (size : Int)), .b (.list (n.map .int)), .o (((List.range i).map fun k => exM n size k).map dEx), s4, s5, .n])
    (xi_range1 (n := 1 + n.getD 0 0 % 5) B.range (xe_add xe_int (xe_mod (xe_ixLm (f := PyData.int) (xs := n) (i := 0) 0 (xe_var 2 rfl) xe_int (by omega)) xe_int (by decide))) (by omega)) (pg_name (i := 4) sc_lex.nd rfl (Or.inr rfl)) ⟨_, _, rfl⟩ ?_ ?_ rfl PassesOwn.never)
  · rintro k y Γi hy ⟨s4, s5, rfl⟩
    obtain ⟨rfl, hk⟩ := stepsD_get hy
    rw [show (0 : Int) + (k : Nat) * 1 = (k : Int) by omega]
    have hk5 : k < 5 := by omega
    refine ⟨_, rfl, ?_⟩
    refine xss_cons (xs_set 5 (xe_tupleL B.tuple (xe_of_f (xf_eq (xf_lc (own := [("_law_j", 6)]) (fun _ => true) (fun j => .int (n.getD (1 + 4 * k + j) 0 % 9 - 4)) (.nm 6) rfl sc_lex.nd (xi_same (xi_range1 (n := (size : Int)) B.range (xe_var 1 rfl) (by omega)))
      (blkOk_by (own := [("_law_j", 6)]) (N := ["_law_cell_here", "_law_size", "_law_n", "_law_found", "_law_k", "_law_features", "_law_j"]) (sc := defScope sLEx) (by decide +kernel)) (fun _ _ _ _ _ => pg_name (i := 6) sc_lex.nd rfl (Or.inl rfl)) (by decide) ?_ (fun j y hy => ?_))
      (show _ = ((List.range size).map fun j => n.getD (1 + 4 * k + j) 0 % 9 - 4).map PyData.int from ?_)))) ?_ sc_lex.nd)
    · rw [stepsD_len]
      omega
    · obtain ⟨rfl, hj⟩ := stepsD_get hy
      rw [show (0 : Int) + (j : Nat) * 1 = (j : Int) by omega]
      exact ⟨_, rfl, fun _ _ _ _ _ => pts_yes, fun _ => ⟨fun _ _ _ _ _ => xe_eq (xe_sub (xe_mod (xe_ixLm (f := PyData.int) (xs := n) (i := 1 + 4 * (k : Int) + (j : Int)) 0 (xe_var 2 rfl) (xe_add (xe_add xe_int (xe_mul xe_int (xe_var 4 rfl) (.inl (by decide)))) (xe_var 6 rfl)) (by omega)) xe_int (by decide)) xe_int)
        (by rw [show (1 + 4 * (k : Int) + (j : Int)).toNat = 1 + 4 * k + j by omega]), rfl⟩⟩
    · rw [stepsD_len, Int.toNat_natCast, List.map_map]
      refine givenD_eq (by rw [List.length_map, List.length_range]) fun i x hx => ?_
      rw [List.getElem?_map] at hx
      cases q : (List.range size)[i]? with
      | none => rw [q] at hx; cases hx
      | some z =>
        rw [q] at hx
        have hi := (List.getElem?_eq_some_iff.mp q).1
        rw [List.length_range] at hi
        rw [List.getElem?_range hi] at q
        cases q
        exact Option.some.inj hx
    · refine xss_one (xs_app 3 (d := dEx (exM n size k)) rfl (xe_eq (xe_tup (xa_cons (xe_var 5 rfl) (xa_cons (xe_sub xe_int (xe_mul xe_int (xe_mod (xe_ixLm (f := PyData.int) (xs := n) (i := 4 + 4 * (k : Int)) 0 (xe_var 2 rfl) (xe_add xe_int (xe_mul xe_int (xe_var 4 rfl) (.inl (by decide)))) (by omega)) xe_int (by decide)) (.inl (by decide)))) xa_nil)) (by simp)) ?_) (pureEx _) (by rw [List.length_map, List.length_map, List.length_range]; omega) ?_)
      · rw [show (4 + 4 * (k : Int)).toNat = 4 + 4 * k by omega]
        rfl
      · refine ⟨.c (.int (k : Int)), demote (.c (.tuple (((List.range size).map fun j => n.getD (1 + 4 * k + j) 0 % 9 - 4).map PyData.int))), ?_⟩
        rw [List.range_succ, List.map_append, List.map_append]
        rfl
  · rintro Γ' ⟨s4, s5, rfl⟩
    rw [stepsD_len]
    refine xss_one (xs_ret (xe_tupleL B.tuple (xe_var 3 rfl)) ?_)
    unfold examplesM dExs
    rw [← hn, show (1 + n.getD 0 0 % 5).toNat = 1 + (n.getD 0 0 % 5).toNat by omega]
/-! _law_deed -/
abbrev sDeed : Stmt := topS 44
def pDeedR (ds : List PyData) (r : PyData) : Prop := ∃ (n : List Int) (a : Nat), ds = [.list (n.map .int), .int (a : Int)] ∧ n.length = 59 ∧ r = dDeed (deedM n a)
theorem sc_deed : FnScope ["_law_n", "_law_at", "_law_kind", "_law_trial", "_law_incarnation", "_law_many"] ["_law_n", "_law_at"] (defScope sDeed) := ⟨rfl, rfl, rfl, by decide +kernel, rfl, by decide +kernel, by decide +kernel⟩
theorem ok_deed (R : RawD K mg "_law_deed" sDeed) (B : Bi mg) : Def P w K mg base "_law_deed" 1 ["_law_n", "_law_at"] (spR K 2 pDeedR) := by
  refine def_pure R sc_deed rfl (fun _ _ _ _ _ _ us hl => match us, hl with | [_, _], _ => rfl) fun f cdv A outer s H E ds r hr hp hl => ?_
  obtain ⟨n, a, rfl, hn, rfl⟩ := hp
  unfold deedM
  have hix : ∀ {X : Cx} {Γ : G} {e1 e2 : Expr} {pos : Pos} (c : Nat), XE X e1 Γ (.list (n.map .int)) → XE X e2 Γ (.int (((a + c) % n.length : Nat) : Int)) → PlainIx e2 → XE X (.Subscript e1 e2 pos) Γ (.int (n.getD ((a + c) % n.length) 0)) := fun {X Γ e1 e2 pos} c h1 h2 h3 =>
    xe_eq (xe_ixLm (f := PyData.int) (xs := n) (i := (((a + c) % n.length : Nat) : Int)) 0 h1 h2 (by have := Nat.mod_lt (a + c) (show n.length > 0 by omega); omega) h3) (by rw [Int.toNat_natCast])
  have hmd : ∀ c : Nat, ((a : Int) + (c : Int)) % (n.length : Int) = (((a + c) % n.length : Nat) : Int) := fun c => by rw [Int.natCast_emod, Int.natCast_add]
  have hmd0 : (a : Int) % (n.length : Int) = (((a + 0) % n.length : Nat) : Int) := by rw [Nat.add_zero, Int.natCast_emod]
  have hln : ((n.map PyData.int).length : Int) = (n.length : Int) := by rw [List.length_map]
  have hpos : (0 : Int) < ((n.map PyData.int).length : Int) := by rw [List.length_map]; omega
  rw [show n.getD (a % n.length) 0 = n.getD ((a + 0) % n.length) 0 from rfl]
  obtain ⟨g0, hg0⟩ : ∃ g, g = n.getD ((a + 0) % n.length) 0 := ⟨_, rfl⟩
  obtain ⟨g1, hg1⟩ : ∃ g, g = n.getD ((a + 1) % n.length) 0 := ⟨_, rfl⟩
  obtain ⟨g2, hg2⟩ : ∃ g, g = n.getD ((a + 2) % n.length) 0 := ⟨_, rfl⟩
  obtain ⟨g3, hg3⟩ : ∃ g, g = n.getD ((a + 3) % n.length) 0 := ⟨_, rfl⟩
  obtain ⟨g4, hg4⟩ : ∃ g, g = n.getD ((a + 4) % n.length) 0 := ⟨_, rfl⟩
  rw [← hg0, ← hg1, ← hg2, ← hg3, ← hg4]
  refine xss_cons (xs_set 2 (xe_mod (xe_eq (hix 0 (xe_var 0 rfl) (xe_eq (xe_mod (xe_var 1 rfl) (xe_lenL B.len (xe_var 0 rfl)) hpos) (by rw [hln, hmd0])) (fun _ _ => rfl)) (by rw [← hg0])) xe_int (by decide)) ?_ sc_deed.nd)
  refine xss_cons (xs_set 3 (xe_mod (xe_eq (hix 1 (xe_var 0 rfl) (xe_eq (xe_mod (xe_add (xe_var 1 rfl) xe_int) (xe_lenL B.len (xe_var 0 rfl)) hpos) (by rw [hln]; exact congrArg PyData.int (hmd 1))) (fun _ _ => rfl)) (by rw [← hg1])) xe_int (by decide)) ?_ sc_deed.nd)
  refine xss_cons (xs_set 4 (xe_add xe_int (xe_fdiv (xe_mod (xe_eq (hix 2 (xe_var 0 rfl) (xe_eq (xe_mod (xe_add (xe_var 1 rfl) xe_int) (xe_lenL B.len (xe_var 0 rfl)) hpos) (by rw [hln]; exact congrArg PyData.int (hmd 2))) (fun _ _ => rfl)) (by rw [← hg2])) xe_int (by decide)) xe_int (by decide))) ?_ sc_deed.nd)
  refine xss_cons (xs_set 5 (xe_eq (hix 3 (xe_var 0 rfl) (xe_eq (xe_mod (xe_add (xe_var 1 rfl) xe_int) (xe_lenL B.len (xe_var 0 rfl)) hpos) (by rw [hln]; exact congrArg PyData.int (hmd 3))) (fun _ _ => rfl)) (by rw [← hg3])) ?_ sc_deed.nd)
  unfold deedOf
  refine xss_cons (xs_if (xt_lt (xe_var 2 rfl) xe_int) (fun hk => ?_) fun hk => xss_nil ?_)
  · rw [if_pos (of_decide_eq_true hk)]
    exact xss_one (xs_ret (xe_tup (xa_cons xe_str (xa_cons (xe_var 3 rfl) (xa_cons (xe_mod (xe_var 5 rfl) xe_int (by decide)) (xa_cons (xe_add xe_int (xe_mod (xe_var 5 rfl) xe_int (by decide))) (xa_cons (xe_mul (xe_mod (xe_var 5 rfl) xe_int (by decide)) xe_int (.inr (by decide))) xa_nil))))) (by simp)) rfl)
  rw [if_neg (of_decide_eq_false hk)]
  refine xss_cons (xs_if (xt_lt (xe_var 2 rfl) xe_int) (fun hk => ?_) fun hk => xss_nil ?_)
  · rw [if_pos (of_decide_eq_true hk)]
    exact xss_one (xs_ret (xe_tup (xa_cons xe_str (xa_cons (xe_var 3 rfl) (xa_cons (xe_var 4 rfl) (xa_cons (xe_add xe_int (xe_mod (xe_var 5 rfl) xe_int (by decide))) xa_nil)))) (by simp)) rfl)
  rw [if_neg (of_decide_eq_false hk)]
  refine xss_cons (xs_if (xt_lt (xe_var 2 rfl) xe_int) (fun hk => ?_) fun hk => xss_nil ?_)
  · rw [if_pos (of_decide_eq_true hk)]
    exact xss_one (xs_ret (xe_tup (xa_cons xe_str (xa_cons (xe_var 3 rfl) (xa_cons (xe_var 4 rfl) xa_nil))) (by simp)) rfl)
  rw [if_neg (of_decide_eq_false hk)]
  refine xss_cons (xs_if (xt_eqS (xe_var 2 rfl) xe_int rfl) (fun hk => ?_) fun hk => xss_nil ?_)
  · rw [if_pos (of_decide_eq_true hk)]
    exact xss_one (xs_ret (xe_tup (xa_cons xe_str (xa_cons (xe_var 3 rfl) xa_nil)) (by simp)) rfl)
  rw [if_neg (of_decide_eq_false hk)]
  refine xss_cons (xs_if (xt_lt (xe_var 2 rfl) xe_int) (fun hk => ?_) fun hk => xss_nil ?_)
  · rw [if_pos (of_decide_eq_true hk)]
    exact xss_one (xs_ret (xe_tup (xa_cons xe_str (xa_cons (xe_var 3 rfl) (xa_cons (xe_var 4 rfl) xa_nil))) (by simp)) rfl)
  rw [if_neg (of_decide_eq_false hk)]
  refine xss_cons (xs_if (xt_lt (xe_var 2 rfl) xe_int) (fun hk => ?_) fun hk => xss_nil ?_)
  · rw [if_pos (of_decide_eq_true hk)]
    exact xss_one (xs_ret (xe_tup (xa_cons xe_str (xa_cons (xe_var 3 rfl) (xa_cons (xe_var 4 rfl) (xa_cons (xe_mod (xe_var 5 rfl) xe_int (by decide)) (xa_cons (xe_mod (xe_eq (hix 4 (xe_var 0 rfl) (xe_eq (xe_mod (xe_add (xe_var 1 rfl) xe_int) (xe_lenL B.len (xe_var 0 rfl)) hpos) (by rw [hln]; exact congrArg PyData.int (hmd 4))) (fun _ _ => rfl)) (by rw [← hg4])) xe_int (by decide))
      (xa_cons (xe_add xe_int (xe_mod (xe_var 5 rfl) xe_int (by decide))) (xa_cons (xe_mod (xe_var 5 rfl) xe_int (by decide)) xa_nil))))))) (by simp)) rfl)
  rw [if_neg (of_decide_eq_false hk)]
  refine xss_cons (xs_if (xt_eqS (xe_var 2 rfl) xe_int rfl) (fun hk => ?_) fun hk => xss_nil ?_)
  · rw [if_pos (of_decide_eq_true hk)]
    exact xss_one (xs_ret (xe_tup (xa_cons xe_str (xa_cons (xe_var 3 rfl) (xa_cons (xe_mod (xe_var 5 rfl) xe_int (by decide)) xa_nil))) (by simp)) rfl)
  rw [if_neg (of_decide_eq_false hk)]
  refine xss_one (xs_ret (xe_ifE (xt_eqS (xe_mod (xe_var 5 rfl) xe_int (by decide)) xe_int rfl) (fun hk => ?_) fun hk => ?_) rfl)
  · rw [if_pos (of_decide_eq_true hk)]
    exact xe_tup (xa_cons xe_str (xa_cons (xe_var 3 rfl) (xa_cons (xe_var 4 rfl) xa_nil))) (show 3 ≤ 10000000 by decide)
  · rw [if_neg (of_decide_eq_false hk)]
    exact xe_tup (xa_cons xe_str (xa_cons (xe_var 3 rfl) xa_nil)) (show 2 ≤ 10000000 by decide)
end
end TC
namespace TC
open PySem L2
theorem deed_at0 (d : Deed) : atI (PyData.str d.name :: d.args.map .int) 0 = some (.str d.name) := atI_nat (j := 0) rfl
theorem deed_at1 (d : Deed) : atI (PyData.str d.name :: d.args.map .int) 1 = some (.int d.trial) := by
  cases d <;> exact atI_nat (j := 1) rfl
theorem map_dDeed (l : List Deed) : pureAll (l.map dDeed) = true := pureAll_map pureDeed l
section
variable {P : Program} {w : World}
variable {K : PySem.W.Frag} {mg : Str → Option Value} {base : Heap}
/-! _law_deeds -/
abbrev sDeeds : Stmt := topS 45
def pDeeds (ds : List PyData) (r : PyData) : Prop := ∃ (cell : Int) (most : Nat), ds = [.int cell, .int (most : Int)] ∧ most ≤ 1000 ∧ r = dDeeds (deedsM cell most)
theorem sc_deeds : FnScope ["_law_cell_here", "_law_most", "_law_n", "_law_start", "_law_k"] ["_law_cell_here", "_law_most"] (defScope sDeeds) := ⟨rfl, rfl, rfl, by decide +kernel, rfl, by decide +kernel, by decide +kernel⟩
theorem ok_deeds (R : RawD K mg "_law_deeds" sDeeds) (B : Bi mg) (D1 : Def P w K mg base "_law_draws" 1 ["_law_cell_here", "_law_count"] (spF K 2 pDraws)) (D2 : Def P w K mg base "_law_deed" 1 ["_law_n", "_law_at"] (spR K 2 pDeedR)) : Def P w K mg base "_law_deeds" 2 ["_law_cell_here", "_law_most"] (spR K 2 pDeeds) := by
  refine def_pure R sc_deeds rfl (fun _ _ _ _ _ _ us hl => match us, hl with | [_, _], _ => rfl) fun f cdv A outer s H E ds r hr hp hl => ?_
  obtain ⟨cell, most, rfl, hm, rfl⟩ := hp
  obtain ⟨n, hn⟩ : ∃ n, n = drawsM cell 59 := ⟨_, rfl⟩
  have hlen : n.length = 59 := by rw [hn]; exact draws_len cell 59
  have h0 := Int.emod_nonneg (n.getD 57 0) (show ((most : Int) + 1) ≠ 0 by omega)
  have h1 := Int.emod_lt_of_pos (n.getD 57 0) (show (0 : Int) < (most : Int) + 1 by omega)
  obtain ⟨q, hq⟩ : ∃ q : Nat, n.getD 57 0 % ((most : Int) + 1) = (q : Int) := ⟨(n.getD 57 0 % ((most : Int) + 1)).toNat, by omega⟩
  obtain ⟨z, hz⟩ : ∃ z : Nat, n.getD 58 0 % 5 = (z : Int) := ⟨(n.getD 58 0 % 5).toNat, by omega⟩
  have hix : ∀ {X : Cx} {Γ : G} {e1 e2 : Expr} {pos : Pos} (c : Nat), c < 59 → XE X e1 Γ (.list (n.map .int)) → XE X e2 Γ (.int (c : Int)) → PlainIx e2 → XE X (.Subscript e1 e2 pos) Γ (.int (n.getD c 0)) := fun {X Γ e1 e2 pos} c hc h1 h2 h3 =>
    xe_eq (xe_ixLm (f := PyData.int) (xs := n) (i := (c : Int)) 0 h1 h2 (by omega) h3) (by rw [Int.toNat_natCast])
  refine xss_cons (xs_set 2 (xe_of_f (xd_callF D1 (hr.mono (by decide)) (xa_cons (xe_toI B.int (xe_var 0 rfl) rfl) (xa_cons xe_int xa_nil)) ⟨cell, 59, rfl, by decide, by rw [← hn]⟩)) ?_ sc_deeds.nd)
  refine xss_cons (xs_set 3 (d := dDeeds startM) (xe_tup (xa_cons (xe_tup (xa_cons xe_str (xa_cons xe_int (xa_cons xe_int (xa_cons xe_int (xa_cons xe_int xa_nil))))) (by decide))
    (xa_cons (xe_tup (xa_cons xe_str (xa_cons xe_int (xa_cons xe_int (xa_cons xe_int (xa_cons xe_int xa_nil))))) (by decide))
    (xa_cons (xe_tup (xa_cons xe_str (xa_cons xe_int (xa_cons xe_int (xa_cons xe_int xa_nil)))) (by decide))
    (xa_cons (xe_tup (xa_cons xe_str (xa_cons xe_int (xa_cons xe_int xa_nil))) (by decide)) xa_nil)))) (by decide)) ?_ sc_deeds.nd)
  refine xss_one (xs_ret (xe_catT (xe_slT (xe_var 3 rfl) xo_none (xo_some (xe_eq (xe_mod (hix 58 (by decide) (xe_var 2 rfl) xe_int (fun _ _ => rfl)) xe_int (by decide)) (by rw [hz]))))
    (xe_tupleL B.tuple (xe_of_f (xf_eq (xf_lc (own := [("_law_k", 4)]) (fun _ => true) (fun k => dDeed (deedM n (5 * k + k / 9))) (.nm 4) rfl sc_deeds.nd (xi_same (xi_range1 (n := (q : Int)) B.range (xe_eq (xe_mod (hix 57 (by decide) (xe_var 2 rfl) xe_int (fun _ _ => rfl)) (xe_add (xe_var 1 rfl) xe_int) (by omega)) (by rw [hq])) (by omega)))
      (blkOk_by (own := [("_law_k", 4)]) (N := ["_law_cell_here", "_law_most", "_law_n", "_law_start", "_law_k"]) (sc := defScope sDeeds) (by decide +kernel)) (fun _ _ _ _ _ => pg_name (i := 4) sc_deeds.nd rfl (Or.inl rfl)) (by decide) ?_ (fun k y hy => ?_))
      (show _ = ((List.range q).map fun k => deedM n (5 * k + k / 9)).map dDeed from ?_)))) ?_) ?_)
  · rw [stepsD_len]
    omega
  · obtain ⟨rfl, hk⟩ := stepsD_get hy
    rw [show (0 : Int) + (k : Nat) * 1 = (k : Int) by omega]
    exact ⟨_, rfl, fun _ _ _ _ _ => pts_yes, fun _ => ⟨fun _ _ _ _ _ => xd_call D2 (hr.mono (by decide)) (xa_cons (xe_var 2 rfl) (xa_cons (xe_eq (xe_add (xe_mul xe_int (xe_var 4 rfl) (.inl (by decide))) (xe_fdiv (xe_var 4 rfl) xe_int (by decide))) (show _ = PyData.int ((5 * k + k / 9 : Nat) : Int) by congr 1)) xa_nil)) ⟨n, 5 * k + k / 9, rfl, hlen, rfl⟩, pureDeed _⟩⟩
  · rw [stepsD_len, Int.toNat_natCast, List.map_map]
    refine givenD_eq (by rw [List.length_map, List.length_range]) fun i x hx => ?_
    rw [List.getElem?_map] at hx
    cases qq : (List.range q)[i]? with
    | none => rw [qq] at hx; cases hx
    | some z =>
      rw [qq] at hx
      have hi := (List.getElem?_eq_some_iff.mp qq).1
      rw [List.length_range] at hi
      rw [List.getElem?_range hi] at qq
      cases qq
      exact Option.some.inj hx
  · rw [cut_to, List.length_take, List.length_map, List.length_map, List.length_map, List.length_range]
    have : startM.length = 4 := rfl
    omega
  · unfold deedsM dDeeds
    rw [← hn, hq, hz, cut_to, Int.toNat_natCast, Int.toNat_natCast, List.map_append, List.map_take]
/-! _law_copies and copies_of: one text but for the names -/
def pCop (ds : List PyData) (r : PyData) : Prop := ∃ a b : Deed, ds = [dDeed a, dDeed b] ∧ r = .bool (copiesM a b)
theorem cop_xe {X : Cx} {Γ : G} {a b : Deed} {y1 y2 : Str} {p1 p2 p3 p4 p5 p6 p7 p8 p9 p10 p11 p12 p13 p14 p15 p16 p17 p18 p19 p20 : Pos} {k1 k2 k3 k4 k5 k6 k7 k8 : Nat}
    (h1 : ∀ {p : Pos}, XE X (.Name y1 p) Γ (dDeed a)) (h2 : ∀ {p : Pos}, XE X (.Name y2 p) Γ (dDeed b)) :
    XE X (.BoolOp .And [.Compare (.Subscript (.Name y1 p1) (.Constant (.int 0) k1 p2) p3) [.Eq] [.Constant (.str "copy") k2 p4] p5,
      .Compare (.Subscript (.Name y2 p6) (.Constant (.int 0) k3 p7) p8) [.In] [.Tuple [.Constant (.str "found") k4 p9, .Constant (.str "save") k5 p10] k6 p11] p12,
      .Compare (.Subscript (.Name y1 p13) (.Constant (.int 3) k7 p14) p15) [.Eq] [.Subscript (.Name y2 p16) (.Constant (.int 1) k8 p17) p18] p19] p20) Γ (.bool (copiesM a b)) := by
  refine xe_eq (xe_and (l := inS b.name ["found", "save"] && copiesM a b) (xe_eqS (xe_ixT h1 xe_int (deed_at0 a)) xe_str rfl) fun ha => xe_and (l := copiesM a b) (xe_inS (xe_ixT h2 xe_int (deed_at0 b)) (xe_tup (xa_cons xe_str (xa_cons xe_str xa_nil)) (by decide))) fun hb => ?_) ?_
  · cases a with
    | copy t i d x r m =>
      refine xe_one (xe_eq (xe_eqS (xe_ixT h1 xe_int (d := .int d) (atI_nat (j := 3) rfl)) (xe_ixT h2 xe_int (deed_at1 b)) rfl) ?_)
      cases b with
      | found t' _ _ _ => rfl
      | save t' _ => rfl
      | _ => exact absurd (show false = true from hb) (by decide)
    | _ => exact absurd (show false = true from ha) (by decide)
  · cases a with
    | copy t i d x r m =>
      have e : eqS (.str (Deed.copy t i d x r m).name) (.str "copy") = true := by show eqS (.str "copy") (.str "copy") = true; decide
      rw [e]
      cases b <;> rfl
    | _ => rfl
abbrev sLCop : Stmt := topS 46
theorem sc_lcop : FnScope ["_law_deed_here", "_law_other"] ["_law_deed_here", "_law_other"] (defScope sLCop) := ⟨rfl, rfl, rfl, by decide +kernel, rfl, by decide +kernel, by decide +kernel⟩
theorem ok_lcop (R : RawD K mg "_law_copies" sLCop) : Def P w K mg base "_law_copies" 1 ["_law_deed_here", "_law_other"] (spR K 2 pCop) := by
  refine def_pure R sc_lcop rfl (fun _ _ _ _ _ _ us hl => match us, hl with | [_, _], _ => rfl) fun f cdv A outer s H E ds r hr hp hl => ?_
  obtain ⟨a, b, rfl, rfl⟩ := hp
  exact xss_one (xs_ret (cop_xe (xe_var 0 rfl) (xe_var 1 rfl)) rfl)
abbrev sCop : Stmt := topS 32
theorem sc_cop : FnScope ["deed", "other"] ["deed", "other"] (defScope sCop) := ⟨rfl, rfl, rfl, by decide +kernel, rfl, by decide +kernel, by decide +kernel⟩
theorem ok_cop (R : RawD K mg "copies_of" sCop) : Def P w K mg base "copies_of" 1 ["deed", "other"] (spR K 2 pCop) := by
  refine def_pure R sc_cop rfl (fun _ _ _ _ _ _ us hl => match us, hl with | [_, _], _ => rfl) fun f cdv A outer s H E ds r hr hp hl => ?_
  obtain ⟨a, b, rfl, rfl⟩ := hp
  exact xss_one (xs_ret (cop_xe (xe_var 0 rfl) (xe_var 1 rfl)) rfl)
/-! _law_free -/
def pFree (ds : List PyData) (r : PyData) : Prop := ∃ a b : Deed, ds = [dDeed a, dDeed b] ∧ r = .bool (freeM a b)
theorem isDrop_eq (d : Deed) : eqS (.str d.name) (.str "drop") = d.isDrop := by cases d <;> rfl
theorem sameK_name (d : Deed) (x : Str) : sameK (.str d.name) (.str x) = true := rfl
abbrev sFree : Stmt := topS 47
theorem sc_free : FnScope ["_law_one", "_law_other"] ["_law_one", "_law_other"] (defScope sFree) := ⟨rfl, rfl, rfl, by decide +kernel, rfl, by decide +kernel, by decide +kernel⟩
theorem ok_free (R : RawD K mg "_law_free" sFree) (D1 : Def P w K mg base "_law_copies" 1 ["_law_deed_here", "_law_other"] (spR K 2 pCop)) : Def P w K mg base "_law_free" 2 ["_law_one", "_law_other"] (spR K 2 pFree) := by
  refine def_pure R sc_free rfl (fun _ _ _ _ _ _ us hl => match us, hl with | [_, _], _ => rfl) fun f cdv A outer s H E ds r hr hp hl => ?_
  obtain ⟨a, b, rfl, rfl⟩ := hp
  refine xss_cons (xs_if (xt_w (xw_or (xt_eqS (xe_ixT (xe_var 0 rfl) xe_int (deed_at0 a)) xe_str rfl) (fun _ => xw_or (xt_eqS (xe_ixT (xe_var 1 rfl) xe_int (deed_at0 b)) xe_str rfl) (fun _ => xw_or1 (xt_eqS (xe_ixT (xe_var 0 rfl) xe_int (deed_at1 a)) (xe_ixT (xe_var 1 rfl) xe_int (deed_at1 b)) rfl))))) (fun hk => ?_) fun hk => xss_nil ?_)
  · refine xss_one (xs_ret xe_bl ?_)
    unfold freeM
    rw [isDrop_eq, isDrop_eq, show eqS (.int a.trial) (.int b.trial) = decide (a.trial = b.trial) from rfl, ← Bool.or_assoc] at hk
    rw [hk]
    rfl
  · refine xss_one (xs_ret (xe_eq (xe_and (xe_not (xd_call D1 (hr.mono (by decide)) (xa_cons (xe_var 0 rfl) (xa_cons (xe_var 1 rfl) xa_nil)) ⟨a, b, rfl, rfl⟩)) fun _ => xe_one (xe_not (xd_call D1 (hr.mono (by decide)) (xa_cons (xe_var 1 rfl) (xa_cons (xe_var 0 rfl) xa_nil)) ⟨b, a, rfl, rfl⟩))) ?_) rfl)
    unfold freeM
    rw [isDrop_eq, isDrop_eq, show eqS (.int a.trial) (.int b.trial) = decide (a.trial = b.trial) from rfl, ← Bool.or_assoc] at hk
    rw [hk]
    rfl
end
end TC
namespace TC
open PySem L2
section
variable {X : Cx} {Γ : G} {a b : Expr} {pos : Pos}
theorem xt_inS {x : Str} {ss : List Str} (ha : XE X a Γ (.str x)) (hb : XE X b Γ (.tuple (ss.map .str))) (hm : behindInMarks .In b = false := by rfl) : XT X (.Compare a [.In] [b] pos) Γ (inS x ss) := xt_cmp op_in_seq rd_inS ha hb hm
end
section
variable {P : Program} {w : World}
variable {K : PySem.W.Frag} {mg : Str → Option Value} {base : Heap}
/-! independent -/
abbrev sInd : Stmt := topS 33
theorem sc_ind : FnScope ["one", "other"] ["one", "other"] (defScope sInd) := ⟨rfl, rfl, rfl, by decide +kernel, rfl, by decide +kernel, by decide +kernel⟩
theorem ok_ind (R : RawD K mg "independent" sInd) (D1 : Def P w K mg base "copies_of" 1 ["deed", "other"] (spR K 2 pCop)) : Def P w K mg base "independent" 2 ["one", "other"] (spR K 2 pFree) := by
  refine def_pure R sc_ind rfl (fun _ _ _ _ _ _ us hl => match us, hl with | [_, _], _ => rfl) fun f cdv A outer s H E ds r hr hp hl => ?_
  obtain ⟨a, b, rfl, rfl⟩ := hp
  have key : inS "drop" [a.name, b.name] = (a.isDrop || b.isDrop) := by cases a <;> cases b <;> rfl
  refine xss_cons (xs_if (xt_w (xw_or (xt_inS (ss := [a.name, b.name]) xe_str (xe_tup (xa_cons (xe_ixT (xe_var 0 rfl) xe_int (deed_at0 a)) (xa_cons (xe_ixT (xe_var 1 rfl) xe_int (deed_at0 b)) xa_nil)) (show 2 ≤ 10000000 by decide))) (fun _ => xw_or1 (xt_eqS (xe_ixT (xe_var 0 rfl) xe_int (deed_at1 a)) (xe_ixT (xe_var 1 rfl) xe_int (deed_at1 b)) rfl)))) (fun hk => ?_) fun hk => xss_nil ?_)
  · refine xss_one (xs_ret xe_bl ?_)
    unfold freeM
    rw [key, show eqS (.int a.trial) (.int b.trial) = decide (a.trial = b.trial) from rfl] at hk
    rw [hk]
    rfl
  · refine xss_one (xs_ret (xe_eq (xe_and (xe_not (xd_call D1 (hr.mono (by decide)) (xa_cons (xe_var 0 rfl) (xa_cons (xe_var 1 rfl) xa_nil)) ⟨a, b, rfl, rfl⟩)) fun _ => xe_one (xe_not (xd_call D1 (hr.mono (by decide)) (xa_cons (xe_var 1 rfl) (xa_cons (xe_var 0 rfl) xa_nil)) ⟨b, a, rfl, rfl⟩))) ?_) rfl)
    unfold freeM
    rw [key, show eqS (.int a.trial) (.int b.trial) = decide (a.trial = b.trial) from rfl] at hk
    rw [hk]
    rfl
/-- neighbours exchanged in the data -/
theorem swap_xe {X : Cx} {Γ : G} {l : List Deed} {p : Nat} {y1 y2 : Str} {q1 q2 q3 q4 q5 q6 q7 q8 q9 q10 q11 q12 q13 q14 q15 q16 q17 q18 q19 q20 q21 : Pos} {k1 k2 k3 : Nat} (hp : p + 1 < l.length) (hl : l.length ≤ 1000000)
    (h1 : ∀ {q : Pos}, XE X (.Name y1 q) Γ (dDeeds l)) (h2 : ∀ {q : Pos}, XE X (.Name y2 q) Γ (.int (p : Int))) :
    XE X (.BinOp (.BinOp (.Subscript (.Name y1 q1) (.Slice none (some (.Name y2 q2)) none q3) q4) .Add (.Tuple [.Subscript (.Name y1 q5) (.BinOp (.Name y2 q6) .Add (.Constant (.int 1) k1 q7) q8) q9, .Subscript (.Name y1 q10) (.Name y2 q11) q12] k2 q13) q14) .Add
      (.Subscript (.Name y1 q15) (.Slice (some (.BinOp (.Name y2 q16) .Add (.Constant (.int 2) k3 q17) q18)) none none q19) q20) q21) Γ (dDeeds (swapAt l p)) := by
  refine xe_eq (xe_catT (xe_catT (xe_slT h1 xo_none (xo_some h2)) (xe_tup (xa_cons (xe_eq (xe_ixTm (f := dDeed) (xs := l) (i := (p : Int) + 1) (.crash 0) h1 (xe_add h2 xe_int) (by omega) (fun _ _ => rfl)) (show _ = dDeed (l.getD (p + 1) (.crash 0)) by rw [show ((p : Int) + 1).toNat = p + 1 by omega]))
    (xa_cons (xe_eq (xe_ixTm (f := dDeed) (xs := l) (i := (p : Int)) (.crash 0) h1 h2 (by omega) (fun _ _ => rfl)) (show _ = dDeed (l.getD p (.crash 0)) by rw [Int.toNat_natCast])) xa_nil)) (show 2 ≤ 10000000 by decide)) ?_) (xe_slT h1 (xo_some (xe_eq (xe_add h2 xe_int) (show _ = PyData.int ((p + 2 : Nat) : Int) by congr 1))) xo_none) ?_) ?_
  · rw [cut_to, List.length_take, List.length_map]
    show _ + 2 ≤ 10000000
    omega
  · rw [cut_to, cut_from, List.length_append, List.length_take, List.length_map, List.length_drop, List.length_map]
    show _ + 2 + _ ≤ 10000000
    omega
  · rw [cut_to, cut_from]
    unfold swapAt dDeeds
    rw [List.map_append, List.map_append, List.map_take, List.map_drop]
    rfl
/-! exchanged -/
abbrev sExd : Stmt := topS 34
def pExd (ds : List PyData) (r : PyData) : Prop := ∃ (l : List Deed) (p : Nat), ds = [dDeeds l, .int (p : Int)] ∧ p + 1 < l.length ∧ l.length ≤ 1000000 ∧ freeM (l.getD p (.crash 0)) (l.getD (p + 1) (.crash 0)) = true ∧ r = dDeeds (swapAt l p)
theorem sc_exd : FnScope ["deeds", "place"] ["deeds", "place"] (defScope sExd) := ⟨rfl, rfl, rfl, by decide +kernel, rfl, by decide +kernel, by decide +kernel⟩
theorem ok_exd (R : RawD K mg "exchanged" sExd) (B : Bi mg) (D1 : Def P w K mg base "independent" 2 ["one", "other"] (spR K 2 pFree)) : Def P w K mg base "exchanged" 3 ["deeds", "place"] (spR K 2 pExd) := by
  refine def_pure R sc_exd rfl (fun _ _ _ _ _ _ us hl => match us, hl with | [_, _], _ => rfl) fun f cdv A outer s H E ds r hr hp hl => ?_
  obtain ⟨l, p, rfl, hp, hll, hf, rfl⟩ := hp
  have hlen : ((l.map dDeed).length : Int) = (l.length : Int) := by rw [List.length_map]
  refine xss_cons (xs_ifF (xt_w (xw_or (xt_not (xt_val (xe_isi B.isinstance B.int PyProof.Rows.boot_int (xe_var 1 rfl) kit_ii))) (fun _ => xw_or (xt_val (xe_isi B.isinstance B.bool PyProof.Rows.boot_bool (xe_var 1 rfl) kit_ib)) (fun _ => xw_or1 (xt_not (xt_chain op_le op_lt rd_le rd_lt xe_int (xe_var 1 rfl) (xe_sub (xe_eq (xe_lenT B.len (xe_var 0 rfl)) (by rw [hlen])) xe_int))))))) ?_ (xss_nil ?_))
  · rw [decide_eq_true (show (0 : Int) ≤ (p : Int) by omega), decide_eq_true (show (p : Int) < (l.length : Int) - 1 by omega)]
    rfl
  refine xss_cons (xs_ifF (xt_not (xt_val (xd_call D1 (hr.mono (by decide)) (xa_cons (xe_eq (xe_ixTm (f := dDeed) (xs := l) (i := (p : Int)) (.crash 0) (xe_var 0 rfl) (xe_var 1 rfl) (by omega)) (show _ = dDeed (l.getD p (.crash 0)) by rw [Int.toNat_natCast]))
    (xa_cons (xe_eq (xe_ixTm (f := dDeed) (xs := l) (i := (p : Int) + 1) (.crash 0) (xe_var 0 rfl) (xe_add (xe_var 1 rfl) xe_int) (by omega)) (show _ = dDeed (l.getD (p + 1) (.crash 0)) by rw [show ((p : Int) + 1).toNat = p + 1 by omega])) xa_nil)) ⟨_, _, rfl, rfl⟩))) (by rw [hf]; rfl) (xss_nil ?_))
  exact xss_one (xs_ret (swap_xe hp hll (xe_var 0 rfl) (xe_var 1 rfl)) rfl)
/-! _law_mixed -/
abbrev sMix : Stmt := topS 48
def pMix (ds : List PyData) (r : PyData) : Prop := ∃ (l : List Deed) (cell : Int) (many : Nat), ds = [dDeeds l, .int cell, .int (many : Int)] ∧ l.length ≤ 1000 ∧ many ≤ 50 ∧ r = .tuple [dDeeds (mixedM l cell many).1, dInts (mixedM l cell many).2]
theorem sc_mix : FnScope ["_law_deeds_here", "_law_cell_here", "_law_many", "_law_n", "_law_found", "_law_places", "_law_k", "_law_place"] ["_law_deeds_here", "_law_cell_here", "_law_many"] (defScope sMix) := ⟨rfl, rfl, rfl, by decide +kernel, rfl, by decide +kernel, by decide +kernel⟩
theorem ok_mix (R : RawD K mg "_law_mixed" sMix) (B : Bi mg) (D1 : Def P w K mg base "_law_draws" 1 ["_law_cell_here", "_law_count"] (spF K 2 pDraws)) (D2 : Def P w K mg base "_law_free" 2 ["_law_one", "_law_other"] (spR K 2 pFree)) : Def P w K mg base "_law_mixed" 3 ["_law_deeds_here", "_law_cell_here", "_law_many"] (spR K 3 pMix) := by
  refine def_pure R sc_mix rfl (fun _ _ _ _ _ _ us hl => match us, hl with | [_, _, _], _ => rfl) fun f cdv A outer s H E ds r hr hp hl => ?_
  obtain ⟨l, cell, many, rfl, hll, hmany, rfl⟩ := hp
  obtain ⟨n, hn⟩ : ∃ n, n = drawsM cell 50 := ⟨_, rfl⟩
  have hlen : n.length = 50 := by rw [hn]; exact draws_len cell 50
  refine xss_cons (xs_set 3 (xe_of_f (xd_callF D1 (hr.mono (by decide)) (xa_cons (xe_toI B.int (xe_var 1 rfl) rfl) (xa_cons xe_int xa_nil)) ⟨cell, 50, rfl, by decide, by rw [← hn]⟩)) ?_ sc_mix.nd)
  refine xss_cons (xs_set 4 (xe_var 0 rfl) ?_ sc_mix.nd)
  refine xss_cons (xs_set 5 (d := dInts []) (xe_tup xa_nil (by decide)) ?_ sc_mix.nd)
  refine xss_cons (xs_for (.nm 6) (fun i Γ => ∃ s6 s7, Γ = [.c (dDeeds l), .c (.int cell), .c (.int (many : Int)), .c (.list (n.map .int)), .c (dDeeds (mixRun n l i).1), .c (dInts (mixRun n l i).2), s6, s7])
    (xi_range1 (n := (many : Int)) B.range (xe_var 2 rfl) (by omega)) (pg_name (i := 6) sc_mix.nd rfl (Or.inl rfl)) ⟨_, _, rfl⟩ ?_ ?_ rfl PassesOwn.never)
  · rintro k y Γi hy ⟨s6, s7, rfl⟩
    obtain ⟨rfl, hk⟩ := stepsD_get hy
    rw [show (0 : Int) + (k : Nat) * 1 = (k : Int) by omega]
    rw [Int.toNat_natCast] at hk
    obtain ⟨S, hS⟩ : ∃ S, S = mixRun n l k := ⟨_, rfl⟩
    have hS1 : S.1.length = l.length := by rw [hS]; exact mixRun_len n l k
    have hS2 : S.2.length ≤ k := by rw [hS]; exact mixRun_len2 n l k
    have hst : mixRun n l (k + 1) = mixStep n k S := by rw [hS]; rfl
    rw [hst, ← hS]
    have hmx : 0 < max1 S.1.length := by unfold max1; split <;> omega
    have hm0 := Int.emod_nonneg (n.getD k 0) (show max1 S.1.length ≠ 0 by omega)
    obtain ⟨p, hp⟩ : ∃ p : Nat, n.getD k 0 % max1 S.1.length = (p : Int) := ⟨(n.getD k 0 % max1 S.1.length).toNat, by omega⟩
    refine ⟨_, rfl, ?_⟩
    refine xss_cons (xs_set 7 (xe_eq (xe_mod (xe_ixLm (f := PyData.int) (xs := n) (i := (k : Int)) 0 (xe_var 3 rfl) (xe_var 6 rfl) (by omega)) (xe_eq (xe_max2 rfl B.max xe_int (xe_lenT B.len (xe_var 4 rfl))) (show _ = PyData.int (max1 S.1.length) by rw [List.length_map]; rfl)) hmx) (show _ = PyData.int (p : Int) by rw [Int.toNat_natCast, hp])) ?_ sc_mix.nd)
    unfold mixStep
    rw [hp, Int.toNat_natCast]
    refine xss_one (xs_if (xt_w (xw_and (xt_lt (xe_add (xe_var 7 rfl) xe_int) (xe_eq (xe_lenT B.len (xe_var 4 rfl)) (show _ = PyData.int (S.1.length : Int) by rw [List.length_map]))) fun h1 => xw_and1 (xt_val
      (xd_call D2 (hr.mono (by decide)) (xa_cons (xe_eq (xe_ixTm (f := dDeed) (xs := S.1) (i := (p : Int)) (.crash 0) (xe_var 4 rfl) (xe_var 7 rfl) (by have := of_decide_eq_true h1; omega)) (show _ = dDeed (S.1.getD p (.crash 0)) by rw [Int.toNat_natCast]))
        (xa_cons (xe_eq (xe_ixTm (f := dDeed) (xs := S.1) (i := (p : Int) + 1) (.crash 0) (xe_var 4 rfl) (xe_add (xe_var 7 rfl) xe_int) (by have := of_decide_eq_true h1; omega)) (show _ = dDeed (S.1.getD (p + 1) (.crash 0)) by rw [show ((p : Int) + 1).toNat = p + 1 by omega])) xa_nil)) ⟨_, _, rfl, rfl⟩)))) (fun hk2 => ?_) fun hk2 => xss_nil ?_)
    · rw [Bool.and_eq_true] at hk2
      have hpl := of_decide_eq_true hk2.1
      have hpl : p + 1 < S.1.length := by omega
      rw [if_pos ⟨hpl, hk2.2⟩]
      refine xss_cons (xs_set 4 (swap_xe hpl (by omega) (xe_var 4 rfl) (xe_var 7 rfl)) ?_ sc_mix.nd)
      refine xss_one (xs_set 5 (xe_catT (xe_var 5 rfl) (xe_tup (xa_cons (xe_var 7 rfl) xa_nil) (show 1 ≤ 10000000 by decide)) (by rw [List.length_map]; show _ + 1 ≤ 10000000; omega)) ?_ sc_mix.nd)
      refine ⟨.c (.int (k : Int)), .c (.int (p : Int)), ?_⟩
      unfold dInts
      rw [List.map_append]
      rfl
    · rw [if_neg (fun z => by rw [decide_eq_true (show (p : Int) + 1 < (S.1.length : Int) by omega), z.2] at hk2; cases hk2)]
      exact ⟨_, _, rfl⟩
  · rintro Γ' ⟨s6, s7, rfl⟩
    rw [stepsD_len, Int.toNat_natCast]
    refine xss_one (xs_ret (xe_tup (xa_cons (xe_var 4 rfl) (xa_cons (xe_var 5 rfl) xa_nil)) (show 2 ≤ 10000000 by decide)) ?_)
    unfold mixedM
    rw [← hn]
/-! _law_ready -/
abbrev sReady : Stmt := topS 53
/-- what the law draws from its script -/
def sizeM (ns : List Int) : Nat := (1 + cellM ns 0 % 3).toNat
theorem sizeM_ok (ns : List Int) : 1 ≤ sizeM ns ∧ sizeM ns ≤ 3 := by unfold sizeM; omega
def pReady (ds : List PyData) (r : PyData) : Prop := ∃ (ns : List Int) (most : Nat), ds = [.list (ns.map .int), .int (most : Int)] ∧ most ≤ 1000 ∧
  r = .tuple [dExs (examplesM (cellM ns 1) (sizeM ns)), dExs (examplesM (cellM ns 2) (sizeM ns)), dDeeds (deedsM (cellM ns 3) most)]
theorem sc_ready : FnScope ["_law_script", "_law_most", "_law_size", "_law_training", "_law_validation"] ["_law_script", "_law_most"] (defScope sReady) := ⟨rfl, rfl, rfl, by decide +kernel, rfl, by decide +kernel, by decide +kernel⟩
theorem ok_ready (R : RawD K mg "_law_ready" sReady) (B : Bi mg) (D1 : Def P w K mg base "_law_cell" 1 ["_law_script", "_law_k"] (spR K 2 pCell)) (D2 : Def P w K mg base "_law_examples" 2 ["_law_cell_here", "_law_size"] (spR K 2 pLEx)) (D3 : Def P w K mg base "_law_deeds" 2 ["_law_cell_here", "_law_most"] (spR K 2 pDeeds)) : Def P w K mg base "_law_ready" 3 ["_law_script", "_law_most"] (spR K 2 pReady) := by
  refine def_pure R sc_ready rfl (fun _ _ _ _ _ _ us hl => match us, hl with | [_, _], _ => rfl) fun f cdv A outer s H E ds r hr hp hl => ?_
  obtain ⟨ns, most, rfl, hm, rfl⟩ := hp
  have hsz := sizeM_ok ns
  have hcell : ∀ {X : Cx} {Γ : G} {e1 e2 : Expr} {q pos : Pos} (k : Nat), Room 1 X.A → X.prog = P → True := fun _ _ _ => trivial
  refine xss_cons (xs_set 2 (xe_eq (xe_add xe_int (xe_mod (xe_toI B.int (xd_call D1 (hr.mono (by decide)) (xa_cons (xe_var 0 rfl) (xa_cons xe_int xa_nil)) ⟨ns, 0, rfl, rfl⟩) rfl) xe_int (by decide))) (show _ = PyData.int (sizeM ns : Int) by unfold sizeM; congr 1; omega)) ?_ sc_ready.nd)
  refine xss_cons (xs_set 3 (xd_call D2 (hr.mono (by decide)) (xa_cons (xd_call D1 (hr.mono (by decide)) (xa_cons (xe_var 0 rfl) (xa_cons xe_int xa_nil)) ⟨ns, 1, rfl, rfl⟩) (xa_cons (xe_var 2 rfl) xa_nil)) ⟨_, _, rfl, hsz.1, hsz.2, rfl⟩) ?_ sc_ready.nd)
  refine xss_cons (xs_set 4 (xd_call D2 (hr.mono (by decide)) (xa_cons (xd_call D1 (hr.mono (by decide)) (xa_cons (xe_var 0 rfl) (xa_cons xe_int xa_nil)) ⟨ns, 2, rfl, rfl⟩) (xa_cons (xe_var 2 rfl) xa_nil)) ⟨_, _, rfl, hsz.1, hsz.2, rfl⟩) ?_ sc_ready.nd)
  exact xss_one (xs_ret (xe_tup (xa_cons (xe_var 3 rfl) (xa_cons (xe_var 4 rfl) (xa_cons (xd_call D3 (hr.mono (by decide)) (xa_cons (xd_call D1 (hr.mono (by decide)) (xa_cons (xe_var 0 rfl) (xa_cons xe_int xa_nil)) ⟨ns, 3, rfl, rfl⟩) (xa_cons (xe_var 1 rfl) xa_nil)) ⟨_, _, rfl, hm, rfl⟩) xa_nil))) (show 3 ≤ 10000000 by decide)) rfl)
end
end TC
namespace TC
open PySem L2
/-! ### mirrors: members, populations -/
structure Now where
  seed : Int
  st : List Str3
  ws : List Int
  deriving DecidableEq
def dScr (n : Now) : PyData := .tuple [.int n.seed, .tuple (n.st.map dStr3)]
def dNow (n : Now) : PyData := .tuple [dScr n, dInts n.ws]
def dON : Option Now → PyData
  | none => .none
  | some n => dNow n
def dPair (p : Int × Int) : PyData := .tuple [.int p.1, .int p.2]
def dOP : Option (Int × Int) → PyData
  | none => .none
  | some p => dPair p
def dOI : Option Int → PyData
  | none => .none
  | some i => .int i
structure Mem where
  inc : Int
  set : Set2
  now : Now
  score : Option Int
  shelf : List (Option Now)
  hset : Set2
  hnow : Now
  hpair : Option (Int × Int)
  stop : Bool
  deriving DecidableEq
def dHome (m : Mem) : PyData := .tuple [dSet m.hset, dNow m.hnow, dOP m.hpair]
def memFs (m : Mem) : List (Str × PyData) := [("incarnation", .int m.inc), ("settings", dSet m.set), ("now", dNow m.now), ("score", dOI m.score), ("shelf", .tuple (m.shelf.map dON)), ("home", dHome m), ("is_stopped", .bool m.stop)]
structure PopM where
  tr : List Ex
  va : List Ex
  mem : List (Int × Mem)
  spent : Int
def lookM {α : Type} (l : List (Int × α)) (t : Int) : Option α := (l.find? fun p => decide (p.1 = t)).map (·.2)
def putM {α : Type} (t : Int) (m : α) : List (Int × α) → List (Int × α)
  | [] => [(t, m)]
  | (u, x) :: r => if u = t then (u, m) :: r else (u, x) :: putM t m r
def newMem (s : Set2) (n : Now) : Mem := ⟨1, s, n, none, [], s, n, none, false⟩
/-- the outcome of a deed: what it hands back, or the reason why it fails -/
inductive Out where
  | ok (d : PyData)
  | no (s : Str)
def memberM (S : PopM) (t : Int) : Except Str Mem := match lookM S.mem t with
  | some m => .ok m
  | none => .error "no such trial"
def runningM (S : PopM) (t : Int) : Except Str Mem := match memberM S t with
  | .error s => .error s
  | .ok m => if m.stop then .error "trial is stopped" else .ok m
def presentM (S : PopM) (t i : Int) : Except Str Mem := match runningM S t with
  | .error s => .error s
  | .ok m => if m.inc = i then .ok m else .error "incarnation is over"
def shelfOf (S : PopM) (t : Int) : List (Option Now) := match lookM S.mem t with
  | some m => m.shelf
  | none => []
def savedM (S : PopM) (t x : Int) : Except Str Now := if 0 ≤ x ∧ x < (shelfOf S t).length then (match (shelfOf S t).getD x.toNat none with
    | some n => .ok n
    | none => .error "no such save") else .error "no such save"
def PopM.keep (S : PopM) (t : Int) (m : Mem) : PopM := { S with mem := putM t m S.mem }
/-- the homes of the members that are not stopped -/
def neededM (S : PopM) : List (Int × Int) := S.mem.filterMap fun p => if p.2.stop then none else p.2.hpair
/-- a deed done: the population behind it, its outcome -/
def doM (S : PopM) : Deed → PopM × Out
  | .found t s r m => match lookM S.mem t with
    | some _ => (S, .no "trial exists")
    | none => (S.keep t (newMem (r, m) ⟨s, [], List.replicate (S.tr.getD 0 ([], 0)).1.length 0⟩), .ok (.int 1))
  | .train t i k => match presentM S t i with
    | .error s => (S, .no s)
    | .ok m => ({ S.keep t { m with now := ⟨m.now.seed, joinM (m.now.st ++ [(m.set.1, m.set.2, k.toNat)]), trainM S.tr m.now.seed (posM m.now.st) m.now.ws m.set.1 m.set.2 k.toNat⟩ } with spent := S.spent + k }, .ok (.int ((posM m.now.st : Int) + k)))
  | .save t i => match presentM S t i with
    | .error s => (S, .no s)
    | .ok m => (S.keep t { m with shelf := m.shelf ++ [some m.now], hset := m.set, hnow := m.now, hpair := some (t, (m.shelf.length : Int)) }, .ok (.int (m.shelf.length : Int)))
  | .crash t => match runningM S t with
    | .error s => (S, .no s)
    | .ok m => (S.keep t { m with inc := m.inc + 1, set := m.hset, now := m.hnow }, .ok (.int (m.inc + 1)))
  | .evaluate t i => match presentM S t i with
    | .error s => (S, .no s)
    | .ok m => (S.keep t { m with score := some (scoreM S.va m.now.ws) }, .ok (.int (scoreM S.va m.now.ws)))
  | .copy t i d x r g => match presentM S t i with
    | .error s => (S, .no s)
    | .ok m => match savedM S d x with
      | .error s => (S, .no s)
      | .ok n => (S.keep t { m with now := n, set := (r, g), score := none, hset := (r, g), hnow := n, hpair := some (d, x) }, .ok (.int (posM n.st : Int)))
  | .stop t i => match presentM S t i with
    | .error s => (S, .no s)
    | .ok m => (S.keep t { m with stop := true }, .ok .none)
  | .drop t x => match memberM S t with
    | .error s => (S, .no s)
    | .ok m => match savedM S t x with
      | .error s => (S, .no s)
      | .ok _ => if (t, x) ∈ neededM S then (S, .no "save is needed") else (S.keep t { m with shelf := m.shelf.set x.toNat none }, .ok .none)
def dOut : Out → PyData
  | .ok d => .tuple [.bool true, d]
  | .no s => .tuple [.bool false, .str s]
/-- what the methods need -/
structure NowOk (n B : Nat) (w : Now) : Prop where
  ln : w.st.length ≤ B
  ps : posM w.st ≤ 4 * B
  ws : w.ws.length = n
structure SetOk (s : Set2) : Prop where
  r : RateOk s.1
structure MemOk (n B : Nat) (m : Mem) : Prop where
  set : SetOk m.set
  now : NowOk n B m.now
  ln : m.shelf.length ≤ B
  sh : ∀ x ∈ m.shelf, ∀ w, x = some w → NowOk n B w
  hs : SetOk m.hset
  hn : NowOk n B m.hnow
structure PopOk (n B : Nat) (S : PopM) : Prop where
  tr : ExsOk n S.tr
  va : ExsOk n S.va
  mem : ∀ p ∈ S.mem, MemOk n B p.2
  ml : S.mem.length ≤ B
  nd : (S.mem.map (·.1)).Nodup
end TC
namespace TC
open PySem L2
/-! ### own instances, calls of methods that may raise -/
def putD (f : Str) (d : PyData) : List (Str × PyData) → List (Str × PyData)
  | [] => [(f, d)]
  | (g, x) :: r => if g = f then (g, d) :: r else (g, x) :: putD f d r
theorem FldsD.put {K : PySem.W.Frag} {H : Hp} {f : Str} {y : V} {d : PyData} (hy : Dp K H y d) (hd : pureD d = true) : ∀ {vs : List (Str × V)} {fs : List (Str × PyData)}, FldsD K H vs fs → FldsD K H (putF f y vs) (putD f d fs)
  | [], [], _ => ⟨rfl, hy, hd, trivial⟩
  | (x, v) :: vs, (z, e) :: fs, h => by
    obtain ⟨rfl, h2, h3, h4⟩ := h
    show FldsD K H (if x = f then (x, y) :: vs else (x, v) :: putF f y vs) (if x = f then (x, d) :: fs else (x, e) :: putD f d fs)
    split
    · exact ⟨rfl, hy, hd, h4⟩
    · exact ⟨rfl, h2, h3, h4.put hy hd⟩
  | [], _ :: _, h => h.elim
  | _ :: _, [], h => h.elim
theorem FldsD.look {K : PySem.W.Frag} {H : Hp} {f : Str} {d : PyData} : ∀ {vs : List (Str × V)} {fs : List (Str × PyData)}, FldsD K H vs fs → fs.lookup f = some d → ∃ v, vs.lookup f = some v ∧ Dp K H v d
  | [], [], _, h => by cases h
  | (x, v) :: vs, (z, e) :: fs, h, l => by
    obtain ⟨rfl, h2, h3, h4⟩ := h
    by_cases q : f = x
    · have hb : (f == x) = true := beq_iff_eq.mpr q
      simp only [List.lookup, hb] at l ⊢
      cases l
      exact ⟨v, rfl, h2⟩
    · have hb : (f == x) = false := beq_eq_false_iff_ne.mpr q
      simp only [List.lookup, hb] at l ⊢
      exact h4.look l
  | [], _ :: _, h, _ => h.elim
  | _ :: _, [], h, _ => h.elim
theorem FldsD.none {K : PySem.W.Frag} {H : Hp} {f : Str} : ∀ {vs : List (Str × V)} {fs : List (Str × PyData)}, FldsD K H vs fs → fs.lookup f = none → vs.lookup f = none
  | [], [], _, h => rfl
  | (x, v) :: vs, (z, e) :: fs, h, l => by
    obtain ⟨rfl, h2, h3, h4⟩ := h
    by_cases q : f = x
    · have hb : (f == x) = true := beq_iff_eq.mpr q
      simp only [List.lookup, hb] at l
      cases l
    · have hb : (f == x) = false := beq_eq_false_iff_ne.mpr q
      simp only [List.lookup, hb] at l ⊢
      exact h4.none l
  | [], _ :: _, h, _ => h.elim
  | _ :: _, [], h, _ => h.elim
theorem FldsD.len {K : PySem.W.Frag} {H : Hp} : ∀ {vs : List (Str × V)} {fs : List (Str × PyData)}, FldsD K H vs fs → vs.length = fs.length
  | [], [], _ => rfl
  | _ :: vs, _ :: fs, h => by
    rw [List.length_cons, List.length_cons, FldsD.len h.2.2.2]
  | [], _ :: _, h => h.elim
  | _ :: _, [], h => h.elim
theorem InsAt.mono {K : PySem.W.Frag} {H H' : Hp} {q C : Addr} {fs : List (Str × PyData)} (s : Same H H') (h : InsAt K H q C fs) : InsAt K H' q C fs := by
  obtain ⟨dx, vs, h1, h2⟩ := h
  exact ⟨dx, vs, s _ _ h1, h2.keep (KeepT.of s)⟩
def InsF (K : PySem.W.Frag) (C : Addr) (fs : List (Str × PyData)) : Hp → V → Prop := fun H v => ∃ q, v = .ref q ∧ InsAt K H q C fs
theorem InsF.mono {K : PySem.W.Frag} {H H' : Hp} {C : Addr} {v : V} {fs : List (Str × PyData)} (s : Same H H') (h : InsF K C fs H v) : InsF K C fs H' v := by
  obtain ⟨q, h1, h2⟩ := h
  exact ⟨q, h1, h2.mono s⟩
theorem keepT_ins {K : PySem.W.Frag} {H : Hp} {p C dx : Addr} {l : List (Str × V)} {o : HO} (h : H p = some (.ins C dx l)) : KeepT K H (upd H p o) := fun a xs q => by
  have key : ∀ u, H a = some u → u ≠ .ins C dx l → a ≠ p := fun u e ne z => by
    rw [z, h] at e
    exact ne (Option.some.inj e).symm
  rcases q with (q | ⟨ob, q⟩) | q
  · exact .inl (.inl (by rw [upd_ne (key _ q (fun z => nomatch z))]; exact q))
  · exact .inl (.inr ⟨ob, by rw [upd_ne (key _ q (fun z => nomatch z))]; exact q⟩)
  · exact .inr q
theorem keepT_dK {K : PySem.W.Frag} {H : Hp} {p : Addr} {l : List (Key × V)} {o : HO} (h : H p = some (.dK l)) : KeepT K H (upd H p o) := fun a xs q => by
  have key : ∀ u, H a = some u → u ≠ .dK l → a ≠ p := fun u e ne z => by
    rw [z, h] at e
    exact ne (Option.some.inj e).symm
  rcases q with (q | ⟨ob, q⟩) | q
  · exact .inl (.inl (by rw [upd_ne (key _ q (fun z => nomatch z))]; exact q))
  · exact .inl (.inr ⟨ob, by rw [upd_ne (key _ q (fun z => nomatch z))]; exact q⟩)
  · exact .inr q
/-- an own instance's attributes changed -/
theorem EnvOk.changeI {K : PySem.W.Frag} {Hb : Bs} {H0 H : Hp} {σ : St} {Γ : G} {i : Nat} {p C dx : Addr} {vs ws : List (Str × V)} {gs : List (Str × PyData)} (e : EnvOk K Hb H0 H σ Γ) (hσ : σ[i]? = some (some (.ref p))) (h0 : H0 p = none) (hp : H p = some (.ins C dx vs))
    (hw : FldsD K H ws gs) : EnvOk K Hb H0 (upd H p (.ins C dx ws)) σ ((Γ.map demote).set i (.w C gs)) := by
  have kt : KeepT K H (upd H p (.ins C dx ws)) := keepT_ins hp
  have s0 : Same H0 (upd H p (.ins C dx ws)) := fun b o q => by
    rw [upd_ne (ne_of_none q h0)]
    exact e.s0 b o q
  refine ⟨e.sb, s0, by rw [List.length_set, List.length_map]; exact e.ln, fun j g hj => ?_⟩
  rcases getElem?_set_cases hj with ⟨rfl, rfl⟩ | ⟨ne, hj⟩
  · exact ⟨_, hσ, p, dx, ws, rfl, h0, upd_same, hw.keep kt⟩
  · rw [List.getElem?_map] at hj
    cases q : Γ[j]? with
    | none => rw [q] at hj; cases hj
    | some g0 =>
      rw [q] at hj
      obtain ⟨ov, h1, h2⟩ := e.sl j g0 q
      refine ⟨ov, h1, ?_⟩
      cases g0 with
      | c d =>
        have hg : g = if pureD d = true then SV.c d else SV.n := (Option.some.inj hj).symm
        by_cases pd : pureD d = true
        · rw [if_pos pd] at hg
          subst hg
          obtain ⟨v, q1, q2⟩ := h2
          exact ⟨v, q1, dp_keep kt d v pd q2⟩
        · rw [if_neg pd] at hg
          subst hg
          trivial
      | b d => cases hj; exact h2
      | o ds' => cases hj; trivial
      | w C fs => cases hj; trivial
      | x F => cases hj; exact h2
      | n => cases hj; trivial
/-- behind a change of the base: own instances are shared from then on -/
def shift (K : PySem.W.Frag) : SV → SV
  | .c d => if pureD d = true then .b d else .n
  | .b d => if pureD d = true then .b d else .n
  | .w C fs => .x (InsF K C fs)
  | _ => .n
theorem EnvOk.shift {K : PySem.W.Frag} {Hb : Bs} {H0 H H' : Hp} {σ : St} {Γ : G} (e : EnvOk K Hb H0 H σ Γ) (k : KeepT K H H') (o : Off Hb.l H H') (hl : ∀ a ∈ Hb.l, Hb.h a ≠ none) : EnvOk K Hb H' H' σ (Γ.map (TC.shift K)) := by
  refine ⟨(e.sb.then e.s0).trans o, Same.refl H', by rw [List.length_map]; exact e.ln, fun j g hj => ?_⟩
  rw [List.getElem?_map] at hj
  cases q : Γ[j]? with
  | none => rw [q] at hj; cases hj
  | some g0 =>
    rw [q] at hj
    obtain ⟨ov, h1, h2⟩ := e.sl j g0 q
    refine ⟨ov, h1, ?_⟩
    have key : ∀ {d : PyData} {v : V}, Dp K H v d → ov = some v → g = (if pureD d = true then SV.b d else SV.n) → SlotOk K H' H' ov g := fun {d v} q2 q1 hg => by
      by_cases pd : pureD d = true
      · rw [if_pos pd] at hg
        subst hg
        exact ⟨v, q1, dp_keep k d v pd q2⟩
      · rw [if_neg pd] at hg
        subst hg
        trivial
    cases g0 with
    | c d =>
      obtain ⟨v, q1, q2⟩ := h2
      exact key q2 q1 (Option.some.inj hj).symm
    | b d =>
      obtain ⟨v, q1, q2⟩ := h2
      exact key (dp_mono e.s0 d v q2) q1 (Option.some.inj hj).symm
    | o ds' => cases hj; trivial
    | w C fs =>
      cases hj
      obtain ⟨p, dx, vs, q1, q2, q3, q4⟩ := h2
      have np : p ∉ Hb.l := fun z => by
        cases e2 : Hb.h p with
        | none => exact hl p z e2
        | some o2 => exact (e.sb p o2 e2).2 q2
      have e3 : H' p = some (.ins C dx vs) := (o p _ q3).1 np
      exact ⟨_, q1, fun H1 s => ⟨p, rfl, dx, vs, s _ _ e3, (q4.keep k).keep (KeepT.of s)⟩⟩
    | x F => cases hj; trivial
    | n => cases hj; trivial
/-- what is known of a slot -/
theorem EnvOk.know {K : PySem.W.Frag} {Hb : Bs} {H0 H : Hp} {σ : St} {Γ : G} {i : Nat} {ov : Option V} {g : SV} (e : EnvOk K Hb H0 H σ Γ) (hσ : σ[i]? = some ov) (h : SlotOk K H0 H ov g) : EnvOk K Hb H0 H σ (Γ.set i g) :=
  ⟨e.sb, e.s0, by rw [List.length_set]; exact e.ln, fun j g' hj => by
    rcases getElem?_set_cases hj with ⟨rfl, rfl⟩ | ⟨ne, hj⟩
    · exact ⟨ov, hσ, h⟩
    · exact e.sl j g' hj⟩
/-- what a call hands back, T the heap behind it -/
def Res (K : PySem.W.Frag) (DF : Addr) (H : Hp) (Q : VK) (E : XK) (T : Hp → Prop) : Rk → Prop
  | .d d => ∀ v H', T H' → Dp K H' v d → Q v H'
  | .l ds => ∀ p vs H', H p = none → T H' → H' p = some (.lst vs) → DpAll K H' vs ds → Q (.ref p) H'
  | .w C fs => ∀ q H', H q = none → T H' → InsAt K H' q C fs → Q (.ref q) H'
  | .v F => ∀ v H', T H' → F H' v → Q v H'
  | .x s => ∀ d H', T H' → H' d = some (.xd [("reason", .str s)]) → E (.ref DF) (some d) H'
def tXR (K : PySem.W.Frag) (Hb : Bs) (Γ : G) (r : Rk) : TE := fun σ H Q => (∃ H0, EnvOk K Hb H0 H σ Γ) ∧ Res K Hb.DF H Q Hb.E (Same H) r
/-- e gives r, no standing object is changed -/
abbrev XR (X : Cx) (Hb : Bs) (e : Expr) (Γ : G) (r : Rk) : Prop := PE X e (tXR X.K Hb Γ r)
def tXM (K : PySem.W.Frag) (Hb : Bs) (Γ : G) (i : Nat) (F : Hp → V → Prop) (r : Rk) : TE := fun σ H Q => (∃ H0, EnvOk K Hb H0 H σ Γ) ∧
  Res K Hb.DF H Q Hb.E (fun H' => Off Hb.l H H' ∧ KeepT K H H' ∧ ∃ v, σ[i]? = some (some v) ∧ ∀ H1, Same H' H1 → F H1 v) r
/-- e gives r, the objects of Hb.l may change; F is what is known of slot i then -/
abbrev XM (X : Cx) (Hb : Bs) (e : Expr) (Γ : G) (i : Nat) (F : Hp → V → Prop) (r : Rk) : Prop := PE X e (tXM X.K Hb Γ i F r)
section
variable {X : Cx} {Hb : Bs} {Γ : G} {N N' : G → Prop} {R : Rk → G → Prop} {st : Stmt} {rest sts : List Stmt} {a b c e : Expr} {es : List Expr} {p pos pos' : Pos} {d d1 d2 : PyData} {ds : List PyData} {C : Addr} {fs : List (Str × PyData)} {s : Str} {F : Hp → V → Prop} {i : Nat} {x f : Str}
/-- x.f, x an own instance -/
theorem xe_attrW (i : Nat) (hl : Γ[i]? = some (.w C fs)) (hf : fs.lookup f = some d) (cl : Cls X.K C) (na : NoAttr X.K C f) (hN : X.N[i]? = some x := by rfl) (hv : Vis X.env.scope x := by first | exact Or.inl rfl | exact Or.inr (Or.inl rfl) | exact Or.inr (Or.inr rfl)) (hd : (x == ("__debug__" : Str)) = false := by decide)
    (hcd : (x == ("__classdict__" : Str)) = false := by decide) (hb : attributeBase (.Name x p) f X.env (eval (.Name x p) X.env) = eval (.Name x p) X.env := by rfl) : XE X (.Attribute (.Name x p) f pos) Γ d :=
  pe_imp (pe_fld (pv i hN hv hd hcd) hb) fun σ H Q ⟨⟨Hb, H0, E⟩, k⟩ => by
    obtain ⟨ov, h1, q, dx, vs, rfl, n0, e1, fl⟩ := E.sl i _ hl
    obtain ⟨v, l1, l2⟩ := fl.look hf
    exact ⟨_, h1, q, C, dx, vs, v, rfl, e1, cl, na, l1, k v H (Same.refl H) l2⟩
/-- x.f, x known by the base -/
theorem xe_attrX (i : Nat) (hl : Γ[i]? = some (.x F)) (hF : ∀ H v, F H v → ∃ a C dx fs u, v = .ref a ∧ H a = some (.ins C dx fs) ∧ Cls X.K C ∧ NoAttr X.K C f ∧ fs.lookup f = some u ∧ Dp X.K H u d) (hN : X.N[i]? = some x := by rfl) (hv : Vis X.env.scope x := by first | exact Or.inl rfl | exact Or.inr (Or.inl rfl) | exact Or.inr (Or.inr rfl)) (hd : (x == ("__debug__" : Str)) = false := by decide)
    (hcd : (x == ("__classdict__" : Str)) = false := by decide) (hb : attributeBase (.Name x p) f X.env (eval (.Name x p) X.env) = eval (.Name x p) X.env := by rfl) : XE X (.Attribute (.Name x p) f pos) Γ d :=
  pe_imp (pe_fld (pv i hN hv hd hcd) hb) fun σ H Q ⟨⟨Hb, H0, E⟩, k⟩ => by
    obtain ⟨ov, h1, v, rfl, h2⟩ := E.sl i _ hl
    obtain ⟨a, C, dx, fs, u, rfl, e1, cl, na, l1, l2⟩ := hF H v (h2 H E.s0)
    exact ⟨_, h1, a, C, dx, fs, u, rfl, e1, cl, na, l1, k u H (Same.refl H) l2⟩
theorem insF_attr {H : Hp} {v : V} (h : InsF X.K C fs H v) (hf : fs.lookup f = some d) (cl : Cls X.K C) (na : NoAttr X.K C f) : ∃ a C dx fs u, v = .ref a ∧ H a = some (.ins C dx fs) ∧ Cls X.K C ∧ NoAttr X.K C f ∧ fs.lookup f = some u ∧ Dp X.K H u d := by
  obtain ⟨q, rfl, dx, vs, h1, h2⟩ := h
  obtain ⟨u, l1, l2⟩ := h2.look hf
  exact ⟨q, C, dx, vs, u, rfl, h1, cl, na, l1, l2⟩
theorem xe_attrI (i : Nat) (hl : Γ[i]? = some (.x (InsF X.K C fs))) (hf : fs.lookup f = some d) (cl : Cls X.K C) (na : NoAttr X.K C f) (hN : X.N[i]? = some x := by rfl) (hv : Vis X.env.scope x := by first | exact Or.inl rfl | exact Or.inr (Or.inl rfl) | exact Or.inr (Or.inr rfl)) (hd : (x == ("__debug__" : Str)) = false := by decide)
    (hcd : (x == ("__classdict__" : Str)) = false := by decide) (hb : attributeBase (.Name x p) f X.env (eval (.Name x p) X.env) = eval (.Name x p) X.env := by rfl) : XE X (.Attribute (.Name x p) f pos) Γ d :=
  xe_attrX i hl (fun H v h => insF_attr h hf cl na) hN hv hd hcd hb
/-- x.f = e, x an own instance -/
theorem xs_attrW (i : Nat) (hl : Γ[i]? = some (.w C fs)) (he : XE X e Γ d) (hp : pureD d = true) (hz : fs.length < 1000) (cl : Cls X.K C) (na : NoAttr X.K C f) (h : N ((Γ.map demote).set i (.w C (putD f d fs)))) (hN : X.N[i]? = some x := by rfl)
    (hv : Vis X.env.scope x := by first | exact Or.inl rfl | exact Or.inr (Or.inl rfl) | exact Or.inr (Or.inr rfl)) (hd : (x == ("__debug__" : Str)) = false := by decide) (hcd : (x == ("__classdict__" : Str)) = false := by decide)
    (hs : swapsWith e (some (.Attribute (.Name x p) f pos')) pos.line X.env = pure false := by rfl) : XS X Hb (.Assign [.Attribute (.Name x p) f pos'] e pos) Γ N R :=
  ps_imp (ps_fld (pv i hN hv hd hcd) he hs) fun D σ H q => by
    obtain ⟨H0, E⟩ := q.1
    refine ⟨⟨Hb, H0, E⟩, fun v H1 s1 q1 => ?_⟩
    have E1 := E.mono s1
    obtain ⟨ov, h1, a, dx, vs, rfl, n0, e1, fl⟩ := E1.sl i _ hl
    refine ⟨_, h1, a, C, dx, vs, rfl, e1, cl, na, by rw [fl.len]; exact hz, q.2.1 _ _ _ H0 ((KeepT.of s1).trans (keepT_ins e1)) (E1.changeI h1 n0 e1 (fl.put q1 hp)) h⟩
/-- x = a call that gives a new instance -/
theorem xs_setRw (i : Nat) (he : XR X Hb e Γ (.w C fs)) (hn : noOwn (Γ.set i .n) = true) (h : N (((Γ.set i .n).map rebase).set i (.w C fs))) (hN : X.N.Nodup) (hi : X.N[i]? = some x := by rfl) (hx : Loc X.env.scope x := by first | exact Or.inl rfl | exact Or.inr rfl) (hs : swapsWith e (some (.Name x pos')) pos.line X.env = pure false := by rfl)
    (hf : X.fn x = true ∨ X.env.scope.names.lookup x = some .local := by first | exact .inl rfl | exact .inr rfl) : XS X Hb (.Assign [.Name x pos'] e pos) Γ N R :=
  ps_imp (ps_set hN hi hx he hs hf) fun D σ H q => by
    obtain ⟨H0, E⟩ := q.1
    refine ⟨⟨H0, E⟩, fun a H1 n1 s1 q1 => ?_⟩
    obtain ⟨dx, vs, e1, fl⟩ := q1
    exact q.2.1 _ _ H1 H (KeepT.of s1) ((((E.forget i).rebase hn).mono s1).store (g := .w C fs) ⟨a, dx, vs, rfl, n1, e1, fl⟩) h
/-- x = a call that gives a value that F tells of -/
theorem xs_setRv (i : Nat) (he : XR X Hb e Γ (.v F)) (hF : ∀ H H1 v, F H v → Same H H1 → F H1 v) (hn : noOwn (Γ.set i .n) = true) (h : N (((Γ.set i .n).map rebase).set i (.x F))) (hN : X.N.Nodup) (hi : X.N[i]? = some x := by rfl) (hx : Loc X.env.scope x := by first | exact Or.inl rfl | exact Or.inr rfl) (hs : swapsWith e (some (.Name x pos')) pos.line X.env = pure false := by rfl)
    (hf : X.fn x = true ∨ X.env.scope.names.lookup x = some .local := by first | exact .inl rfl | exact .inr rfl) : XS X Hb (.Assign [.Name x pos'] e pos) Γ N R :=
  ps_imp (ps_set hN hi hx he hs hf) fun D σ H q => by
    obtain ⟨H0, E⟩ := q.1
    refine ⟨⟨H0, E⟩, fun v H1 s1 q1 => ?_⟩
    exact q.2.1 _ _ H1 H1 (KeepT.of s1) (((((E.forget i).mono s1)).rebase hn).store (g := .x F) ⟨v, rfl, fun H2 s2 => hF _ _ _ q1 s2⟩) h
/-- statements whose expression raises -/
theorem xs_setX (he : XR X Hb e Γ (.x s)) (h : R (.x s) Γ) (hN : X.N.Nodup) (hi : X.N[i]? = some x := by rfl) (hx : Loc X.env.scope x := by first | exact Or.inl rfl | exact Or.inr rfl) (hs : swapsWith e (some (.Name x pos')) pos.line X.env = pure false := by rfl)
    (hf : X.fn x = true ∨ X.env.scope.names.lookup x = some .local := by first | exact .inl rfl | exact .inr rfl) : XS X Hb (.Assign [.Name x pos'] e pos) Γ N R :=
  ps_imp (ps_set hN hi hx he hs hf) fun D σ H q => by
    obtain ⟨H0, E⟩ := q.1
    exact ⟨⟨H0, E⟩, fun d H1 s1 e1 => q.2.2.x Γ σ s d H1 H0 (E.mono s1) e1 h⟩
theorem xs_exprX (he : XR X Hb e Γ (.x s)) (h : R (.x s) Γ) (hs : swapsWith e none pos.line X.env = pure false := by rfl) : XS X Hb (.Expr e pos) Γ N R :=
  ps_imp (ps_expr he hs) fun D σ H q => by
    obtain ⟨H0, E⟩ := q.1
    exact ⟨⟨H0, E⟩, fun d H1 s1 e1 => q.2.2.x Γ σ s d H1 H0 (E.mono s1) e1 h⟩
theorem xs_retRw (he : XR X Hb e Γ (.w C fs)) (h : R (.w C fs) Γ) : XS X Hb (.Return (some e) pos) Γ N R :=
  ps_imp (ps_ret he) fun D σ H q => by
    obtain ⟨H0, E⟩ := q.1
    exact ⟨⟨H0, E⟩, fun a H1 n1 s1 q1 => q.2.2.w Γ σ a C fs H1 H0 (E.mono s1) (E.s0.free n1) q1 h⟩
/-- return x, x an own instance -/
theorem xs_retW (i : Nat) (hl : Γ[i]? = some (.w C fs)) (h : R (.w C fs) Γ) (hN : X.N[i]? = some x := by rfl) (hv : Vis X.env.scope x := by first | exact Or.inl rfl | exact Or.inr (Or.inl rfl) | exact Or.inr (Or.inr rfl)) (hd : (x == ("__debug__" : Str)) = false := by decide)
    (hcd : (x == ("__classdict__" : Str)) = false := by decide) : XS X Hb (.Return (some (.Name x p)) pos) Γ N R :=
  ps_imp (ps_ret (pv i hN hv hd hcd)) fun D σ H q => by
    obtain ⟨H0, E⟩ := q.1
    obtain ⟨ov, h1, a, dx, vs, rfl, n0, e1, fl⟩ := E.sl i _ hl
    exact ⟨_, h1, q.2.2.w Γ σ a C fs H H0 E n0 ⟨dx, vs, e1, fl⟩ h⟩
theorem xs_retRv (he : XR X Hb e Γ (.v F)) (h : R (.v F) Γ) : XS X Hb (.Return (some e) pos) Γ N R :=
  ps_imp (ps_ret he) fun D σ H q => by
    obtain ⟨H0, E⟩ := q.1
    exact ⟨⟨H0, E⟩, fun v H1 s1 q1 => q.2.2.v Γ σ v F H1 H0 (E.mono s1) q1 h⟩
/-- a call for what it does -/
theorem xs_exprM (he : XM X Hb e Γ i F (.d d)) (hl : ∀ a ∈ Hb.l, Hb.h a ≠ none) (h : N ((Γ.map (shift X.K)).set i (.x F))) (hs : swapsWith e none pos.line X.env = pure false := by rfl) : XS X Hb (.Expr e pos) Γ N R :=
  ps_imp (ps_expr he hs) fun D σ H q => by
    obtain ⟨H0, E⟩ := q.1
    refine ⟨⟨H0, E⟩, fun v H1 ⟨o1, k1, u, hu, hF⟩ q1 => ?_⟩
    exact q.2.1 _ _ H1 H1 k1 ((E.shift k1 o1 hl).know hu (g := .x F) ⟨u, rfl, hF⟩) h
theorem xs_retM (he : XM X Hb e Γ i F (.d d)) (hl : ∀ a ∈ Hb.l, Hb.h a ≠ none) (h : R (.d d) ((Γ.map (shift X.K)).set i (.x F))) : XS X Hb (.Return (some e) pos) Γ N R :=
  ps_imp (ps_ret he) fun D σ H q => by
    obtain ⟨H0, E⟩ := q.1
    refine ⟨⟨H0, E⟩, fun v H1 ⟨o1, k1, u, hu, hF⟩ q1 => ?_⟩
    exact q.2.2.d _ σ v d H1 H1 ((E.shift k1 o1 hl).know hu (g := .x F) ⟨u, rfl, hF⟩) q1 h
theorem xs_retMx (he : XM X Hb e Γ i F (.x s)) (hl : ∀ a ∈ Hb.l, Hb.h a ≠ none) (h : R (.x s) ((Γ.map (shift X.K)).set i (.x F))) : XS X Hb (.Return (some e) pos) Γ N R :=
  ps_imp (ps_ret he) fun D σ H q => by
    obtain ⟨H0, E⟩ := q.1
    refine ⟨⟨H0, E⟩, fun d H1 ⟨o1, k1, u, hu, hF⟩ q1 => ?_⟩
    exact q.2.2.x _ σ s d H1 H1 ((E.shift k1 o1 hl).know hu (g := .x F) ⟨u, rfl, hF⟩) q1 h
end
end TC
namespace TC
open PySem L2
/-! ### {**d, k: v} -/
theorem wpIf_t {α : Type} {M : Model} {A : Around} {E : Value → Shared → Prop} {s : Shared} {c : Prop} [Decidable c] {a b : Sem α} {Q : α → Shared → Prop} (hc : c) (h : wpAny M A a Q E s) : wpAny M A (if c then a else b) Q E s := by rw [if_pos hc]; exact h
theorem wpIf_f {α : Type} {M : Model} {A : Around} {E : Value → Shared → Prop} {s : Shared} {c : Prop} [Decidable c] {a b : Sem α} {Q : α → Shared → Prop} (hc : ¬ c) (h : wpAny M A b Q E s) : wpAny M A (if c then a else b) Q E s := by rw [if_neg hc]; exact h
section
variable {prog : Program} {w : World} {κ : Type} [DecidableEq κ] {kd : KeyKind prog w κ} {A : Around} {E : Value → Shared → Prop} {s : Shared}
/-- dictPut: as the library's rule of a store by its hash -/
theorem put_hash {d : Addr} {kvs : List (κ × Value)} {k : κ} {u v : Value} {Q : Unit → Shared → Prop} (ku : kd.is k u = true) (T : s.heap.DictOf kd d kvs) (hz : kvs.length ≤ sizeLine)
    (fin : ∀ h', h'.DictOf kd d (stored kvs k v) → Heap.SameBut d s.heap h' → Q () { s with heap := h' }) : wpAny (model prog w) A (dictPut d (kd.hash k) u v) Q E s := by
  obtain ⟨ob, ents, ep, g, cl, dat, ks, prs, nd⟩ := T
  have sz : ents.size ≤ sizeLine := by
    have q := prs.length
    rw [Array.length_toList] at q
    omega
  have same := prs.findIdx k
  have toA : ents.toList.findIdx? (fun e => kd.is k e.key) = ents.findIdx? fun e => kd.is k e.key := by cases ents; simp
  rw [toA] at same
  unfold dictPut
  refine wpAny_bind (wpAny_dictFind_of ku g dat ks ?_)
  cases at_ : ents.findIdx? fun e => kd.is k e.key with
  | none =>
    rw [at_] at same
    have out := not_mem_of_findIdx_none same.symm
    have off : stored kvs k v = kvs ++ [(k, v)] := if_neg fun z => by
      obtain ⟨p, hp, e⟩ := List.any_eq_true.mp z
      exact out (List.mem_map_of_mem hp |> fun m => by rw [← of_decide_eq_true e]; exact m)
    refine wpAny_updateDictKeys (hz := sz) g dat (fin _ ⟨_, _, ep + 1, Heap.get?_update_self _ g (Obj.isFreed_of_dict (Obj.data_mapDictKeys dat _)), cl.mapDictKeys _, Obj.data_mapDictKeys dat _, ks.push ku _, ?_, ?_⟩ (Heap.SameBut.update ..))
    · rw [off]
      have q := prs.append ku (kd.hash k) v
      cases ents
      simpa using q
    · rw [off, List.map_append]
      exact List.nodup_append.mpr ⟨nd, by simp, fun x hx y hy e => out (by rw [← show y = k from List.mem_singleton.mp hy, ← e]; exact hx)⟩
  | some j =>
    rw [at_] at same
    have on : stored kvs k v = kvs.map fun p => if p.1 = k then (p.1, v) else p := if_pos (any_of_findIdx_some same.symm)
    refine wpAny_updateDict g dat (fin _ ⟨_, _, ep, Heap.get?_update_self _ g (Obj.isFreed_of_dict (Obj.data_mapDict dat _)), cl.mapDict _, Obj.data_mapDict dat _, ks.modify _ _, ?_, ?_⟩ (Heap.SameBut.update ..))
    · rw [on]
      have q := prs.modify nd (by rw [toA]; exact at_) v
      cases ents
      simpa using q
    · rw [on, keys_map_store]
      exact nd
theorem over_range' {M : Model} {f : Nat → PUnit → Sem (ForInStep PUnit)} {I : Nat → Shared → Prop} {Q : PUnit → Shared → Prop} (n : Nat)
    (step : ∀ i s, i < n → I i s → wpAny M A (f i ⟨⟩) (fun r s' => r = .yield ⟨⟩ ∧ I (i + 1) s') E s) (done : ∀ s, I n s → Q ⟨⟩ s) : ∀ (m i : Nat) (s : Shared), i + m = n → I i s → wpAny M A (forIn (List.range' i m) PUnit.unit f) Q E s
  | 0, i, s, e, h => by
    subst e
    exact wpAny_pure (done s h)
  | m + 1, i, s, e, h => by
    rw [List.range'_succ]
    rw [List.forIn_cons]
    refine wpAny_bind (wpAny_mono (step i s (by omega) h) (fun r s' q => ?_) fun _ _ q => q)
    rw [q.1]
    exact over_range' n step done m (i + 1) s' (by omega) q.2
theorem over_range {M : Model} {f : Nat → PUnit → Sem (ForInStep PUnit)} {I : Nat → Shared → Prop} {Q : PUnit → Shared → Prop} {n : Nat}
    (step : ∀ i s, i < n → I i s → wpAny M A (f i ⟨⟩) (fun r s' => r = .yield ⟨⟩ ∧ I (i + 1) s') E s) (done : ∀ s, I n s → Q ⟨⟩ s) (h : I 0 s) : wpAny M A (forIn (List.range n) PUnit.unit f) Q E s := by
  rw [List.range_eq_range']
  exact over_range' n step done n 0 s (by omega) h
theorem over_skip {α : Type} {M : Model} {f : α → PUnit → Sem (ForInStep PUnit)} {xs : Array α} {Q : PUnit → Shared → Prop} (hf : ∀ e, e ∈ xs.toList → ∀ c, f e c = pure (.yield c)) (h : Q ⟨⟩ s) : wpAny M A (forIn xs PUnit.unit f) Q E s := by
  rw [← Array.forIn_toList]
  generalize xs.toList = l at hf
  induction l with
  | nil => exact wpAny_pure h
  | cons x l ih =>
    rw [List.forIn_cons, hf x List.mem_cons_self]
    exact wpAny_bind (wpAny_pure (ih fun e he => hf e (List.mem_cons_of_mem _ he)))
theorem merge_map {d b : Addr} {kvs more : List (κ × Value)} {Q : Unit → Shared → Prop} (ne : d ≠ b) (nS : (b == sysModules) = false) (nr : ∀ k a, kd.is k (.ref a) = false) (T : s.heap.DictOf kd d kvs) (U : s.heap.DictOf kd b more) (hz : kvs.length + more.length ≤ sizeLine)
    (fin : ∀ h', h'.DictOf kd d (merged kvs more) → Heap.SameBut d s.heap h' → Q () { s with heap := h' }) : wpAny (model prog w) A (mergeMapping d (.ref b) false) Q E s := by
  obtain ⟨o1, e1, n1, g1, -, t1, -⟩ := id T
  obtain ⟨o2, e2, n2, g2, -, t2, k2, p2, -⟩ := id U
  have sz : e2.size = more.length := by
    have ln0 := p2.length
    rw [Array.length_toList] at ln0
    exact ln0
  unfold mergeMapping
  refine wpAny_bind (wpAny_isInstance U.typeIs isSubtype_dict_dict (wpAny_bind (wpAny_specialOf U.typeIs F.slot_dict_iter.lookup (wpAny_bind (wpAny_pure ?_)))))
  rw [show ((some (Value.builtin "dict.__iter__")) == some (Value.builtin "dict.__iter__")) = true from beq_self_eq_true _]
  dsimp only
  rw [nS, if_neg (fun z => nomatch z)]
  refine wpAny_bind (wpAny_dictEntries g1 t1 ?_)
  cases em : e1.isEmpty with
  | true => ?_
  | false => ?_
  case' true =>
    rw [if_pos rfl]
    refine wpAny_bind (wpAny_dictEntries g2 t2 (wpAny_bind (over_skip (fun e he c => ?_) ?_)))
    obtain ⟨k, hk, -⟩ := k2 e (Array.mem_toList_iff.mp he)
    split
    rename_i a ha
    rw [ha, nr k a] at hk
    cases hk
    rfl
  case' false => rw [if_neg (fun z => nomatch z)]
  all_goals
    refine wpAny_bind (wpAny_dictEntries g2 t2 (wpAny_bind (wpAny_dictEpoch g2 t2 (wpAny_bind ?_))))
    refine over_range (I := fun i s' => ∃ h', s' = { s with heap := h' } ∧ h'.DictOf kd d (merged kvs (more.take i)) ∧ h'.get? b = some o2 ∧ Heap.SameBut d s.heap h') (fun i s' hi hI => ?_) (fun s' hI => ?_) ⟨s.heap, rfl, by rw [List.take_zero]; exact T, g2, Heap.SameBut.refl _ _⟩
    · obtain ⟨h', rfl, T', g', sb⟩ := hI
      have hi' : i < more.length := by omega
      refine wpAny_bind (wpAny_dictEntries g' t2 ?_)
      rw [Array.getElem?_eq_getElem hi]
      obtain ⟨ky, vl⟩ := p2.get? (e := e2[i]) (by rw [Array.getElem?_toList, Array.getElem?_eq_getElem hi]) (List.getElem?_eq_getElem hi')
      obtain ⟨k', ky', hs⟩ := k2 e2[i] (Array.getElem_mem hi)
      rw [kd.inj _ _ _ ky' ky] at hs
      have l1 := merged_length_le kvs (more.take i)
      have l2 := List.length_take_le i more
      show wpAny _ _ (holding [e2[i].key, e2[i].val] (dictPut d e2[i].hash e2[i].key e2[i].val) >>= _) _ _ _
      rw [hs, vl]
      refine wpAny_bind (wpAny_holding (put_hash ky T' (by omega) fun h2 T2 sb2 => ?_))
      have g'' := (sb2.2 b (Ne.symm ne)).trans g'
      refine wpAny_bind (wpAny_dictEpoch g'' t2 (wpIf_f (by simp) (wpAny_pure ⟨rfl, h2, rfl, ?_, g'', sb.trans sb2⟩)))
      rw [merged_take_succ kvs more i _ (List.getElem?_eq_getElem hi')]
      exact T2
    · obtain ⟨h', rfl, T', -, sb⟩ := hI
      rw [sz, List.take_length] at T'
      exact wpAny_pure (fin h' T' sb)
end
section
variable {X : Cx} {em ek ev : Expr} {pos : Pos} {tm tk tv : TE}
/-- {**m, k: v}: a new dict, the other's pairs, then one more -/
def tStar (tm tk tv : TE) : TE := fun σ H Q => ∀ d, H d = none → tm σ (upd H d (.dK [])) fun x H1 => ∃ a kvs, x = .ref a ∧ H1 a = some (.dK kvs) ∧ H1 d = some (.dK []) ∧ a ≠ d ∧ kvs.length ≤ 1000000 ∧
  ∀ e, upd H1 d (.dK kvs) e = none → tk σ (upd (upd H1 d (.dK kvs)) e (.dK [])) fun y H3 => tv σ H3 fun z H4 => ∃ key, y = kV key ∧ H4 e = some (.dK []) ∧ H4 d = some (.dK kvs) ∧ e ≠ d ∧
    Q (.ref d) (upd (upd H4 e (.dK [(key, z)])) d (.dK (putK kvs key z)))
theorem hnr_mix {P : Program} {w : World} (k : Key) (a : Addr) : (mixKind P w).is k (.ref a) = false := by cases k <;> rfl
theorem kv_nodup {P : Program} {w : World} {h : Heap} {a : Addr} {vs : List (Key × Value)} (x : h.DictOf (mixKind P w) a vs) : (vs.map (·.1)).Nodup := let ⟨_, _, _, _, _, _, _, _, hn⟩ := x; hn
theorem pe_star (hm : PE X em tm) (hk : PE X ek tk) (hv : PE X ev tv) : PE X (.Dict [none, some ek] [em, ev] pos) (tStar tm tk tv) := by
  constructor
  intro pins s σ H Q I q
  rw [arm_eval_Dict]
  show wpAny _ _ (do standAt pos; dictDisplay [(none, do let x ← eval em X.env; standAt pos; pure x), (some (eval ek X.env), do let x ← eval ev X.env; standAt pos; pure x)]) _ _ _
  refine wpAny_bind ?_
  refine wpAny_standAt ?_
  have hn :=
    I.hok.fresh (Nat.le_refl s.heap.objs.size)
  have I1 :=
    I.laid (a := s.heap.objs.size) (o := .dK []) (h' := s.heap.push { cls := .type "dict", data := .dict #[] }) (t' := s.toks) (fun _ _ q => Heap.get?_push_of_some _ q) (Nat.le_refl _) (dk_empty s.heap I.big)
  unfold dictDisplay
  simp only [List.forIn_nil, List.forIn_cons]
  refine wpAny_bind (wpAny_bind (wpAny_bind ?_))
  refine wpIf_t rfl (wpAny_pure ?_)
  dsimp only
  refine wpAny_bind ?_
  refine wpAny_alloc ?_
  refine wpAny_bind (wpAny_holding (wpAny_bind (thn (hm.run pins _ σ _ _ I1 (q _ hn)) fun u s2 ⟨x, H1, I2, rx, a, kvs, ex, ea, ed, hne, hz, q2⟩ => wpAny_bind (wpAny_standAt (wpAny_pure ?_)))))
  subst ex
  rcases (show u = Value.ref a from rx) with rfl
  obtain ⟨z1, hd1, vs0, r0, dd0⟩ := dk_of I2.hok ed
  cases r0
  obtain ⟨z2, hd2, vs, rk, dd⟩ := dk_of I2.hok ea
  have hlv : vs.length = kvs.length := rk.length.symm
  have hsz : ([] : List (Key × Value)).length + vs.length ≤ sizeLine := by
    rw [sizeLine_eq, List.length_nil]
    omega
  refine wpAny_bind (wpAny_onRaise (wpAny_tryCatch (wpAny_onRaise (wpAny_holding (merge_map (kd := mixKind X.prog X.w) (Ne.symm hne) hd2 hnr_mix dd0 dd hsz (fun h' d1 sb => ?_))))))
  rw [merged_nil_of_nodup vs (kv_nodup dd)] at d1
  have I3 := d_write (t' := s2.toks) I2 (by rw [ed]; exact True.intro) sb (let ⟨q, _, _, hq, _⟩ := d1; ⟨q, hq⟩) (dk_new z2 hd1 rk d1)
  refine wpAny_pure ?_
  dsimp only
  refine wpAny_bind ?_
  refine wpIf_f (fun h => by cases h) ?_
  refine wpAny_pure ?_
  dsimp only
  refine wpAny_pure ?_
  dsimp only
  refine wpAny_bind ?_
  refine wpIf_f (fun h => by cases h) ?_
  have hn2 := I3.hok.fresh (Nat.le_refl _)
  have q3 := q2 _ hn2
  have I4 := I3.laid (o := .dK []) (t' := s2.toks) (fun _ _ q => Heap.get?_push_of_some _ q) (Nat.le_refl _) (dk_empty _ I3.big)
  refine wpAny_bind (wpAny_holding (wpAny_subDict (knd := mixKind X.prog X.w) (show 1 ≤ 15 by decide) ?_))
  refine evalPairs_cons (thn (hk.run pins _ σ _ _ I4 q3) fun uk s4 ⟨y, H3, I5, ry, q5⟩ => wpAny_bind (thn (hv.run pins s4 σ H3 _ I5 q5) fun uv s5 ⟨z, H4, I6, rz, key, ey, ee, ed4, hed, q6⟩ => wpAny_bind (wpAny_standAt (wpAny_pure (evalPairs_nil ?_)))))
  subst ey
  obtain ⟨z3, hd3, vs3, r3, dd3⟩ := dk_of I6.hok ee
  cases r3
  refine ⟨[(key, uv)], ⟨kV_is ry, rfl, True.intro⟩, dd3, fun h5 d5 sb5 => ?_⟩
  have I7 := d_write (t' := s5.toks + 1) (ob := .dK [(key, z)]) I6 (by rw [ee]; exact True.intro) sb5 (let ⟨q, _, _, hq, _⟩ := d5; ⟨q, hq⟩) (dk_new (vs := [(key, uv)]) (by rw [sizeLine_eq]; show 1 ≤ 16777216; decide) hd3 (.cons ⟨rfl, rz⟩ .nil) d5)
  have ed7 := (upd_ne (H := H4) (o := HO.dK [(key, z)]) (Ne.symm hed)).trans ed4
  obtain ⟨z8, hd8, vs8, r8, dd8⟩ := dk_of I7.hok ed7
  have hl8 : vs8.length = kvs.length := r8.length.symm
  refine wpAny_bind (wpAny_onRaise (wpAny_holding (merge_map (kd := mixKind X.prog X.w) (Ne.symm hed) hd3 hnr_mix dd8 d5 (by rw [sizeLine_eq]; show vs8.length + 1 ≤ _; omega) (fun h9 d9 sb9 => ?_))))
  refine wpAny_pure ?_
  refine wpAny_pure ?_
  have hlp : (putK kvs key z).length ≤ sizeLine := by
    have := length_putK kvs key z
    rw [sizeLine_eq]
    omega
  exact ⟨.ref s.heap.objs.size, _, d_write (t' := s5.toks + 1) I7 (by rw [ed7]; exact True.intro) sb9 (let ⟨q, _, _, hq, _⟩ := d9; ⟨q, hq⟩) (dk_new hlp hd8 (r8.put key rz) d9), rfl, q6⟩
end
end TC
namespace TC
open PySem L2
/-! ### populations on the heap -/
structure Cs where
  CP : Addr
  CM : Addr
  DF : Addr
structure CsOk (K : PySem.W.Frag) (cs : Cs) : Prop where
  cP : Cls K cs.CP
  cM : Cls K cs.CM
  ne : cs.CP ≠ cs.CM
  nTr : NoAttr K cs.CP "training"
  nVa : NoAttr K cs.CP "validation"
  nMe : NoAttr K cs.CP "members"
  nSp : NoAttr K cs.CP "spent"
  nIn : NoAttr K cs.CM "incarnation"
  nSe : NoAttr K cs.CM "settings"
  nNo : NoAttr K cs.CM "now"
  nSc : NoAttr K cs.CM "score"
  nSh : NoAttr K cs.CM "shelf"
  nHo : NoAttr K cs.CM "home"
  nSt : NoAttr K cs.CM "is_stopped"
/-- the entries of the dict of members -/
def MemsAt (K : PySem.W.Frag) (cs : Cs) (H : Hp) : List (Key × V) → List (Int × Mem) → Prop
  | [], [] => True
  | (k, v) :: kvs, (t, m) :: ms => k = .inl t ∧ InsF K cs.CM (memFs m) H v ∧ MemsAt K cs H kvs ms
  | _, _ => False
theorem MemsAt.imp {K : PySem.W.Frag} {cs : Cs} {H H' : Hp} (i : ∀ v m, InsF K cs.CM (memFs m) H v → InsF K cs.CM (memFs m) H' v) : ∀ {kvs : List (Key × V)} {ms : List (Int × Mem)}, MemsAt K cs H kvs ms → MemsAt K cs H' kvs ms
  | [], [], _ => trivial
  | (k, v) :: kvs, (t, m) :: ms, h => ⟨h.1, i v m h.2.1, h.2.2.imp i⟩
  | [], _ :: _, h => h.elim
  | _ :: _, [], h => h.elim
theorem MemsAt.len {K : PySem.W.Frag} {cs : Cs} {H : Hp} : ∀ {kvs : List (Key × V)} {ms : List (Int × Mem)}, MemsAt K cs H kvs ms → kvs.length = ms.length
  | [], [], _ => rfl
  | _ :: _, _ :: _, h => by rw [List.length_cons, List.length_cons, h.2.2.len]
  | [], _ :: _, h => h.elim
  | _ :: _, [], h => h.elim
theorem inl_ne {t u : Int} : ((Sum.inl t : Key) = Sum.inl u) ↔ t = u := ⟨fun h => Sum.inl.inj h, fun h => by rw [h]⟩
theorem MemsAt.look {K : PySem.W.Frag} {cs : Cs} {H : Hp} {u : Int} : ∀ {kvs : List (Key × V)} {ms : List (Int × Mem)}, MemsAt K cs H kvs ms → (lookM ms u = none ∧ valV kvs (.inl u) = none) ∨ ∃ m v, lookM ms u = some m ∧ valV kvs (.inl u) = some v ∧ InsF K cs.CM (memFs m) H v
  | [], [], _ => .inl ⟨rfl, rfl⟩
  | (k, v) :: kvs, (t, m) :: ms, h => by
    obtain ⟨rfl, h2, h3⟩ := h
    by_cases e : t = u
    · refine .inr ⟨m, v, ?_, ?_, h2⟩
      · simp [lookM, List.find?_cons, e]
      · rw [valV_pos (inl_ne.mpr e)]
    · have e1 : lookM ((t, m) :: ms) u = lookM ms u := by simp [lookM, List.find?_cons, e]
      have e2 : valV ((Sum.inl t, v) :: kvs) (.inl u) = valV kvs (.inl u) := valV_neg (fun z => e (inl_ne.mp z))
      rw [e1, e2]
      exact h3.look
  | [], _ :: _, h => h.elim
  | _ :: _, [], h => h.elim
/-- put in its place, or at the end -/
def putKL (kvs : List (Key × V)) (k : Key) (v : V) : List (Key × V) := match kvs with
  | [] => [(k, v)]
  | (j, x) :: r => if j = k then (j, v) :: r else (j, x) :: putKL r k v
theorem putK_eq {k : Key} {v : V} : ∀ {kvs : List (Key × V)}, (kvs.map (·.1)).Nodup → putK kvs k v = putKL kvs k v
  | [], _ => rfl
  | (j, x) :: r, h => by
    rw [List.map_cons] at h
    rw [List.nodup_cons] at h
    by_cases e : j = k
    · subst e
      unfold putK putKL
      rw [if_pos (by simp), if_pos rfl, List.map_cons, if_pos rfl]
      congr 1
      have : ∀ p ∈ r, (if p.1 = j then (p.1, v) else p) = p := fun p hp => if_neg fun z => h.1 (List.mem_map.mpr ⟨p, hp, z⟩)
      rw [List.map_congr_left this, List.map_id']
    · have ih := putK_eq (k := k) (v := v) h.2
      unfold putKL
      rw [if_neg e, ← ih]
      unfold putK
      rw [List.any_cons, decide_eq_false (show ¬ (j, x).1 = k from e), Bool.false_or]
      split
      · rw [List.map_cons, if_neg (show ¬ (j, x).1 = k from e)]
      · rfl
theorem MemsAt.keys {K : PySem.W.Frag} {cs : Cs} {H : Hp} : ∀ {kvs : List (Key × V)} {ms : List (Int × Mem)}, MemsAt K cs H kvs ms → kvs.map (·.1) = ms.map fun p => Sum.inl p.1
  | [], [], _ => rfl
  | (k, v) :: kvs, (t, m) :: ms, h => by
    rw [List.map_cons, List.map_cons, h.2.2.keys, h.1]
  | [], _ :: _, h => h.elim
  | _ :: _, [], h => h.elim
theorem MemsAt.put {K : PySem.W.Frag} {cs : Cs} {H : Hp} {u : Int} {w : V} {n : Mem} (hw : InsF K cs.CM (memFs n) H w) : ∀ {kvs : List (Key × V)} {ms : List (Int × Mem)}, MemsAt K cs H kvs ms → MemsAt K cs H (putKL kvs (.inl u) w) (putM u n ms)
  | [], [], _ => ⟨rfl, hw, trivial⟩
  | (k, v) :: kvs, (t, m) :: ms, h => by
    obtain ⟨rfl, h2, h3⟩ := h
    unfold putKL putM
    by_cases e : t = u
    · rw [if_pos (inl_ne.mpr e), if_pos e]
      exact ⟨rfl, hw, h3⟩
    · rw [if_neg (fun z => e (inl_ne.mp z)), if_neg e]
      exact ⟨rfl, h2, h3.put hw⟩
  | [], _ :: _, h => h.elim
  | _ :: _, [], h => h.elim
/-- a population at p -/
def PopAt (K : PySem.W.Frag) (cs : Cs) (H : Hp) (p : Addr) (S : PopM) : Prop := ∃ dx dm vt vv kvs,
  H p = some (.ins cs.CP dx [("training", vt), ("validation", vv), ("members", .ref dm), ("spent", .int S.spent)]) ∧ Dp K H vt (dExs S.tr) ∧ Dp K H vv (dExs S.va) ∧ H dm = some (.dK kvs) ∧ MemsAt K cs H kvs S.mem ∧ (S.mem.map (·.1)).Nodup
theorem PopAt.mono {K : PySem.W.Frag} {cs : Cs} {H H' : Hp} {p : Addr} {S : PopM} (s : Same H H') (h : PopAt K cs H p S) : PopAt K cs H' p S := by
  obtain ⟨dx, dm, vt, vv, kvs, h1, h2, h3, h4, h5, h6⟩ := h
  exact ⟨dx, dm, vt, vv, kvs, s _ _ h1, dp_mono s _ _ h2, dp_mono s _ _ h3, s _ _ h4, h5.imp fun v m z => z.mono s, h6⟩
def PopF (K : PySem.W.Frag) (cs : Cs) (p : Addr) (S : PopM) : Hp → V → Prop := fun H v => v = .ref p ∧ PopAt K cs H p S
theorem keepT_off {K : PySem.W.Frag} {cs : Cs} {H H' : Hp} {p : Addr} {S : PopM} (h : PopAt K cs H p S) (o : Off [p] H H') : KeepT K H H' := fun a xs q => by
  obtain ⟨dx, dm, vt, vv, kvs, h1, _⟩ := h
  have key : ∀ u, H a = some u → u ≠ .ins cs.CP dx [("training", vt), ("validation", vv), ("members", .ref dm), ("spent", .int S.spent)] → a ∉ [p] := fun u e ne z => by
    rw [List.mem_singleton.mp z, h1] at e
    exact ne (Option.some.inj e).symm
  rcases q with (q | ⟨ob, q⟩) | q
  · exact .inl (.inl ((o a _ q).1 (key _ q (fun z => nomatch z))))
  · exact .inl (.inr ⟨ob, (o a _ q).1 (key _ q (fun z => nomatch z))⟩)
  · exact .inr q
/-- how a method call is laid out -/
def MSh (X : Cx) (o : Expr) (m : Str) (apos pos : Pos) (args : List Expr) (pl : Sem Bool) : Prop := eval (.Call (.Attribute o m apos) args [] pos) X.env = (eval o X.env >>= fun ov => standAt apos.atName >>= fun _ => holding [ov] (getMethod ov m pl) >>= fun fp => callWith pos fp.1 fp.2 (backTo pos (starEach args X.env)) (backToKw pos (keywordEach [] X.env)))
/-! ### promises -/
def spN (K : PySem.W.Frag) (cs : Cs) (n : Nat) (Pr : PopM → List PyData → Rk → Prop) : Sp := fun vs H Q E => ∃ p S us ds r, vs = .ref p :: us ∧ us.length = n ∧ PopAt K cs H p S ∧ DpAll K H us ds ∧ pureAll ds = true ∧ Pr S ds r ∧ Res K cs.DF H Q E (Same H) r
def spM (K : PySem.W.Frag) (cs : Cs) (n : Nat) (Pr : PopM → List PyData → Rk → PopM → Prop) : Sp := fun vs H Q E => ∃ p S us ds r S', vs = .ref p :: us ∧ us.length = n ∧ PopAt K cs H p S ∧ DpAll K H us ds ∧ pureAll ds = true ∧ Pr S ds r S' ∧
  Res K cs.DF H Q E (fun H' => Off [p] H H' ∧ PopAt K cs H' p S') r
/-- self.keep(trial, member) -/
def spK (K : PySem.W.Frag) (cs : Cs) : Sp := fun vs H Q E => ∃ p S t v m, vs = [.ref p, .int t, v] ∧ PopAt K cs H p S ∧ InsF K cs.CM (memFs m) H v ∧ S.mem.length ≤ 1000 ∧ ∀ H', Off [p] H H' → PopAt K cs H' p (S.keep t m) → Q .non H'
/-- m is a method of C and keeps sp -/
def MDef (P : Program) (w : World) (K : PySem.W.Frag) (mg : Str → Option Value) (base : Heap) (C : Addr) (m : Str) (k : Nat) (ps : List Str) (sp : Sp) : Prop :=
  ∃ f fd, Meth K C m f ∧ Binds K fd ps [] ∧ FnOk P w K mg base (L2.CX P w) k f fd ps sp
theorem Res.imp {K : PySem.W.Frag} {DF : Addr} {H : Hp} {Q Q' : VK} {E : XK} {T T' : Hp → Prop} (t : ∀ H', T' H' → T H') (q : ∀ v H', T' H' → Q v H' → Q' v H') : ∀ {r : Rk}, Res K DF H Q E T r → Res K DF H Q' E T' r
  | .d d, h => fun v H' z a => q v H' z (h v H' (t _ z) a)
  | .l ds, h => fun p vs H' n z a b => q _ H' z (h p vs H' n (t _ z) a b)
  | .w C fs, h => fun p H' n z a => q _ H' z (h p H' n (t _ z) a)
  | .v F, h => fun v H' z a => q v H' z (h v H' (t _ z) a)
  | .x s, h => fun d H' z a => h d H' (t _ z) a
theorem Res.from {K : PySem.W.Frag} {DF : Addr} {H H1 : Hp} {Q : VK} {E : XK} (s : Same H H1) : ∀ {r : Rk}, Res K DF H Q E (Same H) r → Res K DF H1 Q E (Same H1) r
  | .d d, h => fun v H' z a => h v H' (s.trans z) a
  | .l ds, h => fun p vs H' n z a b => h p vs H' (s.free n) (s.trans z) a b
  | .w C fs, h => fun p H' n z a => h p H' (s.free n) (s.trans z) a
  | .v F, h => fun v H' z a => h v H' (s.trans z) a
  | .x x, h => fun d H' z a => h d H' (s.trans z) a
section
variable {X : Cx} {Hb : Bs} {Γ : G} {N N' : G → Prop} {R : Rk → G → Prop} {a b c e : Expr} {es : List Expr} {p : Addr} {px pos apos : Pos} {d d1 d2 : PyData} {ds : List PyData} {s : Str} {F : Hp → V → Prop} {i : Nat} {x f m : Str} {cs : Cs} {S S' : PopM} {k n : Nat} {ps : List Str} {r : Rk}
theorem popF_tr (C : CsOk X.K cs) {H : Hp} {v : V} (h : PopF X.K cs p S H v) : ∃ a C dx fs u, v = .ref a ∧ H a = some (.ins C dx fs) ∧ Cls X.K C ∧ NoAttr X.K C "training" ∧ fs.lookup ("training" : Str) = some u ∧ Dp X.K H u (dExs S.tr) := by
  obtain ⟨rfl, dx, dm, vt, vv, kvs, h1, h2, h3, h4, h5, h6⟩ := h
  exact ⟨p, cs.CP, dx, _, vt, rfl, h1, C.cP, C.nTr, rfl, h2⟩
theorem popF_va (C : CsOk X.K cs) {H : Hp} {v : V} (h : PopF X.K cs p S H v) : ∃ a C dx fs u, v = .ref a ∧ H a = some (.ins C dx fs) ∧ Cls X.K C ∧ NoAttr X.K C "validation" ∧ fs.lookup ("validation" : Str) = some u ∧ Dp X.K H u (dExs S.va) := by
  obtain ⟨rfl, dx, dm, vt, vv, kvs, h1, h2, h3, h4, h5, h6⟩ := h
  exact ⟨p, cs.CP, dx, _, vv, rfl, h1, C.cP, C.nVa, rfl, h3⟩
theorem popF_sp (C : CsOk X.K cs) {H : Hp} {v : V} (h : PopF X.K cs p S H v) : ∃ a C dx fs u, v = .ref a ∧ H a = some (.ins C dx fs) ∧ Cls X.K C ∧ NoAttr X.K C "spent" ∧ fs.lookup ("spent" : Str) = some u ∧ Dp X.K H u (.int S.spent) := by
  obtain ⟨rfl, dx, dm, vt, vv, kvs, h1, h2, h3, h4, h5, h6⟩ := h
  exact ⟨p, cs.CP, dx, _, .int S.spent, rfl, h1, C.cP, C.nSp, rfl, .int _⟩
/-- self.members -/
theorem pe_members (C : CsOk X.K cs) (i : Nat) (hN : X.N[i]? = some x := by rfl) (hv : Vis X.env.scope x := by first | exact Or.inl rfl | exact Or.inr (Or.inl rfl) | exact Or.inr (Or.inr rfl)) (hd : (x == ("__debug__" : Str)) = false := by decide)
    (hcd : (x == ("__classdict__" : Str)) = false := by decide) (hb : attributeBase (.Name x px) "members" X.env (eval (.Name x px) X.env) = eval (.Name x px) X.env := by rfl) :
    PE X (.Attribute (.Name x px) "members" pos) (fun σ H Q => ∃ p S, σ[i]? = some (some (.ref p)) ∧ PopAt X.K cs H p S ∧ ∀ dm kvs, H dm = some (.dK kvs) → MemsAt X.K cs H kvs S.mem → Q (.ref dm) H) :=
  pe_imp (pe_fld (pv i hN hv hd hcd) hb) fun σ H Q ⟨p, S, h0, ⟨dx, dm, vt, vv, kvs, h1, h2, h3, h4, h5, h6⟩, k⟩ => ⟨_, h0, p, cs.CP, dx, _, .ref dm, rfl, h1, C.cP, C.nMe, rfl, k dm kvs h4 h5⟩
theorem slotPop {H0 H : Hp} {σ : St} (E : EnvOk X.K Hb H0 H σ Γ) (hl : Γ[i]? = some (.x (PopF X.K cs p S))) : σ[i]? = some (some (.ref p)) ∧ PopAt X.K cs H p S := by
  obtain ⟨ov, h1, v, rfl, h2⟩ := E.sl i _ hl
  obtain ⟨rfl, h3⟩ := h2 H E.s0
  exact ⟨h1, h3⟩
/-- t in self.members -/
theorem xt_inMem {t : Int} (C : CsOk X.K cs) (hu : X.A.units + 1 < cLine) (i : Nat) (hl : Γ[i]? = some (.x (PopF X.K cs p S))) (ha : XE X a Γ (.int t)) (hN : X.N[i]? = some x := by rfl) (hv : Vis X.env.scope x := by first | exact Or.inl rfl | exact Or.inr (Or.inl rfl) | exact Or.inr (Or.inr rfl)) (hd : (x == ("__debug__" : Str)) = false := by decide)
    (hcd : (x == ("__classdict__" : Str)) = false := by decide) (hb : attributeBase (.Name x px) "members" X.env (eval (.Name x px) X.env) = eval (.Name x px) X.env := by rfl) : XT X (.Compare a [.In] [.Attribute (.Name x px) "members" apos] pos) Γ (lookM S.mem t).isSome :=
  pt_imp (pt_cmp (pc_din hu ha (pe_members (cs := cs) C i hN hv hd hcd hb))) fun σ H Q ⟨⟨Hb, H0, E⟩, k⟩ => by
    refine ⟨⟨Hb, H0, E⟩, fun v H1 s1 q1 => ?_⟩
    cases q1
    obtain ⟨h1, h2⟩ := slotPop (E.mono s1) hl
    refine ⟨p, S, h1, h2, fun dm kvs h3 h4 => ⟨dm, _, rfl, DGet.k (k := Sum.inl t) h3, _, rfl, ?_⟩⟩
    rcases h4.look (u := t) with ⟨e1, e2⟩ | ⟨m, w, e1, e2, _⟩
    · rw [e1] at k
      rw [e2]
      exact k H1 s1
    · rw [e1] at k
      rw [e2]
      exact k H1 s1
theorem xt_notinMem {t : Int} (C : CsOk X.K cs) (hu : X.A.units + 1 < cLine) (i : Nat) (hl : Γ[i]? = some (.x (PopF X.K cs p S))) (ha : XE X a Γ (.int t)) (hN : X.N[i]? = some x := by rfl) (hv : Vis X.env.scope x := by first | exact Or.inl rfl | exact Or.inr (Or.inl rfl) | exact Or.inr (Or.inr rfl)) (hd : (x == ("__debug__" : Str)) = false := by decide)
    (hcd : (x == ("__classdict__" : Str)) = false := by decide) (hb : attributeBase (.Name x px) "members" X.env (eval (.Name x px) X.env) = eval (.Name x px) X.env := by rfl) : XT X (.Compare a [.NotIn] [.Attribute (.Name x px) "members" apos] pos) Γ (!(lookM S.mem t).isSome) :=
  pt_imp (pt_cmp (pc_dnotin hu ha (pe_members (cs := cs) C i hN hv hd hcd hb))) fun σ H Q ⟨⟨Hb, H0, E⟩, k⟩ => by
    refine ⟨⟨Hb, H0, E⟩, fun v H1 s1 q1 => ?_⟩
    cases q1
    obtain ⟨h1, h2⟩ := slotPop (E.mono s1) hl
    refine ⟨p, S, h1, h2, fun dm kvs h3 h4 => ⟨dm, _, rfl, DGet.k (k := Sum.inl t) h3, _, rfl, ?_⟩⟩
    rcases h4.look (u := t) with ⟨e1, e2⟩ | ⟨m, w, e1, e2, _⟩
    · rw [e1] at k
      rw [e2]
      exact k H1 s1
    · rw [e1] at k
      rw [e2]
      exact k H1 s1
/-- self.members[t] -/
theorem xr_mem {t : Int} {m : Mem} (C : CsOk X.K cs) (hu : X.A.units + 1 < cLine) (i : Nat) (hl : Γ[i]? = some (.x (PopF X.K cs p S))) (ha : XE X a Γ (.int t)) (hm : lookM S.mem t = some m) (hs : NoSl a := by intro _ _; rfl) (hN : X.N[i]? = some x := by rfl) (hv : Vis X.env.scope x := by first | exact Or.inl rfl | exact Or.inr (Or.inl rfl) | exact Or.inr (Or.inr rfl)) (hd : (x == ("__debug__" : Str)) = false := by decide)
    (hcd : (x == ("__classdict__" : Str)) = false := by decide) (hb : attributeBase (.Name x px) "members" X.env (eval (.Name x px) X.env) = eval (.Name x px) X.env := by rfl) : PE X (.Subscript (.Attribute (.Name x px) "members" apos) a pos) (fun σ H Q => (∃ Hb H0, EnvOk X.K Hb H0 H σ Γ) ∧ ∀ v H', Same H H' → InsF X.K cs.CM (memFs m) H' v → Q v H') :=
  pe_imp (pe_dget hu (pe_members (cs := cs) C i hN hv hd hcd hb) ha hs) fun σ H Q ⟨⟨Hb, H0, E⟩, k⟩ => by
    obtain ⟨h1, h2⟩ := slotPop E hl
    refine ⟨p, S, h1, h2, fun dm kvs h3 h4 => ⟨⟨Hb, H0, E⟩, fun v H1 s1 q1 => ?_⟩⟩
    cases q1
    rcases h4.look (u := t) with ⟨e1, e2⟩ | ⟨m', w, e1, e2, e3⟩
    · rw [e1] at hm
      cases hm
    · rw [e1] at hm
      cases hm
      have g := DGet.k (k := Sum.inl t) (s1 _ _ h3)
      rw [e2] at g
      exact ⟨dm, w, rfl, g, k w H1 s1 (e3.mono s1)⟩
/-- a method that changes nothing -/
theorem xr_meth {pl : Sem Bool} {Pr : PopM → List PyData → Rk → Prop} (C : CsOk X.K cs) (i : Nat) (hl : Γ[i]? = some (.x (PopF X.K cs p S))) (M : MDef X.prog X.w X.K X.mg X.base cs.CP m k ps (spN X.K cs n Pr)) (hr : Room k X.A) (hx : Passes (L2.CX X.prog X.w) X Hb.E) (hDF : Hb.DF = cs.DF) (ha : XA X (e :: es) Γ (d1 :: ds)) (hp : pureAll (d1 :: ds) = true)
    (hP : Pr S (d1 :: ds) r) (hn : (d1 :: ds).length = n := by rfl) (hm : ∀ a b c d : V, List.lookup m [("training", a), ("validation", b), ("members", c), ("spent", d)] = none := by intros; rfl)
    (hN : X.N[i]? = some x := by rfl) (hv : Vis X.env.scope x := by first | exact Or.inl rfl | exact Or.inr (Or.inl rfl) | exact Or.inr (Or.inr rfl)) (hd : (x == ("__debug__" : Str)) = false := by decide)
    (hcd : (x == ("__classdict__" : Str)) = false := by decide) (hst : starEach (e :: es) X.env = (false, eval e X.env) :: starEach es X.env := by rfl) (hpl : (backTo pos (starEach es X.env)).any (·.1) = false := by rfl)
    (ht : MSh X (.Name x px) m apos pos (e :: es) pl := by rfl) : XR X Hb (.Call (.Attribute (.Name x px) m apos) (e :: es) [] pos) Γ r := by
  obtain ⟨f, fd, h1, h2, h3⟩ := M
  refine pe_imp (pe_meth (pv i hN hv hd hcd) C.cP h1 h3 hr h2 .nil hx ha hst hpl ht) fun σ H Q ⟨⟨H0, E⟩, k⟩ => ?_
  obtain ⟨q1, q2⟩ := slotPop E hl
  obtain ⟨dx, dm, vt, vv, kvs, e1, _⟩ := id q2
  refine ⟨_, q1, p, dx, _, rfl, e1, hm _ _ _ _, ⟨Hb, H0, E⟩, fun vs H1 s1 a1 => ?_⟩
  dsimp only
  rw [List.append_nil]
  rw [hDF] at k
  exact ⟨p, S, vs, d1 :: ds, r, rfl, by rw [dpa_length a1]; exact hn, q2.mono s1, a1, hp, hP, k.from s1⟩
/-- .. with data as its result -/
theorem xe_meth {pl : Sem Bool} {E₀ : XK} {Pr : PopM → List PyData → Rk → Prop} (C : CsOk X.K cs) (i : Nat) (hl : Γ[i]? = some (.x (PopF X.K cs p S))) (M : MDef X.prog X.w X.K X.mg X.base cs.CP m k ps (spN X.K cs n Pr)) (hr : Room k X.A) (hx : Passes (L2.CX X.prog X.w) X E₀) (ha : XA X (e :: es) Γ (d1 :: ds)) (hp : pureAll (d1 :: ds) = true)
    (hP : Pr S (d1 :: ds) (.d d)) (hn : (d1 :: ds).length = n := by rfl) (hm : ∀ a b c d : V, List.lookup m [("training", a), ("validation", b), ("members", c), ("spent", d)] = none := by intros; rfl)
    (hN : X.N[i]? = some x := by rfl) (hv : Vis X.env.scope x := by first | exact Or.inl rfl | exact Or.inr (Or.inl rfl) | exact Or.inr (Or.inr rfl)) (hd : (x == ("__debug__" : Str)) = false := by decide)
    (hcd : (x == ("__classdict__" : Str)) = false := by decide) (hst : starEach (e :: es) X.env = (false, eval e X.env) :: starEach es X.env := by rfl) (hpl : (backTo pos (starEach es X.env)).any (·.1) = false := by rfl)
    (ht : MSh X (.Name x px) m apos pos (e :: es) pl := by rfl) : XE X (.Call (.Attribute (.Name x px) m apos) (e :: es) [] pos) Γ d := by
  obtain ⟨f, fd, h1, h2, h3⟩ := M
  refine pe_imp (pe_meth (pv i hN hv hd hcd) C.cP h1 h3 hr h2 .nil hx ha hst hpl ht) fun σ H Q ⟨⟨Hb, H0, E⟩, k⟩ => ?_
  obtain ⟨q1, q2⟩ := slotPop E hl
  obtain ⟨dx, dm, vt, vv, kvs, e1, _⟩ := id q2
  refine ⟨_, q1, p, dx, _, rfl, e1, hm _ _ _ _, ⟨Hb, H0, E⟩, fun vs H1 s1 a1 => ?_⟩
  dsimp only
  rw [List.append_nil]
  exact ⟨p, S, vs, d1 :: ds, _, rfl, by rw [dpa_length a1]; exact hn, q2.mono s1, a1, hp, hP, fun v H' s2 q => k v H' (s1.trans s2) q⟩
/-- a method that changes self -/
theorem xm_meth {pl : Sem Bool} {Pr : PopM → List PyData → Rk → PopM → Prop} (C : CsOk X.K cs) (i : Nat) (hl : Γ[i]? = some (.x (PopF X.K cs p S))) (M : MDef X.prog X.w X.K X.mg X.base cs.CP m k ps (spM X.K cs n Pr)) (hr : Room k X.A) (hx : Passes (L2.CX X.prog X.w) X Hb.E) (hDF : Hb.DF = cs.DF) (hpl' : Hb.l = [p]) (ha : XA X (e :: es) Γ (d1 :: ds)) (hp : pureAll (d1 :: ds) = true)
    (hP : Pr S (d1 :: ds) r S') (hr' : (∃ d, r = .d d) ∨ ∃ s, r = .x s) (hn : (d1 :: ds).length = n := by rfl) (hm : ∀ a b c d : V, List.lookup m [("training", a), ("validation", b), ("members", c), ("spent", d)] = none := by intros; rfl)
    (hN : X.N[i]? = some x := by rfl) (hv : Vis X.env.scope x := by first | exact Or.inl rfl | exact Or.inr (Or.inl rfl) | exact Or.inr (Or.inr rfl)) (hd : (x == ("__debug__" : Str)) = false := by decide)
    (hcd : (x == ("__classdict__" : Str)) = false := by decide) (hst : starEach (e :: es) X.env = (false, eval e X.env) :: starEach es X.env := by rfl) (hpl : (backTo pos (starEach es X.env)).any (·.1) = false := by rfl)
    (ht : MSh X (.Name x px) m apos pos (e :: es) pl := by rfl) : XM X Hb (.Call (.Attribute (.Name x px) m apos) (e :: es) [] pos) Γ i (PopF X.K cs p S') r := by
  obtain ⟨f, fd, h1, h2, h3⟩ := M
  refine pe_imp (pe_meth (pv i hN hv hd hcd) C.cP h1 h3 hr h2 .nil hx ha hst hpl ht) fun σ H Q ⟨⟨H0, E⟩, k⟩ => ?_
  obtain ⟨q1, q2⟩ := slotPop E hl
  obtain ⟨dx, dm, vt, vv, kvs, e1, _⟩ := id q2
  refine ⟨_, q1, p, dx, _, rfl, e1, hm _ _ _ _, ⟨Hb, H0, E⟩, fun vs H1 s1 a1 => ?_⟩
  dsimp only
  rw [List.append_nil]
  rw [hDF, hpl'] at k
  refine ⟨p, S, vs, d1 :: ds, r, S', rfl, by rw [dpa_length a1]; exact hn, q2.mono s1, a1, hp, hP, ?_⟩
  have key : ∀ H', Off [p] H1 H' ∧ PopAt X.K cs H' p S' → Off [p] H H' ∧ KeepT X.K H H' ∧ ∃ v, σ[i]? = some (some v) ∧ ∀ H2, Same H' H2 → PopF X.K cs p S' H2 v := fun H' z =>
    ⟨(Off.of_same s1).trans z.1, (KeepT.of s1).trans (keepT_off (q2.mono s1) z.1), _, q1, fun H2 s2 => ⟨rfl, z.2.mono s2⟩⟩
  rcases hr' with ⟨d, rfl⟩ | ⟨s, rfl⟩
  · exact fun v H' z a => k v H' (key H' z) a
  · exact fun d H' z a => k d H' (key H' z) a
/-- e gives a member -/
abbrev XV (X : Cx) (Hb : Bs) (e : Expr) (Γ : G) (C : Addr) (fs : List (Str × PyData)) : Prop := PE X e (fun σ H Q => (∃ H0, EnvOk X.K Hb H0 H σ Γ) ∧ ∀ v H', Same H H' → InsF X.K C fs H' v → Q v H')
theorem xv_var {C : Addr} {fs : List (Str × PyData)} (i : Nat) (hl : Γ[i]? = some (.w C fs)) (hN : X.N[i]? = some x := by rfl) (hv : Vis X.env.scope x := by first | exact Or.inl rfl | exact Or.inr (Or.inl rfl) | exact Or.inr (Or.inr rfl)) (hd : (x == ("__debug__" : Str)) = false := by decide)
    (hcd : (x == ("__classdict__" : Str)) = false := by decide) : XV X Hb (.Name x px) Γ C fs :=
  pe_imp (pv i hN hv hd hcd) fun σ H Q ⟨⟨H0, E⟩, k⟩ => by
    obtain ⟨ov, h1, a, dx, vs, rfl, n0, e1, fl⟩ := E.sl i _ hl
    exact ⟨_, h1, k _ H (Same.refl H) ⟨a, rfl, dx, vs, e1, fl⟩⟩
/-- self.keep(t, e) -/
theorem xm_keep {pl : Sem Bool} {t : Int} {mm : Mem} (C : CsOk X.K cs) (i : Nat) (hl : Γ[i]? = some (.x (PopF X.K cs p S))) (M : MDef X.prog X.w X.K X.mg X.base cs.CP "keep" k ps (spK X.K cs)) (hr : Room k X.A) (hx : Passes (L2.CX X.prog X.w) X Hb.E) (hDF : Hb.DF = cs.DF) (hpl' : Hb.l = [p]) (ha : XE X a Γ (.int t)) (hb : XV X Hb b Γ cs.CM (memFs mm))
    (hz : S.mem.length ≤ 1000)
    (hN : X.N[i]? = some x := by rfl) (hv : Vis X.env.scope x := by first | exact Or.inl rfl | exact Or.inr (Or.inl rfl) | exact Or.inr (Or.inr rfl)) (hd : (x == ("__debug__" : Str)) = false := by decide)
    (hcd : (x == ("__classdict__" : Str)) = false := by decide) (hst : starEach [a, b] X.env = (false, eval a X.env) :: starEach [b] X.env := by rfl) (hst2 : starEach [b] X.env = (false, eval b X.env) :: starEach [] X.env := by rfl) (hpl : (backTo pos (starEach [b] X.env)).any (·.1) = false := by rfl)
    (ht : MSh X (.Name x px) "keep" apos pos [a, b] pl := by rfl) : XM X Hb (.Call (.Attribute (.Name x px) "keep" apos) [a, b] [] pos) Γ i (PopF X.K cs p (S.keep t mm)) (.d .none) := by
  obtain ⟨f, fd, h1, h2, h3⟩ := M
  refine pe_imp (pe_meth (pv i hN hv hd hcd) C.cP h1 h3 hr h2 .nil hx (pa_cons ha (pa_cons hb pa_nil hst2) hst) hst hpl ht) fun σ H Q ⟨⟨H0, E⟩, k⟩ => ?_
  obtain ⟨q1, q2⟩ := slotPop E hl
  obtain ⟨dx, dm, vt, vv, kvs, e1, _⟩ := id q2
  refine ⟨_, q1, p, dx, _, rfl, e1, rfl, ⟨Hb, H0, E⟩, fun v1 H1 s1 a1 => ⟨⟨H0, E.mono s1⟩, fun v2 H2 s2 a2 => ?_⟩⟩
  cases a1
  have s12 := s1.trans s2
  rw [hpl'] at k
  exact ⟨p, S, t, v2, mm, rfl, q2.mono s12, a2, hz, fun H' o q => k .non H' ⟨(Off.of_same s12).trans o, (KeepT.of s12).trans (keepT_off (q2.mono s12) o), _, q1, fun H3 s3 => ⟨rfl, q.mono s3⟩⟩ .non⟩
end
end TC
namespace TC
open PySem L2
/-! ### methods by their bodies -/
def methS (c i : Nat) : Stmt := match topS c with
  | .ClassDef (body := b) .. => b.getD i (.Pass ⟨0, 0, 0, 0⟩)
  | st => st
/-- a method of the class at C, as it stands behind the top -/
def RawM (K : PySem.W.Frag) (C : Addr) (m qual : Str) (st : Stmt) : Prop := ∃ f fd, Meth K C m f ∧ Fun K m qual st f fd
/-- the slots at the start of a method of a population -/
def startP (K : PySem.W.Frag) (cs : Cs) (n : Nat) (p : Addr) (S : PopM) (ds : List PyData) : G := .x (PopF K cs p S) :: startG (n - 1) ds
theorem env_startM {K : PySem.W.Frag} {cs : Cs} {Hb : Bs} {N : List Str} {p : Addr} {S : PopM} {us : List V} {ds : List PyData} (hN : 1 ≤ N.length) (hp : PopAt K cs Hb.h p S) (h : DpAll K Hb.h us ds) : EnvOk K Hb Hb.h Hb.h (L2.start N (.ref p :: us)) (startP K cs N.length p S ds) := by
  have e1 : L2.start N (.ref p :: us) = some (.ref p) :: L2.start (N.drop 1) us := by
    unfold L2.start
    rw [List.map_cons, List.cons_append, List.length_cons, List.length_drop]
    congr 3
    omega
  have E := env_start (Hb := Hb) (N := N.drop 1) h
  rw [e1]
  refine ⟨Off.refl _, Same.refl _, ?_, fun i g hg => ?_⟩
  · have := E.ln
    unfold startP
    rw [List.length_cons, List.length_cons, this, List.length_drop]
  · cases i with
    | zero =>
      cases hg
      exact ⟨_, rfl, _, rfl, fun H1 s => ⟨rfl, hp.mono s⟩⟩
    | succ i =>
      unfold startP at hg
      rw [List.getElem?_cons_succ] at hg ⊢
      rw [List.length_drop] at E
      exact E.sl i g hg
theorem pop_base {K : PySem.W.Frag} {cs : Cs} {H : Hp} {p : Addr} {S : PopM} (hp : PopAt K cs H p S) : ∀ a ∈ [p], H a ≠ none := fun a ha z => by
  obtain ⟨dx, dm, vt, vv, kvs, h1, _⟩ := hp
  rw [List.mem_singleton.mp ha, h1] at z
  cases z
section
variable {P : Program} {w : World} {K : PySem.W.Frag} {mg : Str → Option Value} {base : Heap} {cs : Cs}
abbrev mcx (P : Program) (w : World) (K : PySem.W.Frag) (mg : Str → Option Value) (base : Heap) (N : List Str) (qual : Str) (st : Stmt) (f : Addr) (cdv : Value) (A : Around) (outer : List Env) (s : Shared) (H : Hp) (E : XK) : Cx := cxOf (L2.CX P w) P w K mg base N qual (defScope st) f cdv A outer s H E
/-- a method that changes nothing -/
theorem mdef_N {m qual : Str} {st : Stmt} {N ps : List Str} {k n : Nat} {Pr : PopM → List PyData → Rk → Prop} (R : RawM K cs.CP m qual st) (S : FnScope N ps (defScope st)) (hl : ps.length = n + 1) (hN : 1 ≤ N.length)
    (hb : ∀ (kV doc pm : Value) (an : Option Addr) (cdv ct : Value) (us : List Value), us.length = ps.length → bindArgs (PySem.W.fnOf m qual (defArgs st) (defBody st) (defScope st) .none kV doc pm an cdv ct) ⟨us, []⟩ = pure (ps.zip us))
    (body : ∀ (f : Addr) (cdv : Value) (A : Around) (outer : List Env) (s : Shared) (H : Hp) (E : XK) (p : Addr) (Sp : PopM) (ds : List PyData) (r : Rk), Room k (A.deeper (PyProof.Rows.envOfC qual (defScope st) s.heap.objs.size f cdv)) →
      Takes (mcx P w K mg base N qual st f cdv A outer s H E) (fun c d _ H => E c d H) → Pr Sp ds r → ds.length = n → pureAll ds = true →
      XSs (mcx P w K mg base N qual st f cdv A outer s H E) ⟨H, [], E, cs.DF⟩ (defBody st) (startP K cs N.length p Sp ds) (fun _ => r = .d .none) (fun q _ => q = r)) : MDef P w K mg base cs.CP m (k + 1) ps (spN K cs n Pr) := by
  obtain ⟨f, fd, h1, F⟩ := R
  refine ⟨f, fd, h1, F.binds hb, F.okX S (fun vs H Q E h => ?_) (fun cdv A outer s H vs Q E hr h => ?_)⟩
  · obtain ⟨p, Sp, us, ds, r, rfl, h2, _⟩ := h
    rw [List.length_cons, h2, hl]
  · obtain ⟨p, Sp, us, ds, r, rfl, h2, h3, h4, h5, h6, h7⟩ := h
    refine ⟨_, body f cdv A outer s H E p Sp ds r hr (takes_of rfl rfl rfl rfl) h6 (by rw [← dpa_length h4]; exact h2) h5, ⟨H, env_startM (Hb := ⟨H, [], E, cs.DF⟩) hN h3 h4⟩, fun Γ' σ' H' H0 kt e n => ?_, ⟨?_, ?_, ?_, ?_, ?_⟩⟩
    · subst n
      exact h7 .non H' (e.sb.same.trans e.s0) .non
    · rintro Γ' σ' v d H' H0 e q rfl
      exact h7 v H' (e.sb.same.trans e.s0) q
    · rintro Γ' σ' q vs ds' H' H0 e n0 e1 a rfl
      exact h7 q vs H' (e.sb.same.free n0) (e.sb.same.trans e.s0) e1 a
    · rintro Γ' σ' q C fs H' H0 e n0 a rfl
      exact h7 q H' (e.sb.same.free n0) (e.sb.same.trans e.s0) a
    · rintro Γ' σ' v F' H' H0 e a rfl
      exact h7 v H' (e.sb.same.trans e.s0) a
    · rintro Γ' σ' x d H' H0 e a rfl
      exact h7 d H' (e.sb.same.trans e.s0) a
/-- a method that changes self -/
theorem mdef_M {m qual : Str} {st : Stmt} {N ps : List Str} {k n : Nat} {Pr : PopM → List PyData → Rk → PopM → Prop} (R : RawM K cs.CP m qual st) (S : FnScope N ps (defScope st)) (hl : ps.length = n + 1) (hN : 1 ≤ N.length)
    (hb : ∀ (kV doc pm : Value) (an : Option Addr) (cdv ct : Value) (us : List Value), us.length = ps.length → bindArgs (PySem.W.fnOf m qual (defArgs st) (defBody st) (defScope st) .none kV doc pm an cdv ct) ⟨us, []⟩ = pure (ps.zip us))
    (body : ∀ (f : Addr) (cdv : Value) (A : Around) (outer : List Env) (s : Shared) (H : Hp) (E : XK) (p : Addr) (Sp : PopM) (ds : List PyData) (r : Rk) (S' : PopM), Room k (A.deeper (PyProof.Rows.envOfC qual (defScope st) s.heap.objs.size f cdv)) →
      Takes (mcx P w K mg base N qual st f cdv A outer s H E) (fun c d _ H => E c d H) → Pr Sp ds r S' → ds.length = n → pureAll ds = true → (∀ a ∈ [p], H a ≠ none) →
      XSs (mcx P w K mg base N qual st f cdv A outer s H E) ⟨H, [p], E, cs.DF⟩ (defBody st) (startP K cs N.length p Sp ds) (fun Γ' => r = .d .none ∧ Γ'[0]? = some (.x (PopF K cs p S'))) (fun q Γ' => q = r ∧ Γ'[0]? = some (.x (PopF K cs p S')))) : MDef P w K mg base cs.CP m (k + 1) ps (spM K cs n Pr) := by
  obtain ⟨f, fd, h1, F⟩ := R
  refine ⟨f, fd, h1, F.binds hb, F.okX S (fun vs H Q E h => ?_) (fun cdv A outer s H vs Q E hr h => ?_)⟩
  · obtain ⟨p, Sp, us, ds, r, S', rfl, h2, _⟩ := h
    rw [List.length_cons, h2, hl]
  · obtain ⟨p, Sp, us, ds, r, S', rfl, h2, h3, h4, h5, h6, h7⟩ := h
    refine ⟨_, body f cdv A outer s H E p Sp ds r S' hr (takes_of rfl rfl rfl rfl) h6 (by rw [← dpa_length h4]; exact h2) h5 (pop_base h3), ⟨H, env_startM (Hb := ⟨H, [p], E, cs.DF⟩) hN h3 h4⟩, fun Γ' σ' H' H0 kt e n => ?_, ⟨?_, ?_, ?_, ?_, ?_⟩⟩
    · obtain ⟨rfl, z⟩ := n
      exact h7 .non H' ⟨e.sb.then e.s0, (slotPop (X := mcx P w K mg base N qual st f cdv A outer s H E) e z).2⟩ .non
    · rintro Γ' σ' v d H' H0 e q ⟨rfl, z⟩
      exact h7 v H' ⟨e.sb.then e.s0, (slotPop (X := mcx P w K mg base N qual st f cdv A outer s H E) e z).2⟩ q
    · rintro Γ' σ' q vs ds' H' H0 e n0 e1 a ⟨rfl, z⟩
      exact h7 q vs H' (e.sb.free n0) ⟨e.sb.then e.s0, (slotPop (X := mcx P w K mg base N qual st f cdv A outer s H E) e z).2⟩ e1 a
    · rintro Γ' σ' q C fs H' H0 e n0 a ⟨rfl, z⟩
      exact h7 q H' (e.sb.free n0) ⟨e.sb.then e.s0, (slotPop (X := mcx P w K mg base N qual st f cdv A outer s H E) e z).2⟩ a
    · rintro Γ' σ' v F' H' H0 e a ⟨rfl, z⟩
      exact h7 v H' ⟨e.sb.then e.s0, (slotPop (X := mcx P w K mg base N qual st f cdv A outer s H E) e z).2⟩ a
    · rintro Γ' σ' x d H' H0 e a ⟨rfl, z⟩
      exact h7 d H' ⟨e.sb.then e.s0, (slotPop (X := mcx P w K mg base N qual st f cdv A outer s H E) e z).2⟩ a
/-- what raise DeedFault('..') does -/
def RzOk (P : Program) (w : World) (K : PySem.W.Frag) (mg : Str → Option Value) (base : Heap) (cs : Cs) : Prop := ∀ (X : Cx) (W : WX) (s : Str) (j : Nat) (p1 p2 p3 p4 : Pos), X.prog = P → X.w = w → X.K = K → X.mg = mg → X.base = base → Gl X "DeedFault" → X.calm = true → Room 3 X.A → Takes X W →
  PS X (.Raise (some (.Call (.Name "DeedFault" p1) [.Constant (.str s) j p2] [] p3)) none p4) (fun _ σ H => ∀ d H', Same H H' → H' d = some (.xd [("reason", .str s)]) → W (.ref cs.DF) (some d) σ H')
end
section
variable {X : Cx} {Hb : Bs} {Γ : G} {N : G → Prop} {R : Rk → G → Prop} {s : Str} {j : Nat} {p1 p2 p3 p4 : Pos} {cs : Cs}
theorem xs_raise (Z : RzOk X.prog X.w X.K X.mg X.base cs) (tk : Takes X (fun c d _ H => Hb.E c d H)) (hr : Room 3 X.A) (hDF : Hb.DF = cs.DF) (h : R (.x s) Γ) (hc : X.calm = true := by rfl) (hg : Gl X "DeedFault" := by rfl) : XS X Hb (.Raise (some (.Call (.Name "DeedFault" p1) [.Constant (.str s) j p2] [] p3)) none p4) Γ N R :=
  ps_imp (Z X _ s j p1 p2 p3 p4 rfl rfl rfl rfl rfl hg hc hr tk) fun D σ H q d H' s1 e1 => by
    obtain ⟨H0, E⟩ := q.1
    rw [← hDF]
    exact q.2.2.x Γ σ s d H' H0 (E.mono s1) e1 h
end
end TC
namespace TC
open PySem L2
theorem putM_mem {α : Type} (t : Int) (m : α) {u : Int} : ∀ {l : List (Int × α)}, u ∈ (putM t m l).map (·.1) → u = t ∨ u ∈ l.map (·.1)
  | [], h =>
    .inl (List.mem_singleton.mp h)
  | (v, x) :: r, h => by
    unfold putM at h
    split at h
    · exact .inr h
    · rcases List.mem_cons.mp h with q | q
      · exact .inr (q ▸ List.mem_cons_self)
      · rcases putM_mem t m q with z | z
        · exact .inl z
        · exact .inr (List.mem_cons_of_mem _ z)
theorem putM_nodup {α : Type} (t : Int) (m : α) : ∀ {l : List (Int × α)}, (l.map (·.1)).Nodup → ((putM t m l).map (·.1)).Nodup
  | [], _ => by
    show [t].Nodup
    simp
  | (v, x) :: r, h => by
    have h' :=
      List.nodup_cons.mp h
    unfold putM
    split
    · exact h
    · rename_i ne
      refine List.nodup_cons.mpr ⟨fun z => ?_, putM_nodup t m h'.2⟩
      rcases putM_mem t m z with q | q
      · exact ne q
      · exact h'.1 q
/-! ### making instances: self.f = e, one after the other -/
structure InitOk (K : PySem.W.Frag) (Hb : Bs) (B : Hp) (Γ : G) (x C : Addr) (fs : List (Str × PyData)) (σ : St) (H : Hp) : Prop where
  env : EnvOk K Hb B H σ Γ
  me : σ[0]? = some (some (.ref x))
  fr : B x = none
  at_ : InsAt K H x C fs
def tI (K : PySem.W.Frag) (Hb : Bs) (B : Hp) (Γ : G) (x C : Addr) (fs gs : List (Str × PyData)) : TS := fun D σ H => InitOk K Hb B Γ x C fs σ H ∧ ∀ H', InitOk K Hb B Γ x C gs σ H' → D.nx σ H'
section
variable {X : Cx} {Hb : Bs} {B : Hp} {Γ : G} {x C : Addr} {fs gs hs : List (Str × PyData)} {st : Stmt} {rest : List Stmt} {e : Expr} {p pos pos' : Pos} {f y : Str} {d : PyData}
theorem pi_cons (h : PS X st (tI X.K Hb B Γ x C fs gs)) (k : PSs X rest (tI X.K Hb B Γ x C gs hs)) : PSs X (st :: rest) (tI X.K Hb B Γ x C fs hs) :=
  pss_imp (pss_cons h k) fun D σ H q => ⟨q.1, fun H' i => ⟨i, q.2⟩⟩
theorem pi_nil : PSs X [] (tI X.K Hb B Γ x C fs fs) := pss_imp pss_nil fun D σ H q => q.2 H q.1
theorem pi_fld (hΓ : noOwn Γ = true) (hc : ∀ (i : Nat) (d : PyData), Γ[i]? ≠ some (SV.c d)) (he : XE X e Γ d) (hp : pureD d = true) (hz : fs.length < 1000) (cl : Cls X.K C) (na : NoAttr X.K C f) (hN : X.N[0]? = some y := by rfl)
    (hv : Vis X.env.scope y := by first | exact Or.inl rfl | exact Or.inr (Or.inl rfl) | exact Or.inr (Or.inr rfl)) (hd : (y == ("__debug__" : Str)) = false := by decide) (hcd : (y == ("__classdict__" : Str)) = false := by decide)
    (hs : swapsWith e (some (.Attribute (.Name y p) f pos')) pos.line X.env = pure false := by rfl) : PS X (.Assign [.Attribute (.Name y p) f pos'] e pos) (tI X.K Hb B Γ x C fs (putD f d fs)) :=
  ps_imp (ps_fld (pv 0 hN hv hd hcd) he hs) fun D σ H q => by
    obtain ⟨⟨E, me, fr, at_⟩, k⟩ := q
    refine ⟨⟨Hb, B, E⟩, fun v H1 s1 q1 => ?_⟩
    obtain ⟨dx, vs, e1, fl⟩ := at_.mono s1
    refine ⟨_, me, x, C, dx, vs, rfl, e1, cl, na, by rw [fl.len]; exact hz, k _ ⟨?_, me, fr, dx, _, upd_same, (fl.put q1 hp).keep (keepT_ins e1)⟩⟩
    have E1 := E.mono s1
    refine ⟨E1.sb, fun b o z => ?_, E1.ln, fun j g hj => ?_⟩
    · rw [upd_ne (ne_of_none z fr)]
      exact E1.s0 b o z
    · obtain ⟨ov, h1, h2⟩ := E1.sl j g hj
      refine ⟨ov, h1, ?_⟩
      cases g with
      | c d => exact absurd hj (hc j d)
      | b d => exact h2
      | o ds => exact Bool.noConfusion (noOwn_get hΓ hj)
      | w C fs => exact Bool.noConfusion (noOwn_get hΓ hj)
      | x F => exact h2
      | n => trivial
end
section
variable {P : Program} {w : World} {K : PySem.W.Frag} {mg : Str → Option Value} {base : Heap} {cs : Cs}
/-! put -/
abbrev sPut : Stmt := topS 26
def spPut : Sp := fun vs H Q E => ∃ a kvs t v, vs = [.ref a, .int t, v] ∧ H a = some (.dK kvs) ∧ kvs.length ≤ 1000000 ∧ ∀ d H', H d = none → Same H H' → H' d = some (.dK (putK kvs (.inl t) v)) → Q (.ref d) H'
theorem sc_put : FnScope ["known", "key", "value"] ["known", "key", "value"] (defScope sPut) := ⟨rfl, rfl, rfl, by decide +kernel, rfl, by decide +kernel, by decide +kernel⟩
theorem ok_put (R : RawD K mg "put" sPut) : Def P w K mg base "put" 1 ["known", "key", "value"] spPut := by
  obtain ⟨f, fd, h1, F⟩ := R
  refine ⟨f, fd, h1, F.kp, F.binds (fun _ _ _ _ _ _ us hl => match us, hl with | [_, _, _], _ => rfl), F.ok sc_put (fun vs H Q E h => ?_) (fun cdv A outer s H vs Q E hr h => ?_)⟩
  · obtain ⟨a, kvs, t, v, rfl, _⟩ := h
    rfl
  · obtain ⟨a, kvs, t, v, rfl, h2, h3, h4⟩ := h
    refine ⟨_, pss_one (ps_ret (pe_star (pv 0) (pv 1) (pv 2))), fun d hd => ⟨_, rfl, ?_⟩⟩
    have na : a ≠ d := ne_of_none h2 hd
    refine ⟨a, kvs, rfl, by rw [upd_ne na]; exact h2, upd_same, na, h3, fun e he => ⟨_, rfl, _, rfl, .inl t, rfl, upd_same, ?_⟩⟩
    have ne : e ≠ d := fun z => by
      rw [z, upd_same] at he
      cases he
    have He : H e = none := by
      rw [upd_ne ne, upd_ne ne] at he
      exact he
    refine ⟨by rw [upd_ne (Ne.symm ne), upd_same], ne, h4 d _ hd (fun b o z => ?_) upd_same⟩
    rw [upd_ne (ne_of_none z hd), upd_ne (ne_of_none z He), upd_ne (ne_of_none z He), upd_ne (ne_of_none z hd), upd_ne (ne_of_none z hd)]
    exact z
/-! Population.keep -/
abbrev sKeep : Stmt := methS 28 7
theorem sc_keep : FnScope ["self", "trial", "member"] ["self", "trial", "member"] (defScope sKeep) := ⟨rfl, rfl, rfl, by decide +kernel, rfl, by decide +kernel, by decide +kernel⟩
theorem ok_keep (C : CsOk K cs) (R : RawM K cs.CP "keep" "Population.keep" sKeep) (D1 : Def P w K mg base "put" 1 ["known", "key", "value"] spPut) : MDef P w K mg base cs.CP "keep" 2 ["self", "trial", "member"] (spK K cs) := by
  obtain ⟨f, fd, h1, F⟩ := R
  refine ⟨f, fd, h1, F.binds (fun _ _ _ _ _ _ us hl => match us, hl with | [_, _, _], _ => rfl), F.okX sc_keep (fun vs H Q E h => ?_) (fun cdv A outer s H vs Q E hr h => ?_)⟩
  · obtain ⟨p, S, t, v, m, rfl, _⟩ := h
    rfl
  · obtain ⟨p, S, t, v, m, rfl, h2, h3, h4, h5⟩ := h
    obtain ⟨fp, fpd, m1, m2, m3, m4⟩ := D1
    obtain ⟨dx, dm, vt, vv, kvs, e1, e2, e3, e4, e5, e6⟩ := id h2
    refine ⟨_, pss_one (ps_fld (pv 0) (pe_call m4 hr rfl m1 m2 m3 .nil pass0 (pa_cons (pe_fld (pv 0) rfl) (pa_cons (pv 1) (pa_cons (pv 2) pa_nil)))) rfl), ?_⟩
    refine ⟨_, rfl, p, cs.CP, dx, _, .ref dm, rfl, e1, C.cP, C.nMe, rfl, _, rfl, _, rfl, dm, kvs, t, v, rfl, e4, by rw [e5.len]; omega, fun d H' n1 s1 d1 => ?_⟩
    refine ⟨_, rfl, p, cs.CP, dx, _, rfl, s1 _ _ e1, C.cP, C.nMe, show 4 < 1000 by decide, ?_⟩
    have ep := s1 _ _ e1
    have nk : (kvs.map (·.1)).Nodup := by
      rw [e5.keys]
      have hh := e6
      rw [show (S.mem.map fun p => (Sum.inl p.1 : Key)) = (S.mem.map (·.1)).map Sum.inl by rw [List.map_map]; rfl]
      exact List.Pairwise.map Sum.inl (fun a b ne z => ne (Sum.inl.inj z)) e6
    rw [putK_eq nk] at d1
    have dp : d ≠ p := fun z => by
      rw [z, ep] at d1
      cases d1
    refine h5 _ (fun a o z => ⟨fun na => ?_, fun z2 => ?_⟩) ⟨dx, d, vt, vv, _, upd_same, ?_, ?_, by rw [upd_ne dp]; exact d1, ?_, ?_⟩
    · rw [upd_ne (fun z3 => na (List.mem_singleton.mpr z3))]
      exact s1 _ _ z
    · by_cases q : a = p
      · rw [q, upd_same] at z2
        cases z2
      · rw [upd_ne q, s1 _ _ z] at z2
        cases z2
    · exact dp_keep (keepT_ins ep) _ _ (pureExs _) (dp_mono s1 _ _ e2)
    · exact dp_keep (keepT_ins ep) _ _ (pureExs _) (dp_mono s1 _ _ e3)
    · have stay : ∀ v m, InsF K cs.CM (memFs m) H' v → InsF K cs.CM (memFs m) (upd H' p (.ins cs.CP dx (putF "members" (.ref d) [("training", vt), ("validation", vv), ("members", .ref dm), ("spent", .int S.spent)]))) v := fun v m ⟨q, z1, dq, vs, z2, z3⟩ => by
        refine ⟨q, z1, dq, vs, ?_, z3.keep (keepT_ins ep)⟩
        rw [upd_ne (fun z4 => ?_)]
        · exact z2
        · rw [z4, ep] at z2
          exact C.ne (HO.ins.inj (Option.some.inj z2)).1
      exact ((e5.imp fun v m z => z.mono s1).put (h3.mono s1)).imp stay
    · exact putM_nodup t m e6
end
end TC
namespace TC
open PySem L2
theorem mul_one_tuple (l : Addr) (items : Array Value) (n : Nat) (dcd : Option Addr) (sl : Array (Option Value)) (u : Tok) :
    Meets (Builtin.«tuple.__mul__» ⟨[.ref l, .int 1 u], []⟩) (fun _ R s => s.heap.get? l = some { cls := .type "tuple", dict := dcd, data := .seq items n, slots := sl } ∧ R (.ok (.ret (Value.ref l))) s) := by
  refine .of_wp fun pg wd A R s h => ?_
  rcases s with ⟨hp, g, d, tk, os⟩
  obtain ⟨hl, h⟩ := h
  have f1 := AutoSeq1.idx_int
  wp_walk using AutoSeq1.wpAny_loadPart' hl
  exact ⟨_, rfl, h⟩
theorem dpAll_rep {K : PySem.W.Frag} {H : Hp} {v : V} {d : PyData} (h : Dp K H v d) : ∀ n : Nat, DpAll K H (List.replicate n v) (List.replicate n d)
  | 0 => .nil
  | n + 1 => .cons h (dpAll_rep h n)
section
variable {X : Cx} {Γ : G} {a b : Expr} {pos : Pos}
theorem op_repOne : OpR X (binaryOp .Mult) (fun x y H Q => ∃ l xs, x = .ref l ∧ y = .int 1 ∧ SqT X.K H l xs ∧ Q (.ref l) H) := by
  intro pins s σ H x y
  intro v u Q I rx ry h
  obtain ⟨l, xs, rfl, rfl, hT, q⟩ := h
  cases rx
  obtain ⟨t, rfl⟩ := ry
  obtain ⟨tis, r, ⟨⟨cls, dcd, data, sl⟩, ho, hc, n, hd⟩, hs⟩ := I.tuple hT
  simp only at hc hd
  subst hc hd
  refine wpAny_binaryOp_repeat_ref (T := "tuple") (U := "int") (by decide) ⟨_, ho, rfl⟩ (fun s' => typeIs_int s' 1 t) noFill_tuple_mul F.fills_int_mul F.slot_int_rmul repeat_tuple F.slot_int_index.lookup
    (call_meets F.slot_int_rmul (typeIs_int s 1 t) F.entry_int_rmul (F.args_int_rmul_2 _ _) (int_rmul_tuple 1 t l tis.toArray n dcd sl)
      ⟨ho, rfl, ⟨_, ho, rfl⟩, call_meets F.slot_tuple_mul ⟨_, ho, rfl⟩ F.entry_tuple_mul (F.args_tuple_mul_2 _ _) (mul_one_tuple l tis.toArray n dcd sl t) ⟨ho, ?_⟩⟩)
  exact ⟨.ref l, H, I, rfl, q⟩
theorem xe_rep1 {d : PyData} {n : Nat} (ha : XE X a Γ (.tuple [d])) (hb : XE X b Γ (.int (n : Int))) (h1 : 1 ≤ n) (h2 : n ≤ 1000) : XE X (.BinOp a .Mult b pos) Γ (.tuple (List.replicate n d)) := by
  by_cases e : n = 1
  · subst e
    refine pe_imp (pe_op op_repOne ha hb) fun σ H Q ⟨⟨Hb, H0, E⟩, k⟩ => ⟨⟨Hb, H0, E⟩, fun v1 H1 s1 q1 => ⟨⟨Hb, H0, E.mono s1⟩, fun v2 H2 s2 q2 => ?_⟩⟩
    cases q2
    cases q1 with
    | tup hs ha => exact ⟨_, _, rfl, rfl, seqT_mono s2 hs, k _ H2 (s1.trans s2) (dp_mono s2 _ _ (.tup hs ha))⟩
  · refine pe_imp (pe_op op_repT ha hb) fun σ H Q ⟨⟨Hb, H0, E⟩, k⟩ => ⟨⟨Hb, H0, E⟩, fun v1 H1 s1 q1 => ⟨⟨Hb, H0, E.mono s1⟩, fun v2 H2 s2 q2 => ?_⟩⟩
    cases q2
    cases q1 with
    | @tup l xs _ hs ha =>
      cases ha with
      | @cons v _ _ _ h3 h4 =>
        cases h4
        refine ⟨l, (n : Int), _, rfl, rfl, seqT_mono s2 hs, (fun z => nomatch z), by omega, by omega, show 1 ≤ 1000 by decide, fun p hp => ?_⟩
        rw [Int.toNat_natCast, List.flatten_replicate_singleton]
        have s3 : Same H2 (upd H2 p (.tup (List.replicate n v))) := fun b o z => by rw [upd_ne (ne_of_none z hp)]; exact z
        exact k (.ref p) _ ((s1.trans s2).trans s3) (.tup (.inl (.inl upd_same)) (dpAll_rep (dp_mono (s2.trans s3) _ _ h3) n))
end
end TC
namespace TC
open PySem L2
theorem pureSet (s : Set2) : pureD (dSet s) = true := rfl
theorem pureNow (n : Now) : pureD (dNow n) = true := by
  show ((true && (pureAll (n.st.map dStr3) && true)) && (pureAll (n.ws.map PyData.int) && true)) = true
  rw [pureAll_map pureStr3, pure_ints]
  rfl
theorem pureON (o : Option Now) : pureD (dON o) = true := by
  cases o with
  | none => rfl
  | some n => exact pureNow n
theorem pureOP (o : Option (Int × Int)) : pureD (dOP o) = true := by cases o <;> rfl
theorem pureOI (o : Option Int) : pureD (dOI o) = true := by cases o <;> rfl
theorem pureHome (m : Mem) : pureD (dHome m) = true := by
  show (true && (pureD (dNow m.hnow) && (pureD (dOP m.hpair) && true))) = true
  rw [pureNow, pureOP]
  rfl
theorem pureShelf (l : List (Option Now)) : pureD (.tuple (l.map dON)) = true := pureAll_map pureON l
section
variable {P : Program} {w : World} {K : PySem.W.Frag} {mg : Str → Option Value} {base : Heap} {cs : Cs}
/-! Member.__init__ -/
abbrev sMI : Stmt := methS 27 0
def RawMk (K : PySem.W.Frag) (mg : Str → Option Value) (C : Addr) (nm qual : Str) (st : Stmt) : Prop := ∃ f fd, mg nm = some (.ref C) ∧ Mk K C f ∧ Fun K "__init__" qual st f fd
def MkDef (P : Program) (w : World) (K : PySem.W.Frag) (mg : Str → Option Value) (base : Heap) (C : Addr) (nm : Str) (k : Nat) (ps : List Str) (sp : Sp) : Prop :=
  ∃ f fd, mg nm = some (.ref C) ∧ Mk K C f ∧ Binds K fd ps [] ∧ FnOk P w K mg base CX0 k f fd ps sp
def spMI (K : PySem.W.Frag) (cs : Cs) : Sp := fun vs H Q E => ∃ B x dx set now v1 v2, vs = [.ref x, v1, v2] ∧ H = upd B x (.ins cs.CM dx []) ∧ B x = none ∧ Dp K B v1 (dSet set) ∧ Dp K B v2 (dNow now) ∧ ∀ H', Same B H' → InsAt K H' x cs.CM (memFs (newMem set now)) → Q .non H'
theorem sc_mi : FnScope ["self", "settings", "now"] ["self", "settings", "now"] (defScope sMI) := ⟨rfl, rfl, rfl, by decide +kernel, rfl, by decide +kernel, by decide +kernel⟩
theorem slots3 {g1 g2 : PyData} {i : Nat} {d : PyData} : ([SV.n, SV.b g1, SV.b g2] : G)[i]? ≠ some (SV.c d) := by
  intro h
  match i, h with
  | 0, h => cases h
  | 1, h => cases h
  | 2, h => cases h
  | i + 3, h => simp at h
theorem ok_mi (C : CsOk K cs) (R : RawMk K mg cs.CM "Member" "Member.__init__" sMI) : MkDef P w K mg base cs.CM "Member" 1 ["self", "settings", "now"] (spMI K cs) := by
  obtain ⟨f, fd, h1, M, F⟩ := R
  refine ⟨f, fd, h1, M, F.binds (fun _ _ _ _ _ _ us hl => match us, hl with | [_, _, _], _ => rfl), F.ok sc_mi (fun vs H Q E h => ?_) (fun cdv A outer s H vs Q E hr h => ?_)⟩
  · obtain ⟨B, x, dx, set, now, v1, v2, rfl, _⟩ := h
    rfl
  · obtain ⟨B, x, dx, set, now, v1, v2, rfl, rfl, fr, d1, d2, k⟩ := h
    have hc : ∀ (i : Nat) (d : PyData), ([SV.n, SV.b (dSet set), SV.b (dNow now)] : G)[i]? ≠ some (SV.c d) := fun i d => slots3
    refine ⟨_, pi_cons (Hb := ⟨B, [], fun _ _ _ => False, default⟩) (B := B) (Γ := [.n, .b (dSet set), .b (dNow now)]) (x := x) (C := cs.CM) (fs := []) (pi_fld rfl hc xe_int rfl (of_decide_eq_true rfl) C.cM C.nIn)
      (pi_cons (pi_fld rfl hc (xe_var 1 rfl) (pureSet set) (of_decide_eq_true rfl) C.cM C.nSe)
      (pi_cons (pi_fld rfl hc (xe_var 2 rfl) (pureNow now) (of_decide_eq_true rfl) C.cM C.nNo)
      (pi_cons (pi_fld rfl hc xe_non rfl (of_decide_eq_true rfl) C.cM C.nSc)
      (pi_cons (pi_fld rfl hc (xe_tup xa_nil (by decide)) rfl (of_decide_eq_true rfl) C.cM C.nSh)
      (pi_cons (pi_fld rfl hc (xe_tup (xa_cons (xe_var 1 rfl) (xa_cons (xe_var 2 rfl) (xa_cons xe_non xa_nil))) (show 3 ≤ 10000000 by decide)) (pureHome (newMem set now)) (of_decide_eq_true rfl) C.cM C.nHo)
      (pi_cons (pi_fld rfl hc xe_bl rfl (of_decide_eq_true rfl) C.cM C.nSt) pi_nil)))))), ?_⟩
    have sB : Same B (upd B x (.ins cs.CM dx [])) := fun b o z => by rw [upd_ne (ne_of_none z fr)]; exact z
    refine ⟨⟨⟨Off.refl _, sB, rfl, fun i g hg => ?_⟩, rfl, fr, dx, [], upd_same, trivial⟩, fun H' I => k H' (I.env.sb.same.trans I.env.s0) I.at_⟩
    match i, hg with
    | 0, hg => exact ⟨_, rfl, by cases hg; trivial⟩
    | 1, hg => cases hg; exact ⟨_, rfl, _, rfl, d1⟩
    | 2, hg => cases hg; exact ⟨_, rfl, _, rfl, d2⟩
    | i + 3, hg => simp at hg
end
section
variable {X : Cx} {Hb : Bs} {Γ : G} {a b : Expr} {px pos : Pos} {cs : Cs} {set : Set2} {now : Now}
/-- Member(..) -/
theorem xr_member {k : Nat} {ps : List Str} (M : MkDef X.prog X.w X.K X.mg X.base cs.CM "Member" k ps (spMI X.K cs)) (hr : Room (k + 1) X.A) (ha : XE X a Γ (dSet set)) (hb : XE X b Γ (dNow now)) (hg : Gl X "Member" := by rfl)
    (he : starEach [a, b] X.env = (false, eval a X.env) :: starEach [b] X.env := by rfl) (he2 : starEach [b] X.env = (false, eval b X.env) :: starEach [] X.env := by rfl) (hpl : (backTo pos (starEach [b] X.env)).any (·.1) = false := by rfl) : XR X Hb (.Call (.Name "Member" px) [a, b] [] pos) Γ (.w cs.CM (memFs (newMem set now))) := by
  obtain ⟨f, fd, h1, h2, h3, h4⟩ := M
  refine pe_imp (pe_make (E := fun _ _ _ => False) h2 h4 hr hg h1 h3 .nil pass0 (pa_cons ha (pa_cons hb pa_nil he2) he) (by decide) he hpl) fun σ H Q ⟨⟨H0, E⟩, q⟩ => ⟨⟨Hb, H0, E⟩, fun v1 H1 s1 q1 => ⟨⟨Hb, H0, E.mono s1⟩, fun v2 H2 s2 q2 x dx nx ndx ne => ?_⟩⟩
  have sB : Same H2 (upd H2 dx (.own x)) := fun b o z => by rw [upd_ne (ne_of_none z ndx)]; exact z
  have xB : upd H2 dx (.own x) x = none := by rw [upd_ne (Ne.symm ne)]; exact nx
  refine ⟨_, x, dx, set, now, v1, v2, rfl, rfl, xB, dp_mono (s2.trans sB) _ _ q1, dp_mono sB _ _ q2, fun H' s3 at_ => ⟨rfl, ?_⟩⟩
  exact q x H' ((s1.trans s2).free nx) (((s1.trans s2).trans sB).trans s3) at_
end
section
variable {P : Program} {w : World} {K : PySem.W.Frag} {mg : Str → Option Value} {base : Heap} {cs : Cs}
/-! Member.twin -/
abbrev sTwin : Stmt := methS 27 2
def spTw (K : PySem.W.Frag) (cs : Cs) : Sp := fun vs H Q E => ∃ v m, vs = [v] ∧ InsF K cs.CM (memFs m) H v ∧ ∀ q H', H q = none → Same H H' → InsAt K H' q cs.CM (memFs m) → Q (.ref q) H'
theorem sc_twin : FnScope ["self", "found"] ["self"] (defScope sTwin) := ⟨rfl, rfl, rfl, by decide +kernel, rfl, by decide +kernel, by decide +kernel⟩
theorem ok_twin (C : CsOk K cs) (R : RawM K cs.CM "twin" "Member.twin" sTwin) (D1 : MkDef P w K mg base cs.CM "Member" 1 ["self", "settings", "now"] (spMI K cs)) : MDef P w K mg base cs.CM "twin" 3 ["self"] (spTw K cs) := by
  obtain ⟨f, fd, h1, F⟩ := R
  refine ⟨f, fd, h1, F.binds (fun _ _ _ _ _ _ us hl => match us, hl with | [_], _ => rfl), F.okX sc_twin (fun vs H Q E h => ?_) (fun cdv A outer s H vs Q E hr h => ?_)⟩
  · obtain ⟨v, m, rfl, _⟩ := h
    rfl
  · obtain ⟨v, m, rfl, h2, h3⟩ := h
    have body : XSs (mcx P w K mg base ["self", "found"] "Member.twin" sTwin f cdv A outer s H E) ⟨H, [], E, cs.DF⟩ (defBody sTwin) [.x (InsF K cs.CM (memFs m)), .n] (fun _ => False) (fun q _ => q = .w cs.CM (memFs m)) := by
      refine xss_cons (xs_setRw 1 (xr_member D1 (hr.mono (by decide)) (xe_attrI 0 rfl rfl C.cM C.nSe) (xe_attrI 0 rfl rfl C.cM C.nNo)) rfl ?_ sc_twin.nd)
      refine xss_cons (xs_attrW 1 rfl (xe_attrI 0 rfl rfl C.cM C.nIn) rfl (of_decide_eq_true rfl) C.cM C.nIn ?_)
      refine xss_cons (xs_attrW 1 rfl (xe_attrI 0 rfl rfl C.cM C.nSc) (pureOI _) (of_decide_eq_true rfl) C.cM C.nSc ?_)
      refine xss_cons (xs_attrW 1 rfl (xe_attrI 0 rfl rfl C.cM C.nSh) (pureShelf _) (of_decide_eq_true rfl) C.cM C.nSh ?_)
      refine xss_cons (xs_attrW 1 rfl (xe_attrI 0 rfl rfl C.cM C.nHo) (pureHome _) (of_decide_eq_true rfl) C.cM C.nHo ?_)
      refine xss_cons (xs_attrW 1 rfl (xe_attrI 0 rfl rfl C.cM C.nSt) rfl (of_decide_eq_true rfl) C.cM C.nSt ?_)
      exact xss_one (xs_retW 1 rfl rfl)
    refine ⟨_, body, ⟨H, ⟨Off.refl _, Same.refl _, rfl, fun i g hg => ?_⟩⟩, fun Γ' σ' H' H0 kt e n => n.elim, ⟨fun _ _ _ _ _ _ _ _ z => (nomatch z), fun _ _ _ _ _ _ _ _ _ _ _ z => (nomatch z), fun Γ' σ' q C' fs H' H0 e n0 a z => ?_, fun _ _ _ _ _ _ _ _ z => (nomatch z), fun _ _ _ _ _ _ _ _ z => (nomatch z)⟩⟩
    · match i, hg with
      | 0, hg => cases hg; exact ⟨_, rfl, _, rfl, fun H1 s1 => h2.mono s1⟩
      | 1, hg => cases hg; exact ⟨_, rfl, trivial⟩
      | i + 2, hg => simp at hg
    · cases z
      exact h3 q H' (e.sb.same.free n0) (e.sb.same.trans e.s0) a
end
end TC
namespace TC
open PySem L2
section
variable {X : Cx} {Hb : Bs} {Γ : G} {a b e : Expr} {px pos apos : Pos} {cs : Cs} {fs : List (Str × PyData)} {F : Hp → V → Prop} {r : Rk} {x : Str} {d : PyData} {p : Addr} {S : PopM} {s : Str}
theorem xr_of {C : Addr} (h : PE X e (fun σ H Q => (∃ Hb H0, EnvOk X.K Hb H0 H σ Γ) ∧ ∀ v H', Same H H' → InsF X.K C fs H' v → Q v H')) : XR X Hb e Γ (.v (InsF X.K C fs)) :=
  pe_imp h fun σ H Q ⟨⟨H0, E⟩, k⟩ => ⟨⟨Hb, H0, E⟩, k⟩
theorem xv_of {C : Addr} (h : XR X Hb e Γ (.w C fs)) : XV X Hb e Γ C fs :=
  pe_imp h fun σ H Q ⟨E, k⟩ => ⟨E, fun q H' n s1 at_ => k _ H' s1 ⟨q, rfl, at_⟩⟩
/-- o.twin(), o gives a member or raises -/
theorem xr_twin {pl : Sem Bool} {m : Mem} {k : Nat} {ps : List Str} (C : CsOk X.K cs) (M : MDef X.prog X.w X.K X.mg X.base cs.CM "twin" k ps (spTw X.K cs)) (hr : Room k X.A) (hx : Passes (L2.CX X.prog X.w) X Hb.E) (ho : XR X Hb e Γ (.v (InsF X.K cs.CM (memFs m)))) (ht : MSh X e "twin" apos pos [] pl := by rfl) : XR X Hb (.Call (.Attribute e "twin" apos) [] [] pos) Γ (.w cs.CM (memFs m)) := by
  obtain ⟨f, fd, h1, h2, h3⟩ := M
  refine pe_imp (pe_meth0 (dvs := []) ho C.cM h1 h3 hr h2 .nil hx ht) fun σ H Q ⟨⟨H0, E⟩, k⟩ => ⟨⟨H0, E⟩, fun v H1 s1 q1 => ?_⟩
  obtain ⟨a, rfl, dx, vs, e1, fl⟩ := id q1
  exact ⟨a, dx, vs, rfl, e1, fl.none rfl, _, m, rfl, q1, fun q H' n s2 at_ => k q H' (s1.free n) (s1.trans s2) at_⟩
theorem xr_twinX {pl : Sem Bool} {k : Nat} {ps : List Str} (C : CsOk X.K cs) (M : MDef X.prog X.w X.K X.mg X.base cs.CM "twin" k ps (spTw X.K cs)) (hr : Room k X.A) (hx : Passes (L2.CX X.prog X.w) X Hb.E) (ho : XR X Hb e Γ (.x s)) (ht : MSh X e "twin" apos pos [] pl := by rfl) : XR X Hb (.Call (.Attribute e "twin" apos) [] [] pos) Γ (.x s) := by
  obtain ⟨f, fd, h1, h2, h3⟩ := M
  exact pe_imp (pe_meth0 (dvs := []) ho C.cM h1 h3 hr h2 .nil hx ht) fun σ H Q ⟨⟨H0, E⟩, k⟩ => ⟨⟨H0, E⟩, k⟩
theorem xr_var (i : Nat) (hl : Γ[i]? = some (.x F)) (hN : X.N[i]? = some x := by rfl) (hv : Vis X.env.scope x := by first | exact Or.inl rfl | exact Or.inr (Or.inl rfl) | exact Or.inr (Or.inr rfl)) (hd : (x == ("__debug__" : Str)) = false := by decide)
    (hcd : (x == ("__classdict__" : Str)) = false := by decide) : XR X Hb (.Name x px) Γ (.v F) :=
  pe_imp (pv i hN hv hd hcd) fun σ H Q ⟨⟨H0, E⟩, k⟩ => by
    obtain ⟨ov, h1, v, rfl, h2⟩ := E.sl i _ hl
    exact ⟨_, h1, k v H (Same.refl H) (h2 H E.s0)⟩
/-- o.f, o a member that is looked up -/
theorem xe_fldV {C : Addr} {f : Str} (h : PE X e (fun σ H Q => (∃ Hb H0, EnvOk X.K Hb H0 H σ Γ) ∧ ∀ v H', Same H H' → InsF X.K C fs H' v → Q v H')) (hf : fs.lookup f = some d) (cl : Cls X.K C) (na : NoAttr X.K C f) (hb : attributeBase e f X.env (eval e X.env) = eval e X.env := by rfl) : XE X (.Attribute e f pos) Γ d :=
  pe_imp (pe_fld h hb) fun σ H Q ⟨E, k⟩ => ⟨E, fun v H' s1 q => by
    obtain ⟨a, C', dx, vs, u, e1, e2, e3, e4, e5, e6⟩ := insF_attr (X := X) q hf cl na
    exact ⟨a, C', dx, vs, u, e1, e2, e3, e4, e5, k u H' s1 e6⟩⟩
end
section
variable {P : Program} {w : World} {K : PySem.W.Frag} {mg : Str → Option Value} {base : Heap} {cs : Cs}
/-! member -/
abbrev sMember : Stmt := methS 28 4
def exV (K : PySem.W.Frag) (cs : Cs) : Except Str Mem → Rk
  | .ok m => .v (InsF K cs.CM (memFs m))
  | .error s => .x s
def exW (cs : Cs) : Except Str Mem → Rk
  | .ok m => .w cs.CM (memFs m)
  | .error s => .x s
def pMember (K : PySem.W.Frag) (cs : Cs) (S : PopM) (ds : List PyData) (r : Rk) : Prop := ∃ t, ds = [.int t] ∧ r = exV K cs (memberM S t)
theorem sc_member : FnScope ["self", "trial"] ["self", "trial"] (defScope sMember) := ⟨rfl, rfl, rfl, by decide +kernel, rfl, by decide +kernel, by decide +kernel⟩
theorem ok_member (C : CsOk K cs) (Z : RzOk P w K mg base cs) (R : RawM K cs.CP "member" "Population.member" sMember) : MDef P w K mg base cs.CP "member" 4 ["self", "trial"] (spN K cs 1 (pMember K cs)) := by
  refine mdef_N R sc_member rfl (by decide) (fun _ _ _ _ _ _ us hl => match us, hl with | [_, _], _ => rfl) fun f cdv A outer s H E p S ds r hr tk hp hl hpu => ?_
  obtain ⟨t, rfl, rfl⟩ := hp
  unfold memberM
  refine xss_cons (xs_if (xt_notinMem C (hu_of hr) 0 rfl (xe_var 1 rfl)) (fun hk => ?_) fun hk => xss_nil ?_)
  · cases q : lookM S.mem t with
    | none => exact xss_one (xs_raise Z tk hr rfl rfl)
    | some m => rw [q] at hk; cases hk
  · cases q : lookM S.mem t with
    | none => rw [q] at hk; cases hk
    | some m => exact xss_one (xs_retRv (xr_of (xr_mem C (hu_of hr) 0 rfl (xe_var 1 rfl) q)) rfl)
/-! running -/
abbrev sRunning : Stmt := methS 28 5
def pRunning (cs : Cs) (S : PopM) (ds : List PyData) (r : Rk) : Prop := ∃ t, ds = [.int t] ∧ r = exW cs (runningM S t)
theorem sc_running : FnScope ["self", "trial", "member"] ["self", "trial"] (defScope sRunning) := ⟨rfl, rfl, rfl, by decide +kernel, rfl, by decide +kernel, by decide +kernel⟩
theorem ok_running (C : CsOk K cs) (Z : RzOk P w K mg base cs) (R : RawM K cs.CP "running" "Population.running" sRunning) (D1 : MDef P w K mg base cs.CP "member" 4 ["self", "trial"] (spN K cs 1 (pMember K cs))) (D2 : MDef P w K mg base cs.CM "twin" 3 ["self"] (spTw K cs)) :
    MDef P w K mg base cs.CP "running" 5 ["self", "trial"] (spN K cs 1 (pRunning cs)) := by
  refine mdef_N R sc_running rfl (by decide) (fun _ _ _ _ _ _ us hl => match us, hl with | [_, _], _ => rfl) fun f cdv A outer s H E p S ds r hr tk hp hl hpu => ?_
  obtain ⟨t, rfl, rfl⟩ := hp
  have hx := passes_call (E := E) tk (fun _ _ _ _ h => h)
  unfold runningM
  cases q : memberM S t with
  | error z => exact xss_cons (xs_setX (i := 2) (xr_meth C 0 rfl D1 hr hx rfl (xa_cons (xe_var 1 rfl) xa_nil) rfl ⟨t, rfl, by rw [q]; rfl⟩) rfl sc_running.nd)
  | ok m =>
    refine xss_cons (xs_setRv 2 (F := InsF K cs.CM (memFs m)) (xr_meth C 0 rfl D1 hr hx rfl (xa_cons (xe_var 1 rfl) xa_nil) rfl ⟨t, rfl, by rw [q]; rfl⟩) (fun _ _ _ z s1 => z.mono s1) rfl ?_ sc_running.nd)
    refine xss_cons (xs_if (xt_val (xe_attrI 2 rfl rfl C.cM C.nSt)) (fun hk => ?_) fun hk => xss_nil ?_)
    · dsimp only
      rw [if_pos hk]
      exact xss_one (xs_raise Z tk (hr.mono (by decide)) rfl rfl)
    · dsimp only
      rw [if_neg (by rw [hk]; exact fun z => nomatch z)]
      exact xss_one (xs_retRw (xr_twin C D2 (hr.mono (by decide)) hx (xr_var 2 rfl)) rfl)
/-! present -/
abbrev sPresent : Stmt := methS 28 6
def pPresent (cs : Cs) (S : PopM) (ds : List PyData) (r : Rk) : Prop := ∃ t i, ds = [.int t, .int i] ∧ r = exW cs (presentM S t i)
theorem sc_present : FnScope ["self", "trial", "incarnation", "member"] ["self", "trial", "incarnation"] (defScope sPresent) := ⟨rfl, rfl, rfl, by decide +kernel, rfl, by decide +kernel, by decide +kernel⟩
theorem ok_present (C : CsOk K cs) (Z : RzOk P w K mg base cs) (R : RawM K cs.CP "present" "Population.present" sPresent) (D1 : MDef P w K mg base cs.CP "running" 5 ["self", "trial"] (spN K cs 1 (pRunning cs))) :
    MDef P w K mg base cs.CP "present" 6 ["self", "trial", "incarnation"] (spN K cs 2 (pPresent cs)) := by
  refine mdef_N R sc_present rfl (by decide) (fun _ _ _ _ _ _ us hl => match us, hl with | [_, _, _], _ => rfl) fun f cdv A outer s H E p S ds r hr tk hp hl hpu => ?_
  obtain ⟨t, i, rfl, rfl⟩ := hp
  have hx := passes_call (E := E) tk (fun _ _ _ _ h => h)
  unfold presentM
  cases q : runningM S t with
  | error z => exact xss_cons (xs_setX (i := 3) (xr_meth C 0 rfl D1 hr hx rfl (xa_cons (xe_var 1 rfl) xa_nil) rfl ⟨t, rfl, by rw [q]; rfl⟩) rfl sc_present.nd)
  | ok m =>
    refine xss_cons (xs_setRw 3 (C := cs.CM) (fs := memFs m) (xr_meth C 0 rfl D1 hr hx rfl (xa_cons (xe_var 1 rfl) xa_nil) rfl ⟨t, rfl, by rw [q]; rfl⟩) rfl ?_ sc_present.nd)
    refine xss_cons (xs_if (xt_neS (xe_attrW 3 rfl rfl C.cM C.nIn) (xe_var 2 rfl) rfl) (fun hk => ?_) fun hk => xss_nil ?_)
    · have hk : (!decide (m.inc = i)) = true := hk
      have ne : ¬ m.inc = i := by simpa using hk
      dsimp only
      rw [if_neg ne]
      exact xss_one (xs_raise Z tk (hr.mono (by decide)) rfl rfl)
    · have hk : (!decide (m.inc = i)) = false := hk
      have eq : m.inc = i := by simpa using hk
      dsimp only
      rw [if_pos eq]
      exact xss_one (xs_retW 3 rfl rfl)
/-! state_saved -/
abbrev sSaved : Stmt := methS 28 8
def pSaved (S : PopM) (ds : List PyData) (r : Rk) : Prop := ∃ t x, ds = [.int t, .int x] ∧ (shelfOf S t).length ≤ 1000000 ∧ r = (match savedM S t x with | .ok n => .d (dNow n) | .error s => .x s)
theorem sc_saved : FnScope ["self", "trial", "index", "shelf"] ["self", "trial", "index"] (defScope sSaved) := ⟨rfl, rfl, rfl, by decide +kernel, rfl, by decide +kernel, by decide +kernel⟩
theorem ok_saved (C : CsOk K cs) (B : Bi mg) (Z : RzOk P w K mg base cs) (R : RawM K cs.CP "state_saved" "Population.state_saved" sSaved) : MDef P w K mg base cs.CP "state_saved" 4 ["self", "trial", "index"] (spN K cs 2 pSaved) := by
  refine mdef_N R sc_saved rfl (by decide) (fun _ _ _ _ _ _ us hl => match us, hl with | [_, _, _], _ => rfl) fun f cdv A outer s H E p S ds r hr tk hp hl hpu => ?_
  obtain ⟨t, x, rfl, hz, rfl⟩ := hp
  refine xss_cons (xs_set 3 (d := .tuple ((shelfOf S t).map dON)) (xe_ifE (xt_inMem C (hu_of hr) 0 rfl (xe_var 1 rfl)) (fun hk => ?_) fun hk => ?_) ?_ sc_saved.nd)
  · unfold shelfOf
    cases q : lookM S.mem t with
    | none => rw [q] at hk; cases hk
    | some m => exact xe_fldV (xr_mem C (hu_of hr) 0 rfl (xe_var 1 rfl) q) rfl C.cM C.nSh
  · unfold shelfOf
    cases q : lookM S.mem t with
    | none => exact xe_tup xa_nil (by decide)
    | some m => rw [q] at hk; cases hk
  have hlen : (((shelfOf S t).map dON).length : Int) = ((shelfOf S t).length : Int) := by rw [List.length_map]
  unfold savedM
  by_cases hr1 : 0 ≤ x ∧ x < (shelfOf S t).length
  · rw [if_pos hr1]
    have hix : ∀ {X : Cx} {Γ : G} {e1 e2 : Expr} {pos : Pos}, XE X e1 Γ (.tuple ((shelfOf S t).map dON)) → XE X e2 Γ (.int x) → PlainIx e2 → XE X (.Subscript e1 e2 pos) Γ (dON ((shelfOf S t).getD x.toNat none)) := fun {X Γ e1 e2 pos} h1 h2 h3 => xe_ixTm (f := dON) (xs := shelfOf S t) none h1 h2 hr1 h3
    refine xss_cons (xs_if (xt_w (xw_or (xt_not (xt_chain op_le op_lt rd_le rd_lt xe_int (xe_var 2 rfl) (xe_eq (xe_lenT B.len (xe_var 3 rfl)) (by rw [hlen])))) (fun _ => xw_or1 (xt_isN (hix (xe_var 3 rfl) (xe_var 2 rfl) (fun _ _ => rfl)))))) (fun hk => ?_) fun hk => xss_nil ?_)
    · rw [decide_eq_true hr1.1, decide_eq_true hr1.2] at hk
      cases q : (shelfOf S t).getD x.toNat none with
      | none => exact xss_one (xs_raise Z tk (hr.mono (by decide)) rfl rfl)
      | some n => rw [q] at hk; exact absurd hk (by show ¬ (false || false) = true; decide)
    · rw [decide_eq_true hr1.1, decide_eq_true hr1.2] at hk
      cases q : (shelfOf S t).getD x.toNat none with
      | none => rw [q] at hk; exact absurd hk (by show ¬ (false || true) = false; decide)
      | some n => exact xss_one (xs_ret (xe_eq (hix (xe_var 3 rfl) (xe_var 2 rfl) (fun _ _ => rfl)) (by rw [q]; rfl)) rfl)
  · rw [if_neg hr1]
    refine xss_cons (xs_ifT (xt_w (xw_or (l := true) (xt_not (xt_chain op_le op_lt rd_le rd_lt xe_int (xe_var 2 rfl) (xe_eq (xe_lenT B.len (xe_var 3 rfl)) (by rw [hlen])))) (fun z => ?_))) ?_ (xss_one (xs_raise Z tk (hr.mono (by decide)) rfl rfl)))
    · rw [Bool.not_eq_false', Bool.and_eq_true] at z
      exact absurd ⟨of_decide_eq_true z.1, of_decide_eq_true z.2⟩ hr1
    · rw [Bool.or_true]
end
end TC
namespace TC
open PySem L2
theorem demote_c {d : PyData} (h : pureD d = true) : demote (.c d) = .c d := if_pos h
/-- o.f as a target -/
def gAttr (K : PySem.W.Frag) (to : TE) (f : Str) : TG := fun v σ H Q => to σ H fun x H1 => ∃ a C dx fs, x = .ref a ∧ H1 a = some (.ins C dx fs) ∧ Cls K C ∧ NoAttr K C f ∧ fs.length < 1000 ∧ Q σ (upd H1 a (.ins C dx (putF f v fs)))
theorem pg_attr {X : Cx} {o : Expr} {f : Str} {pos : Pos} {to : TE} (ho : PE X o to) : PG X (.Attribute o f pos) (gAttr X.K to f) := by
  constructor
  intro pins s σ H v u Q I r h
  rw [assign_Attribute]
  refine wpAny_bind (wpAny_holding (thn (ho.run pins s σ H _ I h) fun ov s1 ⟨x, H1, I1, rx, a, C, dx, fs, ex, ea, c, n, l, q1⟩ => ?_))
  subst ex
  rcases (show ov = Value.ref a from rx) with rfl
  refine wpAny_bind (wpAny_standAt (wpAny_bind (wpAny_holding (setattr_ok I1 ea c n l r fun s3 I3 => ?_))))
  exact wpAny_release ⟨σ, _, I3, q1⟩
section
variable {X : Cx} {Hb : Bs} {Γ : G} {N : G → Prop} {R : Rk → G → Prop} {a b e : Expr} {px py pa pb pos apos tpos : Pos} {cs : Cs} {fs : List (Str × PyData)} {x f g : Str} {d d1 d2 : PyData} {p : Addr} {S : PopM} {C : Addr} {k : Nat} {sts : List Stmt}
theorem xss_eqG {Γ2 : G} (h : XSs X Hb sts Γ2 N R) (e : Γ = Γ2) : XSs X Hb sts Γ N R := by
  rw [e]
  exact h
/-- x.f, x.g = e -/
theorem xs_attr2W (i : Nat) (hl : Γ[i]? = some (.w C fs)) (he : XE X e Γ (.tuple [d1, d2])) (hp1 : pureD d1 = true) (hp2 : pureD d2 = true) (hz : fs.length < 1000) (hz2 : (putD f d1 fs).length < 1000) (cl : Cls X.K C) (na : NoAttr X.K C f) (na2 : NoAttr X.K C g) (hc : X.calm = true)
    (h : N ((((Γ.map demote).set i (.w C (putD f d1 fs))).map demote).set i (.w C (putD g d2 (putD f d1 fs))))) (hN : X.N[i]? = some x := by rfl)
    (hv : Vis X.env.scope x := by first | exact Or.inl rfl | exact Or.inr (Or.inl rfl) | exact Or.inr (Or.inr rfl)) (hd : (x == ("__debug__" : Str)) = false := by decide) (hcd : (x == ("__classdict__" : Str)) = false := by decide)
    (hs : swapsWithSole [.Tuple [.Attribute (.Name x px) f pa, .Attribute (.Name x py) g pb] k tpos] e pos.line X.env = pure false := by rfl) (hw : swappedStores [.Tuple [.Attribute (.Name x px) f pa, .Attribute (.Name x py) g pb] k tpos] e X.env = pure none := by rfl) :
    XS X Hb (.Assign [.Tuple [.Attribute (.Name x px) f pa, .Attribute (.Name x py) g pb] k tpos] e pos) Γ N R := by
  refine ps_imp (ps_asg he (pg_tup (n := 2) hc (pgs_cons (pg_attr (pv i hN hv hd hcd)) (pgs_cons (pg_attr (pv i hN hv hd hcd)) pgs_nil))) hs hw) fun D σ H q => ?_
  obtain ⟨H0, E⟩ := q.1
  refine ⟨⟨Hb, H0, E⟩, fun v H1 s1 q1 => ?_⟩
  have E1 := E.mono s1
  obtain ⟨ov, h1, r, dx, vs, rfl, n0, e1, fl⟩ := E1.sl i _ hl
  cases q1 with
  | @tup t xs _ hs ha =>
    cases ha with
    | cons h3 h4 =>
      cases h4 with
      | cons h5 h6 =>
        cases h6
        refine ⟨t, _, rfl, hs, rfl, _, _, rfl, ⟨_, h1, r, C, dx, vs, rfl, e1, cl, na, by rw [fl.len]; exact hz, ?_⟩⟩
        have k1 : ∀ o, KeepT X.K H1 (upd H1 r o) := fun o => keepT_ins e1
        have E2 := E1.changeI h1 n0 e1 (FldsD.put (f := f) h3 hp1 fl)
        have fl2 := fun o => (FldsD.put (f := f) h3 hp1 fl).keep (k1 o)
        refine ⟨_, _, rfl, ⟨_, h1, r, C, dx, _, rfl, upd_same, cl, na2, by rw [(fl2 (.ins C dx [])).len]; exact hz2, rfl, ?_⟩⟩
        exact q.2.1 _ _ _ H0 (((KeepT.of s1).trans (k1 _)).trans (keepT_ins upd_same)) (E2.changeI h1 n0 upd_same ((fl2 _).put (dp_keep (k1 _) _ _ hp2 h5) hp2)) h
/-- x.f += e (ints), x an own instance -/
theorem xs_augW (i : Nat) {m n : Int} (hl : Γ[i]? = some (.w C fs)) (hf : fs.lookup f = some (.int m)) (he : XE X e Γ (.int n)) (hz : fs.length < 1000) (cl : Cls X.K C) (na : NoAttr X.K C f) (h : N ((Γ.map demote).set i (.w C (putD f (.int (m + n)) fs)))) (hN : X.N[i]? = some x := by rfl)
    (hv : Vis X.env.scope x := by first | exact Or.inl rfl | exact Or.inr (Or.inl rfl) | exact Or.inr (Or.inr rfl)) (hd : (x == ("__debug__" : Str)) = false := by decide) (hcd : (x == ("__classdict__" : Str)) = false := by decide) : XS X Hb (.AugAssign (.Attribute (.Name x px) f tpos) .Add e pos) Γ N R :=
  ps_imp (ps_fldaug (pv i hN hv hd hcd) he in_add) fun D σ H q => by
    obtain ⟨H0, E⟩ := q.1
    obtain ⟨ov, h1, r, dx, vs, rfl, n0, e1, fl⟩ := E.sl i _ hl
    obtain ⟨u, l1, l2⟩ := fl.look hf
    cases l2
    refine ⟨_, h1, r, C, dx, vs, _, rfl, e1, cl, na, l1, ⟨Hb, H0, E⟩, fun v H1 s1 q1 => ?_⟩
    cases q1
    have fl1 := fl.keep (KeepT.of s1)
    exact ⟨m, n, rfl, rfl, dx, vs, s1 _ _ e1, by rw [fl.len]; exact hz, q.2.1 _ _ _ H0 ((KeepT.of s1).trans (keepT_ins (s1 _ _ e1))) ((E.mono s1).changeI h1 n0 (s1 _ _ e1) (fl1.put (.int _) rfl)) h⟩
/-- self.spent += e -/
theorem xs_spent {n : Int} (Z : CsOk X.K cs) (hl : Γ[0]? = some (.x (PopF X.K cs p S))) (he : XE X e Γ (.int n)) (hb : Hb.l = [p]) (hbase : ∀ a ∈ Hb.l, Hb.h a ≠ none) (h : N ((Γ.map (shift X.K)).set 0 (.x (PopF X.K cs p { S with spent := S.spent + n })))) (hN : X.N[0]? = some x := by rfl)
    (hv : Vis X.env.scope x := by first | exact Or.inl rfl | exact Or.inr (Or.inl rfl) | exact Or.inr (Or.inr rfl)) (hd : (x == ("__debug__" : Str)) = false := by decide) (hcd : (x == ("__classdict__" : Str)) = false := by decide) : XS X Hb (.AugAssign (.Attribute (.Name x px) "spent" tpos) .Add e pos) Γ N R :=
  ps_imp (ps_fldaug (pv 0 hN hv hd hcd) he in_add) fun D σ H q => by
    obtain ⟨H0, E⟩ := q.1
    obtain ⟨h1, h2⟩ := slotPop E hl
    obtain ⟨dx, dm, vt, vv, kvs, e1, e2, e3, e4, e5, e6⟩ := id h2
    refine ⟨_, h1, p, cs.CP, dx, _, .int S.spent, rfl, e1, Z.cP, Z.nSp, rfl, ⟨Hb, H0, E⟩, fun v H1 s1 q1 => ?_⟩
    cases q1
    have ep := s1 _ _ e1
    refine ⟨S.spent, n, rfl, rfl, dx, _, ep, show 4 < 1000 by decide, ?_⟩
    have kt : KeepT X.K H1 (upd H1 p (.ins cs.CP dx (putF "spent" (.int (S.spent + n)) [("training", vt), ("validation", vv), ("members", .ref dm), ("spent", .int S.spent)]))) := keepT_ins ep
    have off : Off [p] H1 (upd H1 p (.ins cs.CP dx (putF "spent" (.int (S.spent + n)) [("training", vt), ("validation", vv), ("members", .ref dm), ("spent", .int S.spent)]))) := fun a o z => ⟨fun na => by rw [upd_ne (fun z3 => na (List.mem_singleton.mpr z3))]; exact z, fun z2 => by
      by_cases w : a = p
      · rw [w, upd_same] at z2
        cases z2
      · rw [upd_ne w, z] at z2
        cases z2⟩
    have stay : ∀ v m, InsF X.K cs.CM (memFs m) H1 v → InsF X.K cs.CM (memFs m) (upd H1 p (.ins cs.CP dx (putF "spent" (.int (S.spent + n)) [("training", vt), ("validation", vv), ("members", .ref dm), ("spent", .int S.spent)]))) v := fun v m ⟨q, z1, dq, vs, z2, z3⟩ => by
      refine ⟨q, z1, dq, vs, ?_, z3.keep kt⟩
      rw [upd_ne (fun z4 => ?_)]
      · exact z2
      · rw [z4, ep] at z2
        exact Z.ne (HO.ins.inj (Option.some.inj z2)).1
    have hdm : dm ≠ p := fun z => by
      rw [z, e1] at e4
      cases e4
    have P1 : PopAt X.K cs (upd H1 p (.ins cs.CP dx (putF "spent" (.int (S.spent + n)) [("training", vt), ("validation", vv), ("members", .ref dm), ("spent", .int S.spent)]))) p { S with spent := S.spent + n } :=
      ⟨dx, dm, vt, vv, kvs, upd_same, dp_keep kt _ _ (pureExs _) (dp_mono s1 _ _ e2), dp_keep kt _ _ (pureExs _) (dp_mono s1 _ _ e3), by rw [upd_ne hdm]; exact s1 _ _ e4, (e5.imp fun v m z => z.mono s1).imp stay, e6⟩
    exact q.2.1 _ _ _ _ ((KeepT.of s1).trans kt) (((E.mono s1).shift kt (by rw [hb]; exact off) hbase).know h1 (g := .x (PopF X.K cs p { S with spent := S.spent + n })) ⟨_, rfl, fun H2 s2 => ⟨rfl, P1.mono s2⟩⟩) h
end
end TC
namespace TC
open PySem L2
def outR : Out → Rk
  | .ok d => .d d
  | .no s => .x s
/-- a method that does the deed d -/
def pDo (d : Deed) (S : PopM) (r : Rk) (S' : PopM) : Prop := ∃ n B : Nat, PopOk n B S ∧ B ≤ 100 ∧ DeedOk d ∧ r = outR (doM S d).2 ∧ S' = (doM S d).1
theorem PopOk.look {n B : Nat} {S : PopM} (h : PopOk n B S) {t : Int} {m : Mem} (e : lookM S.mem t = some m) : MemOk n B m := by
  unfold lookM at e
  cases q : S.mem.find? (fun p => decide (p.1 = t)) with
  | none =>
    rw [q] at e; cases e
  | some p =>
    rw [q] at e
    cases e
    exact h.mem p (List.mem_of_find?_eq_some q)
theorem runM_mem {S : PopM} {t : Int} {m : Mem} (h : runningM S t = .ok m) : lookM S.mem t = some m := by
  unfold runningM memberM at h
  cases q : lookM S.mem t with
  | none => rw [q] at h; cases h
  | some m' =>
    rw [q] at h
    dsimp only at h
    split at h
    · cases h
    · cases h
      rfl
theorem presM_mem {S : PopM} {t i : Int} {m : Mem} (h : presentM S t i = .ok m) : lookM S.mem t = some m := by
  unfold presentM at h
  cases q : runningM S t with
  | error s => rw [q] at h; cases h
  | ok m' =>
    rw [q] at h
    dsimp only at h
    split at h
    · cases h
      exact runM_mem q
    · cases h
theorem ex_head {n : Nat} {es : List Ex} (ok : ExsOk n es) : ∃ fs lab r, es = (fs, lab) :: r ∧ fs.length = n := by
  cases es with
  | nil => exact absurd ok.l1 (by decide)
  | cons e r => exact ⟨e.1, e.2, r, rfl, (ok.ok e List.mem_cons_self).1⟩
section
variable {P : Program} {w : World} {K : PySem.W.Frag} {mg : Str → Option Value} {base : Heap} {cs : Cs}
abbrev DKeep (P : Program) (w : World) (K : PySem.W.Frag) (mg : Str → Option Value) (base : Heap) (cs : Cs) : Prop := MDef P w K mg base cs.CP "keep" 2 ["self", "trial", "member"] (spK K cs)
abbrev DPres (P : Program) (w : World) (K : PySem.W.Frag) (mg : Str → Option Value) (base : Heap) (cs : Cs) : Prop := MDef P w K mg base cs.CP "present" 6 ["self", "trial", "incarnation"] (spN K cs 2 (pPresent cs))
/-! found -/
abbrev sFound : Stmt := methS 28 9
theorem sc_found : FnScope ["self", "trial", "seed", "rate", "margin", "weights"] ["self", "trial", "seed", "rate", "margin"] (defScope sFound) := ⟨rfl, rfl, rfl, by decide +kernel, rfl, by decide +kernel, by decide +kernel⟩
def pFound (S : PopM) (ds : List PyData) (r : Rk) (S' : PopM) : Prop := ∃ t s rt m, ds = [.int t, .int s, .int rt, .int m] ∧ pDo (.found t s rt m) S r S'
theorem ok_found (C : CsOk K cs) (B : Bi mg) (Z : RzOk P w K mg base cs) (R : RawM K cs.CP "found" "Population.found" sFound) (D1 : DKeep P w K mg base cs) (D2 : MkDef P w K mg base cs.CM "Member" 1 ["self", "settings", "now"] (spMI K cs)) :
    MDef P w K mg base cs.CP "found" 4 ["self", "trial", "seed", "rate", "margin"] (spM K cs 4 pFound) := by
  refine mdef_M R sc_found rfl (by decide) (fun _ _ _ _ _ _ us hl => match us, hl with | [_, _, _, _, _], _ => rfl) fun f cdv A outer s H E p S ds r S' hr tk hp hl hpu hb => ?_
  obtain ⟨t, sd, rt, m, rfl, n, Bd, ok, hB, dk, rfl, rfl⟩ := hp
  have hx := passes_call (E := E) tk (fun _ _ _ _ h => h)
  obtain ⟨fs, lab, es, htr, hfs⟩ := ex_head ok.tr
  refine xss_cons (xs_if (xt_inMem C (hu_of hr) 0 rfl (xe_var 1 rfl)) (fun hk => ?_) fun hk => xss_nil ?_)
  · cases q : lookM S.mem t with
    | none => rw [q] at hk; cases hk
    | some m' =>
      have e : doM S (.found t sd rt m) = (S, .no "trial exists") := by unfold doM; dsimp only; rw [q]
      rw [e]
      exact xss_one (xs_raise Z tk hr rfl ⟨rfl, rfl⟩)
  · cases q : lookM S.mem t with
    | some m' => rw [q] at hk; cases hk
    | none =>
      have e : doM S (.found t sd rt m) = (S.keep t (newMem (rt, m) ⟨sd, [], List.replicate n 0⟩), .ok (.int 1)) := by
        unfold doM
        dsimp only
        rw [q, htr, ← hfs]
        rfl
      rw [e]
      refine xss_cons (xs_set 5 (d := dInts (List.replicate n 0)) (xe_eq (xe_rep1 (n := n) (d := .int 0) (xe_tup (xa_cons xe_int xa_nil) (by decide)) (xe_eq (xe_lenT B.len (xe_ixT (xe_ixT (xe_attrX 0 rfl (fun H v h => popF_tr C h)) xe_int (show atI (S.tr.map dEx) 0 = some (dEx (fs, lab)) from by rw [htr]; exact atI_nat (j := 0) rfl)) xe_int (atI_nat (j := 0) rfl))) (by rw [List.length_map, hfs])) ok.tr.n1 (Nat.le_trans ok.tr.n2 (by decide))) (by unfold dInts; rw [List.map_replicate])) ?_ sc_found.nd)
      refine xss_cons (xs_exprM (i := 0) (F := PopF K cs p (S.keep t (newMem (rt, m) ⟨sd, [], List.replicate n 0⟩))) (xm_keep C 0 rfl D1 (hr.mono (by decide)) hx rfl rfl (xe_var 1 rfl) (xv_of (Hb := ⟨H, [p], E, cs.DF⟩) (xr_member D2 (hr.mono (by decide)) (xe_tup (xa_cons (xe_var 3 rfl) (xa_cons (xe_var 4 rfl) xa_nil)) (show 2 ≤ 10000000 by decide))
        (now := ⟨sd, [], List.replicate n 0⟩) (xe_tup (xa_cons (xe_tup (xa_cons (xe_var 2 rfl) (xa_cons (xe_tup xa_nil (show 0 ≤ 10000000 by decide)) xa_nil)) (show 2 ≤ 10000000 by decide)) (xa_cons (xe_var 5 rfl) xa_nil)) (show 2 ≤ 10000000 by decide)))) (Nat.le_trans ok.ml (Nat.le_trans hB (by decide)))) hb ?_)
      exact xss_one (xs_ret xe_int ⟨rfl, rfl⟩)
end
end TC
namespace TC
open PySem L2
theorem joinM_le (st : List Str3) : (joinM st).length ≤ st.length := by
  have key : ∀ (l acc : List Str3), (l.foldl joinStep acc).length ≤ acc.length + l.length := by
    intro l
    induction l with
    | nil => intro acc; exact Nat.le_refl _
    | cons x l ih =>
      intro acc
      have h1 := ih (joinStep acc x)
      have h2 : (joinStep acc x).length ≤ acc.length + 1 := by
        unfold joinStep
        split
        · split
          · rw [List.length_append, List.length_dropLast]
            show _ + 1 ≤ _
            omega
          · rw [List.length_append]
            exact Nat.le_refl _
        · show 1 ≤ _
          omega
      rw [List.foldl_cons]
      rw [List.length_cons]
      omega
  have := key st []
  rw [List.length_nil, Nat.zero_add] at this
  exact this
section
variable {P : Program} {w : World} {K : PySem.W.Frag} {mg : Str → Option Value} {base : Heap} {cs : Cs}
/-! save -/
abbrev sSave : Stmt := methS 28 11
theorem sc_save : FnScope ["self", "trial", "incarnation", "member", "index"] ["self", "trial", "incarnation"] (defScope sSave) := ⟨rfl, rfl, rfl, by decide +kernel, rfl, by decide +kernel, by decide +kernel⟩
def pSave (S : PopM) (ds : List PyData) (r : Rk) (S' : PopM) : Prop := ∃ t i, ds = [.int t, .int i] ∧ pDo (.save t i) S r S'
theorem ok_save (C : CsOk K cs) (B : Bi mg) (Z : RzOk P w K mg base cs) (R : RawM K cs.CP "save" "Population.save" sSave) (D1 : DKeep P w K mg base cs) (D2 : DPres P w K mg base cs) :
    MDef P w K mg base cs.CP "save" 7 ["self", "trial", "incarnation"] (spM K cs 2 pSave) := by
  refine mdef_M R sc_save rfl (by decide) (fun _ _ _ _ _ _ us hl => match us, hl with | [_, _, _], _ => rfl) fun f cdv A outer s H E p S ds r S' hr tk hp hl hpu hb => ?_
  obtain ⟨t, i, rfl, n, Bd, ok, hB, dk, rfl, rfl⟩ := hp
  have hx := passes_call (E := E) tk (fun _ _ _ _ h => h)
  cases q : presentM S t i with
  | error z =>
    have e : doM S (.save t i) = (S, .no z) := by unfold doM; dsimp only; rw [q]
    rw [e]
    exact xss_cons (xs_setX (i := 3) (xr_meth C 0 rfl D2 hr hx rfl (xa_cons (xe_var 1 rfl) (xa_cons (xe_var 2 rfl) xa_nil)) rfl ⟨t, i, rfl, by rw [q]; rfl⟩) ⟨rfl, rfl⟩ sc_save.nd)
  | ok m =>
    have mo := ok.look (presM_mem q)
    have e : doM S (.save t i) = (S.keep t { m with shelf := m.shelf ++ [some m.now], hset := m.set, hnow := m.now, hpair := some (t, (m.shelf.length : Int)) }, .ok (.int (m.shelf.length : Int))) := by unfold doM; dsimp only; rw [q]
    rw [e]
    refine xss_cons (xs_setRw 3 (C := cs.CM) (fs := memFs m) (xr_meth C 0 rfl D2 hr hx rfl (xa_cons (xe_var 1 rfl) (xa_cons (xe_var 2 rfl) xa_nil)) rfl ⟨t, i, rfl, by rw [q]; rfl⟩) rfl ?_ sc_save.nd)
    refine xss_cons (xs_set 4 (d := .int (m.shelf.length : Int)) (xe_eq (xe_lenT B.len (xe_attrW 3 rfl rfl C.cM C.nSh)) (by rw [List.length_map])) ?_ sc_save.nd)
    refine xss_cons (xs_ifF (xt_eqS (xe_var 4 rfl) (xe_gint B.mSav) rfl) ?_ (xss_nil ?_))
    · have := mo.ln
      exact decide_eq_false (show ¬ (m.shelf.length : Int) = 1000 by omega)
    refine xss_cons (xs_attrW 3 rfl (d := .tuple ((m.shelf ++ [some m.now]).map dON)) (xe_eq (xe_catT (xe_attrW 3 rfl rfl C.cM C.nSh) (xe_tup (xa_cons (xe_attrW 3 rfl rfl C.cM C.nNo) xa_nil) (show 1 ≤ 10000000 by decide)) (by rw [List.length_map]; have := mo.ln; show _ + 1 ≤ _; omega)) (by rw [List.map_append]; rfl)) (pureShelf _) (of_decide_eq_true rfl) C.cM C.nSh ?_)
    refine xss_cons (xs_attrW 3 rfl (d := dHome { m with shelf := m.shelf ++ [some m.now], hset := m.set, hnow := m.now, hpair := some (t, (m.shelf.length : Int)) }) (xe_tup (xa_cons (xe_attrW 3 rfl rfl C.cM C.nSe) (xa_cons (xe_attrW 3 rfl rfl C.cM C.nNo) (xa_cons (xe_tup (xa_cons (xe_var 1 rfl) (xa_cons (xe_var 4 rfl) xa_nil)) (show 2 ≤ 10000000 by decide)) xa_nil))) (show 3 ≤ 10000000 by decide)) (pureHome _) (of_decide_eq_true rfl) C.cM C.nHo ?_)
    refine xss_cons (xs_exprM (i := 0) (F := PopF K cs p (S.keep t { m with shelf := m.shelf ++ [some m.now], hset := m.set, hnow := m.now, hpair := some (t, (m.shelf.length : Int)) })) (xm_keep C 0 rfl D1 (hr.mono (by decide)) hx rfl rfl (xe_var 1 rfl) (xv_var 3 rfl) (Nat.le_trans ok.ml (Nat.le_trans hB (by decide)))) hb ?_)
    exact xss_one (xs_ret (xe_var 4 rfl) ⟨rfl, rfl⟩)
/-! stop -/
abbrev sStop : Stmt := methS 28 15
theorem sc_stop : FnScope ["self", "trial", "incarnation", "member"] ["self", "trial", "incarnation"] (defScope sStop) := ⟨rfl, rfl, rfl, by decide +kernel, rfl, by decide +kernel, by decide +kernel⟩
def pStop (S : PopM) (ds : List PyData) (r : Rk) (S' : PopM) : Prop := ∃ t i, ds = [.int t, .int i] ∧ pDo (.stop t i) S r S'
theorem ok_stop (C : CsOk K cs) (Z : RzOk P w K mg base cs) (R : RawM K cs.CP "stop" "Population.stop" sStop) (D1 : DKeep P w K mg base cs) (D2 : DPres P w K mg base cs) :
    MDef P w K mg base cs.CP "stop" 7 ["self", "trial", "incarnation"] (spM K cs 2 pStop) := by
  refine mdef_M R sc_stop rfl (by decide) (fun _ _ _ _ _ _ us hl => match us, hl with | [_, _, _], _ => rfl) fun f cdv A outer s H E p S ds r S' hr tk hp hl hpu hb => ?_
  obtain ⟨t, i, rfl, n, Bd, ok, hB, dk, rfl, rfl⟩ := hp
  have hx := passes_call (E := E) tk (fun _ _ _ _ h => h)
  cases q : presentM S t i with
  | error z =>
    have e : doM S (.stop t i) = (S, .no z) := by unfold doM; dsimp only; rw [q]
    rw [e]
    exact xss_cons (xs_setX (i := 3) (xr_meth C 0 rfl D2 hr hx rfl (xa_cons (xe_var 1 rfl) (xa_cons (xe_var 2 rfl) xa_nil)) rfl ⟨t, i, rfl, by rw [q]; rfl⟩) ⟨rfl, rfl⟩ sc_stop.nd)
  | ok m =>
    have e : doM S (.stop t i) = (S.keep t { m with stop := true }, .ok .none) := by unfold doM; dsimp only; rw [q]
    rw [e]
    refine xss_cons (xs_setRw 3 (C := cs.CM) (fs := memFs m) (xr_meth C 0 rfl D2 hr hx rfl (xa_cons (xe_var 1 rfl) (xa_cons (xe_var 2 rfl) xa_nil)) rfl ⟨t, i, rfl, by rw [q]; rfl⟩) rfl ?_ sc_stop.nd)
    refine xss_cons (xs_attrW 3 rfl xe_bl rfl (of_decide_eq_true rfl) C.cM C.nSt ?_)
    exact xss_one (xs_exprM (i := 0) (F := PopF K cs p (S.keep t { m with stop := true })) (xm_keep C 0 rfl D1 (hr.mono (by decide)) hx rfl rfl (xe_var 1 rfl) (xv_var 3 rfl) (Nat.le_trans ok.ml (Nat.le_trans hB (by decide)))) hb ⟨rfl, rfl⟩)
/-! evaluate -/
abbrev sEval : Stmt := methS 28 13
theorem sc_eval : FnScope ["self", "trial", "incarnation", "member"] ["self", "trial", "incarnation"] (defScope sEval) := ⟨rfl, rfl, rfl, by decide +kernel, rfl, by decide +kernel, by decide +kernel⟩
def pEval (S : PopM) (ds : List PyData) (r : Rk) (S' : PopM) : Prop := ∃ t i, ds = [.int t, .int i] ∧ pDo (.evaluate t i) S r S'
theorem ok_eval (C : CsOk K cs) (Z : RzOk P w K mg base cs) (R : RawM K cs.CP "evaluate" "Population.evaluate" sEval) (D1 : DKeep P w K mg base cs) (D2 : DPres P w K mg base cs) (D3 : Def P w K mg base "score_of" 2 ["examples", "weights"] (spR K 2 pScore)) :
    MDef P w K mg base cs.CP "evaluate" 7 ["self", "trial", "incarnation"] (spM K cs 2 pEval) := by
  refine mdef_M R sc_eval rfl (by decide) (fun _ _ _ _ _ _ us hl => match us, hl with | [_, _, _], _ => rfl) fun f cdv A outer s H E p S ds r S' hr tk hp hl hpu hb => ?_
  obtain ⟨t, i, rfl, n, Bd, ok, hB, dk, rfl, rfl⟩ := hp
  have hx := passes_call (E := E) tk (fun _ _ _ _ h => h)
  cases q : presentM S t i with
  | error z =>
    have e : doM S (.evaluate t i) = (S, .no z) := by unfold doM; dsimp only; rw [q]
    rw [e]
    exact xss_cons (xs_setX (i := 3) (xr_meth C 0 rfl D2 hr hx rfl (xa_cons (xe_var 1 rfl) (xa_cons (xe_var 2 rfl) xa_nil)) rfl ⟨t, i, rfl, by rw [q]; rfl⟩) ⟨rfl, rfl⟩ sc_eval.nd)
  | ok m =>
    have mo := ok.look (presM_mem q)
    have e : doM S (.evaluate t i) = (S.keep t { m with score := some (scoreM S.va m.now.ws) }, .ok (.int (scoreM S.va m.now.ws))) := by unfold doM; dsimp only; rw [q]
    rw [e]
    refine xss_cons (xs_setRw 3 (C := cs.CM) (fs := memFs m) (xr_meth C 0 rfl D2 hr hx rfl (xa_cons (xe_var 1 rfl) (xa_cons (xe_var 2 rfl) xa_nil)) rfl ⟨t, i, rfl, by rw [q]; rfl⟩) rfl ?_ sc_eval.nd)
    refine xss_cons (xs_attrW 3 rfl (d := .int (scoreM S.va m.now.ws)) (xd_call D3 (hr.mono (by decide)) (xa_cons (xe_attrX 0 rfl (fun H v h => popF_va C h)) (xa_cons (xe_ixT (xe_attrW 3 rfl rfl C.cM C.nNo) xe_int (atI_nat (j := 1) rfl)) xa_nil)) ⟨n, S.va, m.now.ws, rfl, ok.va, mo.now.ws, rfl⟩) rfl (of_decide_eq_true rfl) C.cM C.nSc ?_)
    refine xss_cons (xs_exprM (i := 0) (F := PopF K cs p (S.keep t { m with score := some (scoreM S.va m.now.ws) })) (xm_keep C 0 rfl D1 (hr.mono (by decide)) hx rfl rfl (xe_var 1 rfl) (xv_var 3 rfl) (Nat.le_trans ok.ml (Nat.le_trans hB (by decide)))) hb ?_)
    exact xss_one (xs_ret (xe_attrI 3 rfl rfl C.cM C.nSc) ⟨rfl, rfl⟩)
/-! crash -/
abbrev sCrash : Stmt := methS 28 12
theorem sc_crash : FnScope ["self", "trial", "member"] ["self", "trial"] (defScope sCrash) := ⟨rfl, rfl, rfl, by decide +kernel, rfl, by decide +kernel, by decide +kernel⟩
def pCrash (S : PopM) (ds : List PyData) (r : Rk) (S' : PopM) : Prop := ∃ t, ds = [.int t] ∧ pDo (.crash t) S r S'
theorem ok_crash (C : CsOk K cs) (Z : RzOk P w K mg base cs) (R : RawM K cs.CP "crash" "Population.crash" sCrash) (D1 : DKeep P w K mg base cs) (D2 : MDef P w K mg base cs.CP "running" 5 ["self", "trial"] (spN K cs 1 (pRunning cs))) :
    MDef P w K mg base cs.CP "crash" 6 ["self", "trial"] (spM K cs 1 pCrash) := by
  refine mdef_M R sc_crash rfl (by decide) (fun _ _ _ _ _ _ us hl => match us, hl with | [_, _], _ => rfl) fun f cdv A outer s H E p S ds r S' hr tk hp hl hpu hb => ?_
  obtain ⟨t, rfl, n, Bd, ok, hB, dk, rfl, rfl⟩ := hp
  have hx := passes_call (E := E) tk (fun _ _ _ _ h => h)
  cases q : runningM S t with
  | error z =>
    have e : doM S (.crash t) = (S, .no z) := by unfold doM; dsimp only; rw [q]
    rw [e]
    exact xss_cons (xs_setX (i := 2) (xr_meth C 0 rfl D2 hr hx rfl (xa_cons (xe_var 1 rfl) xa_nil) rfl ⟨t, rfl, by rw [q]; rfl⟩) ⟨rfl, rfl⟩ sc_crash.nd)
  | ok m =>
    have e : doM S (.crash t) = (S.keep t { m with inc := m.inc + 1, set := m.hset, now := m.hnow }, .ok (.int (m.inc + 1))) := by unfold doM; dsimp only; rw [q]
    rw [e]
    refine xss_cons (xs_setRw 2 (C := cs.CM) (fs := memFs m) (xr_meth C 0 rfl D2 hr hx rfl (xa_cons (xe_var 1 rfl) xa_nil) rfl ⟨t, rfl, by rw [q]; rfl⟩) rfl ?_ sc_crash.nd)
    refine xss_cons (xs_augW 2 rfl rfl xe_int (of_decide_eq_true rfl) C.cM C.nIn ?_)
    refine xss_cons (xs_attr2W 2 rfl (d1 := dSet m.hset) (d2 := dNow m.hnow) (xe_eq (xe_slT (xe_attrW 2 rfl rfl C.cM C.nHo) xo_none (xo_some xe_int)) (congrArg PyData.tuple (cut_to [dSet m.hset, dNow m.hnow, dOP m.hpair] 2))) (pureSet _) (pureNow _) (of_decide_eq_true rfl) (of_decide_eq_true rfl) C.cM C.nSe C.nNo rfl ?_)
    refine xss_cons (xs_exprM (i := 0) (F := PopF K cs p (S.keep t { m with inc := m.inc + 1, set := m.hset, now := m.hnow })) (xm_keep C 0 rfl D1 (hr.mono (by decide)) hx rfl rfl (xe_var 1 rfl) (xv_var 2 rfl) (Nat.le_trans ok.ml (Nat.le_trans hB (by decide)))) hb ?_)
    exact xss_one (xs_ret (xe_attrI 2 rfl rfl C.cM C.nIn) ⟨rfl, rfl⟩)
end
end TC
namespace TC
open PySem L2
theorem savedM_ok {n B : Nat} {S : PopM} (ok : PopOk n B S) {t x : Int} {w : Now} (h : savedM S t x = .ok w) : NowOk n B w := by
  unfold savedM at h
  split at h
  · rename_i hr
    split at h
    · rename_i v e
      cases h
      unfold shelfOf at e hr
      cases q : lookM S.mem t with
      | none =>
        rw [q] at e; cases e
      | some m =>
        rw [q] at e hr
        have hm := ok.look q
        have hl : x.toNat < m.shelf.length := by
          have := hr.2
          dsimp only at this
          omega
        have : m.shelf[x.toNat]? = some (some w) := by
          dsimp only at e
          rw [List.getD_eq_getElem?_getD, List.getElem?_eq_getElem hl] at e
          rw [List.getElem?_eq_getElem hl]
          exact congrArg some e
        exact hm.sh _ (List.mem_of_getElem? this) w rfl
    · cases h
  · cases h
theorem shelf_le {n B : Nat} {S : PopM} (ok : PopOk n B S) (t : Int) : (shelfOf S t).length ≤ B := by
  unfold shelfOf
  cases q : lookM S.mem t with
  | none => exact Nat.zero_le _
  | some m => exact (ok.look q).ln
section
variable {P : Program} {w : World} {K : PySem.W.Frag} {mg : Str → Option Value} {base : Heap} {cs : Cs}
/-! copy -/
abbrev sCopy : Stmt := methS 28 14
theorem sc_copy : FnScope ["self", "trial", "incarnation", "donor", "index", "rate", "margin", "member", "now"] ["self", "trial", "incarnation", "donor", "index", "rate", "margin"] (defScope sCopy) := ⟨rfl, rfl, rfl, by decide +kernel, rfl, by decide +kernel, by decide +kernel⟩
def pCopy (S : PopM) (ds : List PyData) (r : Rk) (S' : PopM) : Prop := ∃ t i d x rt m, ds = [.int t, .int i, .int d, .int x, .int rt, .int m] ∧ pDo (.copy t i d x rt m) S r S'
abbrev DSaved (P : Program) (w : World) (K : PySem.W.Frag) (mg : Str → Option Value) (base : Heap) (cs : Cs) : Prop := MDef P w K mg base cs.CP "state_saved" 4 ["self", "trial", "index"] (spN K cs 2 pSaved)
theorem ok_copy (C : CsOk K cs) (Z : RzOk P w K mg base cs) (R : RawM K cs.CP "copy" "Population.copy" sCopy) (D1 : DKeep P w K mg base cs) (D2 : DPres P w K mg base cs) (D3 : DSaved P w K mg base cs) (D4 : Def P w K mg base "position_of" 1 ["script"] (spR K 1 pPos)) :
    MDef P w K mg base cs.CP "copy" 7 ["self", "trial", "incarnation", "donor", "index", "rate", "margin"] (spM K cs 6 pCopy) := by
  refine mdef_M R sc_copy rfl (by decide) (fun _ _ _ _ _ _ us hl => match us, hl with | [_, _, _, _, _, _, _], _ => rfl) fun f cdv A outer s H E p S ds r S' hr tk hp hl hpu hb => ?_
  obtain ⟨t, i, dn, x, rt, mm, rfl, n, Bd, ok, hB, dk, rfl, rfl⟩ := hp
  have hx := passes_call (E := E) tk (fun _ _ _ _ h => h)
  cases q : presentM S t i with
  | error z =>
    have e : doM S (.copy t i dn x rt mm) = (S, .no z) := by unfold doM; dsimp only; rw [q]
    rw [e]
    exact xss_cons (xs_setX (i := 7) (xr_meth C 0 rfl D2 hr hx rfl (xa_cons (xe_var 1 rfl) (xa_cons (xe_var 2 rfl) xa_nil)) rfl ⟨t, i, rfl, by rw [q]; rfl⟩) ⟨rfl, rfl⟩ sc_copy.nd)
  | ok m =>
    refine xss_cons (xs_setRw 7 (C := cs.CM) (fs := memFs m) (xr_meth C 0 rfl D2 hr hx rfl (xa_cons (xe_var 1 rfl) (xa_cons (xe_var 2 rfl) xa_nil)) rfl ⟨t, i, rfl, by rw [q]; rfl⟩) rfl ?_ sc_copy.nd)
    have hsl : (shelfOf S dn).length ≤ 1000000 := Nat.le_trans (shelf_le ok dn) (Nat.le_trans hB (by decide))
    cases q2 : savedM S dn x with
    | error z =>
      have e : doM S (.copy t i dn x rt mm) = (S, .no z) := by unfold doM; dsimp only; rw [q]; dsimp only; rw [q2]
      rw [e]
      exact xss_cons (xs_setX (i := 8) (xr_meth C 0 rfl D3 (hr.mono (by decide)) hx rfl (xa_cons (xe_var 3 rfl) (xa_cons (xe_var 4 rfl) xa_nil)) rfl ⟨dn, x, rfl, hsl, by rw [q2]⟩) ⟨rfl, rfl⟩ sc_copy.nd)
    | ok nw =>
      have e : doM S (.copy t i dn x rt mm) = (S.keep t { m with now := nw, set := (rt, mm), score := none, hset := (rt, mm), hnow := nw, hpair := some (dn, x) }, .ok (.int (posM nw.st : Int))) := by unfold doM; dsimp only; rw [q]; dsimp only; rw [q2]
      rw [e]
      have no := savedM_ok ok q2
      refine xss_cons (xs_set 8 (d := dNow nw) (xe_meth (E₀ := E) C 0 rfl D3 (hr.mono (by decide)) hx (xa_cons (xe_var 3 rfl) (xa_cons (xe_var 4 rfl) xa_nil)) rfl ⟨dn, x, rfl, hsl, by rw [q2]⟩) ?_ sc_copy.nd)
      refine xss_cons (xs_attrW 7 rfl (xe_var 8 rfl) (pureNow nw) (of_decide_eq_true rfl) C.cM C.nNo ?_)
      refine xss_eqG (Γ2 := [.x (PopF K cs p S), .b (.int t), .b (.int i), .b (.int dn), .b (.int x), .b (.int rt), .b (.int mm), .w cs.CM (putD "now" (dNow nw) (memFs m)), .c (dNow nw)]) ?_ (by
        show [_, _, _, _, _, _, _, _, demote (.c (dNow nw))] = _
        rw [demote_c (pureNow nw)]
        rfl)
      refine xss_cons (xs_attrW 7 rfl (d := dSet (rt, mm)) (xe_tup (xa_cons (xe_var 5 rfl) (xa_cons (xe_var 6 rfl) xa_nil)) (show 2 ≤ 10000000 by decide)) (pureSet _) (of_decide_eq_true rfl) C.cM C.nSe ?_)
      refine xss_eqG (Γ2 := [.x (PopF K cs p S), .b (.int t), .b (.int i), .b (.int dn), .b (.int x), .b (.int rt), .b (.int mm), .w cs.CM (putD "settings" (dSet (rt, mm)) (putD "now" (dNow nw) (memFs m))), .c (dNow nw)]) ?_ (by
        show [_, _, _, _, _, _, _, _, demote (.c (dNow nw))] = _
        rw [demote_c (pureNow nw)]
        rfl)
      refine xss_cons (xs_attrW 7 rfl xe_non rfl (of_decide_eq_true rfl) C.cM C.nSc ?_)
      refine xss_eqG (Γ2 := [.x (PopF K cs p S), .b (.int t), .b (.int i), .b (.int dn), .b (.int x), .b (.int rt), .b (.int mm), .w cs.CM (putD "score" .none (putD "settings" (dSet (rt, mm)) (putD "now" (dNow nw) (memFs m)))), .c (dNow nw)]) ?_ (by
        show [_, _, _, _, _, _, _, _, demote (.c (dNow nw))] = _
        rw [demote_c (pureNow nw)]
        rfl)
      refine xss_cons (xs_attrW 7 rfl (d := dHome { m with now := nw, set := (rt, mm), score := none, hset := (rt, mm), hnow := nw, hpair := some (dn, x) }) (xe_tup (xa_cons (xe_tup (xa_cons (xe_var 5 rfl) (xa_cons (xe_var 6 rfl) xa_nil)) (show 2 ≤ 10000000 by decide)) (xa_cons (xe_var 8 rfl) (xa_cons (xe_tup (xa_cons (xe_var 3 rfl) (xa_cons (xe_var 4 rfl) xa_nil)) (show 2 ≤ 10000000 by decide)) xa_nil))) (show 3 ≤ 10000000 by decide)) (pureHome _) (of_decide_eq_true rfl) C.cM C.nHo ?_)
      refine xss_cons (xs_exprM (i := 0) (F := PopF K cs p (S.keep t { m with now := nw, set := (rt, mm), score := none, hset := (rt, mm), hnow := nw, hpair := some (dn, x) })) (xm_keep C 0 rfl D1 (hr.mono (by decide)) hx rfl rfl (xe_var 1 rfl) (xv_var 7 rfl) (Nat.le_trans ok.ml (Nat.le_trans hB (by decide)))) hb ?_)
      have sh : TC.shift K (demote (.c (dNow nw))) = .b (dNow nw) := by
        rw [demote_c (pureNow nw)]
        exact if_pos (pureNow nw)
      refine xss_eqG (Γ2 := [.x (PopF K cs p (S.keep t { m with now := nw, set := (rt, mm), score := none, hset := (rt, mm), hnow := nw, hpair := some (dn, x) })), .b (.int t), .b (.int i), .b (.int dn), .b (.int x), .b (.int rt), .b (.int mm), .x (InsF K cs.CM (memFs { m with now := nw, set := (rt, mm), score := none, hset := (rt, mm), hnow := nw, hpair := some (dn, x) })), .b (dNow nw)]) ?_ ?_
      · exact xss_one (xs_ret (xd_call D4 (hr.mono (by decide)) (xa_cons (xe_ixT (xe_var 8 rfl) xe_int (atI_nat (j := 0) rfl)) xa_nil) ⟨nw.seed, nw.st, rfl, Nat.le_trans no.ln (Nat.le_trans hB (by decide)), rfl⟩) ⟨rfl, rfl⟩)
      · show [_, _, _, _, _, _, _, _, TC.shift K (demote (.c (dNow nw)))] = _
        rw [sh]
        rfl
/-! train -/
abbrev sTr : Stmt := methS 28 10
theorem sc_tr : FnScope ["self", "trial", "incarnation", "steps", "member", "script", "weights", "position", "stretch"] ["self", "trial", "incarnation", "steps"] (defScope sTr) := ⟨rfl, rfl, rfl, by decide +kernel, rfl, by decide +kernel, by decide +kernel⟩
def pTr (S : PopM) (ds : List PyData) (r : Rk) (S' : PopM) : Prop := ∃ t i k, ds = [.int t, .int i, .int k] ∧ pDo (.train t i k) S r S'
theorem ok_tr (C : CsOk K cs) (B : Bi mg) (Z : RzOk P w K mg base cs) (R : RawM K cs.CP "train" "Population.train" sTr) (D1 : DKeep P w K mg base cs) (D2 : DPres P w K mg base cs) (D3 : Def P w K mg base "trained" 3 ["examples", "seed", "position", "weights", "stretch"] (spR K 5 pTrained)) (D4 : Def P w K mg base "position_of" 1 ["script"] (spR K 1 pPos)) (D5 : Def P w K mg base "joined" 1 ["stretches"] (spR K 1 pJoin)) :
    MDef P w K mg base cs.CP "train" 7 ["self", "trial", "incarnation", "steps"] (spM K cs 3 pTr) := by
  refine mdef_M R sc_tr rfl (by decide) (fun _ _ _ _ _ _ us hl => match us, hl with | [_, _, _, _], _ => rfl) fun f cdv A outer s H E p S ds r S' hr tk hp hl hpu hb => ?_
  obtain ⟨t, i, k, rfl, n, Bd, ok, hB, dk, rfl, rfl⟩ := hp
  have hx := passes_call (E := E) tk (fun _ _ _ _ h => h)
  have hk : 1 ≤ k ∧ k ≤ 4 := ⟨dk.ok.2.2.1, dk.ok.2.2.2⟩
  cases q : presentM S t i with
  | error z =>
    have e : doM S (.train t i k) = (S, .no z) := by unfold doM; dsimp only; rw [q]
    rw [e]
    exact xss_cons (xs_setX (i := 4) (xr_meth C 0 rfl D2 hr hx rfl (xa_cons (xe_var 1 rfl) (xa_cons (xe_var 2 rfl) xa_nil)) rfl ⟨t, i, rfl, by rw [q]; rfl⟩) ⟨rfl, rfl⟩ sc_tr.nd)
  | ok m =>
    have mo := ok.look (presM_mem q)
    have e : doM S (.train t i k) = ({ S.keep t { m with now := ⟨m.now.seed, joinM (m.now.st ++ [(m.set.1, m.set.2, k.toNat)]), trainM S.tr m.now.seed (posM m.now.st) m.now.ws m.set.1 m.set.2 k.toNat⟩ } with spent := S.spent + k }, .ok (.int ((posM m.now.st : Int) + k))) := by unfold doM; dsimp only; rw [q]
    rw [e]
    obtain ⟨kn, hkn⟩ : ∃ kn : Nat, k = (kn : Int) := ⟨k.toNat, by omega⟩
    rw [show k.toNat = kn by omega]
    have hps := mo.now.ps
    have hln := mo.now.ln
    refine xss_cons (xs_setRw 4 (C := cs.CM) (fs := memFs m) (xr_meth C 0 rfl D2 hr hx rfl (xa_cons (xe_var 1 rfl) (xa_cons (xe_var 2 rfl) xa_nil)) rfl ⟨t, i, rfl, by rw [q]; rfl⟩) rfl ?_ sc_tr.nd)
    refine xss_cons (xs_asg (.tp [5, 6]) (xe_attrW 4 rfl rfl C.cM C.nNo) (pg_tup rfl (pgs_cons (pg_name (i := 5) sc_tr.nd rfl (Or.inl rfl)) (pgs_cons (pg_name (i := 6) sc_tr.nd rfl (Or.inl rfl)) pgs_nil))) ⟨_, rfl, ?_⟩)
    refine xss_cons (xs_set 7 (d := .int (posM m.now.st : Int)) (xd_call D4 (hr.mono (by decide)) (xa_cons (xe_var 5 rfl) xa_nil) ⟨m.now.seed, m.now.st, rfl, by omega, rfl⟩) ?_ sc_tr.nd)
    refine xss_cons (xs_ifF (xt_gt (xe_add (xe_var 7 rfl) (xe_var 3 rfl)) (xe_gint B.mPos)) (decide_eq_false (by omega)) (xss_nil ?_))
    refine xss_cons (xs_set 8 (d := dStr3 (m.set.1, m.set.2, kn)) (xe_eq (xe_catT (xe_attrW 4 rfl rfl C.cM C.nSe) (xe_tup (xa_cons (xe_var 3 rfl) xa_nil) (show 1 ≤ 10000000 by decide)) (show 2 + 1 ≤ 10000000 by decide)) (by rw [hkn]; rfl)) ?_ sc_tr.nd)
    refine xss_cons (xs_set 6 (d := dInts (trainM S.tr m.now.seed (posM m.now.st) m.now.ws m.set.1 m.set.2 kn)) (xd_call D3 (hr.mono (by decide)) (xa_cons (xe_attrX 0 rfl (fun H v h => popF_tr C h)) (xa_cons (xe_ixT (xe_var 5 rfl) xe_int (atI_nat (j := 0) rfl)) (xa_cons (xe_var 7 rfl) (xa_cons (xe_var 6 rfl) (xa_cons (xe_var 8 rfl) xa_nil))))) ⟨n, S.tr, m.now.seed, posM m.now.st, m.now.ws, m.set.1, m.set.2, kn, rfl, ok.tr, mo.now.ws, mo.set.r, by omega, by omega, rfl⟩) ?_ sc_tr.nd)
    refine xss_cons (xs_attrW 4 rfl (d := dNow ⟨m.now.seed, joinM (m.now.st ++ [(m.set.1, m.set.2, kn)]), trainM S.tr m.now.seed (posM m.now.st) m.now.ws m.set.1 m.set.2 kn⟩) (xe_tup (xa_cons (xe_tup (xa_cons (xe_ixT (xe_var 5 rfl) xe_int (atI_nat (j := 0) rfl)) (xa_cons (xd_call D5 (hr.mono (by decide)) (xa_cons (xe_eq (xe_catT (xe_ixT (xe_var 5 rfl) xe_int (atI_nat (j := 1) rfl)) (xe_tup (xa_cons (xe_var 8 rfl) xa_nil) (show 1 ≤ 10000000 by decide)) (by rw [List.length_map]; show _ + 1 ≤ _; omega)) (show _ = PyData.tuple ((m.now.st ++ [(m.set.1, m.set.2, kn)]).map dStr3) by rw [List.map_append]; rfl)) xa_nil) ⟨_, rfl, by rw [List.length_append]; show _ + 1 ≤ _; omega, rfl⟩) xa_nil)) (show 2 ≤ 10000000 by decide)) (xa_cons (xe_var 6 rfl) xa_nil)) (show 2 ≤ 10000000 by decide)) (pureNow _) (of_decide_eq_true rfl) C.cM C.nNo ?_)
    refine xss_cons (xs_exprM (i := 0) (F := PopF K cs p (S.keep t { m with now := ⟨m.now.seed, joinM (m.now.st ++ [(m.set.1, m.set.2, kn)]), trainM S.tr m.now.seed (posM m.now.st) m.now.ws m.set.1 m.set.2 kn⟩ })) (xm_keep C 0 rfl D1 (hr.mono (by decide)) hx rfl rfl (xe_var 1 rfl) (xv_var 4 rfl) (Nat.le_trans ok.ml (Nat.le_trans hB (by decide)))) hb ?_)
    refine xss_cons (xs_spent C rfl (xe_var 3 rfl) rfl hb ?_)
    exact xss_one (xs_ret (xe_add (xe_var 7 rfl) (xe_var 3 rfl)) ⟨rfl, rfl⟩)
end
end TC
namespace TC
open PySem L2
/-! ### an own exception whose __init__ says super().__init__(reason); self.reason = reason -/
abbrev sDF : Stmt := methS 4 0
abbrev dfEnv (f : Addr) (cd : Value) (cc L : Addr) : Env := PySem.W.ksEnv "DeedFault.__init__" (defScope sDF) L f cd cc
/-- what the written part says of the class and its __init__ -/
structure DfOk (P : Program) (K : PySem.W.Frag) (mg : Str → Option Value) (C f : Addr) (fd : FuncData) : Prop where
  ex : ∃ (oc : Value) (od : Option Addr) (kV doc pm : Value) (an : Option Addr) (cda : Addr) (ct : Value) (cc : Addr) (osl : Array (Option Value)) (ccl : Value) (cdd : Option Addr) (vs : Array Value) (ccs : Array (Option Value)) (file : Str) (tf : Tok) (cl : Value) (cld : Option Addr) (csl : Array (Option Value)) (cd : ClassData) (l : List Value),
    fd = PySem.W.ksFn "__init__" "DeedFault.__init__" (defArgs sDF) (defBody sDF) (defScope sDF) .none kV doc pm an (.ref cda) ct cc ∧ K.lookup f = some ⟨oc, od, .func fd, osl⟩ ∧ PySem.W.codeIn K (.ref cda) "DeedFault.__init__" = true ∧
    K.lookup cda = some ⟨ccl, cdd, .fields vs, ccs⟩ ∧ vs[2]? = some (.str file tf) ∧ ((P.main.file : Str) == file) = true ∧ K.lookup cc = some ⟨cl, cld, .cell (some (.ref C)), csl⟩ ∧ PySem.W.clsIn K C = some cd ∧ PySem.W.mroIn K C (.ref C) = some true ∧
    (cd.mro.dropWhile (· != .ref C)).drop 1 = l ∧ PySem.W.alongIn K "__init__" l = some (some (.builtin "ValueError.__init__"))
  sup : mg "super" = none
  top : (P.main.scope.names.lookup ("super" : Str)).isSome = false
  thd : PySem.W.nsIn K cStatics "thirdparty.any" = some none
  sub : PySem.W.subIn K (.ref C) (.type "ValueError") = some true
  oex : OexC K C
  nre : PySem.W.findIn K (.ref C) "reason" = some none
section
open PySem.W
open PySem.Calls PyProof.Rows
variable {os : OsState} {t : Nat} {d : Drawn} {g : Array GenState}
variable {h : Heap} {E : Value → Shared → Prop} {A : Around} {w : World} {prog : Program}
variable {nm q : Str} {C N : Addr} {bs bm : List Value} {hdct : Bool} {sn : List Str}
variable {sub : List Value} {ab : Bool} {col : Option Bool} {dd : Option Addr} {k0 k1 k2 k3 k5 : Option Value}
/-- ValueError.__init__ bound to an instance that is being made -/
theorem call_mw {u e t0 : Addr} {rest : List Value} {Q : Value → Shared → Prop} (hC : h.get? C = some (excClassObj nm q C N bs bm hdct sn sub ab col dd k0 k1 k2 k3 k5 "ValueError.__new__")) (he : h.get? e = some (HandSPX.excO C t0)) (hu : h.get? u = some (kxs_mw "ValueError.__init__" e)) (hz : rest.length ≤ sizeLine)
    (hq : ∀ h' t1, (∀ b o, b ≠ e → h.get? b = some o → h'.get? b = some o) → h'.get? e = some (HandSPX.excO C t1) → Q .none ⟨h', g, d, t, os⟩) : wpAny (model prog w) A (call (.ref u) rest) Q E ⟨h, g, d, t, os⟩ := by
  refine wpAny_call ?_
  refine codeAny_of_tree ?_
  change wpAny _ A.in1 (callAny (.ref u) ⟨rest, []⟩) _ _ _
  simp only [callAny]
  refine wpAny_bind ?_
  refine wpAny_load hu ?_
  simp only [if_true, show (Value.type "method-wrapper" == Value.type "method" || Value.type "method-wrapper" == Value.type "builtin_function_or_method" || Value.type "method-wrapper" == Value.type "method-wrapper") = true by decide, kxs_mw]
  refine KFB.if_so (by decide) (wpAny_bind (ESX.check_bound F.excBase_ValueError hC he rfl (wpAny_bind (wpAny_pure (wpAny_pure ⟨Code.quiet_builtin _ (by decide +kernel), codeAny_builtin F.excBase_ValueError.initEntry ?_⟩)))))
  rw [Around.under_plainId F.excBase_ValueError.init.plain _]
  wp_walk
  exact hq _ h.objs.size (fun b o hb ho => by rw [Heap.get?_update_other _ _ (Ne.symm hb)]; exact Heap.get?_push_of_some _ ho) (by rw [Heap.get?_update_self _ (Heap.get?_push_of_some _ he) rfl]; rfl)
end
def spDI (K : PySem.W.Frag) (C : Addr) : Sp := fun vs H Q E => ∃ a z, vs = [.ref a, .str z] ∧ H a = some (exo a C none) ∧ ∀ d, H d = none → d ≠ a → Q .non (upd (upd H d (exd d [("reason", .str z)])) a (exo a C (some d)))
/-- in which the body of DeedFault.__init__ runs -/
def dfCx (CX : CXT) (P : Program) (w : World) (K : PySem.W.Frag) (mg : Str → Option Value) (base : Heap) (f : Addr) (cd : Value) (cc : Addr) (A : Around) (outer : List Env) (s : Shared) (H : Hp) (E : XK) : Cx where
  prog := P
  w := w
  K := K
  mg := mg
  base := base
  A := A.deeper (dfEnv f cd cc s.heap.objs.size)
  N := ["self", "reason"]
  s_0 := s
  H_0 := H
  env := dfEnv f cd cc s.heap.objs.size
  outer := outer
  stack := dfEnv f cd cc s.heap.objs.size :: outer
  ex := []
  calm := true
  fn := fun x => x != "__class__"
  pn := []
  xe := fun e s' => wpAny (model P w) (A.deeper (dfEnv f cd cc s.heap.objs.size)) (leaving (dfEnv f cd cc s.heap.objs.size) e) (fun _ s'' => CX outer H s E e s'') (fun e' s'' => CX outer H s E e' s'') s'
theorem df_cells {f : Addr} {cd : Value} {cc L : Addr} {x : Str} {c : Addr} (h : (dfEnv f cd cc L).cells.lookup x = some c) : x = "__class__" ∧ c = cc := by
  have h' : List.lookup x [(("__class__" : Str), cc)] = some c := h
  by_cases e : x = "__class__"
  · subst e
    simp [List.lookup] at h'
    exact ⟨rfl, h'.symm⟩
  · have : (x == ("__class__" : Str)) = false := beq_eq_false_iff_ne.mpr e
    simp [List.lookup, this] at h'
theorem df_start {CX : CXT} {P : Program} {w : World} {K : PySem.W.Frag} {mg : Str → Option Value} {base : Heap} {f : Addr} {cd : Value} {cc : Addr} {A : Around} {outer : List Env} {s : Shared} {H : Hp} {E : XK} {h1 : Heap} {tk : Nat} {a : Addr} {z : Str} {tz : Tok} {cl : Value} {cld : Option Addr} {csl : Array (Option Value)} {C : Addr}
    (hd : A.handled = none) (e0 : Env0 P w K mg base A outer s H) (lc : K.lookup cc = some ⟨cl, cld, .cell (some (.ref C)), csl⟩) (ns : h1.Ns s.heap.objs.size (fun x => [(("self" : Str), Value.ref a), ("reason", .str z tz)].reverse.lookup x)) (k : ∀ b o, s.heap.get? b = some o → h1.get? b = some o) :
    Inv (dfCx CX P w K mg base f cd cc A outer s H E) [] [some (.ref a), some (.str z)] H { s with heap := h1, toks := tk } := by
  have bcc := e0.mod.kin _ _ lc
  have hcc := e0.bs _ _ bcc
  refine ⟨⟨e0.mod, rfl, rfl, rfl, Nat.le_refl _, fun x y c h1 h2 => ?_, fun x hx => ?_, fun x c hf h => ?_, fun _ => hd, Around.frames_deeper e0.frames, .inr ⟨rfl, rfl⟩, fun b hb => absurd hb (by simp [dfCx]), e0.bs, e0.bsz, fun b o hb => by simp [dfCx], fun b hb => absurd hb (by simp [dfCx]), e0.funs, e0.frf⟩,
    rfl, e0.bare, Un.kept k, ⟨_, ns, fun i x v h1 h2 h3 => ?_⟩, fun x c h => ?_, e0.hok.fresh (Nat.le_refl _), fun x c h => ?_, fun p hp => absurd hp (by simp [dfCx]), e0.hok.kept k, rfl⟩
  · rw [(df_cells h1).1, (df_cells h2).1]
  · have hx' : (defScope sDF).names.lookup x = some .cell ∨ (defScope sDF).names.lookup x = some .free := hx
    refine ⟨cc, ?_⟩
    show List.lookup x [(("__class__" : Str), cc)] = some cc
    have key : ∀ y ∈ (defScope sDF).names, (y.2 = .cell ∨ y.2 = .free) → y.1 = "__class__" := by decide +kernel
    have e : x = "__class__" := by
      rcases hx' with h | h
      · exact key _ (PySem.mem_of_lookup h) (.inl rfl)
      · exact key _ (PySem.mem_of_lookup h) (.inr rfl)
    rw [e]
    simp [List.lookup]
  · have e := (df_cells h).1
    subst e
    exact absurd hf (by show ¬ (("__class__" : Str) != "__class__") = true; simp)
  · match i, h1, h2 with
    | 0, h1, h2 =>
      cases h1
      cases h2
      exact ⟨.ref a, rfl, .inl ⟨rfl, rfl⟩⟩
    | 1, h1, h2 =>
      cases h1
      cases h2
      exact ⟨.str z tz, ⟨tz, rfl⟩, .inl ⟨rfl, rfl⟩⟩
    | i + 2, h1, h2 => cases h1
  · obtain ⟨rfl, rfl⟩ := df_cells h
    exact ⟨_, _, k _ _ hcc.1, rfl⟩
  · obtain ⟨rfl, rfl⟩ := df_cells h
    exact hcc.2
end TC
namespace TC
open PySem L2

theorem ok_df {CX : CXT} {P : Program} {w : World} {K : PySem.W.Frag} {mg : Str → Option Value} {base : Heap} {C f : Addr} {fd : FuncData} (D : DfOk P K mg C f fd) : FnOk P w K mg base CX 1 f fd ["self", "reason"] (spDI K C) := by
  refine ⟨fun vs H Q E h => ?_, fun A outer s H args us vs Q E hr e0 hb r hsp => ?_⟩
  · obtain ⟨a, z, rfl, _⟩ := h
    rfl
  obtain ⟨a, z, rfl, ha, fin⟩ := hsp
  obtain ⟨u1, r1⟩ : ∃ u tz, us = [u, .str z tz] ∧ u = .ref a := by
    match us, r with
    | _, .cons h1 (.cons h2 .nil) =>
      obtain ⟨tz, rfl⟩ := h2
      exact ⟨_, tz, rfl, h1⟩
  obtain ⟨tz, rfl, rfl⟩ := r1
  obtain ⟨oc, od, kV, doc, pm, an, cda, ct, cc, osl, ccl, cdd, vs, ccs, file, tf, cl, cld, csl, cd, l, rfl, lk, hcd, lcd, hvs, hfile, lcc, hC, hmro, hl, hal⟩ := D.ex
  have KX : K.In s.heap :=
    e0.mod.kin.keeps fun b o e => (e0.bs b o e).1
  have lim : s.heap.NoLimit :=
    e0.mod.nolimit.keeps fun b o e => (e0.bs b o e).1
  have nocell : ∀ x ∈ (defScope sDF).names, x.2 ≠ .cell := by decide +kernel
  refine PySem.ks_codeAny_call_defAt (body := defBody sDF) hr.depth (KX _ _ lk) rfl lim (PySem.W.codeRec_of KX hcd) rfl hb nocell (fun x hx => ?_) (fun h1 ns k => ?_)
  · have : x = ((("self" : Str), Value.ref a) : Str × Value) ∨ x = ((("reason" : Str), Value.str z tz) : Str × Value) := by simpa using hx
    rcases this with rfl | rfl <;> rfl
  have I0 : Inv (dfCx CX P w K mg base f (.ref cda) cc A outer s H E) [] [some (.ref a), some (.str z)] H { s with heap := h1, toks := s.toks + 2 } := df_start hr.hd e0 lcc ns k
  obtain ⟨t1, hx⟩ := exo_at I0.hok ha
  have X1 := I0.kIn
  have hD : ∃ oD, h1.get? C = some oD ∧ oD.data = .cls cd := by
    have hC' := hC
    unfold PySem.W.clsIn at hC'
    split at hC'
    · rename_i c d cd' sl ho
      cases hC'
      exact ⟨_, X1 _ _ ho, rfl⟩
    · cases hC'
  obtain ⟨oD, hD1, hD2⟩ := hD
  refine PySem.ks_wpAt_execs_cons (PySem.ks_wpAt_Expr_any (PySem.ks_wpAt_MethodCall ?_))
  refine PySem.ks_wpAt_super_base (env := dfEnv f (.ref cda) cc s.heap.objs.size) rfl rfl rfl rfl (X1 _ _ lk) rfl rfl rfl (X1 _ _ lcd) rfl hvs hfile D.top ?_
  obtain ⟨mb, hmb, hbb⟩ := e0.mod.blt
  refine PySem.W.ks_loadName_global rfl rfl (Calls.loadGlobal_builtin (env := dfEnv f (.ref cda) cc s.heap.objs.size) (e0.mod.glob.keeps I0.bk) D.sup (hmb.keeps I0.bk) ((hbb _ (by decide)).trans (show bootBuiltins "super" = some (.type "super") by decide +kernel)) ⟨rfl, ?_⟩)
  refine wpAny_loadName_free rfl rfl rfl ⟨_, X1 _ _ lcc, rfl⟩ ?_
  refine wpAny_loadName_local rfl rfl ns rfl ?_
  refine PySem.ks_wpAny_isType_cls hD1 hD2 ⟨rfl, ?_⟩
  refine PySem.ks_wpAny_call_super hD1 hD2 hx rfl (fun c e => nomatch e) (PySem.W.looks_mroIn X1 hmro) (fun h2 e2 k2 => ?_)
  have I1 : Inv (dfCx CX P w K mg base f (.ref cda) cc A outer s H E) [] [some (.ref a), some (.str z)] H { s with heap := h2, toks := s.toks + 2 } := I0.kept (t' := s.toks + 2) k2
  have X2 := I1.kIn
  have hx2 := k2 _ _ hx
  have In2 : PySem.W.InstAt h2 a { cls := .ref C, dict := none, data := .fields #[.ref t1, .none, .none, .none, .bool false, .none] } C none := ⟨hx2, rfl, rfl, trivial⟩
  refine PySem.W.kxs_getMethod PySem.W.kxs_ValueError e2 (PySem.W.looks_opaque X2 D.thd) (l₀ := cd.mro) (fun A Q E s k q => wpAny_bind ((PySem.W.looks_clsIn X2 hC) A _ E s k (wpAny_pure q))) hl X2 hal (In2.type.andThen (PySem.W.looks_subIn X2 D.sub)) (PySem.W.ks_ne X2 In2 hC) rfl ?_
  have I2 : Inv (dfCx CX P w K mg base f (.ref cda) cc A outer s H E) [] [some (.ref a), some (.str z)] H { s with heap := h2.push (PySem.W.kxs_mw "ValueError.__init__" a), toks := s.toks + 2 + 1 } := I1.kept (t' := s.toks + 2 + 1) fun b o e => Heap.get?_push_of_some _ e
  have hu2 : (h2.push (PySem.W.kxs_mw "ValueError.__init__" a)).get? h2.objs.size = some (PySem.W.kxs_mw "ValueError.__init__" a) := Heap.get?_push_size _ rfl
  refine PySem.W.kxs_callWith (i := "ValueError.__init__") (x := a) rfl (Calls.evalArgs_plain (PyProof.Rows.spliced_more (PySem.ESX.ldL (m := fun x => [(("self" : Str), Value.ref a), ("reason", .str z tz)].reverse.lookup x) (v := .str z tz) ?_ rfl (PyProof.Rows.spliced_none ⟨hu2, ?_⟩))))
  · exact ns.keeps (fun b o e => Heap.get?_push_of_some _ (k2 _ _ e))
  · obtain ⟨nm, q, N, bs, bm, sn, sub, ab, col, dd, k0, k1, k2', k3, k5, hCo, hbm⟩ := D.oex.cls
    obtain ⟨t3, hx3⟩ := exo_at I2.hok ha
    refine call_mw (I2.kIn _ _ hCo) hx3 hu2 (show 1 ≤ sizeLine by decide) (fun h4 t4 k4 hx4 => ?_)
    have I4 := I2.write (t' := s.toks + 2 + 1) (x := a) (e := a) (o := exo a C none) (by rw [ha]; exact True.intro) (.inl rfl) k4 ⟨_, hx4⟩ (exo_ok hx4)
    have eu : upd H a (exo a C none) = H :=
      by
      funext b
      by_cases hb : b = a
      · rw [hb, upd_same, ha]
      · rw [upd_ne hb]
    rw [eu] at I4
    refine wpAt_of_wpAny (wpAny_mono ((pss_one (ps_ost (X := dfCx CX P w K mg base f (.ref cda) cc A outer s H E) (pv 0) (pv 1))).run [] _ [some (.ref a), some (.str z)] H { nx := fun _ H' => Q .non H', rt := Q } I4
      ⟨_, rfl, _, rfl, a, C, rfl, D.oex, D.nre, .inl ⟨ha, fun dx n ne => fin dx n ne⟩⟩) (fun fl s' hs => ?_) fun _ _ h => h)
    cases fl with
    | next =>
      obtain ⟨σ', H', J, q⟩ := hs
      exact ⟨.non, H', J.os, J.bare, J.base, J.hok, rfl, q⟩
    | ret u =>
      rcases hs with ⟨v, σ', H', J, rv, q⟩
      exact ⟨v, H', J.os, J.bare, J.base, J.hok, rv, q⟩
    | brk => obtain ⟨σ', H', J, q⟩ := hs; exact q.elim
    | cont => obtain ⟨σ', H', J, q⟩ := hs; exact q.elim

theorem rz_ok {P : Program} {w : World} {K : PySem.W.Frag} {mg : Str → Option Value} {base : Heap} {cs : Cs} {fI : Addr} {fd : FuncData} (D : DfOk P K mg cs.DF fI fd) (gC : mg "DeedFault" = some (.ref cs.DF)) (iC : PySem.W.findIn K (.ref cs.DF) "__init__" = some (some (.ref fI)))
    (tI : PySem.W.typeIn K (.ref fI) = some (.type "function")) (hb : Binds K fd ["self", "reason"] []) : RzOk P w K mg base cs := by
  intro X W s j p1 p2 p3 p4 e1 e2 e3 e4 e5 hg hc hr tk
  subst e1
  subst e2
  subst e3
  subst e4
  subst e5
  refine ps_imp (ps_raise hc tk (pmk_oex (CX := CX0) D.oex iC tI (ok_df D) (hr.mono (by decide)) hb .nil pass0 hg gC (pa_cons (pe_str (x := s)) pa_nil))) fun _ σ H q => ?_
  refine ⟨show 1 ≤ 1000 by decide, fun a ha => ⟨a, s, rfl, upd_same, fun d hd nd => ⟨rfl, d, [("reason", .str s)], upd_same, by rw [upd_ne nd, upd_same], ?_, ?_⟩⟩⟩
  · rw [upd_ne nd] at hd
    exact hd
  · have hd' : H d = none := by
      rw [upd_ne nd] at hd
      exact hd
    refine q d _ (fun b o z => ?_) upd_same
    have n1 : b ≠ d := ne_of_none z hd'
    have n2 : b ≠ a := ne_of_none z ha
    rw [upd_ne n1, del_ne n2, upd_ne n2, upd_ne n1, upd_ne n2]
    exact z
end TC
namespace TC
open PySem L2
/-! ### match over a tuple of data: a text and captures, or anything -/
def capPat (c : Str × Pos) : Pattern := .MatchAs none (some c.1) c.2
def seqPat (x : Str) (j : Nat) (p1 p2 p3 : Pos) (cs : List (Str × Pos)) : Pattern := .MatchSequence (.MatchValue (.Constant (.str x) j p1) p2 :: cs.map capPat) p3
def CapsOk (X : Cx) : List (Str × Pos) → List Nat → Prop
  | [], [] => True
  | (x, _) :: cs, i :: is => X.N[i]? = some x ∧ Loc X.env.scope x ∧ (X.fn x = true ∨ X.env.scope.names.lookup x = some .local) ∧ CapsOk X cs is
  | _, _ => False
/-- the cases of a match over the tuple of ds -/
def XMs (X : Cx) (Hb : Bs) (cases : List MatchCase) (Γ : G) (ds : List PyData) (N : G → Prop) (R : Rk → G → Prop) : Prop := ∀ (first : Bool) (pins : List (Addr × Obj)) (s : Shared) (σ : St) (H : Hp) (D : Ends) (a : Addr) (xs : List V),
  Inv X pins σ H s → SqT X.K H a xs → DpAll X.K H xs ds → tS X.K Hb Γ N R D σ H → wpAny (model X.prog X.w) X.A (matchCases cases X.env (.ref a) first) (SP X pins D) X.xe s
theorem xs_match {X : Cx} {Hb : Bs} {e : Expr} {cases : List MatchCase} {pos : Pos} {Γ : G} {ds : List PyData} {N : G → Prop} {R : Rk → G → Prop} (he : XE X e Γ (.tuple ds)) (hm : XMs X Hb cases Γ ds N R) : XS X Hb (.Match e cases pos) Γ N R := by
  refine ⟨fun pins s σ H D I q => wpAny_Match ?_⟩
  obtain ⟨H0, E⟩ := q.1
  refine thn (he.run pins s σ H (fun v H' => Same H H' ∧ Dp X.K H' v (.tuple ds)) I ⟨⟨Hb, H0, E⟩, fun v H' s1 q1 => ⟨s1, q1⟩⟩) fun u s1 ⟨v, H1, I1, r1, s2, q1⟩ => ?_
  cases q1 with
  | tup hs ha =>
    obtain rfl : u = Value.ref _ := r1
    exact hm true pins s1 σ H1 D _ _ I1 hs ha (tS_to q (KeepT.of s2) ⟨H0, E.mono s2⟩)
theorem each_caps {M : Model} {A : Around} {E : Value → Shared → Prop} {s : Shared} {env : Env} : ∀ (cs : List (Str × Pos)) (us : List Value) (Q : Option (List (Str × Value)) → Shared → Prop), cs.length = us.length → Q (some ((cs.map (·.1)).zip us)) s → wpAny M A (matchEach (cs.map capPat) env us) Q E s
  | [], [], Q, _, h => wpAny_matchEach_nil h
  | c :: cs, u :: us, Q, hl, h => wpAny_matchEach_cons (wpAny_matchPattern_Capture (each_caps cs us _ (by simpa using hl) h))
  | [], _ :: _, _, hl, _ => by simp at hl
  | _ :: _, [], _, hl, _ => by simp at hl
theorem bind_caps {X : Cx} {Hb : Bs} {pins : List (Addr × Obj)} {H H0 : Hp} (hN : X.N.Nodup) : ∀ (cs : List (Str × Pos)) (is : List Nat) (us : List Value) (vs : List V) (ds : List PyData) (σ : St) (Γ Γ' : G) (s : Shared) (Q : Unit → Shared → Prop), CapsOk X cs is → Vals vs us → DpAll X.K H vs ds → cs.length = us.length →
    putL is ds Γ = some Γ' → Inv X pins σ H s → EnvOk X.K Hb H0 H σ Γ → (∀ σ' s', Inv X pins σ' H s' → EnvOk X.K Hb H0 H σ' Γ' → Q () s') →
    wpAny (model X.prog X.w) X.A (assignInOrder (((cs.map (·.1)).zip us).map fun (n, _) => bindName X.env n) (((cs.map (·.1)).zip us).map (·.2))) Q X.xe s
  | [], [], us, vs, ds, σ, Γ, Γ', s, Q, _, hv, hd, hl, hp, I, E, k => by
    cases us with
    | cons u us => simp at hl
    | nil =>
      cases hv
      cases hd
      cases hp
      exact wpAny_assignInOrder_none (k σ s I E)
  | (x, p) :: cs, i :: is, us, vs, ds, σ, Γ, Γ', s, Q, hc, hv, hd, hl, hp, I, E, k => by
    cases us with
    | nil => simp at hl
    | cons u us =>
      cases hv with
      | cons h1 h2 =>
        cases hd with
        | cons h3 h4 =>
          obtain ⟨c1, c2, c3, c4⟩ := hc
          refine wpAny_assignInOrder_more ?_
          show wpAny _ _ (bindName X.env x u) _ _ _
          unfold bindName
          refine wpAny_bind (wpAny_holding (wpAny_point (wpAny_bind (store_ok I hN c1 c2 h1 (fun s' I' => wpAny_point ?_) c3))))
          exact bind_caps hN cs is us _ _ _ _ Γ' s' Q c4 h2 h4 (by simpa using hl) hp I' (E.store (g := .c _) ⟨_, rfl, h3⟩) k
  | [], _ :: _, _, _, _, _, _, _, _, _, hc, _, _, _, _, _, _, _ => hc.elim
  | _ :: _, [], _, _, _, _, _, _, _, _, hc, _, _, _, _, _, _, _ => hc.elim
section
variable {X : Cx} {Hb : Bs} {Γ Γ' : G} {N : G → Prop} {R : Rk → G → Prop} {x y : Str} {j : Nat} {p1 p2 p3 : Pos} {cs : List (Str × Pos)} {body : List Stmt} {rest : List MatchCase} {ds : List PyData} {is : List Nat}
theorem star_none (x : Str) (j : Nat) (p1 p2 : Pos) (cs : List (Str × Pos)) : (Pattern.MatchValue (.Constant (.str x) j p1) p2 :: cs.map capPat).findIdx? (·.isStar) = none := by
  rw [List.findIdx?_eq_none_iff]
  intro p hp
  obtain rfl | hp := List.mem_cons.mp hp
  · rfl
  · obtain ⟨c, _, rfl⟩ := List.mem_map.mp hp
    rfl
theorem wild_no (x : Str) (j : Nat) (p1 p2 : Pos) (cs : List (Str × Pos)) : ((Pattern.MatchValue (.Constant (.str x) j p1) p2 :: cs.map capPat).all fun p => p.isWildcard || (p.isStar && p.names.isEmpty)) = false := rfl
/-- another length -/
theorem pm_len (hl : ds.length ≠ cs.length + 1) (hz : ds.length ≤ 1000) (h : XMs X Hb rest Γ ds N R) : XMs X Hb (⟨seqPat x j p1 p2 p3 cs, none, body⟩ :: rest) Γ ds N R := fun first pins s σ H D a xs I hs ha q => by
  obtain ⟨its, r, ht, hz2⟩ := I.tuple hs
  have e : its.length = ds.length := by rw [← r.length]; exact dpa_length ha
  refine wpAny_matchCases_cons (PyProof.Rows.matchSeq_tuple_miss ht (by rw [List.size_toArray, e]; omega) (by rw [List.size_toArray, e, List.length_cons, List.length_map]; exact hl) ?_ (star_none ..) (wild_no ..))
  exact h false pins _ σ H D a xs (I.kept (t' := s.toks + 1 + 1) fun _ _ z => z) hs ha q
/-- the length is right: the text decides -/
theorem pm_text (hl : ds.length = cs.length) (hz : ds.length ≤ 1000) (hN : X.N.Nodup) (hc : X.calm = true) (no : x ≠ y → XMs X Hb rest Γ (.str y :: ds) N R) (yes : x = y → CapsOk X cs is ∧ ∃ Γ', putL is ds Γ = some Γ' ∧ XSs X Hb body Γ' N R) :
    XMs X Hb (⟨seqPat x j p1 p2 p3 cs, none, body⟩ :: rest) Γ (.str y :: ds) N R := fun first pins s σ H D a xs I hs ha q => by
  cases ha with
  | @cons v _ vs _ hy ha =>
    obtain ⟨its, r, ht, hz2⟩ := I.tuple hs
    cases hy
    cases r with
    | @cons _ u _ us ru rr =>
      obtain ⟨tk, rfl⟩ := ru
      have el : us.length = cs.length := by rw [← rr.length, dpa_length ha, hl]
      refine wpAny_matchCases_cons (PyProof.Rows.matchSeq_tuple_hit ht (by rw [List.size_toArray, List.length_cons]; omega) (by rw [List.size_toArray, List.length_cons, List.length_cons, List.length_map, el]) ?_ (star_none ..) (wild_no ..))
      have esz : (Pattern.MatchValue (.Constant (.str x) j p1) p2 :: cs.map capPat).length = (Value.str y tk :: us).toArray.size := by rw [List.size_toArray, List.length_cons, List.length_cons, List.length_map, el]
      rw [esz]
      have I1 : Inv X pins σ H { s with toks := s.toks + 1 + 1 } := I.kept (t' := s.toks + 1 + 1) fun _ _ z => z
      refine PyProof.Rows.unpackItems_tuple (s := { s with toks := s.toks + 1 + 1 }) (I.ok.hd hc) ht fun h' hx => ?_
      have I2 : Inv X pins σ H { s with heap := h', toks := s.toks + 1 + 1 } := I1.kept (t' := s.toks + 1 + 1) fun b o e => hx b o (Nat.ne_of_lt (Heap.lt_size e)) e
      refine wpAny_matchEach_cons (wpAny_matchPattern_Value (thn (pe_str.run pins _ σ H (fun v H' => v = .str x ∧ H' = H) I2 ⟨rfl, rfl⟩) fun u2 s3 ⟨v3, H3, I3, r3, e3, e4⟩ => ?_))
      subst e3
      subst e4
      refine thn (op_eq pins s3 σ H3 (.str y) (.str x) (.str y tk) u2 (fun v H' => v = .bl (decide (V.str y = V.str x)) ∧ H' = H3) I3 ⟨tk, rfl⟩ r3 ⟨rfl, rfl, rfl⟩) fun u4 s4 ⟨v4, H4, I4, r4, e5, e6⟩ => ?_
      subst e5
      subst e6
      obtain rfl : u4 = Value.bool _ := r4
      refine wpAny_truthy_bool ?_
      by_cases exy : x = y
      · rw [decide_eq_true (show V.str y = V.str x by rw [exy]), if_pos rfl]
        obtain ⟨co, Γ', hp, hb⟩ := yes exy
        refine each_caps cs us _ el.symm ?_
        obtain ⟨H0, E⟩ := q.1
        refine bind_caps hN cs is us _ _ σ Γ Γ' s4 _ co rr ha el.symm hp I4 E (fun σ' s' I' E' => ?_)
        exact hb.run pins s' σ' H4 D I' ⟨⟨H0, E'⟩, fun Γ2 σ2 H2 H0' k2 e2 n2 => q.2.1 Γ2 σ2 H2 H0' k2 e2 n2, q.2.2⟩
      · rw [decide_eq_false (show ¬ V.str y = V.str x from fun z => exy (V.str.inj z).symm), if_neg (fun z => nomatch z)]
        exact no exy false pins s4 σ H4 D a _ I4 hs (.cons (.str y) ha) q
/-- case _ -/
theorem pm_any (h : XSs X Hb body Γ N R) : XMs X Hb (⟨.MatchAs none none p1, none, body⟩ :: rest) Γ ds N R := fun first pins s σ H D a xs I hs ha q => by
  refine wpAny_matchCases_cons (wpAny_matchPattern_Capture (wpAny_assignInOrder_none ?_))
  exact h.run pins s σ H D I q
end
end TC
namespace TC
open PySem L2
/-! ### dicts whose keys are tuples of ints and texts, wherever the tuples stand -/
abbrev TEnt := List Key × Addr × Value
/-- at a: such a dict, by tis entries -/
def DTO (P : Program) (w : World) (a : Addr) (xs : List TEnt) : HO := .ext fun h => ∃ o es ep, h.get? a = some o ∧ o.ExactDict ∧ o.data = .dict es ep ∧ es.toList = xs.map (entryOfKey (tupleKind (mixKind P w))) ∧ (xs.map (·.1)).Nodup ∧ xs.length ≤ sizeLine ∧ (a == sysModules) = false
def KeysAt (K : PySem.W.Frag) (H : Hp) (xs : List TEnt) : Prop := ∀ x ∈ xs, SqT K H x.2.1 (x.1.map kV)
theorem dto_ok {P : Program} {w : World} {H : Hp} {h : Heap} {a : Addr} {xs : List TEnt} {o : Obj} {es : Array DictEntry} {ep : Nat} (h1 : h.get? a = some o) (h2 : o.ExactDict) (h3 : o.data = .dict es ep) (h4 : es.toList = xs.map (entryOfKey (tupleKind (mixKind P w)))) (h5 : (xs.map (·.1)).Nodup) (h6 : xs.length ≤ sizeLine) (h7 : (a == sysModules) = false) : ObjOk P w H h a (DTO P w a xs) :=
  ⟨⟨o, es, ep, h1, h2, h3, h4, h5, h6, h7⟩, ⟨o, h1⟩, fun h h' z k => by
    obtain ⟨o, es, ep, h1, h2⟩ := z
    exact ⟨o, es, ep, k _ h1, h2⟩⟩
theorem dto_at {P : Program} {w : World} {H : Hp} {h : Heap} {a : Addr} {xs : List TEnt} (hok : HOk P w H h) (e : H a = some (DTO P w a xs)) : ∃ o es ep, h.get? a = some o ∧ o.ExactDict ∧ o.data = .dict es ep ∧ es.toList = xs.map (entryOfKey (tupleKind (mixKind P w))) ∧ (xs.map (·.1)).Nodup ∧ xs.length ≤ sizeLine ∧ (a == sysModules) = false := by
  have x : ObjOk P w H h a (.ext fun h => ∃ o es ep, h.get? a = some o ∧ o.ExactDict ∧ o.data = .dict es ep ∧ es.toList = xs.map (entryOfKey (tupleKind (mixKind P w))) ∧ (xs.map (·.1)).Nodup ∧ xs.length ≤ sizeLine ∧ (a == sysModules) = false) := hok a _ e
  exact x.1
theorem key_at {X : Cx} {pins : List (Addr × Obj)} {σ : St} {H : Hp} {s : Shared} {b : Addr} {k : List Key} (I : Inv X pins σ H s) (h : SqT X.K H b (k.map kV)) : (tupleKind (mixKind X.prog X.w)).is s.heap k b := by
  obtain ⟨tis, r, ⟨o, h1, h2, n, h3⟩, hz⟩ := I.tuple h
  exact ⟨o, tis.toArray, n, h1, h2, h3, by simpa using items_are r⟩
theorem storedH_len (xs : List TEnt) (k : List Key) (b : Addr) (r : Value) : (storedH xs k b r).length ≤ xs.length + 1 := by
  unfold storedH
  split
  · rw [List.length_map]; omega
  · rw [List.length_append]; exact Nat.le_refl _
/-- one entry more -/
theorem dt_set {X : Cx} {pins : List (Addr × Obj)} {σ : St} {H : Hp} {s : Shared} {E : Value → Shared → Prop} {D b : Addr} {xs : List TEnt} {k : List Key} {r : Value} {Q : Unit → Shared → Prop} (hu : X.A.units < cLine) (I : Inv X pins σ H s) (hD : H D = some (DTO X.prog X.w D xs)) (hk : KeysAt X.K H xs)
    (hb : SqT X.K H b (k.map kV)) (hz : xs.length < sizeLine) (h : ∀ s', Inv X pins σ (upd H D (DTO X.prog X.w D (storedH xs k b r))) s' → Q () s') : wpAny (model X.prog X.w) X.A (dictSet D (.ref b) r) Q E s := by
  obtain ⟨o, es, ep, h1, h2, h3, h4, h5, h6, h7⟩ := dto_at I.hok hD
  refine wpAny_dictSet_heap (knd := tupleKind (mixKind X.prog X.w)) hu (key_at I hb) ⟨o, es, ep, h1, h2, h3, h4, fun x hx => key_at I (hk x hx), h5⟩ (fun h' T sb => h _ ?_) (Nat.le_of_lt hz)
  obtain ⟨o2, es2, ep2, g1, g2, g3, g4, g5, g6⟩ := T
  exact d_write I (by rw [hD]; exact True.intro) sb ⟨o2, g1⟩ (dto_ok g1 g2 g3 g4 g6 (by have := storedH_len xs k b r; omega) h7)
/-- {k: v for target in iter if ..}, the keys tuples -/
def tDT (X : Cx) (wi : TI) (g : TG) (tt : TT) (tk tv : TE) (vs : List Nat) : TE := fun σ H Q => wi σ H fun J H1 => ∀ D, H1 D = none → ∃ W : Nat → Nat → Hp → Prop, (∃ m, W 0 m (upd H1 D (DTO X.prog X.w D []))) ∧ ∀ i m H, W i m H →
  (J.stop i H ∧ Q (.ref D) H) ∨ (J.go i H ∧ ∃ Nw : Hp → Prop, (∀ H', Nw H' → ∃ mm, mm < m ∧ W (i + 1) mm H') ∧ ∀ x H', J.yld i H x H' → g x (wipe σ vs) H' fun σ2 H2 => wipe σ2 vs = wipe σ vs ∧ tt σ2 H2 fun b H3 =>
    if b = true then tk σ2 H3 fun y H4 => tv σ2 H4 fun z H5 => ∃ xs k b, y = .ref b ∧ SqT X.K H5 b (k.map kV) ∧ H5 D = some (DTO X.prog X.w D xs) ∧ xs.length < sizeLine ∧ KeysAt X.K H5 xs ∧ ∀ r, RelV z r → Nw (upd H5 D (DTO X.prog X.w D (storedH xs k b r))) else Nw H3)
theorem dt_core {X : Cx} {pins : List (Addr × Obj)} {s : Shared} {σ : St} {H : Hp} {Q : VK} {kx vx tg iter : Expr} {ifs : List Expr} {scope : Scope} {own : List (Str × Nat)} {pos pos' : Pos} {wi : TI} {g : TG} {tt : TT} {tk tv : TE} {use : Option (Value → Sem Unit)} {Qf : Value → Shared → Prop} (hc : X.calm = true) (hu : X.A.units + 64 < cLine) (hN : X.N.Nodup) (I : Inv X pins σ H s) (hi : PI X tg iter wi) (ok : BlkOk X.N X.env.scope scope own)
    (hg : ∀ (s : Shared) (H : Hp) (C : Addr) (cl : List (Str × Addr)) (fp : List Addr), PG (X.blk s H scope (compEnvC scope cl C X.env) fp) tg g)
    (ht : ∀ (s : Shared) (H : Hp) (C : Addr) (cl : List (Str × Addr)) (fp : List Addr), PTs (X.blk s H scope (compEnvC scope cl C X.env) fp) ifs tt)
    (hk : ∀ (s : Shared) (H : Hp) (C : Addr) (cl : List (Str × Addr)) (fp : List Addr), PE (X.blk s H scope (compEnvC scope cl C X.env) fp) kx tk) (he : ∀ (s : Shared) (H : Hp) (C : Addr) (cl : List (Str × Addr)) (fp : List Addr), PE (X.blk s H scope (compEnvC scope cl C X.env) fp) vx tv)
    (hs : ∀ x, foldedSetIterable iter X.env x = pure x) (h : tDT X wi g tt tk tv (own.map (·.2)) σ H Q)
    (out : ∀ D C s' m H', Inv X pins σ H' s' → Q (.ref D) H' → s'.heap.Ns C m → FpOk X pins H' C → compPost (model X.prog X.w) X.A X.xe use Qf (.ref D) C (.ok .next) s') : wpAny (model X.prog X.w) X.A (comprehension (.DictComp kx vx [⟨tg, iter, ifs, 0⟩] scope pos) scope X.env pos' newDict false (eval iter X.env) use) Qf X.xe s := by
  have frees : ∀ y ∈ scope.names, y.2 = .free → ∃ c, X.env.cells.lookup y.1 = some c := fun y hy e => (ok.free y hy e).elim (fun k => I.ok.has _ (.inl k)) fun k => I.ok.has _ (.inr k)
  refine wpAny_comprehension_free (use := use) rfl hs (closure_ok frees) ok.kind (fun y hy e => by rw [ok.uniq y hy, e]) (thn (hi.run pins s σ H _ I h) fun xv s1 hx => thn hx fun itv s2 got => ?_)
  obtain ⟨it, fp, tn, J, H2, rfl, I2, T, at0, fps, q⟩ := got
  refine wpAny_newObj_type ?_
  refine newEnv_comp ?_
  obtain ⟨D, hD⟩ : ∃ D, D = s2.heap.objs.size := ⟨_, rfl⟩
  rw [← hD]
  obtain ⟨W, ⟨m0, w0⟩, turn⟩ := q D (I2.hok.fresh (Nat.le_of_eq hD.symm))
  obtain ⟨s3, e3⟩ : ∃ s3 : Shared, s3 = { s2 with heap := s2.heap.push { cls := .type "dict", data := .dict #[] } } := ⟨_, rfl⟩
  obtain ⟨H3, eH3⟩ : ∃ H3, H3 = upd H2 D (DTO X.prog X.w D []) := ⟨_, rfl⟩
  rw [← eH3] at w0
  have heap3 : s3.heap = s2.heap.push { cls := .type "dict", data := .dict #[] } := by rw [e3]
  have I3 : Inv X pins σ H3 s3 := by
    rw [eH3, e3]
    refine I2.laid (t' := s2.toks) (fun b o e => Heap.get?_push_of_some _ e) (Nat.le_of_eq hD.symm) ?_
    rw [hD]
    exact dto_ok (Heap.get?_push_size _ rfl) ⟨rfl, rfl, rfl⟩ rfl rfl List.nodup_nil (Nat.zero_le _) (beq_eq_false_iff_ne.mpr (Ne.symm (Nat.ne_of_lt I2.big)))
  have below : ∀ b ∈ fp, b < s2.heap.objs.size := fun b hb => Heap.lt_size (T.obj _ _ at0 b hb).choose_spec.1
  have fps3 : ∀ b ∈ fp, FpOk X pins H3 b ∧ b < s3.heap.objs.size := fun b hb => ⟨⟨by rw [eH3, upd_ne (by rw [hD]; exact Nat.ne_of_lt (below b hb))]; exact (fps b hb).1, (fps b hb).2⟩, by rw [heap3, Heap.size_push]; exact Nat.lt_succ_of_lt (below b hb)⟩
  have at3 : tn 0 s3.heap := T.keep _ _ _ at0 fun b _ o e => by rw [heap3]; exact Heap.get?_push_of_some _ e
  have I4 := block_start I3 ok hN fps3
  obtain ⟨cev, hce⟩ : ∃ cev, cev = compEnvC scope (cellsFrom (s3.heap.objs.size + 1) scope.names (cloFrom X.env.cells scope.names [])) s3.heap.objs.size X.env := ⟨_, rfl⟩
  have pg := hg s3 H3 s3.heap.objs.size (cellsFrom (s3.heap.objs.size + 1) scope.names (cloFrom X.env.cells scope.names [])) fp
  have pt := ht s3 H3 s3.heap.objs.size (cellsFrom (s3.heap.objs.size + 1) scope.names (cloFrom X.env.cells scope.names [])) fp
  have pk := hk s3 H3 s3.heap.objs.size (cellsFrom (s3.heap.objs.size + 1) scope.names (cloFrom X.env.cells scope.names [])) fp
  have pe := he s3 H3 s3.heap.objs.size (cellsFrom (s3.heap.objs.size + 1) scope.names (cloFrom X.env.cells scope.names [])) fp
  rw [← e3]
  change codeAny _ _ (.compStart (.DictComp kx vx [⟨tg, iter, ifs, 0⟩] scope pos) 0 (.ref it) (.ref D) (compEnvC scope (cellsFrom (s3.heap.objs.size + 1) scope.names (cloFrom X.env.cells scope.names [])) s3.heap.objs.size X.env)) (compPost (model X.prog X.w) X.A X.xe use Qf (.ref D) s3.heap.objs.size) { s3 with heap := pushCells (s3.heap.push { cls := .type "dict", data := .dict #[] }) scope.names }
  rw [← hce] at I4 pg pt pk pe ⊢
  have ceL : cev.locals = s3.heap.objs.size := by rw [hce]; rfl
  obtain ⟨s4, e4⟩ : ∃ s4 : Shared, s4 = { s3 with heap := pushCells (s3.heap.push { cls := .type "dict", data := .dict #[] }) scope.names } := ⟨_, rfl⟩
  rw [← e4] at I4 ⊢
  have at4 : tn 0 s4.heap := T.keep _ _ _ at3 fun b _ o e => by rw [e4]; exact pushCells_keeps _ _ _ _ (Heap.get?_push_of_some _ e)
  have nofp : ∀ b ∈ fp, H3 b = none := fun b hb => (fps3 b hb).1.1
  have still : ∀ {τ : St} {G : Hp} {r : Shared}, Inv (X.blk s3 H3 scope cev fp) [] τ G r → (∀ b ∈ fp, G b = none) → ∀ b ∈ fp, FpOk (X.blk s3 H3 scope cev fp) [] G b := fun {τ G r} J n b hb => by
    exact ⟨n b hb, (J.ok.exf b hb).1, J.ok.exfs b hb, .inl hb, fun x c e => (J.ok.exf b hb).2 x c e, fun p hp => absurd (show p ∈ ([] : List (Addr × Obj)) ++ [] from hp) (by simp)⟩
  have loop : codeAny (model X.prog X.w) X.A (.compLoop (.DictComp kx vx [⟨tg, iter, ifs, 0⟩] scope pos) 0 (.ref it) (.ref D) cev) (compPost (model X.prog X.w) X.A X.xe use Qf (.ref D) s3.heap.objs.size) s4 := by
    refine compLoop_anyD (fun n r => ∃ i G, Inv (X.blk s3 H3 scope cev fp) [] (wipe σ (own.map (·.2))) G r ∧ tn i r.heap ∧ (∀ b ∈ fp, G b = none) ∧ W i n G) ?_ m0 ⟨0, H3, I4, at4, nofp, w0⟩
    rintro n s5 ⟨i, H5, I5, at5, no5, w5⟩
    rcases turn i n H5 w5 with ⟨stop, qe⟩ | ⟨go, Nw, hNw, step⟩
    · refine thnF (T.done (X.blk s3 H3 scope cev fp) rfl rfl rfl hc i [] s5 _ H5 (fun _ _ => False) I5 (still I5 no5) at5 stop) fun r s6 ⟨hr, I6⟩ => ?_
      subst hr
      have I7 : Inv X pins σ H5 s6 := I3.call' (ch := fp) I6.os I6.base I6.hok I6.bare fun b hb => ⟨(fps3 b hb).1.2.2.2.1, (fps3 b hb).1.2.1, (fps3 b hb).1.2.2.2.2.1, (fps3 b hb).1.2.2.2.2.2⟩
      have fC : H5 s3.heap.objs.size = none := by
        rw [← ceL]
        exact I6.free
      obtain ⟨m, hn, _⟩ := I6.loc
      have hn : s6.heap.Ns s3.heap.objs.size m := by
        rw [← ceL]
        exact hn
      exact out D s3.heap.objs.size s6 m H5 I7 qe hn (I3.fpOk (Nat.le_refl _) fC)
    · refine thnF (T.item (X.blk s3 H3 scope cev fp) rfl rfl rfl hc i [] s5 _ H5 (fun _ _ => False) I5 (still I5 no5) at5 go) fun r s6 ⟨u, hr, h6⟩ => ?_
      subst hr
      refine thnF h6 fun _ s7 ⟨x, H7, I7, r7, y7, at7, no7⟩ => ?_
      have I7' := I7.pinned (still I7 no7) (T.obj _ _ at7)
      refine thnF (pg.run _ s7 _ H7 x u _ I7' r7 (step x H7 y7)) fun _ s8 ⟨σ8, H8, I8, w8, q8⟩ => ?_
      refine thnF (pt.run _ s8 σ8 H8 _ I8 q8) fun b u9 ⟨G9, J9, q9⟩ => ?_
      have fin : ∀ {r : Shared} {G : Hp}, Inv (X.blk s3 H3 scope cev fp) ([] ++ pinsAt fp s7.heap) σ8 G r → Nw G → ∃ m, m < n ∧ ∃ i G, Inv (X.blk s3 H3 scope cev fp) [] (wipe σ (own.map (·.2))) G r ∧ tn i r.heap ∧ (∀ b ∈ fp, G b = none) ∧ W i m G := fun {r G} J nx => by
        obtain ⟨mm, hm, wn⟩ := hNw G nx
        have kept : ∀ b ∈ fp, ∀ o, s7.heap.get? b = some o → r.heap.get? b = some o ∧ G b = none := fun b hb o e =>
          have z := J.pin (b, o) (List.mem_append_right _ (List.mem_append_right _ (mem_pinsAt hb e)))
          ⟨z.1, z.2.1⟩
        refine ⟨mm, hm, i + 1, G, (J.unpinned (pins := [])).weak (by rw [← w8, wipe_length]) (fun j v e => (wipe_some (by rw [← w8] at e; exact e)).1), T.keep _ _ _ at7 fun b hb o e => (kept b hb o e).1, fun b hb => ?_, wn⟩
        obtain ⟨o, e, _⟩ := T.obj _ _ at7 b hb
        exact (kept b hb o e).2
      cases b with
      | false =>
        rw [if_neg (fun z => nomatch z)] at q9 ⊢
        exact fin J9 q9
      | true =>
        rw [if_pos rfl] at q9 ⊢
        refine thnF (pk.run _ u9 σ8 G9 _ J9 q9) fun z u10 ⟨yk, H10, J10, r10, q10⟩ => ?_
        refine thnF (pe.run _ u10 σ8 H10 _ J10 q10) fun z2 s11 ⟨yv, H11, I11, r11, xs, k, bk, ek, sb, hD11, hz, ks, nx⟩ => ?_
        subst ek
        obtain rfl : z = Value.ref bk := r10
        exact dt_set (X := X.blk s3 H3 scope cev fp) (show X.A.units < cLine by omega) I11 hD11 ks sb hz fun s12 I12 => fin I12 (nx z2 r11)
  exact codeAny_compStart_dict loop (T.self X.A 0 _ _ _ at4 loop)
section
variable {X : Cx} {kx vx tg iter : Expr} {ifs : List Expr} {scope : Scope} {own : List (Str × Nat)} {pos spos py : Pos} {wi : TI} {g : TG} {tt : TT} {tk tv : TE} {y : Str} {i : Nat}
theorem sw_dict {l : Nat} {env : Env} (hk : env.scope.kind = .function) (hy : env.scope.names.lookup y = some .local) (hl : (py.line == pos.line) = true) (ha : (scope.names.any fun (n, k) => n == y && (k == .local || k == .cell)) = false) {gs : List Comprehension} : swapsWith (.DictComp kx vx gs scope pos) (some (.Name y py)) l env = pure true := by
  have k1 : env.kindOf y = some .local := hy
  have k2 : env.blockKind = .function := by unfold Env.blockKind; rw [hk]; rfl
  unfold swapsWith
  simp only [k2, k1, ha, Expr.pos, hl]
  rfl
/-- y = {..} -/
theorem ps_setDt (hc : X.calm = true) (hu : X.A.units + 64 < cLine) (hN : X.N.Nodup) (hy : X.N[i]? = some y) (hyl : X.env.scope.names.lookup y = some .local) (sw0 : swapsWith (.DictComp kx vx [⟨tg, iter, ifs, 0⟩] scope pos) (some (.Name y py)) spos.line X.env = pure true) (hi : PI X tg iter wi) (ok : BlkOk X.N X.env.scope scope own)
    (hg : ∀ (s : Shared) (H : Hp) (C : Addr) (cl : List (Str × Addr)) (fp : List Addr), PG (X.blk s H scope (compEnvC scope cl C X.env) fp) tg g)
    (ht : ∀ (s : Shared) (H : Hp) (C : Addr) (cl : List (Str × Addr)) (fp : List Addr), PTs (X.blk s H scope (compEnvC scope cl C X.env) fp) ifs tt)
    (hk : ∀ (s : Shared) (H : Hp) (C : Addr) (cl : List (Str × Addr)) (fp : List Addr), PE (X.blk s H scope (compEnvC scope cl C X.env) fp) kx tk) (he : ∀ (s : Shared) (H : Hp) (C : Addr) (cl : List (Str × Addr)) (fp : List Addr), PE (X.blk s H scope (compEnvC scope cl C X.env) fp) vx tv)
    (hs : ∀ x, foldedSetIterable iter X.env x = pure x := by intro _; rfl) : PS X (.Assign [.Name y py] (.DictComp kx vx [⟨tg, iter, ifs, 0⟩] scope pos) spos) (tAsg (tDT X wi g tt tk tv (own.map (·.2))) (gName i)) := by
  constructor
  intro pins s σ H D I h
  rw [exec_Assign_Name_used _ _ _ _ sw0]
  refine wpAny_bind ?_
  refine wpAny_standAt (wpAny_bind ?_)
  show wpAny _ X.A (do let _ ← comprehension (.DictComp kx vx [⟨tg, iter, ifs, 0⟩] scope pos) scope X.env (firstIterPos [⟨tg, iter, ifs, 0⟩] pos) newDict false (eval iter X.env) (some (assign (.Name y py) X.env))) _ _ s
  refine wpAny_bind (thn (dt_core (Qf := fun _ s' => SP X pins D .next s') hc hu hN I hi ok hg ht hk he hs (show tDT X wi g tt tk tv (own.map (·.2)) σ H (fun x H1 => gName i x σ H1 D.nx) from h) fun L C s' m H' I' q hn f => ?_) fun _ s' hq => wpAny_pure (wpAny_pure hq))
  change wpAny _ _ (assign (.Name y py) X.env (.ref L)) _ _ _
  obtain ⟨c0, c1, c2, c3, c4, c5⟩ := f
  refine wpAny_assign_Name (store_ok2 (v := V.ref L) I' hN hy (.inl hyl) rfl (fun s2 I2 ⟨a, sb, ha⟩ => ⟨m, hn.sameBut sb ?_, fun h3 sb3 => ⟨_, H', I2.turned (t' := s2.toks) (fun b o ne e => (sb3.2 b ne).trans e) c0 c1 c3 c4 c5, q⟩⟩) (.inr hyl))
  exact ha.elim (fun z => by rw [z]; exact c1) fun z e => c4 y a z e.symm
end
end TC
namespace TC
open PySem L2
/-- over a walk -/
theorem dt_it {X : Cx} {J : It} {n : Nat} {Gd : Hp → Prop} {Y : Nat → Hp → V → Hp → Prop} (wk : Walk J n Gd Y) {g : TG} {tt : TT} {tk tv : TE} {vs : List Nat} {σ : St} {H1 : Hp} {D : Addr} {Q : VK} (Pw : Nat → Hp → Prop) (h0 : Pw 0 (upd H1 D (DTO X.prog X.w D []))) (hG : ∀ i H, i ≤ n → Pw i H → Gd H)
    (hs : ∀ i x H H', i < n → Pw i H → Y i H x H' → g x (wipe σ vs) H' fun σ2 H2 => wipe σ2 vs = wipe σ vs ∧ tt σ2 H2 fun b H3 =>
      if b = true then tk σ2 H3 fun y H4 => tv σ2 H4 fun z H5 => ∃ xs k b, y = .ref b ∧ SqT X.K H5 b (k.map kV) ∧ H5 D = some (DTO X.prog X.w D xs) ∧ xs.length < sizeLine ∧ KeysAt X.K H5 xs ∧ ∀ r, RelV z r → Pw (i + 1) (upd H5 D (DTO X.prog X.w D (storedH xs k b r))) else Pw (i + 1) H3) (hd : ∀ H, Pw n H → Q (.ref D) H) :
    ∃ W : Nat → Nat → Hp → Prop, (∃ m, W 0 m (upd H1 D (DTO X.prog X.w D []))) ∧ ∀ i m H, W i m H →
      (J.stop i H ∧ Q (.ref D) H) ∨ (J.go i H ∧ ∃ Nw : Hp → Prop, (∀ H', Nw H' → ∃ mm, mm < m ∧ W (i + 1) mm H') ∧ ∀ x H', J.yld i H x H' → g x (wipe σ vs) H' fun σ2 H2 => wipe σ2 vs = wipe σ vs ∧ tt σ2 H2 fun b H3 =>
        if b = true then tk σ2 H3 fun y H4 => tv σ2 H4 fun z H5 => ∃ xs k b, y = .ref b ∧ SqT X.K H5 b (k.map kV) ∧ H5 D = some (DTO X.prog X.w D xs) ∧ xs.length < sizeLine ∧ KeysAt X.K H5 xs ∧ ∀ r, RelV z r → Nw (upd H5 D (DTO X.prog X.w D (storedH xs k b r))) else Nw H3) := by
  refine ⟨fun i m H => i ≤ n ∧ m = n - i ∧ Pw i H, ⟨n, Nat.zero_le _, rfl, h0⟩, ?_⟩
  rintro i m H ⟨hi, rfl, p⟩
  have gd := hG i H hi p
  rcases Nat.lt_or_ge i n with lt | ge
  · exact .inr ⟨wk.goes i H lt gd, Pw (i + 1), fun H' p' => ⟨n - (i + 1), by omega, lt, rfl, p'⟩, fun x H' y => hs i x H H' lt p (wk.yields i H x H' lt gd y)⟩
  · have e : i = n := by omega
    subst e
    exact .inl ⟨wk.stops H gd, hd H p⟩

/-- the keys of pairs -/
def pKey (p : Int × Int) : List Key := [.inl p.1, .inl p.2]
/-- a dict whose keys are the pairs of ps -/
def FoundF (P : Program) (w : World) (K : PySem.W.Frag) (ps : List (Int × Int)) : Hp → V → Prop := fun H v => ∃ D xs, v = .ref D ∧ H D = some (DTO P w D xs) ∧ KeysAt K H xs ∧ xs.length ≤ ps.length ∧ (∀ x ∈ xs, ∃ p ∈ ps, x.1 = pKey p) ∧ ∀ p ∈ ps, ∃ x ∈ xs, x.1 = pKey p
theorem KeysAt.keep {K : PySem.W.Frag} {H H' : Hp} {xs : List TEnt} (k : KeepT K H H') (h : KeysAt K H xs) : KeysAt K H' xs := fun x hx => k _ _ (h x hx)
theorem FoundF.mono {P : Program} {w : World} {K : PySem.W.Frag} {H H' : Hp} {ps : List (Int × Int)} {v : V} (s : Same H H') (h : FoundF P w K ps H v) : FoundF P w K ps H' v := by
  obtain ⟨D, xs, h1, h2, h3, h4⟩ := h
  exact ⟨D, xs, h1, s _ _ h2, h3.keep (KeepT.of s), h4⟩
theorem storedH_keys {xs : List TEnt} {k : List Key} {b : Addr} {r : Value} : ∀ x ∈ storedH xs k b r, (∃ y ∈ xs, y.1 = x.1 ∧ y.2.1 = x.2.1) ∨ (x.1 = k ∧ x.2.1 = b) := fun x hx => by
  unfold storedH at hx
  split at hx
  · obtain ⟨y, hy, rfl⟩ := List.mem_map.mp hx
    left
    refine ⟨y, hy, ?_⟩
    unfold putAt
    split <;> exact ⟨rfl, rfl⟩
  · rcases List.mem_append.mp hx with h | h
    · exact .inl ⟨x, h, rfl, rfl⟩
    · rw [List.mem_singleton.mp h]
      exact .inr ⟨rfl, rfl⟩
theorem storedH_has {xs : List TEnt} {k : List Key} {b : Addr} {r : Value} : (∃ x ∈ storedH xs k b r, x.1 = k) ∧ ∀ y ∈ xs, ∃ x ∈ storedH xs k b r, x.1 = y.1 := by
  unfold storedH
  split
  · rename_i h
    constructor
    · unfold atKey at h
      rw [Option.isSome_map] at h
      obtain ⟨y, hy⟩ := Option.isSome_iff_exists.mp h
      have h1 := List.mem_of_find?_eq_some hy
      have h2 : y.1 = k := of_decide_eq_true (List.find?_some (p := fun x : TEnt => decide (x.1 = k)) hy)
      refine ⟨_, List.mem_map_of_mem h1, ?_⟩
      unfold putAt
      rw [if_pos h2]
      exact h2
    · intro y hy
      refine ⟨_, List.mem_map_of_mem hy, ?_⟩
      unfold putAt
      split <;> rfl
  · constructor
    · exact ⟨(k, b, r), List.mem_append_right _ (List.mem_singleton.mpr rfl), rfl⟩
    · exact fun y hy => ⟨y, List.mem_append_left _ hy, rfl⟩

theorem keepT_dto {P : Program} {w : World} {K : PySem.W.Frag} {H : Hp} {p : Addr} {l : List TEnt} {o : HO} (h : H p = some (DTO P w p l)) : KeepT K H (upd H p o) := fun a xs q => by
  have key : ∀ u, H a = some u → u ≠ DTO P w p l → a ≠ p := fun u e ne z => by
    rw [z, h] at e
    exact ne (Option.some.inj e).symm
  rcases q with (q | ⟨ob, q⟩) | q
  · exact .inl (.inl (by rw [upd_ne (key _ q (fun z => by cases (show HO.tup xs = HO.ext _ from z)))]; exact q))
  · exact .inl (.inr ⟨ob, by rw [upd_ne (key _ q (fun z => by cases (show HO.frz ob (.tup xs) = HO.ext _ from z)))]; exact q⟩)
  · exact .inr q
section
variable {X : Cx} {Hb : Bs} {Γ : G} {scope : Scope} {own : List (Str × Nat)} {pos p1 p2 p3 p4 p5 p6 p7 : Pos} {x y : Str} {j1 j2 : Nat}
/-- z = {x: True for x in y if x is not None}, y a list of pairs and None -/
theorem xs_setDt {os : List (Option (Int × Int))} {N : G → Prop} {R : Rk → G → Prop} {zz : Str} {pz ps : Pos} (iz i jy : Nat) (hl : look Γ jy = some (.list (os.map dOP))) (hz : os.length ≤ 1000) (hc : X.calm = true) (hu : X.A.units + 64 < cLine) (hN : X.N.Nodup) (ok : BlkOk X.N X.env.scope scope own) (hi : i ∈ own.map (·.2)) (hiG : i < Γ.length) (hy : X.N[jy]? = some y) (hvy : Vis X.env.scope y) (hdy : (y == ("__debug__" : Str)) = false) (hcy : (y == ("__classdict__" : Str)) = false)
    (hg : ∀ (s : Shared) (H : Hp) (C : Addr) (cl : List (Str × Addr)) (fp : List Addr), PG (X.blk s H scope (compEnvC scope cl C X.env) fp) (.Name x p1) (gName i))
    (he : ∀ (s : Shared) (H : Hp) (C : Addr) (cl : List (Str × Addr)) (fp : List Addr) (p : Pos), PE (X.blk s H scope (compEnvC scope cl C X.env) fp) (.Name x p) (tVar i))
    (hzz : X.N[iz]? = some zz) (hzl : X.env.scope.names.lookup zz = some .local) (hsw : swapsWith (.DictComp (.Name x p3) (.Constant (.bool true) j1 p4) [⟨.Name x p1, .Name y p2, [.Compare (.Name x p5) [.IsNot] [.Constant .none j2 p6] p7], 0⟩] scope pos) (some (.Name zz pz)) ps.line X.env = pure true)
    (hno : noOwn (Γ.set iz .n) = true) (hn : N (((Γ.set iz .n).map rebase).set iz (.x (FoundF X.prog X.w X.K (os.filterMap id))))) (hs : ∀ z, foldedSetIterable (.Name y p2) X.env z = pure z := by intro _; rfl) :
    XS X Hb (.Assign [.Name zz pz] (.DictComp (.Name x p3) (.Constant (.bool true) j1 p4) [⟨.Name x p1, .Name y p2, [.Compare (.Name x p5) [.IsNot] [.Constant .none j2 p6] p7], 0⟩] scope pos) ps) Γ N R := by
  refine ps_imp (ps_setDt (i := iz) (g := gName i) hc hu hN hzz hzl hsw (pi_list (pv jy hy hvy hdy hcy)) ok hg (fun s H C cl fp => pts_one (pt_cmpR op_notN (he s H C cl fp p5) pe_non (nomark _)) ) (fun s H C cl fp => he s H C cl fp p3) (fun s H C cl fp => pe_bl) hs) fun Ds σ H q => ?_
  obtain ⟨⟨H0, E⟩, nx, rt⟩ := q
  have k : ∀ v H', Same H H' → FoundF X.prog X.w X.K (os.filterMap id) H' v → Ds.nx (σ.set iz (some v)) H' := fun v H' s1 f => nx _ _ H' H' (KeepT.of s1) (((((E.forget iz).mono s1)).rebase hno).store (g := .x (FoundF X.prog X.w X.K (os.filterMap id))) ⟨v, rfl, fun H2 s2 => f.mono s2⟩) hn
  obtain ⟨v, hv, dv⟩ := E.look hl
  cases dv with
  | @lst a xs _ hs hall =>
    refine ⟨_, hv, a, rfl, ⟨xs, hs⟩, fun D hD => dt_it (Q := fun x H1 => Ds.nx (σ.set iz (some x)) H1) walk_list (fun n H2 => Same H H2 ∧ ∃ ys, H2 D = some (DTO X.prog X.w D ys) ∧ KeysAt X.K H2 ys ∧ ys.length ≤ ((os.take n).filterMap id).length ∧ (∀ x ∈ ys, ∃ p ∈ (os.take n).filterMap id, x.1 = pKey p) ∧ ∀ p ∈ (os.take n).filterMap id, ∃ x ∈ ys, x.1 = pKey p) ?_ (fun n H2 _ p => p.1.seq hs) ?_ ?_⟩
    · refine ⟨fun b o z => by rw [upd_ne (ne_of_none z hD)]; exact z, [], upd_same, (fun x hx => nomatch hx), Nat.zero_le _, (fun x hx => nomatch hx), fun p hp => ?_⟩
      rw [List.take_zero] at hp
      cases hp
    · rintro n u H2 H3 hn ⟨sm, ys, hD2, ks, hl2, k1, k2⟩ ⟨rfl, hu2⟩
      have hnl : n < os.length := by
        have := dpa_length hall
        rw [List.length_map] at this
        omega
      obtain ⟨d, hd, du⟩ := dpa_getV hall hu2
      rw [List.getElem?_map, List.getElem?_eq_getElem hnl] at hd
      have tk : os.take (n + 1) = os.take n ++ [os[n]] := by rw [List.take_add_one, List.getElem?_eq_getElem hnl]; rfl
      have hσ : ((wipe σ (own.map (·.2))).set i (some u))[i]? = some (some u) := by
        rw [List.getElem?_set_self]
        rw [wipe_length, E.ln]
        exact hiG
      refine ⟨?_, ⟨_, hσ, rfl, _, rfl, ?_⟩⟩
      · rw [onlyAt_wipe (is := [i]) (σ := wipe σ (own.map (·.2))) ⟨by rw [List.length_set], fun j hj => List.getElem?_set_ne (fun z => hj (List.mem_singleton.mpr z.symm))⟩ (fun j hj => by rw [List.mem_singleton.mp hj]; exact hi)]
        exact wipe_twice σ _
      · cases q : os[n] with
        | none =>
          rw [q] at hd tk
          cases hd
          cases du
          rw [if_neg (fun z => by cases z)]
          refine ⟨sm, ys, hD2, ks, ?_⟩
          rw [tk, List.filterMap_append]
          show _ ≤ (_ ++ []).length ∧ (∀ x ∈ ys, ∃ p ∈ _ ++ [], _) ∧ ∀ p ∈ _ ++ [], _
          rw [List.append_nil]
          exact ⟨hl2, k1, k2⟩
        | some pr =>
          rw [q] at hd tk
          cases hd
          have du' : Dp X.K H u (.tuple [.int pr.1, .int pr.2]) := du
          cases du' with
          | @tup t us _ ht ha2 =>
            have eu := dpAll_ints_of (ns := [pr.1, pr.2]) ha2
            subst eu
            rw [decide_eq_false (show ¬ V.ref t = V.non from fun z => nomatch z), if_pos (show (!false) = true from rfl)]
            have hl3 : ((os.take n).filterMap id).length ≤ n := by
              have := List.length_filterMap_le id (os.take n)
              rw [List.length_take] at this
              omega
            refine ⟨_, hσ, ys, pKey pr, t, rfl, seqT_mono sm ht, hD2, Nat.lt_of_le_of_lt (show ys.length ≤ 1000 by omega) (by decide), ks, fun r _ => ⟨fun b o z => ?_, _, upd_same, ?_, ?_, ?_, ?_⟩⟩
            · rw [upd_ne (ne_of_none z hD)]
              exact sm b o z
            · have kt := keepT_dto (K := X.K) (o := DTO X.prog X.w D (storedH ys (pKey pr) t r)) hD2
              intro x hx
              rcases storedH_keys x hx with ⟨z, hz1, hz2, hz3⟩ | ⟨hz2, hz3⟩
              · rw [← hz2, ← hz3]
                exact kt _ _ (ks z hz1)
              · rw [hz2, hz3]
                exact kt _ _ (seqT_mono sm ht)
            · have h1 := storedH_len ys (pKey pr) t r
              rw [tk, List.filterMap_append, List.length_append]
              show _ ≤ _ + 1
              omega
            · intro x hx
              rw [tk, List.filterMap_append]
              rcases storedH_keys x hx with ⟨z, hz1, hz2, hz3⟩ | ⟨hz2, hz3⟩
              · obtain ⟨pp, h1, h2⟩ := k1 z hz1
                exact ⟨pp, List.mem_append_left _ h1, by rw [← hz2]; exact h2⟩
              · exact ⟨pr, List.mem_append_right _ (List.mem_singleton.mpr rfl), hz2⟩
            · intro pp hp
              rw [tk, List.filterMap_append] at hp
              obtain h1 | h1 := List.mem_append.mp hp
              · obtain ⟨z, hz1, hz2⟩ := k2 pp h1
                obtain ⟨x, hx1, hx2⟩ := (storedH_has (xs := ys) (k := pKey pr) (b := t) (r := r)).2 z hz1
                exact ⟨x, hx1, hx2.trans hz2⟩
              · have eh := List.mem_singleton.mp h1
                rw [eh]
                exact storedH_has.1
    · rintro H2 ⟨sm, ys, hD2, ks, hl2, k1, k2⟩
      have el : os.take xs.length = os := by rw [dpa_length hall, List.length_map, List.take_length]
      rw [el] at hl2 k1 k2
      exact k (.ref D) H2 sm ⟨D, ys, rfl, hD2, ks, hl2, k1, k2⟩
end
end TC
namespace TC
open PySem L2
/-- the homes of the members that are not stopped, None among them -/
def homesM (l : List (Int × Mem)) : List (Option (Int × Int)) := (l.filter fun p => !p.2.stop).map fun p => p.2.hpair
theorem MemsAt.get {K : PySem.W.Frag} {cs : Cs} {H : Hp} : ∀ {kvs : List (Key × V)} {ms : List (Int × Mem)} {n : Nat} {k : Key} {x : V}, MemsAt K cs H kvs ms → kvs[n]? = some (k, x) → ∃ t m, ms[n]? = some (t, m) ∧ InsF K cs.CM (memFs m) H x
  | [], [], n, _, _, _, e => by simp at e
  | (k, v) :: kvs, (t, m) :: ms, 0, k', x, h, e => by
    simp at e
    obtain ⟨rfl, rfl⟩ := e
    exact ⟨t, m, rfl, h.2.1⟩
  | (k, v) :: kvs, (t, m) :: ms, n + 1, k', x, h, e => by
    obtain ⟨t', m', h1, h2⟩ := h.2.2.get (n := n) (by simpa using e)
    exact ⟨t', m', by simpa using h1, h2⟩
  | [], _ :: _, _, _, _, h, _ => h.elim
  | _ :: _, [], _, _, _, h, _ => h.elim
theorem keepT_frz {K : PySem.W.Frag} {H : Hp} {p : Addr} {ob : Obj} {l : List (Key × V)} {o : HO} (h : H p = some (.frz ob (.dK l))) : KeepT K H (upd H p o) := fun a xs q => by
  have key : ∀ u, H a = some u → u ≠ .frz ob (.dK l) → a ≠ p := fun u e ne z => by
    rw [z, h] at e
    exact ne (Option.some.inj e).symm
  rcases q with (q | ⟨ob2, q⟩) | q
  · exact .inl (.inl (by rw [upd_ne (key _ q (fun z => nomatch z))]; exact q))
  · exact .inl (.inr ⟨ob2, by rw [upd_ne (key _ q (fun z => by cases z))]; exact q⟩)
  · exact .inr q
theorem pureAll_dOP (l : List (Option (Int × Int))) : pureAll (l.map dOP) = true := pureAll_map pureOP l
section
variable {X : Cx} {Hb : Bs} {Γ : G} {scope : Scope} {own : List (Str × Nat)} {pos p1 p2 p3 p4 p5 p6 p7 p8 p9 q1 q2 q3 : Pos} {x y : Str} {j1 : Nat} {cs : Cs} {p : Addr} {S : PopM}
theorem xs_homes {N : G → Prop} {R : Rk → G → Prop} {zz : Str} {pz ps : Pos} (C : CsOk X.K cs) (iz i : Nat) (hl : Γ[0]? = some (.x (PopF X.K cs p S))) (hz : S.mem.length ≤ 1000) (hc : X.calm = true) (hN : X.N.Nodup) (ok : BlkOk X.N X.env.scope scope own) (hi : i ∈ own.map (·.2)) (hiG : i < Γ.length) (hx : X.N[0]? = some x) (hvx : Vis X.env.scope x) (hdx : (x == ("__debug__" : Str)) = false) (hcx : (x == ("__classdict__" : Str)) = false)
    (hg : ∀ (s : Shared) (H : Hp) (C : Addr) (cl : List (Str × Addr)) (fp : List Addr), PG (X.blk s H scope (compEnvC scope cl C X.env) fp) (.Name y p1) (gName i))
    (ht : ∀ (s : Shared) (H : Hp) (C : Addr) (cl : List (Str × Addr)) (fp : List Addr) (Γ' : G) (m : Mem), Γ'[i]? = some (.x (InsF X.K cs.CM (memFs m))) → XT (X.blk s H scope (compEnvC scope cl C X.env) fp) (.UnaryOp .Not (.Attribute (.Name y p4) "is_stopped" p5) p6) Γ' (!m.stop))
    (he : ∀ (s : Shared) (H : Hp) (C : Addr) (cl : List (Str × Addr)) (fp : List Addr) (Γ' : G) (m : Mem), Γ'[i]? = some (.x (InsF X.K cs.CM (memFs m))) → XE (X.blk s H scope (compEnvC scope cl C X.env) fp) (.Subscript (.Attribute (.Name y p7) "home" p8) (.Constant (.int 2) j1 p9) q1) Γ' (dOP m.hpair))
    (hb : attributeBase (.Name x p2) "members" X.env (eval (.Name x p2) X.env) = eval (.Name x p2) X.env := by rfl) (hb2 : attributeBase (.Attribute (.Name x p2) "members" p3) "values" X.env (eval (.Attribute (.Name x p2) "members" p3) X.env) = eval (.Attribute (.Name x p2) "members" p3) X.env := by rfl) (hline : (q2.endLine == q3.line) = true := by rfl)
    (hzz : X.N[iz]? = some zz) (hzl : X.env.scope.names.lookup zz = some .local) (hn : N (Γ.set iz (.c (.list ((homesM S.mem).map dOP)))))
    (hsw : swapsWith (.ListComp (.Subscript (.Attribute (.Name y p7) "home" p8) (.Constant (.int 2) j1 p9) q1) [⟨.Name y p1, .Call (.Attribute (.Attribute (.Name x p2) "members" p3) "values" q2) [] [] q3, [.UnaryOp .Not (.Attribute (.Name y p4) "is_stopped" p5) p6], 0⟩] scope pos) (some (.Name zz pz)) ps.line X.env = pure true)
    (hs : ∀ z, foldedSetIterable (.Call (.Attribute (.Attribute (.Name x p2) "members" p3) "values" q2) [] [] q3) X.env z = pure z := by intro _; rfl) :
    XS X Hb (.Assign [.Name zz pz] (.ListComp (.Subscript (.Attribute (.Name y p7) "home" p8) (.Constant (.int 2) j1 p9) q1) [⟨.Name y p1, .Call (.Attribute (.Attribute (.Name x p2) "members" p3) "values" q2) [] [] q3, [.UnaryOp .Not (.Attribute (.Name y p4) "is_stopped" p5) p6], 0⟩] scope pos) ps) Γ N R := by
  refine ps_imp (ps_lock (ps_setLc (i := iz) (g := gName i) (tt := semTs X scope [.UnaryOp .Not (.Attribute (.Name y p4) "is_stopped" p5) p6]) (te := semE X scope (.Subscript (.Attribute (.Name y p7) "home" p8) (.Constant (.int 2) j1 p9) q1)) hc hN hzz hzl hsw (pi_values (pe_fld (pv 0 hx hvx hdx hcx) hb) hb2 hline) ok hg (fun s H C cl fp => ?_) (fun s H C cl fp => ?_) hs)) fun Ds σ H q => ?_
  · refine ⟨fun pins s1 σ H1 Q I h => ?_⟩
    obtain ⟨Γ', b, hb, q⟩ := h
    exact (hb s H C cl fp).run pins s1 σ H1 Q I q
  · refine ⟨fun pins s1 σ H1 Q I h => ?_⟩
    obtain ⟨Γ', d, hb, q⟩ := h
    exact (hb s H C cl fp).run pins s1 σ H1 Q I q
  obtain ⟨⟨H0, E⟩, nx, rt⟩ := q
  have k : ∀ D vs H', H D = none → Same H H' → H' D = some (.lst vs) → DpAll X.K H' vs ((homesM S.mem).map dOP) → Ds.nx (σ.set iz (some (.ref D))) H' := fun D vs H' n0 s1 e1 d1 => nx _ _ H' H0 (KeepT.of s1) ((E.mono s1).store (g := .c (.list ((homesM S.mem).map dOP))) ⟨.ref D, rfl, .lst (SqL.of e1) d1⟩) hn
  obtain ⟨h1, h2⟩ := slotPop E hl
  obtain ⟨dx, dm, vt, vv, kvs, e1, e2, e3, e4, e5, e6⟩ := id h2
  have hdm : p ≠ dm := fun z => by
    rw [z, e4] at e1
    cases e1
  refine ⟨dm, .dK kvs, e4, True.intro, fun od => ?_⟩
  obtain ⟨Hf, hHf⟩ : ∃ Hf, Hf = upd H dm (.frz od (.dK kvs)) := ⟨_, rfl⟩
  rw [← hHf]
  have f1 : Hf p = some (.ins cs.CP dx [("training", vt), ("validation", vv), ("members", .ref dm), ("spent", .int S.spent)]) := by rw [hHf, upd_ne hdm]; exact e1
  have f4 : Hf dm = some (.frz od (.dK kvs)) := by rw [hHf, upd_same]
  have kt0 : KeepT X.K H Hf := by rw [hHf]; exact keepT_dK e4
  have mem : MemsAt X.K cs Hf kvs S.mem := e5.imp fun v m ⟨q, z1, dq, vs, z2, z3⟩ => ⟨q, z1, dq, vs, by
    rw [hHf, upd_ne (fun z => by rw [z, e4] at z2; cases z2)]
    exact z2, z3.keep kt0⟩
  have hlen := e5.len
  refine ⟨_, h1, p, cs.CP, dx, _, .ref dm, rfl, f1, C.cP, C.nMe, rfl, dm, od, kvs, rfl, f4, fun D hD => lc_it walk_values (fun n H2 => Same Hf H2 ∧ ∃ acc, H2 D = some (.lst acc) ∧ DpAll X.K H2 acc ((homesM (S.mem.take n)).map dOP)) ?_ (fun n H2 _ q => q.1 _ _ f4) ?_ ?_⟩
  · exact ⟨fun b o z => by rw [upd_ne (ne_of_none z hD)]; exact z, [], upd_same, .nil⟩
  · rintro n u H2 H3 hn ⟨sm, acc, ha, hall⟩ ⟨rfl, ky, hu⟩
    obtain ⟨t, m, hm, hF⟩ := mem.get hu
    have hnl := (List.getElem?_eq_some_iff.mp hm).1
    have tk : S.mem.take (n + 1) = S.mem.take n ++ [(t, m)] := by rw [List.take_add_one, hm]; rfl
    have hσ : ((wipe σ (own.map (·.2))).set i (some u))[i]? = some (some u) := by
      rw [List.getElem?_set_self]
      rw [wipe_length, E.ln]
      exact hiG
    have env : ∀ H4, Same H3 H4 → EnvOk X.K (.pu H4) H4 H4 ((wipe σ (own.map (·.2))).set i (some u)) ((List.replicate Γ.length SV.n).set i (.x (InsF X.K cs.CM (memFs m)))) := fun H4 s4 => by
      refine EnvOk.store (e := ⟨Off.refl _, Same.refl _, by rw [wipe_length, E.ln, List.length_replicate], fun j g hj => ?_⟩) (g := .x (InsF X.K cs.CM (memFs m))) ⟨u, rfl, fun H5 s5 => hF.mono ((sm.trans s4).trans s5)⟩
      rw [List.getElem?_replicate] at hj
      split at hj
      · cases hj
        rename_i hlt
        have hlt' : j < (wipe σ (own.map (·.2))).length := by rw [wipe_length, E.ln]; exact hlt
        exact ⟨_, List.getElem?_eq_getElem hlt', trivial⟩
      · cases hj
    have sl : ((List.replicate Γ.length SV.n).set i (.x (InsF X.K cs.CM (memFs m))))[i]? = some (.x (InsF X.K cs.CM (memFs m))) := by
      rw [List.getElem?_set_self]
      rw [List.length_replicate]
      exact hiG
    refine ⟨?_, _, !m.stop, fun s H C cl fp => pts_one (ht s H C cl fp _ m sl), ⟨_, _, env H3 (Same.refl _)⟩, fun H4 s4 => ?_⟩
    · rw [onlyAt_wipe (is := [i]) (σ := wipe σ (own.map (·.2))) ⟨by rw [List.length_set], fun j hj => List.getElem?_set_ne (fun z => hj (List.mem_singleton.mpr z.symm))⟩ (fun j hj => by rw [List.mem_singleton.mp hj]; exact hi)]
      exact wipe_twice σ _
    · have ha4 := s4 _ _ ha
      have all4 := dpAll_mono s4 _ _ hall
      cases hst : m.stop with
      | true =>
        refine iteF ⟨sm.trans s4, acc, ha4, ?_⟩
        have e : homesM (S.mem.take (n + 1)) = homesM (S.mem.take n) := by
          unfold homesM
          rw [tk, List.filter_append]
          simp [hst]
        rw [e]
        exact all4
      | false =>
        refine iteT ?_
        refine ⟨_, _, fun s H C cl fp => he s H C cl fp _ m sl, ⟨_, _, env H4 s4⟩, fun w5 H5 s5 d5 => ⟨acc, s5 _ _ ha4, ?_, fun b o z => ?_, _, upd_same, ?_⟩⟩
        · have h3 := dpa_length hall
          rw [List.length_map] at h3
          have h4 : (homesM (S.mem.take n)).length ≤ n := by
            unfold homesM
            rw [List.length_map]
            have := List.length_filter_le (fun p : Int × Mem => !p.2.stop) (S.mem.take n)
            rw [List.length_take] at this
            omega
          exact Nat.lt_of_le_of_lt (show acc.length ≤ 1000 by omega) (by decide)
        · rw [upd_ne (ne_of_none z hD)]
          exact s5 _ _ (s4 _ _ (sm _ _ z))
        · have e : (homesM (S.mem.take (n + 1))).map dOP = (homesM (S.mem.take n)).map dOP ++ [dOP m.hpair] := by
            unfold homesM
            rw [tk, List.filter_append, List.map_append, List.map_append]
            simp [hst]
          rw [e]
          have kt : KeepT X.K H5 (upd H5 D (.lst (acc ++ [w5]))) := KeepT.upd (s5 _ _ ha4)
          exact dpa_append (dpAll_keep kt _ _ (pureAll_dOP _) (dpAll_mono s5 _ _ all4)) (.cons (dp_keep kt _ _ (pureOP _) d5) .nil)
  · rintro H2 ⟨sm, acc, ha, hall⟩
    have f4' := sm _ _ f4
    have hDm : D ≠ dm := fun z => by
      rw [z, f4'] at ha
      cases ha
    have hDH : H D = none := by
      rw [hHf, upd_ne hDm] at hD
      exact hD
    rw [List.take_of_length_le (by omega)] at hall
    refine ⟨f4', k D acc _ hDH (fun b o z => ?_) (by rw [upd_ne hDm]; exact ha) (dpAll_keep (keepT_frz f4') _ _ (pureAll_dOP _) hall)⟩
    by_cases hb : b = dm
    · rw [hb, upd_same]
      rw [hb, e4] at z
      exact z
    · rw [upd_ne hb]
      exact sm _ _ (by rw [hHf, upd_ne hb]; exact z)
end
end TC
namespace TC
open PySem L2
/-! ### sorted of pairs -/
theorem pair_at {X : Cx} {pins : List (Addr × Obj)} {σ : St} {H : Hp} {s : Shared} {t : Addr} {i j : Int} (I : Inv X pins σ H s) (h : SqT X.K H t [.int i, .int j]) : Srt.IsPair s.heap (.ref t) i j := by
  obtain ⟨its, r, ⟨o, h1, h2, n, h3⟩, hz⟩ := I.tuple h
  obtain ⟨v1, v2, rfl, ri, rj⟩ := vals2 r
  obtain ⟨t1, rfl⟩ := ri
  obtain ⟨t2, rfl⟩ := rj
  exact ⟨t, o, t1, t2, n, rfl, h1, h2, h3⟩
theorem vals_refs : ∀ (as : List Addr), Vals (as.map V.ref) (as.map Value.ref)
  | [] => .nil
  | a :: as => .cons (show RelV (.ref a) (.ref a) from rfl) (vals_refs as)
theorem refs_of : ∀ {us : List Value} {as : List Addr}, us.Perm (as.map Value.ref) → ∃ bs : List Addr, us = bs.map Value.ref ∧ bs.Perm as := fun {us as} p => by
  have key : ∀ (us : List Value), (∀ u ∈ us, ∃ a, u = Value.ref a) → ∃ bs : List Addr, us = bs.map Value.ref := by
    intro us
    induction us with
    | nil => exact fun _ => ⟨[], rfl⟩
    | cons u us ih =>
      intro h
      obtain ⟨a, rfl⟩ := h u List.mem_cons_self
      obtain ⟨bs, rfl⟩ := ih fun v hv => h v (List.mem_cons_of_mem _ hv)
      exact ⟨a :: bs, rfl⟩
  obtain ⟨bs, rfl⟩ := key us fun u hu => by
    obtain ⟨a, _, rfl⟩ := List.mem_map.mp (p.mem_iff.mp hu)
    exact ⟨a, rfl⟩
  refine ⟨bs, rfl, ?_⟩
  have inj : Function.Injective Value.ref := fun a b h => Value.ref.inj h
  have p2 := p.map (fun u => match u with | Value.ref a => a | _ => default)
  rw [List.map_map, List.map_map] at p2
  have e : ((fun u => match u with | Value.ref a => a | _ => (default : Addr)) ∘ Value.ref) = id := rfl
  rw [e, List.map_id, List.map_id] at p2
  exact p2
/-- sorted(d), d a dict whose keys are pairs of ints -/
theorem cr_sortedDT {X : Cx} (hc : X.calm = true) : CallR X (.builtin "sorted") (fun xs H Q => ∃ D ents, xs = [.ref D] ∧ H D = some (DTO X.prog X.w D ents) ∧ ents.length ≤ 1000 ∧ (∀ x ∈ ents, ∃ p : Int × Int, x.1 = pKey p ∧ SqT X.K H x.2.1 (x.1.map kV)) ∧
    ∀ (ys : List Addr) (p : Addr), ys.Perm (ents.map (·.2.1)) → H p = none → Q (.ref p) (upd H p (.lst (ys.map V.ref)))) := by
  intro pins s σ H xs
  intro us Q I r q
  obtain ⟨D, ents, rfl, hD, hz, hk, q⟩ := q
  rcases vals1 r with ⟨u, rfl, ru⟩
  obtain rfl : u = Value.ref D := ru
  obtain ⟨o, es, ep, h1, h2, h3, h4, h5, h6, h7⟩ := dto_at I.hok hD
  have esz : es.size = ents.length := by
    have := congrArg List.length h4
    rw [Array.length_toList, List.length_map] at this
    exact this
  refine Calls.call_function_entry PyProof.Rows.kind_sorted PyProof.Rows.plain_sorted PyProof.Rows.entry_sorted
    (PyProof.Rows.args_sorted1 _) ?_
  unfold Builtin.«sorted»
  refine wpAny_bind (m := checkCount "sorted" 1 1 _) ?_
  refine wpAny_pure ?_
  refine wpAny_bind (PySem.W.kdu_collect (A := X.A.in1) (PySem.KdlSrc.rawDict (es := es) (ep := ep) h7) (I.ok.hd hc) ⟨o, h1, h2, h3⟩ (by rw [esz]; exact h6) fun h' tk acc hk' hacc => ?_)
  have accE : acc.toList = (ents.map (·.2.1)).map Value.ref := by
    apply List.ext_getElem?
    intro j
    have hsz : acc.size = es.size := hacc.1
    by_cases hj : j < acc.size
    · have hj2 : j < es.size := by omega
      have hj3 : j < ents.length := by omega
      obtain ⟨hi, hv⟩ := hacc.2 j acc[j] (Array.getElem?_eq_getElem hj)
      rw [Array.getElem?_toList, Array.getElem?_eq_getElem hj, hv]
      have he : es.toList[j]? = some es[j] := by rw [Array.getElem?_toList, Array.getElem?_eq_getElem hj2]
      rw [h4, List.getElem?_map, List.getElem?_eq_getElem hj3] at he
      rw [List.getElem?_map, List.getElem?_map, List.getElem?_eq_getElem hj3]
      rw [← Option.some.inj he]
      rfl
    · rw [List.getElem?_eq_none (by rw [Array.length_toList]; omega), List.getElem?_eq_none (by rw [List.length_map, List.length_map]; omega)]
  have al : acc.toList.length = ents.length := by rw [accE, List.length_map, List.length_map]
  have hsz : acc.toList.length ≤ sizeLine := by rw [al]; exact h6
  have I1 : Inv X pins σ H { s with heap := h', toks := tk } := I.kept hk'
  refine wpAny_bind (wpAny_newList ?_ hsz)
  have gL : (h'.push (PyProof.Rows.seqObj "list" acc.toList.toArray 0)).get? h'.objs.size = some (PyProof.Rows.seqObj "list" acc.toList.toArray 0) := Heap.get?_push_size _ rfl
  show wpAny _ _ _ _ _ { s with heap := h'.push (PyProof.Rows.seqObj "list" acc.toList.toArray 0), toks := tk }
  have I2 : Inv X pins σ H { s with heap := h'.push (PyProof.Rows.seqObj "list" acc.toList.toArray 0), toks := tk } := I1.kept (t' := tk) fun b o e => Heap.get?_push_of_some _ e
  refine wpAny_bind (wpAny_holding (wpAny_call_entry PyProof.Rows.slot_list_sort ⟨_, gL, rfl⟩ PyProof.Rows.entry_list_sort
    (Srt.list_sort_any (s := { s with heap := h'.push (PyProof.Rows.seqObj "list" acc.toList.toArray 0), toks := tk }) gL hsz (fun h2 => Srt.pairs_sortable (by omega) (fun v hv => ?_) (fun o e => ?_)) fun out hp => ⟨_, rfl, ?_⟩) (PyProof.Rows.args_list_sort _)))
  · rw [accE] at hv
    obtain ⟨t, ht, rfl⟩ := List.mem_map.mp hv
    obtain ⟨x, hx, rfl⟩ := List.mem_map.mp ht
    obtain ⟨p, e1, e2⟩ := hk x hx
    rw [e1] at e2
    exact ⟨p.1, p.2, pair_at I2 e2⟩
  · have e' := e.symm.trans gL
    cases e'
    intro c
    refine absurd (Value.type.inj c) (by decide)
  · rw [accE] at hp
    obtain ⟨bs, rfl, hbs⟩ := refs_of hp
    obtain ⟨e', he'⟩ := PyProof.Rows.sortedHeap_at (vs := acc.toList) (out := (bs.map Value.ref).toArray) gL
    have bl : (bs.map V.ref).length ≤ sizeLine := by
      rw [List.length_map, hbs.length_eq, List.length_map]
      exact h6
    refine wpAny_pure ⟨_, rfl, .ref h'.objs.size, upd H h'.objs.size (.lst (bs.map V.ref)), I1.laid (t' := tk) (fun b u e => ?_) (Nat.le_refl _) (show ObjOk X.prog X.w _ _ _ (.lst (bs.map V.ref)) from ⟨bl, bs.map Value.ref, e', vals_refs bs, he'⟩), rfl, q bs _ hbs (I1.hok.fresh (Nat.le_refl _))⟩
    have lb0 : b < h'.objs.size := Heap.lt_size e
    rw [PyProof.Rows.sortedHeap_old (Nat.ne_of_lt lb0) (by rw [PyProof.Rows.size_push']; exact Nat.lt_succ_of_lt lb0)]
    refine Heap.get?_push_of_some _ e

/-- a tuple of pairs, any that P tells of -/
def tXL (K : PySem.W.Frag) (Hb : Bs) (Γ : G) (P : List (Int × Int) → Prop) : TE := fun σ H Q => (∃ H0, EnvOk K Hb H0 H σ Γ) ∧ ∀ l, P l → ∀ v H', Same H H' → Dp K H' v (.tuple (l.map dPair)) → Q v H'
theorem perm_lift {α β : Type} {f : α → β} {l l' : List β} (h : l.Perm l') : ∀ xs : List α, l' = xs.map f → ∃ ys : List α, ys.Perm xs ∧ l = ys.map f := by
  induction h with
  | nil =>
    intro xs e
    cases xs with
    | nil => exact ⟨[], .nil, rfl⟩
    | cons a r => cases e
  | cons x _ ih =>
    intro xs e
    cases xs with
    | nil => cases e
    | cons a r =>
      have e' := List.cons.inj e
      obtain ⟨ys, p, e2⟩ := ih r e'.2
      exact ⟨a :: ys, p.cons a, by rw [e2, e'.1]; rfl⟩
  | swap x y l =>
    intro xs e
    cases xs with
    | nil => cases e
    | cons a r =>
      have e1 := List.cons.inj e
      cases r with
      | nil => cases e1.2
      | cons b r =>
        have e2 := List.cons.inj e1.2
        exact ⟨b :: a :: r, .swap .., by rw [e1.1, e2.1, e2.2]; rfl⟩
  | trans _ _ ih1 ih2 =>
    intro xs e
    obtain ⟨xm, p2, e2⟩ := ih2 xs e
    obtain ⟨ys, p1, e1⟩ := ih1 xm e2
    exact ⟨ys, p1.trans p2, e1⟩
def unKey : List Key → Int × Int
  | [.inl a, .inl b] => (a, b)
  | _ => (0, 0)
theorem unKey_p (p : Int × Int) : unKey (pKey p) = p := rfl
theorem ents_pairs {K : PySem.W.Frag} {H : Hp} {xs : List TEnt} {as : List Addr} {ps : List (Int × Int)} (hk : KeysAt K H xs) (h1 : ∀ x ∈ xs, ∃ p ∈ ps, x.1 = pKey p) (h2 : ∀ p ∈ ps, ∃ x ∈ xs, x.1 = pKey p) (hp : as.Perm (xs.map (·.2.1))) :
    ∃ l : List (Int × Int), (∀ p, p ∈ l ↔ p ∈ ps) ∧ DpAll K H (as.map V.ref) (l.map dPair) := by
  obtain ⟨xs', hx, rfl⟩ := perm_lift hp xs rfl
  refine ⟨xs'.map fun x => unKey x.1, fun p => ⟨fun h => ?_, fun h => ?_⟩, ?_⟩
  · obtain ⟨x, hx1, rfl⟩ := List.mem_map.mp h
    obtain ⟨q, hq, e⟩ := h1 x (hx.mem_iff.mp hx1)
    rw [e]
    exact hq
  · obtain ⟨x, hx1, e⟩ := h2 p h
    exact List.mem_map.mpr ⟨x, hx.mem_iff.mpr hx1, by rw [e]; rfl⟩
  · have key : ∀ l : List TEnt, (∀ x ∈ l, x ∈ xs) → DpAll K H ((l.map (·.2.1)).map V.ref) ((l.map fun x => unKey x.1).map dPair) := by
      intro l
      induction l with
      | nil => exact fun _ => .nil
      | cons x l ih =>
        intro h
        refine .cons ?_ (ih fun y hy => h y (List.mem_cons_of_mem _ hy))
        have hxm := h x List.mem_cons_self
        obtain ⟨q, hq, e⟩ := h1 x hxm
        have sq := hk x hxm
        rw [e] at sq
        show Dp K H (V.ref x.2.1) (dPair (unKey x.1))
        rw [e]
        exact .tup sq (dpAll_ints [q.1, q.2])
    exact key xs' fun x hx2 => hx.mem_iff.mp hx2
section
variable {X : Cx} {Hb : Bs} {Γ : G} {p1 p2 p3 pos pos2 : Pos} {x : Str} {ps : List (Int × Int)}
/-- tuple(sorted(x)), x a dict whose keys are the pairs of ps -/
theorem xl_need (i : Nat) (hl : Γ[i]? = some (.x (FoundF X.prog X.w X.K ps))) (hz : ps.length ≤ 1000) (hc : X.calm = true) (hm : X.mg "sorted" = none) (hm2 : X.mg "tuple" = none) (hN : X.N[i]? = some x := by rfl) (hv : Vis X.env.scope x := by first | exact Or.inl rfl | exact Or.inr (Or.inl rfl) | exact Or.inr (Or.inr rfl))
    (hd : (x == ("__debug__" : Str)) = false := by decide) (hcd : (x == ("__classdict__" : Str)) = false := by decide) (hg : Gl X "sorted" := by rfl) (hg2 : Gl X "tuple" := by rfl)
    (hs : starEach [.Name x p3] X.env = (false, eval (.Name x p3) X.env) :: starEach [] X.env := by rfl) (hs2 : starEach [.Call (.Name "sorted" p2) [.Name x p3] [] pos2] X.env = (false, eval (.Call (.Name "sorted" p2) [.Name x p3] [] pos2) X.env) :: starEach [] X.env := by rfl) :
    PE X (.Call (.Name "tuple" p1) [.Call (.Name "sorted" p2) [.Name x p3] [] pos2] [] pos) (tXL X.K Hb Γ fun l => ∀ p, p ∈ l ↔ p ∈ ps) := by
  refine pe_imp (pe_callTy call_tuple_of hg2 hm2 (by decide +kernel) (pa_cons (pe_callB (cr_sortedDT hc) hg hm (by decide +kernel) (pa_cons (pv i hN hv hd hcd) pa_nil hs) (he := hs)) pa_nil hs2) (he := hs2)) fun σ H Q ⟨⟨H0, E⟩, k⟩ => ?_
  obtain ⟨ov, h1, v, rfl, h2⟩ := E.sl i _ hl
  obtain ⟨D, xs, rfl, e1, e2, e3, e4, e5⟩ := h2 H E.s0
  refine ⟨_, h1, D, xs, rfl, e1, by omega, fun y hy => ?_, fun ys q hp hq => ?_⟩
  · obtain ⟨p, _, e⟩ := e4 y hy
    exact ⟨p, e, e2 y hy⟩
  · obtain ⟨l, hl1, hl2⟩ := ents_pairs e2 e4 e5 hp
    have s1 : Same H (upd H q (.lst (ys.map V.ref))) := fun b o z => by rw [upd_ne (ne_of_none z hq)]; exact z
    refine ⟨q, _, rfl, .inl ⟨SqL.of upd_same, fun t ht => ?_⟩⟩
    have s2 : Same (upd H q (.lst (ys.map V.ref))) (upd (upd H q (.lst (ys.map V.ref))) t (.tup (ys.map V.ref))) := fun b o z => by rw [upd_ne (ne_of_none z ht)]; exact z
    exact k l hl1 (.ref t) _ (s1.trans s2) (.tup (SqT.of upd_same) (dpAll_mono (s1.trans s2) _ _ hl2))
end
end TC
namespace TC
open PySem L2
theorem homes_needed (S : PopM) : (homesM S.mem).filterMap id = neededM S := by
  unfold homesM neededM
  generalize S.mem = l
  induction l with
  | nil => rfl
  | cons p l ih =>
    obtain ⟨t, m⟩ := p
    cases h : m.stop with
    | true =>
      rw [List.filter_cons, if_neg (by simp [h]), List.filterMap_cons]
      simp only [h, if_true]
      exact ih
    | false =>
      rw [List.filter_cons, if_pos (by simp [h]), List.map_cons, List.filterMap_cons, List.filterMap_cons]
      simp only [h, id]
      cases hp : m.hpair with
      | none => simpa using ih
      | some q => simpa using ih
/-- a tuple of the needed saves, in some order -/
def NeedF (K : PySem.W.Frag) (S : PopM) : Hp → V → Prop := fun H v => ∃ l : List (Int × Int), (∀ p, p ∈ l ↔ p ∈ neededM S) ∧ Dp K H v (.tuple (l.map dPair))
section
variable {P : Program} {w : World} {K : PySem.W.Frag} {mg : Str → Option Value} {base : Heap} {cs : Cs}
abbrev sNeed : Stmt := methS 28 22
def pNeed (K : PySem.W.Frag) (S : PopM) (ds : List PyData) (r : Rk) : Prop := ds = [] ∧ S.mem.length ≤ 1000 ∧ r = .v (NeedF K S)
theorem sc_need : FnScope ["self", "homes", "found", "member", "home"] ["self"] (defScope sNeed) := ⟨rfl, rfl, rfl, by decide +kernel, rfl, by decide +kernel, by decide +kernel⟩
theorem ok_need (C : CsOk K cs) (B : Bi mg) (R : RawM K cs.CP "needed_saves" "Population.needed_saves" sNeed) : MDef P w K mg base cs.CP "needed_saves" 1 ["self"] (spN K cs 0 (pNeed K)) := by
  refine mdef_N R sc_need rfl (by decide) (fun _ _ _ _ _ _ us hl => match us, hl with | [_], _ => rfl) fun f cdv A outer s H E p S ds r hr tk hp hl hpu => ?_
  obtain ⟨rfl, hz, rfl⟩ := hp
  have hl2 : (homesM S.mem).length ≤ 1000 := by
    unfold homesM
    rw [List.length_map]
    have := List.length_filter_le (fun p : Int × Mem => !p.2.stop) S.mem
    omega
  refine xss_cons (xs_homes (own := [("member", 3)]) C 1 3 rfl hz rfl sc_need.nd (blkOk_by (own := [("member", 3)]) (N := ["self", "homes", "found", "member", "home"]) (sc := defScope sNeed) (by decide +kernel)) (by decide) (show 3 < 5 by decide) rfl (Or.inl rfl) (by decide) (by decide) (fun _ _ _ _ _ => pg_name (i := 3) sc_need.nd rfl (Or.inl rfl))
    (fun s H Cc cl fp Γ' m h => xt_not (xt_val (xe_attrI 3 h rfl C.cM C.nSt))) (fun s H Cc cl fp Γ' m h => xe_ixT (xe_attrI 3 h rfl C.cM C.nHo) xe_int (atI_nat (j := 2) rfl)) rfl rfl rfl rfl rfl ?_ (sw_true rfl rfl rfl (by decide +kernel)))
  refine xss_cons (xs_setDt (own := [("home", 4)]) 2 4 1 rfl hl2 rfl hr.units sc_need.nd (blkOk_by (own := [("home", 4)]) (N := ["self", "homes", "found", "member", "home"]) (sc := defScope sNeed) (by decide +kernel)) (by decide) (show 4 < 5 by decide) rfl (Or.inl rfl) (by decide) (by decide) (fun _ _ _ _ _ => pg_name (i := 4) sc_need.nd rfl (Or.inl rfl))
    (fun s H Cc cl fp p => pv 4) rfl rfl (sw_dict rfl rfl rfl (by decide +kernel)) rfl ?_)
  refine xss_one (xs_retRv (F := NeedF K S) (pe_imp (xl_need (Hb := ⟨H, [], E, cs.DF⟩) 2 rfl ?_ rfl B.sorted B.tuple) fun σ H Q ⟨E, k⟩ => ⟨E, fun l hl v H' s1 d => k v H' s1 ⟨l, fun p => (hl p).trans (by rw [homes_needed]), d⟩⟩) rfl)
  have := List.length_filterMap_le id (homesM S.mem)
  omega
end
end TC
namespace TC
open PySem L2
/-! ### in, not in: a tuple of data -/
section
variable {X : Cx}
def rInT (K : PySem.W.Frag) : R2 := fun x y H Q => ∃ d ds, Dp K H x d ∧ Dp K H y (.tuple ds) ∧ SeqAt.shaped d = true ∧ SeqAt.shaped (.tuple ds) = true ∧ Q (.bl (ds.any fun z => PyData.eqv z d)) H
def rNotInT (K : PySem.W.Frag) : R2 := fun x y H Q => ∃ d ds, Dp K H x d ∧ Dp K H y (.tuple ds) ∧ SeqAt.shaped d = true ∧ SeqAt.shaped (.tuple ds) = true ∧ Q (.bl (!ds.any fun z => PyData.eqv z d)) H
theorem op_inT (hu : X.A.units + 65 < cLine) : OpR X (compareOp .In) (rInT X.K) := by
  intro pins s σ H x y v u Q I rx ry ⟨d, ds, hd, he, sd, se, q⟩
  rcases Dp.reads I d x v hd rx with ⟨as, r1⟩
  obtain ⟨bs, r2⟩ := Dp.reads I (.tuple ds) y u he ry
  exact SeqAt.in_tuple_reads r2 r1 (SeqAt.canLay_of_shaped se) (SeqAt.canLay_of_shaped sd) (PyProof.Rows.room_in_shaped sd hu) ⟨.bl _, H, I, rfl, q⟩
theorem op_notInT (hu : X.A.units + 65 < cLine) : OpR X (compareOp .NotIn) (rNotInT X.K) := by
  intro pins s σ H x y v u Q I rx ry ⟨d, ds, hd, he, sd, se, q⟩
  rcases Dp.reads I d x v hd rx with ⟨as, r1⟩
  obtain ⟨bs, r2⟩ := Dp.reads I (.tuple ds) y u he ry
  exact SeqAt.notIn_tuple_reads r2 r1 (SeqAt.canLay_of_shaped se) (SeqAt.canLay_of_shaped sd) (PyProof.Rows.room_in_shaped sd hu) ⟨.bl _, H, I, rfl, q⟩
end
theorem pairs_shaped (l : List (Int × Int)) : SeqAt.shaped (.tuple (l.map dPair)) = true := by
  have h1 : ∀ l : List (Int × Int), PyData.canLayAll0 (l.map dPair) = true ∧ PyData.depthAll (l.map dPair) ≤ 1 := by
    intro l
    induction l with
    | nil => exact ⟨by simp [PyData.canLayAll0], by simp [PyData.depthAll]⟩
    | cons p l ih => exact ⟨by simp [PyData.canLayAll0, PyData.canLay0, dPair, ih.1], by have := ih.2; simp only [List.map_cons, PyData.depthAll, dPair, PyData.depth]; omega⟩
  obtain ⟨a, b⟩ := h1 l
  show (PyData.canLay0 (.tuple (l.map dPair)) && decide (PyData.depth (.tuple (l.map dPair)) ≤ 64)) = true
  rw [Bool.and_eq_true]
  exact ⟨by simp only [PyData.canLay0]; exact a, decide_eq_true (by simp only [PyData.depth]; omega)⟩
theorem pair_eqv (p q : Int × Int) : PyData.eqv (dPair p) (dPair q) = decide (p = q) := by
  obtain ⟨a, b⟩ := p
  obtain ⟨c, d⟩ := q
  have e : PyData.eqv (dPair (a, b)) (dPair (c, d)) = ((a == c) && ((b == d) && true)) := by simp only [dPair, PyData.eqv, PyData.eqvAll]
  rw [e]
  by_cases h1 : a = c
  · by_cases h2 : b = d
    · subst h1; subst h2; simp
    · subst h1; simp [h2]
  · simp [h1]
theorem any_pair (l : List (Int × Int)) (p : Int × Int) : ((l.map dPair).any fun z => PyData.eqv z (dPair p)) = decide (p ∈ l) := by
  rw [List.any_map, Bool.eq_iff_iff]
  rw [List.any_eq_true, decide_eq_true_iff]
  constructor
  · rintro ⟨x, hx, e⟩
    have e : PyData.eqv (dPair x) (dPair p) = true := e
    rw [pair_eqv] at e
    rw [← of_decide_eq_true e]
    exact hx
  · intro h
    refine ⟨p, h, ?_⟩
    show PyData.eqv (dPair p) (dPair p) = true
    rw [pair_eqv]
    exact decide_eq_true rfl
section
variable {X : Cx} {Hb : Bs} {Γ : G} {a : Expr} {px pos apos cpos : Pos} {cs : Cs} {x : Str} {p : Addr} {S : PopM} {t i : Int}
/-- (t, i) in self.needed_saves() -/
theorem xt_needed {pl : Sem Bool} {k : Nat} {ps : List Str} {E₀ : XK} (C : CsOk X.K cs) (M : MDef X.prog X.w X.K X.mg X.base cs.CP "needed_saves" k ps (spN X.K cs 0 (pNeed X.K))) (hr : Room k X.A) (hx : Passes (L2.CX X.prog X.w) X E₀) (hl : Γ[0]? = some (.x (PopF X.K cs p S))) (hz : S.mem.length ≤ 1000) (hu : X.A.units + 65 < cLine) (ha : XE X a Γ (dPair (t, i)))
    (hN : X.N[0]? = some x := by rfl) (hv : Vis X.env.scope x := by first | exact Or.inl rfl | exact Or.inr (Or.inl rfl) | exact Or.inr (Or.inr rfl)) (hd : (x == ("__debug__" : Str)) = false := by decide) (hcd : (x == ("__classdict__" : Str)) = false := by decide)
    (hm : behindInMarks .In (.Call (.Attribute (.Name x px) "needed_saves" apos) [] [] cpos) = false := by rfl) (ht : MSh X (.Name x px) "needed_saves" apos cpos [] pl := by rfl) :
    XT X (.Compare a [.In] [.Call (.Attribute (.Name x px) "needed_saves" apos) [] [] cpos] pos) Γ (decide ((t, i) ∈ neededM S)) := by
  obtain ⟨f, fd, h1, h2, h3⟩ := M
  refine pt_imp (pt_cmpR (op_inT (hu)) ha (pe_meth0 (dvs := []) (pv 0 hN hv hd hcd) C.cP h1 h3 hr h2 .nil hx ht) hm) fun σ H Q ⟨⟨Hb, H0, E⟩, k⟩ => ⟨⟨Hb, H0, E⟩, fun v H1 s1 d1 => ?_⟩
  obtain ⟨q1, q2⟩ := slotPop (E.mono s1) hl
  obtain ⟨dx, dm, vt, vv, kvs, e1, _⟩ := id q2
  refine ⟨_, q1, p, dx, _, rfl, e1, rfl, p, S, [], [], _, rfl, rfl, q2, .nil, rfl, ⟨rfl, hz, rfl⟩, fun v2 H2 s2 ⟨l, hl2, d2⟩ => ?_⟩
  refine ⟨_, _, dp_mono s2 _ _ d1, d2, rfl, pairs_shaped l, _, rfl, ?_⟩
  rw [any_pair, show decide ((t, i) ∈ l) = decide ((t, i) ∈ neededM S) from decide_eq_decide.mpr (hl2 (t, i))]
  exact k H2 (s1.trans s2)
end
end TC
namespace TC
open PySem L2
section
variable {P : Program} {w : World} {K : PySem.W.Frag} {mg : Str → Option Value} {base : Heap} {cs : Cs}
theorem hu65 {k : Nat} {A : Around} (r : Room k A) : A.units + 65 < cLine := by
  have := r.un
  omega
/-! drop -/
abbrev sDrop : Stmt := methS 28 16
theorem sc_drop : FnScope ["self", "trial", "index", "member"] ["self", "trial", "index"] (defScope sDrop) := ⟨rfl, rfl, rfl, by decide +kernel, rfl, by decide +kernel, by decide +kernel⟩
def pDrop (S : PopM) (ds : List PyData) (r : Rk) (S' : PopM) : Prop := ∃ t x, ds = [.int t, .int x] ∧ pDo (.drop t x) S r S'
theorem saved_rng {S : PopM} {t x : Int} {n : Now} (h : savedM S t x = .ok n) : 0 ≤ x ∧ x < (shelfOf S t).length := by
  unfold savedM at h
  split at h
  · assumption
  · cases h
theorem ok_drop (C : CsOk K cs) (B : Bi mg) (Z : RzOk P w K mg base cs) (R : RawM K cs.CP "drop" "Population.drop" sDrop) (D1 : DKeep P w K mg base cs) (D2 : MDef P w K mg base cs.CP "member" 4 ["self", "trial"] (spN K cs 1 (pMember K cs))) (D3 : DSaved P w K mg base cs) (D4 : MDef P w K mg base cs.CM "twin" 3 ["self"] (spTw K cs)) (D5 : MDef P w K mg base cs.CP "needed_saves" 1 ["self"] (spN K cs 0 (pNeed K))) :
    MDef P w K mg base cs.CP "drop" 7 ["self", "trial", "index"] (spM K cs 2 pDrop) := by
  refine mdef_M R sc_drop rfl (by decide) (fun _ _ _ _ _ _ us hl => match us, hl with | [_, _, _], _ => rfl) fun f cdv A outer s H E p S ds r S' hr tk hp hl hpu hb => ?_
  obtain ⟨t, x, rfl, n, Bd, ok, hB, dk, rfl, rfl⟩ := hp
  have hx := passes_call (E := E) tk (fun _ _ _ _ h => h)
  cases q : memberM S t with
  | error z =>
    have e : doM S (.drop t x) = (S, .no z) := by unfold doM; dsimp only; rw [q]
    rw [e]
    exact xss_cons (xs_setX (i := 3) (xr_twinX C D4 (hr.mono (by decide)) hx (xr_meth C 0 rfl D2 (hr.mono (by decide)) hx rfl (xa_cons (xe_var 1 rfl) xa_nil) rfl ⟨t, rfl, by rw [q]; rfl⟩)) ⟨rfl, rfl⟩ sc_drop.nd)
  | ok m =>
    have hm : lookM S.mem t = some m := by
      unfold memberM at q
      split at q
      · rename_i h
        rw [h]
        cases q
        rfl
      · cases q
    have mo := ok.look hm
    refine xss_cons (xs_setRw 3 (C := cs.CM) (fs := memFs m) (xr_twin C D4 (hr.mono (by decide)) hx (xr_meth C 0 rfl D2 (hr.mono (by decide)) hx rfl (xa_cons (xe_var 1 rfl) xa_nil) rfl ⟨t, rfl, by rw [q]; rfl⟩)) rfl ?_ sc_drop.nd)
    have hsl : (shelfOf S t).length ≤ 1000000 := Nat.le_trans (shelf_le ok t) (Nat.le_trans hB (by decide))
    have esh : shelfOf S t = m.shelf := by unfold shelfOf; rw [hm]
    cases q2 : savedM S t x with
    | error z =>
      have e : doM S (.drop t x) = (S, .no z) := by unfold doM; dsimp only; rw [q]; dsimp only; rw [q2]
      rw [e]
      exact xss_cons (xs_exprX (xr_meth C 0 rfl D3 (hr.mono (by decide)) hx rfl (xa_cons (xe_var 1 rfl) (xa_cons (xe_var 2 rfl) xa_nil)) rfl ⟨t, x, rfl, hsl, by rw [q2]⟩) ⟨rfl, rfl⟩)
    | ok nw =>
      refine xss_cons (xs_expr (xe_meth (E₀ := E) C 0 rfl D3 (hr.mono (by decide)) hx (xa_cons (xe_var 1 rfl) (xa_cons (xe_var 2 rfl) xa_nil)) rfl ⟨t, x, rfl, hsl, by rw [q2]⟩) ?_)
      refine xss_cons (xs_if (xt_needed (t := t) (i := x) (E₀ := E) C D5 (hr.mono (by decide)) hx rfl (Nat.le_trans ok.ml (Nat.le_trans hB (by decide))) (hu65 hr) (xe_tup (xa_cons (xe_var 1 rfl) (xa_cons (xe_var 2 rfl) xa_nil)) (show 2 ≤ 10000000 by decide))) (fun hk => ?_) fun hk => xss_nil ?_)
      · have e : doM S (.drop t x) = (S, .no "save is needed") := by unfold doM; dsimp only; rw [q]; dsimp only; rw [q2]; dsimp only; rw [if_pos (of_decide_eq_true hk)]
        rw [e]
        exact xss_one (xs_raise Z tk (hr.mono (by decide)) rfl ⟨rfl, rfl⟩)
      · have e : doM S (.drop t x) = (S.keep t { m with shelf := m.shelf.set x.toNat none }, .ok .none) := by unfold doM; dsimp only; rw [q]; dsimp only; rw [q2]; dsimp only; rw [if_neg (of_decide_eq_false hk)]
        rw [e]
        obtain ⟨x0, x1⟩ := saved_rng q2
        obtain ⟨xn, rfl⟩ : ∃ xn : Nat, x = (xn : Int) := ⟨x.toNat, by omega⟩
        rw [esh] at x1
        have hxn : xn < m.shelf.length := by omega
        have hml := mo.ln
        refine xss_cons (xs_attrW 3 rfl (d := .tuple ((m.shelf.set xn none).map dON)) (xe_eq (xe_catT (xe_catT (xe_slT (xe_attrW 3 rfl rfl C.cM C.nSh) xo_none (xo_some (xe_var 2 rfl))) (xe_tup (xa_cons xe_non xa_nil) (show 1 ≤ 10000000 by decide)) ?_) (xe_slT (xe_attrW 3 rfl rfl C.cM C.nSh) (xo_some (xe_add (xe_var 2 rfl) xe_int)) xo_none) ?_) ?_) (pureShelf _) (of_decide_eq_true rfl) C.cM C.nSh ?_)
        · rw [cut_to, List.length_take, List.length_map]
          show _ + 1 ≤ _
          omega
        · rw [cut_to, show ((xn : Int) + 1) = ((xn + 1 : Nat) : Int) from rfl, cut_from, List.length_append, List.length_take, List.length_drop, List.length_map]
          show _ + 1 + _ ≤ _
          omega
        · rw [cut_to, show ((xn : Int) + 1) = ((xn + 1 : Nat) : Int) from rfl, cut_from, List.map_set, List.set_eq_take_append_cons_drop, if_pos (by rw [List.length_map]; exact hxn), List.append_assoc]
          rfl
        exact xss_one (xs_exprM (i := 0) (F := PopF K cs p (S.keep t { m with shelf := m.shelf.set xn none })) (xm_keep C 0 rfl D1 (hr.mono (by decide)) hx rfl rfl (xe_var 1 rfl) (xv_var 3 rfl) (Nat.le_trans ok.ml (Nat.le_trans hB (by decide)))) hb ⟨rfl, rfl⟩)
end
end TC
namespace TC
open PySem L2
theorem outR_or (o : Out) : (∃ d, outR o = .d d) ∨ ∃ s, outR o = .x s := by
  cases o with
  | ok d => exact .inl ⟨d, rfl⟩
  | no s => exact .inr ⟨s, rfl⟩
section
variable {X : Cx} {Hb : Bs} {Γ : G} {N : G → Prop} {R : Rk → G → Prop} {e : Expr} {pos : Pos} {i : Nat} {F : Hp → V → Prop}
theorem xs_retOut {o : Out} (he : XM X Hb e Γ i F (outR o)) (hl : ∀ a ∈ Hb.l, Hb.h a ≠ none) (h : R (outR o) ((Γ.map (shift X.K)).set i (.x F))) : XS X Hb (.Return (some e) pos) Γ N R := by
  cases o with
  | ok d => exact xs_retM he hl h
  | no s => exact xs_retMx he hl h
theorem caps_nil : CapsOk X [] [] := trivial
theorem caps_cons {x : Str} {p : Pos} {cs : List (Str × Pos)} {is : List Nat} (h : CapsOk X cs is) (hi : X.N[i]? = some x := by rfl) (hx : Loc X.env.scope x := by first | exact Or.inl rfl | exact Or.inr rfl)
    (hf : X.fn x = true ∨ X.env.scope.names.lookup x = some .local := by first | exact .inl rfl | exact .inr rfl) : CapsOk X ((x, p) :: cs) (i :: is) := ⟨hi, hx, hf, h⟩
end
section
variable {P : Program} {w : World} {K : PySem.W.Frag} {mg : Str → Option Value} {base : Heap} {cs : Cs}
/-! do -/
abbrev sDo : Stmt := methS 28 17
theorem sc_do : FnScope ["self", "deed", "trial", "seed", "rate", "margin", "incarnation", "steps", "donor", "index"] ["self", "deed"] (defScope sDo) := ⟨rfl, rfl, rfl, by decide +kernel, rfl, by decide +kernel, by decide +kernel⟩
def pDeed (S : PopM) (ds : List PyData) (r : Rk) (S' : PopM) : Prop := ∃ d, ds = [dDeed d] ∧ pDo d S r S'
structure DoDefs (P : Program) (w : World) (K : PySem.W.Frag) (mg : Str → Option Value) (base : Heap) (cs : Cs) : Prop where
  fo : MDef P w K mg base cs.CP "found" 4 ["self", "trial", "seed", "rate", "margin"] (spM K cs 4 pFound)
  tr : MDef P w K mg base cs.CP "train" 7 ["self", "trial", "incarnation", "steps"] (spM K cs 3 pTr)
  sa : MDef P w K mg base cs.CP "save" 7 ["self", "trial", "incarnation"] (spM K cs 2 pSave)
  cr : MDef P w K mg base cs.CP "crash" 6 ["self", "trial"] (spM K cs 1 pCrash)
  ev : MDef P w K mg base cs.CP "evaluate" 7 ["self", "trial", "incarnation"] (spM K cs 2 pEval)
  co : MDef P w K mg base cs.CP "copy" 7 ["self", "trial", "incarnation", "donor", "index", "rate", "margin"] (spM K cs 6 pCopy)
  st : MDef P w K mg base cs.CP "stop" 7 ["self", "trial", "incarnation"] (spM K cs 2 pStop)
  dr : MDef P w K mg base cs.CP "drop" 7 ["self", "trial", "index"] (spM K cs 2 pDrop)
theorem ok_do (C : CsOk K cs) (D : DoDefs P w K mg base cs) (R : RawM K cs.CP "do" "Population.do" sDo) : MDef P w K mg base cs.CP "do" 8 ["self", "deed"] (spM K cs 1 pDeed) := by
  refine mdef_M R sc_do rfl (by decide) (fun _ _ _ _ _ _ us hl => match us, hl with | [_, _], _ => rfl) fun f cdv A outer s H E p S ds r S' hr tk hp hl hpu hb => ?_
  obtain ⟨d, rfl, hd⟩ := hp
  have hd' := hd
  obtain ⟨n, Bd, ok, hB, dk, rfl, rfl⟩ := hd'
  have hx := passes_call (E := E) tk (fun _ _ _ _ h => h)
  refine xss_one (xs_match (xe_var 1 rfl) ?_)
  cases d with
  | found t s rt m =>
    refine pm_text (x := "found") (cs := [("trial", _), ("seed", _), ("rate", _), ("margin", _)]) (is := [2, 3, 4, 5]) rfl (show 4 ≤ 1000 by decide) sc_do.nd rfl (fun z => absurd rfl z) (fun _ => ⟨caps_cons (i := 2) (caps_cons (i := 3) (caps_cons (i := 4) (caps_cons (i := 5) caps_nil))), _, rfl, ?_⟩)
    exact xss_one (xs_retOut (xm_meth C 0 rfl D.fo (hr.mono (by decide)) hx rfl rfl (xa_cons (xe_var 2 rfl) (xa_cons (xe_var 3 rfl) (xa_cons (xe_var 4 rfl) (xa_cons (xe_var 5 rfl) xa_nil)))) rfl ⟨t, s, rt, m, rfl, hd⟩ (outR_or _)) hb ⟨rfl, rfl⟩)
  | train t i k =>
    refine pm_len (x := "found") (cs := [("trial", _), ("seed", _), ("rate", _), ("margin", _)]) (show 4 ≠ 5 by decide) (show 4 ≤ 1000 by decide) ?_
    refine pm_text (x := "train") (cs := [("trial", _), ("incarnation", _), ("steps", _)]) (is := [2, 6, 7]) rfl (show 3 ≤ 1000 by decide) sc_do.nd rfl (fun z => absurd rfl z) (fun _ => ⟨caps_cons (i := 2) (caps_cons (i := 6) (caps_cons (i := 7) caps_nil)), _, rfl, ?_⟩)
    exact xss_one (xs_retOut (xm_meth C 0 rfl D.tr (hr.mono (by decide)) hx rfl rfl (xa_cons (xe_var 2 rfl) (xa_cons (xe_var 6 rfl) (xa_cons (xe_var 7 rfl) xa_nil))) rfl ⟨t, i, k, rfl, hd⟩ (outR_or _)) hb ⟨rfl, rfl⟩)
  | save t i =>
    refine pm_len (x := "found") (cs := [("trial", _), ("seed", _), ("rate", _), ("margin", _)]) (show 3 ≠ 5 by decide) (show 3 ≤ 1000 by decide) ?_
    refine pm_len (x := "train") (cs := [("trial", _), ("incarnation", _), ("steps", _)]) (show 3 ≠ 4 by decide) (show 3 ≤ 1000 by decide) ?_
    refine pm_text (x := "save") (cs := [("trial", _), ("incarnation", _)]) (is := [2, 6]) rfl (show 2 ≤ 1000 by decide) sc_do.nd rfl (fun z => absurd rfl z) (fun _ => ⟨caps_cons (i := 2) (caps_cons (i := 6) caps_nil), _, rfl, ?_⟩)
    exact xss_one (xs_retOut (xm_meth C 0 rfl D.sa (hr.mono (by decide)) hx rfl rfl (xa_cons (xe_var 2 rfl) (xa_cons (xe_var 6 rfl) xa_nil)) rfl ⟨t, i, rfl, hd⟩ (outR_or _)) hb ⟨rfl, rfl⟩)
  | crash t =>
    refine pm_len (x := "found") (cs := [("trial", _), ("seed", _), ("rate", _), ("margin", _)]) (show 2 ≠ 5 by decide) (show 2 ≤ 1000 by decide) ?_
    refine pm_len (x := "train") (cs := [("trial", _), ("incarnation", _), ("steps", _)]) (show 2 ≠ 4 by decide) (show 2 ≤ 1000 by decide) ?_
    refine pm_len (x := "save") (cs := [("trial", _), ("incarnation", _)]) (show 2 ≠ 3 by decide) (show 2 ≤ 1000 by decide) ?_
    refine pm_text (x := "crash") (cs := [("trial", _)]) (is := [2]) rfl (show 1 ≤ 1000 by decide) sc_do.nd rfl (fun z => absurd rfl z) (fun _ => ⟨caps_cons (i := 2) caps_nil, _, rfl, ?_⟩)
    exact xss_one (xs_retOut (xm_meth C 0 rfl D.cr (hr.mono (by decide)) hx rfl rfl (xa_cons (xe_var 2 rfl) xa_nil) rfl ⟨t, rfl, hd⟩ (outR_or _)) hb ⟨rfl, rfl⟩)
  | evaluate t i =>
    refine pm_len (x := "found") (cs := [("trial", _), ("seed", _), ("rate", _), ("margin", _)]) (show 3 ≠ 5 by decide) (show 3 ≤ 1000 by decide) ?_
    refine pm_len (x := "train") (cs := [("trial", _), ("incarnation", _), ("steps", _)]) (show 3 ≠ 4 by decide) (show 3 ≤ 1000 by decide) ?_
    refine pm_text (x := "save") (cs := [("trial", _), ("incarnation", _)]) (is := []) rfl (show 2 ≤ 1000 by decide) sc_do.nd rfl (fun _ => ?_) (fun z => absurd z (show ¬ ("save" : Str) = "evaluate" by decide))
    refine pm_len (x := "crash") (cs := [("trial", _)]) (show 3 ≠ 2 by decide) (show 3 ≤ 1000 by decide) ?_
    refine pm_text (x := "evaluate") (cs := [("trial", _), ("incarnation", _)]) (is := [2, 6]) rfl (show 2 ≤ 1000 by decide) sc_do.nd rfl (fun z => absurd rfl z) (fun _ => ⟨caps_cons (i := 2) (caps_cons (i := 6) caps_nil), _, rfl, ?_⟩)
    exact xss_one (xs_retOut (xm_meth C 0 rfl D.ev (hr.mono (by decide)) hx rfl rfl (xa_cons (xe_var 2 rfl) (xa_cons (xe_var 6 rfl) xa_nil)) rfl ⟨t, i, rfl, hd⟩ (outR_or _)) hb ⟨rfl, rfl⟩)
  | copy t i dn x rt mm =>
    refine pm_len (x := "found") (cs := [("trial", _), ("seed", _), ("rate", _), ("margin", _)]) (show 7 ≠ 5 by decide) (show 7 ≤ 1000 by decide) ?_
    refine pm_len (x := "train") (cs := [("trial", _), ("incarnation", _), ("steps", _)]) (show 7 ≠ 4 by decide) (show 7 ≤ 1000 by decide) ?_
    refine pm_len (x := "save") (cs := [("trial", _), ("incarnation", _)]) (show 7 ≠ 3 by decide) (show 7 ≤ 1000 by decide) ?_
    refine pm_len (x := "crash") (cs := [("trial", _)]) (show 7 ≠ 2 by decide) (show 7 ≤ 1000 by decide) ?_
    refine pm_len (x := "evaluate") (cs := [("trial", _), ("incarnation", _)]) (show 7 ≠ 3 by decide) (show 7 ≤ 1000 by decide) ?_
    refine pm_text (x := "copy") (cs := [("trial", _), ("incarnation", _), ("donor", _), ("index", _), ("rate", _), ("margin", _)]) (is := [2, 6, 8, 9, 4, 5]) rfl (show 6 ≤ 1000 by decide) sc_do.nd rfl (fun z => absurd rfl z) (fun _ => ⟨caps_cons (i := 2) (caps_cons (i := 6) (caps_cons (i := 8) (caps_cons (i := 9) (caps_cons (i := 4) (caps_cons (i := 5) caps_nil))))), _, rfl, ?_⟩)
    exact xss_one (xs_retOut (xm_meth C 0 rfl D.co (hr.mono (by decide)) hx rfl rfl (xa_cons (xe_var 2 rfl) (xa_cons (xe_var 6 rfl) (xa_cons (xe_var 8 rfl) (xa_cons (xe_var 9 rfl) (xa_cons (xe_var 4 rfl) (xa_cons (xe_var 5 rfl) xa_nil)))))) rfl ⟨t, i, dn, x, rt, mm, rfl, hd⟩ (outR_or _)) hb ⟨rfl, rfl⟩)
  | stop t i =>
    refine pm_len (x := "found") (cs := [("trial", _), ("seed", _), ("rate", _), ("margin", _)]) (show 3 ≠ 5 by decide) (show 3 ≤ 1000 by decide) ?_
    refine pm_len (x := "train") (cs := [("trial", _), ("incarnation", _), ("steps", _)]) (show 3 ≠ 4 by decide) (show 3 ≤ 1000 by decide) ?_
    refine pm_text (x := "save") (cs := [("trial", _), ("incarnation", _)]) (is := []) rfl (show 2 ≤ 1000 by decide) sc_do.nd rfl (fun _ => ?_) (fun z => absurd z (show ¬ ("save" : Str) = "stop" by decide))
    refine pm_len (x := "crash") (cs := [("trial", _)]) (show 3 ≠ 2 by decide) (show 3 ≤ 1000 by decide) ?_
    refine pm_text (x := "evaluate") (cs := [("trial", _), ("incarnation", _)]) (is := []) rfl (show 2 ≤ 1000 by decide) sc_do.nd rfl (fun _ => ?_) (fun z => absurd z (show ¬ ("evaluate" : Str) = "stop" by decide))
    refine pm_len (x := "copy") (cs := [("trial", _), ("incarnation", _), ("donor", _), ("index", _), ("rate", _), ("margin", _)]) (show 3 ≠ 7 by decide) (show 3 ≤ 1000 by decide) ?_
    refine pm_text (x := "stop") (cs := [("trial", _), ("incarnation", _)]) (is := [2, 6]) rfl (show 2 ≤ 1000 by decide) sc_do.nd rfl (fun z => absurd rfl z) (fun _ => ⟨caps_cons (i := 2) (caps_cons (i := 6) caps_nil), _, rfl, ?_⟩)
    exact xss_one (xs_retOut (xm_meth C 0 rfl D.st (hr.mono (by decide)) hx rfl rfl (xa_cons (xe_var 2 rfl) (xa_cons (xe_var 6 rfl) xa_nil)) rfl ⟨t, i, rfl, hd⟩ (outR_or _)) hb ⟨rfl, rfl⟩)
  | drop t x =>
    refine pm_len (x := "found") (cs := [("trial", _), ("seed", _), ("rate", _), ("margin", _)]) (show 3 ≠ 5 by decide) (show 3 ≤ 1000 by decide) ?_
    refine pm_len (x := "train") (cs := [("trial", _), ("incarnation", _), ("steps", _)]) (show 3 ≠ 4 by decide) (show 3 ≤ 1000 by decide) ?_
    refine pm_text (x := "save") (cs := [("trial", _), ("incarnation", _)]) (is := []) rfl (show 2 ≤ 1000 by decide) sc_do.nd rfl (fun _ => ?_) (fun z => absurd z (show ¬ ("save" : Str) = "drop" by decide))
    refine pm_len (x := "crash") (cs := [("trial", _)]) (show 3 ≠ 2 by decide) (show 3 ≤ 1000 by decide) ?_
    refine pm_text (x := "evaluate") (cs := [("trial", _), ("incarnation", _)]) (is := []) rfl (show 2 ≤ 1000 by decide) sc_do.nd rfl (fun _ => ?_) (fun z => absurd z (show ¬ ("evaluate" : Str) = "drop" by decide))
    refine pm_len (x := "copy") (cs := [("trial", _), ("incarnation", _), ("donor", _), ("index", _), ("rate", _), ("margin", _)]) (show 3 ≠ 7 by decide) (show 3 ≤ 1000 by decide) ?_
    refine pm_text (x := "stop") (cs := [("trial", _), ("incarnation", _)]) (is := []) rfl (show 2 ≤ 1000 by decide) sc_do.nd rfl (fun _ => ?_) (fun z => absurd z (show ¬ ("stop" : Str) = "drop" by decide))
    refine pm_any ?_
    exact xss_one (xs_retOut (xm_meth C 0 rfl D.dr (hr.mono (by decide)) hx rfl rfl (xa_cons (xe_ixT (xe_var 1 rfl) xe_int (atI_nat (j := 1) rfl)) (xa_cons (xe_ixT (xe_var 1 rfl) xe_int (atI_nat (j := 2) rfl)) xa_nil)) rfl ⟨t, x, rfl, hd⟩ (outR_or _)) hb ⟨rfl, rfl⟩)
end
end TC
namespace TC
open PySem L2
/-! ### try: return (True, e) except DeedFault as fault: return (False, fault.reason) -/
/-- what a callee's exception must do, whatever the slots are -/
def anyE (n : Nat) (W : WX) : XK := fun cls d H => ∀ σ : St, σ.length = n → W cls d σ H
theorem passes_any {X : Cx} {W : WX} {n : Nat} (tk : Takes X W) (hn : X.N.length = n) : Passes (L2.CX X.prog X.w) X (anyE n W) :=
  fun _ σ _ _ e s' I c => tk e s' (XE.of_call I (fun _ _ _ h => h σ (I.len.trans hn)) c)
/-- of DeedFault: its instances' fields can be read, except meets it -/
structure DfGet (K : PySem.W.Frag) (mg : Str → Option Value) (C : Addr) : Prop where
  xf : XfC K C
  no : PySem.W.findIn K (.ref C) "reason" = some none
  ex : PySem.W.exmOne K (.ref C) (.ref C) = some true
  mg : mg "DeedFault" = some (.ref C)
section
variable {X : Cx} {Hb : Bs} {Γ : G} {N : G → Prop} {R : Rk → G → Prop} {e : Expr} {j i : Nat} {F : Hp → V → Prop} {n : Str} {j1 j2 k1 k2 : Nat} {p1 p2 p3 p4 p5 p6 p7 p8 p9 p10 p11 : Pos} {Wout : WX}
theorem xs_tryOut {o : Out} (T : DfGet X.K X.mg Hb.DF) (hs : X.stack = X.env :: X.outer) (hf : X.env.frame = some X.env.locals) (hN : X.N.Nodup) (i : Nat) (hi : X.N[i]? = some n) (hln : X.env.kindOf n = some .local) (hv : Vis X.env.scope n) (hd : (n == ("__debug__" : Str)) = false) (hcd : (n == ("__classdict__" : Str)) = false) (hg : Gl X "DeedFault") (tk : Takes X Wout)
    (he : ∀ (pn : List (Addr × Obj)) (xe : Value → Shared → Prop) (E' : XK), Passes (L2.CX X.prog X.w) (X.tr pn xe) E' → XM (X.tr pn xe) ⟨Hb.h, Hb.l, E', Hb.DF⟩ e Γ j F (outR o)) (hl : ∀ a ∈ Hb.l, Hb.h a ≠ none) (h : R (.d (dOut o)) ((Γ.map (shift X.K)).set j (.x F)))
    (st1 : starEach [.Constant (.bool true) j1 p1, e] X.env = (false, eval (.Constant (.bool true) j1 p1) X.env) :: starEach [e] X.env) (st2 : starEach [e] X.env = (false, eval e X.env) :: starEach [] X.env)
    (hb : attributeBase (.Name n p5) "reason" X.env (eval (.Name n p5) X.env) = eval (.Name n p5) X.env := by rfl) :
    XS X Hb (.Try [.Return (some (.Tuple [.Constant (.bool true) j1 p1, e] k1 p2)) p3] [.ExceptHandler (some (.Name "DeedFault" p4)) (some n) [.Return (some (.Tuple [.Constant (.bool false) j2 p7, .Attribute (.Name n p5) "reason" p6] k2 p8)) p9] p10] [] [] p11) Γ N R := by
  refine ps_imp (ps_try_as (tb := fun W => tRet (tTup (tCons (tC (.bl true)) (tCons (tXM X.K ⟨Hb.h, Hb.l, anyE X.N.length W, Hb.DF⟩ Γ j F (outR o)) tNil)))) (ts := fun a cls d => tRet (tTup (tCons (tC (.bl false)) (tCons (tXf a cls d Hb.DF "reason" (tVar i)) tNil))))
    hs hf hN hi hln ⟨hg, by decide, .inl T.mg⟩ tk (fun W pn xe tk2 hp => ?_) (fun a oe cls d pn hz hfs => ?_)) fun D σ H q => ?_
  · exact pss_one (ps_ret (pe_tup (pa_cons pe_bl (pa_cons (he pn xe _ (passes_any tk2 rfl)) pa_nil st2) st1)))
  · exact pss_one (ps_ret (pe_tup (pa_cons pe_bl (pa_cons (pe_xf T.xf T.no hz hfs (pv i hi hv hd hcd) hb) pa_nil))))
  · obtain ⟨H0, E⟩ := q.1
    refine ⟨⟨H0, ⟨E.sb, E.s0, E.ln, E.sl⟩⟩, ?_⟩
    revert h
    cases o with
    | ok d =>
      rintro h v H' ⟨o1, k1, u, hu, hF⟩ q1
      refine ⟨show 2 ≤ sizeLine by decide, fun p hp => ?_⟩
      have E1 := (E.shift k1 o1 hl).know hu (g := .x F) ⟨u, rfl, hF⟩
      have s1 : Same H' (upd H' p (.tup [.bl true, v])) := fun b o z => by rw [upd_ne (ne_of_none z hp)]; exact z
      exact q.2.2.d _ σ (.ref p) _ _ _ (E1.mono s1) (.tup (SqT.of upd_same) (.cons (.bl true) (.cons (dp_mono s1 _ _ q1) .nil))) h
    | no s =>
      rintro h d H' ⟨o1, k1, u, hu, hF⟩ q1 σ2 hσ
      refine ⟨true, T.ex, fun _ a ha => ?_, fun z => nomatch z⟩
      have hi2 : i < σ2.length := by
        rw [hσ]
        exact (List.getElem?_eq_some_iff.mp hi).1
      refine ⟨_, List.getElem?_set_self hi2, rfl, rfl, d, _, _, rfl, q1, rfl, show 2 ≤ sizeLine by decide, fun p hp => ?_⟩
      have E1 := (E.shift k1 o1 hl).know hu (g := .x F) ⟨u, rfl, hF⟩
      have s1 : Same H' (upd H' p (.tup [.bl false, .str s])) := fun b o z => by rw [upd_ne (ne_of_none z hp)]; exact z
      exact q.2.2.d _ σ (.ref p) _ _ _ (E1.mono s1) (.tup (SqT.of upd_same) (.cons (.bl false) (.cons (.str s) .nil))) h
end
section
variable {P : Program} {w : World} {K : PySem.W.Frag} {mg : Str → Option Value} {base : Heap} {cs : Cs}
/-! outcome -/
abbrev sOutc : Stmt := methS 28 28
theorem sc_outc : FnScope ["self", "deed", "fault"] ["self", "deed"] (defScope sOutc) := ⟨rfl, rfl, rfl, by decide +kernel, rfl, by decide +kernel, by decide +kernel⟩
def pOutc (S : PopM) (ds : List PyData) (r : Rk) (S' : PopM) : Prop := ∃ d, ds = [dDeed d] ∧ ∃ n B : Nat, PopOk n B S ∧ B ≤ 100 ∧ DeedOk d ∧ r = .d (dOut (doM S d).2) ∧ S' = (doM S d).1
theorem ok_outc (C : CsOk K cs) (T : DfGet K mg cs.DF) (D : MDef P w K mg base cs.CP "do" 8 ["self", "deed"] (spM K cs 1 pDeed)) (R : RawM K cs.CP "outcome" "Population.outcome" sOutc) : MDef P w K mg base cs.CP "outcome" 9 ["self", "deed"] (spM K cs 1 pOutc) := by
  refine mdef_M R sc_outc rfl (by decide) (fun _ _ _ _ _ _ us hl => match us, hl with | [_, _], _ => rfl) fun f cdv A outer s H E p S ds r S' hr tk hp hl hpu hb => ?_
  obtain ⟨d, rfl, n, Bd, ok, hB, dk, rfl, rfl⟩ := hp
  refine xss_one (xs_tryOut (j := 0) (F := PopF K cs p (doM S d).1) (o := (doM S d).2) T rfl rfl sc_outc.nd 2 rfl rfl (Or.inl rfl) (by decide) (by decide) (show Gl (mcx P w K mg base ["self", "deed", "fault"] "Population.outcome" sOutc f cdv A outer s H E) "DeedFault" from rfl) tk (fun pn xe E' hx => ?_) hb ⟨rfl, rfl⟩ rfl rfl)
  exact xm_meth C 0 rfl D hr hx rfl rfl (xa_cons (xe_var 1 rfl) xa_nil) (by rw [show pureAll [dDeed d] = (pureD (dDeed d) && true) from rfl, pureDeed]; rfl) ⟨d, rfl, n, Bd, ok, hB, dk, rfl, rfl⟩ (outR_or _)
end
end TC
namespace TC
open PySem L2
/-- a block whose end is known, and what stands behind it -/
theorem pss_thenX {X : Cx} {Hb : Bs} {st : Stmt} {rest : List Stmt} {Γ : G} {N : G → Prop} {t : TS} (h : XS X Hb st Γ N (fun _ _ => False)) (k : PSs X rest t) : PSs X (st :: rest) (fun D σ H => (∃ H0, EnvOk X.K Hb H0 H σ Γ) ∧ ∀ Γ' σ' H' H0', KeepT X.K H H' → EnvOk X.K Hb H0' H' σ' Γ' → N Γ' → t D σ' H') :=
  pss_imp (pss_cons h k) fun D σ H q => ⟨q.1, q.2, ⟨fun _ _ _ _ _ _ _ _ z => z.elim, fun _ _ _ _ _ _ _ _ _ _ _ z => z.elim, fun _ _ _ _ _ _ _ _ _ _ z => z.elim, fun _ _ _ _ _ _ _ _ z => z.elim, fun _ _ _ _ _ _ _ _ z => z.elim⟩⟩
section
variable {P : Program} {w : World} {K : PySem.W.Frag} {mg : Str → Option Value} {base : Heap} {cs : Cs}
/-! Population.__init__ -/
abbrev sPI : Stmt := methS 28 0
def newPop (tr va : List Ex) : PopM := ⟨tr, va, [], 0⟩
def spPI (K : PySem.W.Frag) (cs : Cs) : Sp := fun vs H Q E => ∃ B x dx tr va n v1 v2, vs = [.ref x, v1, v2] ∧ H = upd B x (.ins cs.CP dx []) ∧ B x = none ∧ Dp K B v1 (dExs tr) ∧ Dp K B v2 (dExs va) ∧ ExsOk n tr ∧ ExsOk n va ∧ ∀ H', Same B H' → PopAt K cs H' x (newPop tr va) → Q .non H'
theorem sc_pi : FnScope ["self", "training", "validation"] ["self", "training", "validation"] (defScope sPI) := ⟨rfl, rfl, rfl, by decide +kernel, rfl, by decide +kernel, by decide +kernel⟩
theorem ok_pi (C : CsOk K cs) (B : Bi mg) (R : RawMk K mg cs.CP "Population" "Population.__init__" sPI) (D1 : Def P w K mg base "check_examples" 3 ["value"] (spR K 1 pChk)) : MkDef P w K mg base cs.CP "Population" 4 ["self", "training", "validation"] (spPI K cs) := by
  obtain ⟨f, fd, h1, M, F⟩ := R
  refine ⟨f, fd, h1, M, F.binds (fun _ _ _ _ _ _ us hl => match us, hl with | [_, _, _], _ => rfl), F.ok sc_pi (fun vs H Q E h => ?_) (fun cdv A outer s H vs Q E hr h => ?_)⟩
  · obtain ⟨B, x, dx, tr, va, n, v1, v2, rfl, _⟩ := h
    rfl
  · obtain ⟨Bh, x, dx, tr, va, n, v1, v2, rfl, rfl, fr, d1, d2, o1, o2, k⟩ := h
    obtain ⟨fs1, lab1, es1, htr, hf1⟩ := ex_head o1
    obtain ⟨fs2, lab2, es2, hva, hf2⟩ := ex_head o2
    have sB : Same Bh (upd Bh x (.ins cs.CP dx [])) := fun b o z => by rw [upd_ne (ne_of_none z fr)]; exact z
    refine ⟨_, pss_thenX (Hb := ⟨upd Bh x (.ins cs.CP dx []), [], fun _ _ _ => False, default⟩) (Γ := [.x (fun _ v => v = .ref x), .b (dExs tr), .b (dExs va)]) (N := fun Γ' => Γ' = [.x (fun _ v => v = .ref x), .b (dExs tr), .b (dExs va)])
      (xs_expr (xd_call D1 hr (xa_cons (xe_var 1 rfl) xa_nil) ⟨n, tr, rfl, o1, rfl⟩) rfl)
      (pss_thenX (Hb := ⟨upd Bh x (.ins cs.CP dx []), [], fun _ _ _ => False, default⟩) (Γ := [.x (fun _ v => v = .ref x), .b (dExs tr), .b (dExs va)]) (N := fun Γ' => Γ' = [.x (fun _ v => v = .ref x), .b (dExs tr), .b (dExs va)])
      (xs_expr (xd_call D1 hr (xa_cons (xe_var 2 rfl) xa_nil) ⟨n, va, rfl, o2, rfl⟩) rfl)
      (pss_thenX (Hb := ⟨upd Bh x (.ins cs.CP dx []), [], fun _ _ _ => False, default⟩) (Γ := [.x (fun _ v => v = .ref x), .b (dExs tr), .b (dExs va)]) (N := fun Γ' => Γ' = [.x (fun _ v => v = .ref x), .b (dExs tr), .b (dExs va)])
      (xs_ifF (xt_neS (xe_eq (xe_lenT B.len (xe_ixT (xe_ixT (xe_var 1 rfl) xe_int (show atI (tr.map dEx) 0 = some (dEx (fs1, lab1)) from by rw [htr]; exact atI_nat (j := 0) rfl)) xe_int (atI_nat (j := 0) rfl))) (show _ = PyData.int (n : Int) by rw [List.length_map, hf1]))
        (xe_eq (xe_lenT B.len (xe_ixT (xe_ixT (xe_var 2 rfl) xe_int (show atI (va.map dEx) 0 = some (dEx (fs2, lab2)) from by rw [hva]; exact atI_nat (j := 0) rfl)) xe_int (atI_nat (j := 0) rfl))) (show _ = PyData.int (n : Int) by rw [List.length_map, hf2])) rfl) (by show (!decide ((n : Int) = (n : Int))) = false; simp) (xss_nil rfl))
      (pss_cons (ps_fld (pv 0) (pv 1) rfl) (pss_cons (ps_fld (pv 0) (pv 2) rfl) (pss_cons (ps_fld (pv 0) pe_dnewK rfl) (pss_one (ps_fld (pv 0) pe_int rfl))))))), ?_⟩
    refine ⟨⟨_, Off.refl _, Same.refl _, rfl, fun i g hg => ?_⟩, ?_⟩
    · match i, hg with
      | 0, hg => cases hg; exact ⟨_, rfl, _, rfl, fun _ _ => rfl⟩
      | 1, hg => cases hg; exact ⟨_, rfl, _, rfl, dp_mono sB _ _ d1⟩
      | 2, hg => cases hg; exact ⟨_, rfl, _, rfl, dp_mono sB _ _ d2⟩
      | i + 3, hg => simp at hg
    rintro _ σ1 H1 H01 k1 E1 rfl
    refine ⟨⟨_, E1⟩, ?_⟩
    rintro _ σ2 H2 H02 k2 E2 rfl
    refine ⟨⟨_, E2⟩, ?_⟩
    rintro _ σ3 H3 H03 k3 E3 rfl
    have s3 : Same (upd Bh x (.ins cs.CP dx [])) H3 := E3.sb.same.trans E3.s0
    obtain ⟨_, m0, w0, rfl, q0⟩ := E3.sl 0 _ rfl
    obtain ⟨_, m1, w1, rfl, q1⟩ := E3.sl 1 _ rfl
    obtain ⟨_, m2, w2, rfl, q2⟩ := E3.sl 2 _ rfl
    obtain rfl : w0 = .ref x := q0 H3 E3.s0
    have q1' := dp_mono E3.s0 _ _ q1
    have q2' := dp_mono E3.s0 _ _ q2
    have e3 : H3 x = some (.ins cs.CP dx []) := s3 _ _ upd_same
    refine ⟨_, m1, _, m0, x, cs.CP, dx, [], rfl, e3, C.cP, C.nTr, of_decide_eq_true rfl, ?_⟩
    refine ⟨_, m2, _, m0, x, cs.CP, dx, _, rfl, upd_same, C.cP, C.nVa, of_decide_eq_true rfl, fun d hd => ?_⟩
    have dne : d ≠ x := fun z => by
      rw [z, upd_same] at hd
      cases hd
    refine ⟨_, m0, x, cs.CP, dx, _, rfl, (upd_ne (Ne.symm dne)).trans upd_same, C.cP, C.nMe, of_decide_eq_true rfl, ?_⟩
    refine ⟨_, m0, x, cs.CP, dx, _, rfl, upd_same, C.cP, C.nSp, of_decide_eq_true rfl, ?_⟩
    have hd3 : H3 d = none := by
      rw [upd_ne dne, upd_ne dne] at hd
      exact hd
    have kt : ∀ o1 o2 o3 o4 o5 dx2 fs2 fs3 fs4 fs5, o1 = HO.ins cs.CP dx2 fs2 → o2 = HO.ins cs.CP dx2 fs3 → o4 = HO.ins cs.CP dx2 fs4 → o5 = HO.ins cs.CP dx2 fs5 → KeepT K H3 (upd (upd (upd (upd (upd H3 x o1) x o2) d o3) x o4) x o5) := by
      rintro _ _ o3 _ _ dx2 fs2 fs3 fs4 fs5 rfl rfl rfl rfl
      have t1 : KeepT K H3 (upd H3 x (.ins cs.CP dx2 fs2)) := keepT_ins e3
      have t2 : KeepT K (upd H3 x (.ins cs.CP dx2 fs2)) (upd (upd H3 x (.ins cs.CP dx2 fs2)) x (.ins cs.CP dx2 fs3)) := keepT_ins upd_same
      have e4 : (upd (upd (upd H3 x (.ins cs.CP dx2 fs2)) x (.ins cs.CP dx2 fs3)) d o3) x = some (.ins cs.CP dx2 fs3) := (upd_ne (Ne.symm dne)).trans upd_same
      have t3 : KeepT K (upd (upd H3 x (.ins cs.CP dx2 fs2)) x (.ins cs.CP dx2 fs3)) (upd (upd (upd H3 x (.ins cs.CP dx2 fs2)) x (.ins cs.CP dx2 fs3)) d o3) := KeepT.of fun b o z => by
        have nd : b ≠ d := fun q => by
          rw [q, upd_ne dne, upd_ne dne, hd3] at z
          cases z
        rw [upd_ne nd]
        exact z
      exact (((t1.trans t2).trans t3).trans (keepT_ins e4)).trans (keepT_ins upd_same)
    refine k _ (fun b o z => ?_) ⟨dx, d, w1, w2, [], upd_same, dp_keep (kt _ _ _ _ _ _ _ _ _ _ rfl rfl rfl rfl) _ _ (pureExs _) q1', dp_keep (kt _ _ _ _ _ _ _ _ _ _ rfl rfl rfl rfl) _ _ (pureExs _) q2', by rw [upd_ne dne, upd_ne dne, upd_same], trivial, List.nodup_nil⟩
    have nx : b ≠ x := ne_of_none z fr
    have z3 := s3 _ _ (sB _ _ z)
    have nd : b ≠ d := ne_of_none z3 hd3
    rw [upd_ne nx, upd_ne nx, upd_ne nd, upd_ne nx, upd_ne nx]
    exact z3
end
section
variable {X : Cx} {Hb : Bs} {Γ : G} {a b : Expr} {px pos : Pos} {cs : Cs} {tr va : List Ex} {n : Nat}
/-- Population(training, validation): a population of its own -/
def FreshPop (K : PySem.W.Frag) (cs : Cs) (B : Hp) (S : PopM) : Hp → V → Prop := fun H v => ∃ p, v = .ref p ∧ B p = none ∧ PopAt K cs H p S
theorem pe_population {k : Nat} {ps : List Str} (M : MkDef X.prog X.w X.K X.mg X.base cs.CP "Population" k ps (spPI X.K cs)) (hr : Room (k + 1) X.A) (o1 : ExsOk n tr) (o2 : ExsOk n va) (ha : XE X a Γ (dExs tr)) (hb : XE X b Γ (dExs va)) (hg : Gl X "Population" := by rfl)
    (he : starEach [a, b] X.env = (false, eval a X.env) :: starEach [b] X.env := by rfl) (he2 : starEach [b] X.env = (false, eval b X.env) :: starEach [] X.env := by rfl) (hpl : (backTo pos (starEach [b] X.env)).any (·.1) = false := by rfl) :
    PE X (.Call (.Name "Population" px) [a, b] [] pos) (fun σ H Q => (∃ Hb H0, EnvOk X.K Hb H0 H σ Γ) ∧ ∀ p H', H p = none → Same H H' → PopAt X.K cs H' p (newPop tr va) → Q (.ref p) H') := by
  obtain ⟨f, fd, h1, h2, h3, h4⟩ := M
  refine pe_imp (pe_make (E := fun _ _ _ => False) h2 h4 hr hg h1 h3 .nil pass0 (pa_cons ha (pa_cons hb pa_nil he2) he) (by decide) he hpl) fun σ H Q ⟨⟨Hb, H0, E⟩, q⟩ => ⟨⟨Hb, H0, E⟩, fun v1 H1 s1 q1 => ⟨⟨Hb, H0, E.mono s1⟩, fun v2 H2 s2 q2 x dx nx ndx ne => ?_⟩⟩
  have sB : Same H2 (upd H2 dx (.own x)) := fun b o z => by rw [upd_ne (ne_of_none z ndx)]; exact z
  have xB : upd H2 dx (.own x) x = none := by rw [upd_ne (Ne.symm ne)]; exact nx
  refine ⟨_, x, dx, tr, va, n, v1, v2, rfl, rfl, xB, dp_mono (s2.trans sB) _ _ q1, dp_mono sB _ _ q2, o1, o2, fun H' s3 at_ => ⟨rfl, ?_⟩⟩
  exact q x H' ((s1.trans s2).free nx) (((s1.trans s2).trans sB).trans s3) at_
end
end TC
namespace TC
open PySem L2
/-! ### runs of deeds -/
def afterM (S : PopM) : List Deed → PopM
  | [] => S
  | d :: ds => afterM (doM S d).1 ds
def outsM (S : PopM) : List Deed → List Out
  | [] => []
  | d :: ds => (doM S d).2 :: outsM (doM S d).1 ds
theorem posM_append (a b : List Str3) : posM (a ++ b) = posM a + posM b := by
  unfold posM
  rw [List.map_append, List.sum_append]
theorem posM_step (acc : List Str3) (s : Str3) : posM (joinStep acc s) = posM acc + s.2.2 := by
  unfold joinStep
  split
  · rename_i l hl
    split
    · have e : acc = acc.dropLast ++ [l] := by
        obtain ⟨ne, h⟩ := List.getLast?_eq_some_iff.mp hl
        rw [h]
        simp
      rw [posM_append]
      conv => rhs; rw [e, posM_append]
      simp [posM]
      omega
    · rw [posM_append]
      simp [posM]
  · rename_i hl
    rw [List.getLast?_eq_none_iff] at hl
    subst hl
    simp [posM]
theorem posM_join (st : List Str3) : posM (joinM st) = posM st := by
  have key : ∀ (l acc : List Str3), posM (l.foldl joinStep acc) = posM acc + posM l := by
    intro l
    induction l with
    | nil => intro acc; rfl
    | cons x l ih =>
      intro acc
      rw [List.foldl_cons, ih, posM_step]
      show _ = posM acc + posM ([x] ++ l)
      rw [posM_append]
      simp [posM]
      omega
  have := key st []
  simpa [joinM, posM] using this
theorem NowOk.up {n B : Nat} {w : Now} (h : NowOk n B w) : NowOk n (B + 1) w := ⟨Nat.le_succ_of_le h.ln, by have := h.ps; omega, h.ws⟩
theorem MemOk.up {n B : Nat} {m : Mem} (h : MemOk n B m) : MemOk n (B + 1) m := ⟨h.set, h.now.up, Nat.le_succ_of_le h.ln, fun x hx w e => (h.sh x hx w e).up, h.hs, h.hn.up⟩
theorem PopOk.up {n B : Nat} {S : PopM} (h : PopOk n B S) : PopOk n (B + 1) S := ⟨h.tr, h.va, fun p hp => (h.mem p hp).up, Nat.le_succ_of_le h.ml, h.nd⟩
theorem putM_in {α : Type} {t : Int} {m : α} {p : Int × α} : ∀ {l : List (Int × α)}, p ∈ putM t m l → p.2 = m ∨ p ∈ l
  | [], h => by
    rw [List.mem_singleton.mp h]
    exact .inl rfl
  | (u, x) :: r, h => by
    unfold putM at h
    split at h
    · rcases List.mem_cons.mp h with e | e
      · rw [e]
        exact .inl rfl
      · exact .inr (List.mem_cons_of_mem _ e)
    · rcases List.mem_cons.mp h with e | e
      · rw [e]
        exact .inr List.mem_cons_self
      · rcases putM_in e with q | q
        · exact .inl q
        · exact .inr (List.mem_cons_of_mem _ q)
theorem putM_len {α : Type} {t : Int} {m : α} : ∀ {l : List (Int × α)}, (putM t m l).length ≤ l.length + 1
  | [] => by simp [putM]
  | (u, x) :: r => by
    unfold putM
    split
    · simp
    · have := putM_len (t := t) (m := m) (l := r)
      simp only [List.length_cons]
      omega
theorem PopOk.keep {n B : Nat} {S : PopM} {t : Int} {m : Mem} (h : PopOk n B S) (hm : MemOk n (B + 1) m) : PopOk n (B + 1) (S.keep t m) :=
  ⟨h.tr, h.va, fun p hp => by
    rcases putM_in hp with e | e
    · rw [e]
      exact hm
    · exact (h.mem p e).up, by
    have := putM_len (t := t) (m := m) (l := S.mem)
    have h2 := h.ml
    show (putM t m S.mem).length ≤ B + 1
    omega, putM_nodup t m h.nd⟩
theorem popOk_do {n B : Nat} {S : PopM} {d : Deed} (h : PopOk n B S) (dk : DeedOk d) : PopOk n (B + 1) (doM S d).1 := by
  obtain ⟨fs, lab, es, htr, hfs⟩ := ex_head h.tr
  have hn0 : NowOk n (B + 1) ⟨0, [], List.replicate n 0⟩ := ⟨Nat.zero_le _, Nat.zero_le _, List.length_replicate⟩
  cases d with
  | found t s r m =>
    unfold doM
    dsimp only
    split
    · exact h.up
    · have k := dk.ok
      have so : SetOk (r, m) := ⟨by show -1000 ≤ r ∧ r ≤ 1000; dsimp only at k; omega⟩
      have no : NowOk n (B + 1) ⟨s, [], List.replicate (S.tr.getD 0 ([], 0)).1.length 0⟩ := ⟨Nat.zero_le _, Nat.zero_le _, by rw [List.length_replicate, htr]; exact hfs⟩
      exact h.keep ⟨so, no, Nat.zero_le _, fun x hx => (List.not_mem_nil hx).elim, so, no⟩
  | train t i k =>
    unfold doM
    dsimp only
    split
    · exact h.up
    · rename_i m q
      have mo := h.look (presM_mem q)
      have k0 := dk.ok
      dsimp only at k0
      have := h.keep (t := t) (m := { m with now := ⟨m.now.seed, joinM (m.now.st ++ [(m.set.1, m.set.2, k.toNat)]), trainM S.tr m.now.seed (posM m.now.st) m.now.ws m.set.1 m.set.2 k.toNat⟩ }) ⟨mo.set, ⟨by
        have h1 := joinM_le (m.now.st ++ [(m.set.1, m.set.2, k.toNat)])
        have h2 := mo.now.ln
        rw [List.length_append] at h1
        simp only [List.length_nil, List.length_cons] at h1
        show (joinM _).length ≤ B + 1
        omega, by
        show posM (joinM _) ≤ _
        rw [posM_join, posM_append]
        have h2 := mo.now.ps
        simp [posM] at h2 ⊢
        omega, trainM_len h.tr mo.now.ws _⟩, Nat.le_succ_of_le mo.ln, fun x hx w e => (mo.sh x hx w e).up, mo.hs, mo.hn.up⟩
      exact ⟨this.tr, this.va, this.mem, this.ml, this.nd⟩
  | save t i =>
    unfold doM
    dsimp only
    split
    · exact h.up
    · rename_i m q
      have mo := h.look (presM_mem q)
      refine h.keep ⟨mo.set, mo.now.up, by rw [List.length_append]; have := mo.ln; simp; exact this, fun x hx w e => ?_, mo.set, mo.now.up⟩
      rcases List.mem_append.mp hx with q2 | q2
      · exact (mo.sh x q2 w e).up
      · rw [List.mem_singleton.mp q2] at e
        cases e
        exact mo.now.up
  | crash t =>
    unfold doM
    dsimp only
    split
    · exact h.up
    · rename_i m q
      have mo := h.look (runM_mem q)
      exact h.keep ⟨mo.hs, mo.hn.up, Nat.le_succ_of_le mo.ln, fun x hx w e => (mo.sh x hx w e).up, mo.hs, mo.hn.up⟩
  | evaluate t i =>
    unfold doM
    dsimp only
    split
    · exact h.up
    · rename_i m q
      have mo := (h.look (presM_mem q)).up
      exact h.keep ⟨mo.set, mo.now, mo.ln, mo.sh, mo.hs, mo.hn⟩
  | copy t i dn x r g =>
    unfold doM
    dsimp only
    split
    · exact h.up
    · rename_i m q
      have mo := (h.look (presM_mem q)).up
      split
      · exact h.up
      · rename_i nw q2
        have no := (savedM_ok h q2).up
        have k := dk.ok
        have so : SetOk (r, g) := ⟨by show -1000 ≤ r ∧ r ≤ 1000; dsimp only at k; omega⟩
        exact h.keep ⟨so, no, mo.ln, mo.sh, so, no⟩
  | stop t i =>
    unfold doM
    dsimp only
    split
    · exact h.up
    · rename_i m q
      have mo := (h.look (presM_mem q)).up
      exact h.keep ⟨mo.set, mo.now, mo.ln, mo.sh, mo.hs, mo.hn⟩
  | drop t x =>
    unfold doM
    dsimp only
    split
    · exact h.up
    · rename_i m q
      have hm : lookM S.mem t = some m := by
        unfold memberM at q
        split at q
        · rename_i h
          rw [h]
          cases q
          rfl
        · cases q
      have mo := (h.look hm).up
      split
      · exact h.up
      · split
        · exact h.up
        · refine h.keep ⟨mo.set, mo.now, by rw [List.length_set]; exact mo.ln, fun x hx w e => ?_, mo.hs, mo.hn⟩
          rcases List.mem_or_eq_of_mem_set hx with q3 | q3
          · exact mo.sh x q3 w e
          · rw [q3] at e
            cases e
theorem afterM_take (S : PopM) : ∀ (ds : List Deed) (i : Nat) (d : Deed), ds[i]? = some d → afterM S (ds.take (i + 1)) = (doM (afterM S (ds.take i)) d).1 := by
  intro ds
  induction ds generalizing S with
  | nil => intro i d h; cases h
  | cons x ds ih =>
    intro i d h
    cases i with
    | zero =>
      cases h
      rfl
    | succ i => exact ih (doM S x).1 i d h
theorem outsM_get (S : PopM) : ∀ (ds : List Deed) (i : Nat) (d : Deed), ds[i]? = some d → (outsM S ds)[i]? = some (doM (afterM S (ds.take i)) d).2 := by
  intro ds
  induction ds generalizing S with
  | nil => intro i d h; cases h
  | cons x ds ih =>
    intro i d h
    cases i with
    | zero =>
      cases h
      rfl
    | succ i => exact ih (doM S x).1 i d h
theorem outsM_len (S : PopM) (ds : List Deed) : (outsM S ds).length = ds.length := by
  induction ds generalizing S with
  | nil => rfl
  | cons x ds ih =>
    show _ + 1 = _ + 1
    rw [ih]
theorem afterM_ok {n : Nat} {ds : List Deed} (hd : ∀ d ∈ ds, DeedOk d) : ∀ {B : Nat} {S : PopM}, PopOk n B S → PopOk n (B + ds.length) (afterM S ds) := by
  induction ds with
  | nil => intro B S h; exact h
  | cons x ds ih =>
    intro B S h
    have h2 := ih (fun d hd' => hd d (List.mem_cons_of_mem _ hd')) (popOk_do h (hd x List.mem_cons_self))
    rw [show B + 1 + ds.length = B + (x :: ds).length by rw [List.length_cons]; omega] at h2
    exact h2
theorem newPop_ok {n : Nat} {tr va : List Ex} (h1 : ExsOk n tr) (h2 : ExsOk n va) : PopOk n 0 (newPop tr va) := ⟨h1, h2, fun p hp => (List.not_mem_nil hp).elim, Nat.le_refl _, List.nodup_nil⟩
end TC
namespace TC
open PySem L2
/-! ### a comprehension whose turns change objects -/
theorem range_succ_map {α : Type} (r : Nat → α) (n : Nat) : (List.range (n + 1)).map r = (List.range n).map r ++ [r n] := by
  rw [List.range_succ, List.map_append]
  rfl
theorem pure_range {r : Nat → PyData} (h : ∀ i, pureD (r i) = true) (n : Nat) : pureAll ((List.range n).map r) = true := pureAll_map h _
theorem lc_eff {K : PySem.W.Frag} {Γ : G} {ys : List PyData} {vs : List Nat} {te : TE} {tt : TT} (htt : ∀ σ H Q, Q true H → tt σ H Q) (t : Nat) (ht : t ∈ vs) (r : Nat → PyData) (pr : ∀ i, pureD (r i) = true) (hlen : ys.length ≤ 1000000) (J : Hp → Addr → Nat → Hp → Prop) {σ : St} {H : Hp} {Q : VK}
    (E : ∃ Hb H0, EnvOk K Hb H0 H σ Γ) (start : ∀ H' D, Same H H' → H' D = none → J H' D 0 (upd H' D (.lst []))) (keepJ : ∀ H' D i H1, J H' D i H1 → KeepT K H' H1) (monoJ : ∀ H' D i H1 H2, J H' D i H1 → Same H1 H2 → J H' D i H2)
    (turn : ∀ H' D i y v H1, Same H H' → H' D = none → ys[i]? = some y → J H' D i H1 → Dp K H1 v y → ∀ (Qe : VK) (acc : List V), H1 D = some (.lst acc) → (∀ w H2, KeepT K H1 H2 → Dp K H2 w (r i) → H2 D = some (.lst acc) → (∀ acc', J H' D (i + 1) (upd H2 D (.lst acc'))) → Qe w H2) → te ((L2.wipe σ vs).set t (some v)) H1 Qe)
    (fin : ∀ H' D acc H1, Same H H' → H' D = none → J H' D ys.length H1 → H1 D = some (.lst acc) → DpAll K H1 acc ((List.range ys.length).map r) → Q (.ref D) H1) :
    tLc (tXI K (KeepT K) Γ ys) (gName t) tt te vs σ H Q := by
  refine ⟨E, fun It H' s1 hw D hD => ?_⟩
  obtain ⟨Gd, Y, w, g, st, yd⟩ := hw
  refine lc_it w (fun i H1 => J H' D i H1 ∧ ∃ acc, H1 D = some (.lst acc) ∧ DpAll K H1 acc ((List.range i).map r)) ⟨start H' D s1 hD, [], upd_same, .nil⟩ (fun i H1 _ p => st _ _ g (keepJ _ _ _ _ p.1)) ?_ ?_
  · rintro i x H1 H2 hi ⟨j1, acc, hacc, hall⟩ y
    have gd := st _ _ g (keepJ _ _ _ _ j1)
    obtain ⟨s2, g2, d, hd, dx⟩ := yd i H1 x H2 hi gd y
    show L2.wipe _ vs = L2.wipe σ vs ∧ tt _ _ _
    refine ⟨?_, htt _ _ _ (iteT ?_)⟩
    · rw [onlyAt_wipe (is := [t]) (σ := L2.wipe σ vs) ⟨by rw [List.length_set], fun j hj => by rw [List.getElem?_set_ne (fun z => hj (by rw [z]; exact List.mem_cons_self))]⟩ (fun i hi => by rw [List.mem_singleton.mp hi]; exact ht)]
      exact wipe_twice σ _
    · refine turn H' D i d x H2 s1 hD hd (monoJ _ _ _ _ _ j1 s2) dx _ acc (s2 _ _ hacc) fun w1 H3 k3 q3 h3 j3 => ⟨acc, h3, ?_, j3 _, _, upd_same, ?_⟩
      · rw [dpa_length hall, List.length_map, List.length_range]
        have hs : (1000000 : Nat) < sizeLine := by decide
        omega
      · rw [range_succ_map]
        have kt : KeepT K H3 (upd H3 D (.lst (acc ++ [w1]))) := KeepT.upd h3
        exact dpa_append (dpAll_keep kt _ _ (pure_range pr _) (dpAll_keep k3 _ _ (pure_range pr _) (dpAll_mono s2 _ _ hall))) (.cons (dp_keep kt _ _ (pr i) q3) .nil)
  · rintro H1 ⟨j1, acc, hacc, hall⟩
    exact fin H' D acc H1 s1 hD j1 hacc hall
end TC
namespace TC
open PySem L2
theorem passes_false {X : Cx} : Passes (L2.CX X.prog X.w) X (fun _ _ _ => False) := fun _ _ _ _ _ _ _ c => by
  obtain ⟨_, _, _, _, _, _, _, _, _, _, _, _, z⟩ := c
  exact z.elim
theorem popAt_list {K : PySem.W.Frag} {cs : Cs} {H : Hp} {p D : Addr} {S : PopM} {acc acc' : List V} (hD : H D = some (.lst acc)) (h : PopAt K cs H p S) : PopAt K cs (upd H D (.lst acc')) p S := by
  obtain ⟨dx, dm, vt, vv, kvs, h1, h2, h3, h4, h5, h6⟩ := h
  have ne : ∀ {a : Addr} {o : HO}, H a = some o → (∀ l, o ≠ .lst l) → a ≠ D := fun {a o} e n z => by
    rw [z, hD] at e
    exact n _ (Option.some.inj e).symm
  have kt : KeepT K H (upd H D (.lst acc')) := KeepT.upd hD
  refine ⟨dx, dm, vt, vv, kvs, (upd_ne (ne h1 fun _ z => nomatch z)).trans h1, dp_keep kt _ _ (pureExs _) h2, dp_keep kt _ _ (pureExs _) h3, (upd_ne (ne h4 fun _ z => nomatch z)).trans h4, h5.imp fun v m z => ?_, h6⟩
  obtain ⟨q, z1, dq, vs, z2, z3⟩ := z
  exact ⟨q, z1, dq, vs, (upd_ne (ne z2 fun _ z => nomatch z)).trans z2, z3.keep kt⟩
/-- a call in a block that changes slot i's object, whatever the slots hold -/
def semM (X : Cx) (scope : Scope) (e : Expr) (i : Nat) : TE := fun σ H Q => ∃ Hb Γ F d, (∀ (s : Shared) (H : Hp) (C : Addr) (cl : List (Str × Addr)) (fp : List Addr), XM (X.blk s H scope (compEnvC scope cl C X.env) fp) Hb e Γ i F (.d d)) ∧ tXM X.K Hb Γ i F (.d d) σ H Q
theorem pe_semM {X : Cx} {scope : Scope} {e : Expr} {i : Nat} (s : Shared) (H : Hp) (C : Addr) (cl : List (Str × Addr)) (fp : List Addr) : PE (X.blk s H scope (compEnvC scope cl C X.env) fp) e (semM X scope e i) := ⟨fun pins s1 σ H1 Q I h => by
  obtain ⟨Hb, Γ, F, d, hb, q⟩ := h
  exact (hb s H C cl fp).run pins s1 σ H1 Q I q⟩
section
variable {P : Program} {w : World} {K : PySem.W.Frag} {mg : Str → Option Value} {base : Heap} {cs : Cs}
/-! outcomes -/
abbrev sOuts : Stmt := topS 30
def pOuts (ds : List PyData) (r : PyData) : Prop := ∃ (n : Nat) (tr va : List Ex) (dl : List Deed), ds = [dExs tr, dExs va, dDeeds dl] ∧ ExsOk n tr ∧ ExsOk n va ∧ (∀ d ∈ dl, DeedOk d) ∧ dl.length ≤ 99 ∧ r = .tuple ((outsM (newPop tr va) dl).map dOut)
theorem sc_outs : FnScope ["training", "validation", "deeds", "population", "deed"] ["training", "validation", "deeds"] (defScope sOuts) := ⟨rfl, rfl, rfl, by decide +kernel, rfl, by decide +kernel, by decide +kernel⟩
theorem pureOut {S : PopM} {d : Deed} : pureD (dOut (doM S d).2) = true := by
  have key : ∀ o : Out, (∀ x, o = .ok x → pureD x = true) → pureD (dOut o) = true := by
    intro o h
    cases o with
    | ok x =>
      show (true && (pureD x && true)) = true
      rw [h x rfl]
      rfl
    | no s => rfl
  refine key _ fun x hx => ?_
  cases d <;> (unfold doM at hx; dsimp only at hx; repeat' split at hx) <;> first | (cases hx; done) | (cases hx; rfl)
theorem ok_outs (C : CsOk K cs) (B : Bi mg) (R : RawD K mg "outcomes" sOuts) (D1 : MkDef P w K mg base cs.CP "Population" 4 ["self", "training", "validation"] (spPI K cs)) (D2 : MDef P w K mg base cs.CP "outcome" 9 ["self", "deed"] (spM K cs 1 pOutc)) : Def P w K mg base "outcomes" 10 ["training", "validation", "deeds"] (spR K 3 pOuts) := by
  obtain ⟨f, fd, h1, F⟩ := R
  refine ⟨f, fd, h1, F.kp, F.binds (fun _ _ _ _ _ _ us hl => match us, hl with | [_, _, _], _ => rfl), F.ok sc_outs (fun vs H Q E h => ?_) (fun cdv A outer s H vs Q E hr h => ?_)⟩
  · obtain ⟨ds, r, h1, _⟩ := h
    exact h1
  · obtain ⟨ds, r, h1, h2, ⟨n, tr, va, dl, rfl, o1, o2, hdk, hdl, rfl⟩, k⟩ := h
    refine ⟨_, pss_cons (ps_set (i := 3) sc_outs.nd rfl (Or.inr rfl) (pe_population (Γ := [.c (dExs tr), .c (dExs va), .c (dDeeds dl), .n, .n]) D1 (hr.mono (by decide)) o1 o2 (xe_var 0 rfl) (xe_var 1 rfl)))
      (pss_one (ps_ret (pe_tupleOf rfl B.tuple (pe_lc (own := [("deed", 4)]) rfl sc_outs.nd (xi_tup (Γ := [.c (dExs tr), .c (dExs va), .c (dDeeds dl), .n, .n]) (xe_var 2 rfl) (pureAll_map pureDeed dl)) (blkOk_by (own := [("deed", 4)]) (N := ["training", "validation", "deeds", "population", "deed"]) (sc := defScope sOuts) (by decide +kernel))
        (fun _ _ _ _ _ => pg_name (i := 4) sc_outs.nd rfl (Or.inl rfl)) (fun _ _ _ _ _ => pts_nil) (fun s H C cl fp => pe_semM (i := 3) s H C cl fp))))), ?_⟩
    have E0 : EnvOk K ⟨H, [], fun _ _ _ => False, cs.DF⟩ H H (L2.start ["training", "validation", "deeds", "population", "deed"] vs) [.c (dExs tr), .c (dExs va), .c (dDeeds dl), .n, .n] := env_start (Hb := ⟨H, [], fun _ _ _ => False, cs.DF⟩) (N := ["training", "validation", "deeds", "population", "deed"]) h2
    refine ⟨⟨_, _, E0⟩, fun p H1 np s1 P1 => ?_⟩
    dsimp only [gName, tRet, tThen]
    have ln0 : (L2.start ["training", "validation", "deeds", "population", "deed"] vs).length = 5 := E0.ln
    have g3 : ((L2.start ["training", "validation", "deeds", "population", "deed"] vs).set 3 (some (.ref p)))[3]? = some (some (.ref p)) := List.getElem?_set_self (by omega)
    have E1 : EnvOk K ⟨H, [], fun _ _ _ => False, cs.DF⟩ H H1 ((L2.start ["training", "validation", "deeds", "population", "deed"] vs).set 3 (some (.ref p))) [.c (dExs tr), .c (dExs va), .c (dDeeds dl), .n, .n] := (E0.mono s1).store (i := 3) (g := .n) trivial
    refine lc_eff (fun _ _ _ h => h) 4 (List.mem_cons_self) (fun i => dOut ((outsM (newPop tr va) dl).getD i (.ok .none))) (fun i => ?_) (by rw [List.length_map]; omega) (fun H' D i H2 => KeepT K H' H2 ∧ Off [p] H' H2 ∧ PopAt K cs H2 p (afterM (newPop tr va) (dl.take i)) ∧ D ≠ p) ⟨_, _, E1⟩ (fun H' D s2 hD => ?_) (fun H' D i H2 j => j.1) (fun H' D i H2 H3 j s3 => ⟨j.1.trans (KeepT.of s3), j.2.1.then s3, j.2.2.1.mono s3, j.2.2.2⟩) ?_ ?_
    · cases q : (outsM (newPop tr va) dl)[i]? with
      | none => rw [List.getD_eq_getElem?_getD, q]; rfl
      | some o =>
        rw [List.getD_eq_getElem?_getD, q]
        have hi : i < dl.length := by
          have := (List.getElem?_eq_some_iff.mp q).1
          rw [outsM_len] at this
          exact this
        rw [outsM_get _ dl i dl[i] (List.getElem?_eq_getElem hi)] at q
        rw [← Option.some.inj q]
        exact pureOut
    · have s3 : Same H' (upd H' D (.lst [])) := fun b o z => by rw [upd_ne (ne_of_none z hD)]; exact z
      refine ⟨KeepT.of s3, (Off.refl _).then s3, (P1.mono s2).mono s3, fun z => ?_⟩
      obtain ⟨dx, dm, vt, vv, kvs, e1, _⟩ := P1.mono s2
      rw [z, e1] at hD
      cases hD
    · rintro H' D i y v H2 s2 hD hy ⟨j1, j2, j3, j4⟩ hv Qe acc hacc kQ
      rw [List.getElem?_map] at hy
      cases hd : dl[i]? with
      | none => rw [hd] at hy; cases hy
      | some d =>
        rw [hd] at hy
        cases hy
        have ok := afterM_ok (ds := dl.take i) (fun d hd => hdk d (List.mem_of_mem_take hd)) (newPop_ok o1 o2)
        have hBl : 0 + (dl.take i).length ≤ 100 := by
          rw [List.length_take]
          omega
        refine ⟨⟨H2, [p], fun _ _ _ => False, cs.DF⟩, [.n, .n, .n, .x (PopF K cs p (afterM (newPop tr va) (dl.take i))), .b (dDeed d)], PopF K cs p (doM (afterM (newPop tr va) (dl.take i)) d).1, dOut (doM (afterM (newPop tr va) (dl.take i)) d).2, fun s H c cl fp => xm_meth C 3 rfl D2 (hr.mono (by decide)) passes_false rfl rfl (xa_cons (xe_var 4 rfl) xa_nil) (by rw [show pureAll [dDeed d] = (pureD (dDeed d) && true) from rfl, pureDeed]; rfl) ⟨d, rfl, n, _, ok, hBl, hdk d (List.mem_of_getElem? hd), rfl, rfl⟩ (.inl ⟨_, rfl⟩), ⟨H2, Off.refl _, Same.refl _, ?_, ?_⟩, ?_⟩
        · rw [List.length_set, wipe_length, List.length_set, ln0]
          rfl
        · intro j g hg
          match j, hg with
          | 0, hg => cases hg; exact ⟨_, List.getElem?_eq_getElem (by rw [List.length_set, wipe_length, List.length_set, ln0]; decide), trivial⟩
          | 1, hg => cases hg; exact ⟨_, List.getElem?_eq_getElem (by rw [List.length_set, wipe_length, List.length_set, ln0]; decide), trivial⟩
          | 2, hg => cases hg; exact ⟨_, List.getElem?_eq_getElem (by rw [List.length_set, wipe_length, List.length_set, ln0]; decide), trivial⟩
          | 3, hg =>
            cases hg
            refine ⟨some (.ref p), ?_, _, rfl, fun H3 s3 => ⟨rfl, j3.mono s3⟩⟩
            rw [List.getElem?_set_ne (by decide), wipe_get, if_neg (by decide)]
            exact g3
          | 4, hg =>
            cases hg
            exact ⟨some v, List.getElem?_set_self (by rw [wipe_length, List.length_set, ln0]; decide), _, rfl, hv⟩
          | j + 5, hg => simp at hg
        · rintro u H3 ⟨of3, kt3, pv3, hpv, hF⟩ qd
          obtain ⟨_, P3⟩ := hF H3 (Same.refl _)
          have hD3 : H3 D = some (.lst acc) := (of3 D _ hacc).1 fun z => j4 (List.mem_singleton.mp z)
          have er : (outsM (newPop tr va) dl).getD i (.ok .none) = (doM (afterM (newPop tr va) (dl.take i)) d).2 := by
            rw [List.getD_eq_getElem?_getD, outsM_get _ dl i d hd]
            rfl
          refine kQ u H3 kt3 (by rw [er]; exact qd) hD3 fun acc' => ⟨(j1.trans kt3).trans (KeepT.upd hD3), fun a o z => ?_, ?_, j4⟩
          · have na : a ≠ D := ne_of_none z hD
            obtain ⟨x1, x2⟩ := j2 a o z
            constructor <;> intro q
            · rw [upd_ne na]
              exact (of3 a _ (x1 q)).1 q
            · rw [upd_ne na] at q
              cases e2 : H2 a with
              | none => exact x2 e2
              | some o2 => exact (of3 a o2 e2).2 q
          · rw [afterM_take _ dl i d hd]
            exact popAt_list hD3 P3
    · rintro H' D acc H2 s2 hD ⟨j1, j2, j3, j4⟩ hacc hall
      refine .inl ⟨D, acc, rfl, SqL.of hacc, fun q hq => ?_⟩
      have s4 : Same H2 (upd H2 q (.tup acc)) := fun b o z => by rw [upd_ne (ne_of_none z hq)]; exact z
      refine k _ _ (fun b o z => ?_) (.tup (SqT.of upd_same) (dpAll_mono s4 _ _ ?_))
      · have z1 := s2 _ _ (s1 _ _ z)
        exact s4 _ _ ((j2 b o z1).1 fun m => ne_of_none z np (List.mem_singleton.mp m))
      · rw [show (outsM (newPop tr va) dl).map dOut = (List.range ((dl.map dDeed)).length).map fun i => dOut ((outsM (newPop tr va) dl).getD i (.ok .none)) from ?_]
        · exact hall
        · apply List.ext_getElem?
          intro j
          rw [List.getElem?_map, List.getElem?_map, List.length_map]
          cases q : (outsM (newPop tr va) dl)[j]? with
          | none =>
            have : dl.length ≤ j := by
              rw [List.getElem?_eq_none_iff, outsM_len] at q
              exact q
            rw [List.getElem?_eq_none (by rw [List.length_range]; exact this)]
            rfl
          | some o =>
            have hi : j < dl.length := by
              have := (List.getElem?_eq_some_iff.mp q).1
              rw [outsM_len] at this
              exact this
            rw [List.getElem?_range hi]
            show some (dOut o) = some (dOut ((outsM (newPop tr va) dl).getD j (.ok .none)))
            rw [List.getD_eq_getElem?_getD, q]
            rfl
end
end TC
namespace TC
open PySem L2
/-- a block whose base is found on the way -/
def semA (X : Cx) (st : List Stmt) : TS := fun D σ H => ∃ Hb Γ N R, XSs X Hb st Γ N R ∧ tS X.K Hb Γ N R D σ H
theorem pss_semA {X : Cx} {st : List Stmt} : PSs X st (semA X st) := ⟨fun pins s σ H D I h => by
  obtain ⟨Hb, Γ, N, R, hb, q⟩ := h
  exact hb.run pins s σ H D I q⟩
section
variable {P : Program} {w : World} {K : PySem.W.Frag} {mg : Str → Option Value} {base : Heap} {cs : Cs}
/-! after -/
abbrev sAft : Stmt := topS 31
def spAft (K : PySem.W.Frag) (cs : Cs) : Sp := fun vs H Q _ => ∃ (n : Nat) (tr va : List Ex) (dl : List Deed), vs.length = 3 ∧ DpAll K H vs [dExs tr, dExs va, dDeeds dl] ∧ ExsOk n tr ∧ ExsOk n va ∧ (∀ d ∈ dl, DeedOk d) ∧ dl.length ≤ 99 ∧
  ∀ p H', H p = none → Same H H' → PopAt K cs H' p (afterM (newPop tr va) dl) → Q (.ref p) H'
theorem sc_aft : FnScope ["training", "validation", "deeds", "population", "deed"] ["training", "validation", "deeds"] (defScope sAft) := ⟨rfl, rfl, rfl, by decide +kernel, rfl, by decide +kernel, by decide +kernel⟩
theorem ok_aft (C : CsOk K cs) (R : RawD K mg "after" sAft) (D1 : MkDef P w K mg base cs.CP "Population" 4 ["self", "training", "validation"] (spPI K cs)) (D2 : MDef P w K mg base cs.CP "outcome" 9 ["self", "deed"] (spM K cs 1 pOutc)) : Def P w K mg base "after" 10 ["training", "validation", "deeds"] (spAft K cs) := by
  obtain ⟨f, fd, h1, F⟩ := R
  refine ⟨f, fd, h1, F.kp, F.binds (fun _ _ _ _ _ _ us hl => match us, hl with | [_, _, _], _ => rfl), F.ok sc_aft (fun vs H Q E h => ?_) (fun cdv A outer s H vs Q E hr h => ?_)⟩
  · obtain ⟨n, tr, va, dl, h1, _⟩ := h
    exact h1
  · obtain ⟨n, tr, va, dl, h1, h2, o1, o2, hdk, hdl, k⟩ := h
    refine ⟨_, pss_cons (ps_set (i := 3) sc_aft.nd rfl (Or.inl rfl) (pe_population (Γ := [.c (dExs tr), .c (dExs va), .c (dDeeds dl), .n, .n]) D1 (hr.mono (by decide)) o1 o2 (xe_var 0 rfl) (xe_var 1 rfl))) pss_semA, ?_⟩
    have E0 : EnvOk K ⟨H, [], fun _ _ _ => False, cs.DF⟩ H H (L2.start ["training", "validation", "deeds", "population", "deed"] vs) [.c (dExs tr), .c (dExs va), .c (dDeeds dl), .n, .n] := env_start (Hb := ⟨H, [], fun _ _ _ => False, cs.DF⟩) (N := ["training", "validation", "deeds", "population", "deed"]) h2
    refine ⟨⟨_, _, E0⟩, fun p H1 np s1 P1 => ?_⟩
    dsimp only [gName]
    have ln0 : (L2.start ["training", "validation", "deeds", "population", "deed"] vs).length = 5 := E0.ln
    have E1 : EnvOk K ⟨H1, [p], fun _ _ _ => False, cs.DF⟩ H1 H1 ((L2.start ["training", "validation", "deeds", "population", "deed"] vs).set 3 (some (.ref p))) [.c (dExs tr), .c (dExs va), .c (dDeeds dl), .x (PopF K cs p (newPop tr va)), .n] := by
      have E2 := (E0.mono s1).store (i := 3) (g := .n) (v := .ref p) trivial
      refine ⟨Off.refl _, Same.refl _, E2.ln, fun j g hg => ?_⟩
      match j, hg with
      | 0, hg => cases hg; exact E2.sl 0 (.c (dExs tr)) rfl
      | 1, hg => cases hg; exact E2.sl 1 (.c (dExs va)) rfl
      | 2, hg => cases hg; exact E2.sl 2 (.c (dDeeds dl)) rfl
      | 3, hg =>
        cases hg
        exact ⟨_, List.getElem?_set_self (by omega), _, rfl, fun H3 s3 => ⟨rfl, P1.mono s3⟩⟩
      | 4, hg => cases hg; exact E2.sl 4 (.n) rfl
      | j + 5, hg => simp at hg
    have hb : ∀ a ∈ [p], H1 a ≠ none := pop_base P1
    refine ⟨⟨H1, [p], fun _ _ _ => False, cs.DF⟩, _, fun _ => False, fun q _ => q = .v (PopF K cs p (afterM (newPop tr va) dl)), ?_, ⟨H1, E1⟩, fun _ _ _ _ _ _ z => z.elim, ⟨fun _ _ _ _ _ _ _ _ z => (nomatch z), fun _ _ _ _ _ _ _ _ _ _ _ z => (nomatch z), fun _ _ _ _ _ _ _ _ _ _ z => (nomatch z), ?_, fun _ _ _ _ _ _ _ _ z => (nomatch z)⟩⟩
    · refine xss_cons (xs_for (.nm 4) (fun i Γ => ∃ s0 s1 s2 s4, Γ = [s0, s1, s2, .x (PopF K cs p (afterM (newPop tr va) (dl.take i))), s4]) (xi_tup (xe_var 2 rfl) (pureAll_map pureDeed dl)) (pg_name (i := 4) sc_aft.nd rfl (Or.inl rfl)) ⟨_, _, _, _, rfl⟩ ?_ ?_ rfl PassesOwn.never)
      · rintro i y Γi hy ⟨s0, s1', s2, s4, rfl⟩
        rw [List.getElem?_map] at hy
        cases hd : dl[i]? with
        | none => rw [hd] at hy; cases hy
        | some d =>
          rw [hd] at hy
          cases hy
          have ok := afterM_ok (ds := dl.take i) (fun d hd => hdk d (List.mem_of_mem_take hd)) (newPop_ok o1 o2)
          have hBl : 0 + (dl.take i).length ≤ 100 := by
            rw [List.length_take]
            omega
          refine ⟨_, rfl, xss_one (xs_exprM (i := 3) (F := PopF K cs p (doM (afterM (newPop tr va) (dl.take i)) d).1) (xm_meth C 3 rfl D2 hr passes_false rfl rfl (xa_cons (xe_var 4 rfl) xa_nil) (by rw [show pureAll [dDeed d] = (pureD (dDeed d) && true) from rfl, pureDeed]; rfl) ⟨d, rfl, n, _, ok, hBl, hdk d (List.mem_of_getElem? hd), rfl, rfl⟩ (.inl ⟨_, rfl⟩)) hb ⟨TC.shift K s0, TC.shift K s1', TC.shift K s2, TC.shift K (.c (dDeed d)), ?_⟩)⟩
          rw [afterM_take _ dl i d hd]
          rfl
      · rintro Γ' ⟨s0, s1', s2, s4, rfl⟩
        refine xss_one (xs_retRv (xr_var 3 rfl) ?_)
        rw [List.length_map]
        rw [List.take_length]
    · rintro Γ' σ' v F' H' H0' e q z
      cases z
      obtain ⟨rfl, P2⟩ := q
      refine k p H' np (fun a o z => ?_) P2
      have z1 := s1 _ _ z
      exact e.s0 _ _ ((e.sb a o z1).1 fun m => ne_of_none z np (List.mem_singleton.mp m))
end
end TC
namespace TC
open PySem L2
/-! ### t.index(x, place): tuples of data -/
theorem rds_at {h : Heap} : ∀ {vs : List Value} {xs : List PyData} {as : List Addr}, ReadsAll h vs xs as → ∀ (m : Nat) (y : Value), vs[m]? = some y → ∃ d bs, xs[m]? = some d ∧ Reads h y d bs
  | _, _, _, .nil, m, y, e => by simp at e
  | _, _, _, .cons r rs, 0, y, e => by
    cases e
    exact ⟨_, _, rfl, r⟩
  | _, _, _, .cons r rs, m + 1, y, e => rds_at rs m y e
theorem rdl_len {h : Heap} : ∀ {vs : List Value} {xs : List PyData} {as : List Addr}, ReadsAll h vs xs as → vs.length = xs.length
  | _, _, _, .nil => rfl
  | _, _, _, .cons _ rs => by rw [List.length_cons, List.length_cons, rdl_len rs]
theorem lay_all {d : PyData} : ∀ {ds : List PyData}, PyData.canLayAll0 ds = true → d ∈ ds → d.canLay0 = true
  | [], _, h => (List.not_mem_nil h).elim
  | x :: xs, e, h => by
    simp only [PyData.canLayAll0, Bool.and_eq_true] at e
    obtain q | q := List.mem_cons.mp h
    · rw [q]
      exact e.1
    · exact lay_all e.2 q
theorem lay_mem {d : PyData} {ds : List PyData} (e : (PyData.tuple ds).canLay0 = true) (h : d ∈ ds) : d.canLay0 = true := by
  simp only [PyData.canLay0] at e
  exact lay_all e h
section
variable {X : Cx}
def rIdx3 (K : PySem.W.Frag) : V → List V → Hp → VK → Prop := fun x vs H Q => ∃ d ds v lo j, Dp K H x (.tuple ds) ∧ vs = [v, .int (lo : Nat)] ∧ Dp K H v d ∧ SeqAt.shaped (.tuple ds) = true ∧ SeqAt.shaped d = true ∧ lo ≤ j ∧ j < ds.length ∧
  (∀ y, ds[j]? = some y → PyData.eqv y d = true) ∧ (∀ m, lo ≤ m → m < j → ∀ y, ds[m]? = some y → PyData.eqv y d = false) ∧ Q (.int (j : Int)) H
theorem mt_index3 (hu : X.A.units + 65 < cLine) : MtR X "tuple.index" (rIdx3 X.K) := by
  intro pins s σ H x xs v us Q I rx rv ⟨d, ds, z, lo, j, hd, ev, hz, sh, sd, h1, h2, h3, h4, q⟩
  subst ev
  obtain ⟨as, r1⟩ := Dp.reads I (.tuple ds) x v hd rx
  cases rv with
  | cons rz rv =>
    cases rv with
    | cons ri rn =>
      cases rn
      obtain ⟨bs, r2⟩ := Dp.reads I d z _ hz rz
      obtain ⟨tk, rfl⟩ := ri
      cases r1 with
      | @tuple a o ws n _ _ g1 g2 g3 g4 =>
        obtain ⟨cls, dd, dat, sl⟩ := o
        simp only at g2 g3
        subst g2 g3
        have cl := SeqAt.canLay_of_shaped sh
        have hlen : ws.size = ds.length := by
          have ln0 := rdl_len g4
          rw [Array.length_toList] at ln0
          exact ln0
        have at_ : ∀ (m : Nat) (hm : m < ws.size), ∃ dm bs, ds[m]? = some dm ∧ Reads s.heap ws[m] dm bs := fun m hm => rds_at g4 m ws[m] (by rw [Array.getElem?_toList]; exact Array.getElem?_eq_getElem hm)
        refine PySem.call_meets F.slot_tuple_index ⟨_, g1, rfl⟩ F.entry_tuple_index (F.args_tuple_index_3 _ _ _)
          (SeqAt.tuple_index3_found a ws n dd sl _ (fun m => ((ds[m]?).map fun y => PyData.eqv y d).getD false) (lo : Int) tk j (by rw [hlen]; exact h2) (by rw [SeqAt.searchFrom_nat]; exact h1) (by rw [hlen]; exact h2) ?_ ?_) ⟨g1, fun m hm => ?_, ?_⟩
        · cases e : ds[j]? with
          | none =>
            rw [List.getElem?_eq_none_iff] at e
            omega
          | some y => exact h3 y e
        · intro m hm hl hj
          rw [SeqAt.searchFrom_nat] at hl
          cases e : ds[m]? with
          | none => rfl
          | some y => exact h4 m hl hj y e
        · obtain ⟨dm, bm, e1, e2⟩ := at_ m hm
          rw [e1]
          have hmem : dm ∈ ds := List.mem_of_getElem? e1
          refine SeqAt.eqAt_reads dm d X.A.in1 s ws[m] _ _ _ e2 r2 (lay_mem cl hmem) (SeqAt.canLay_of_shaped sd) ?_
          have := SeqAt.depth_of_shaped sd
          show X.A.units + 1 + _ < cLine
          omega
        · exact ⟨.int j, H, I.tok _, ⟨_, rfl⟩, q⟩
end
end TC
namespace TC
open PySem L2
/-! ### tuples without a dict: methods may be called on them -/
def Nd (H : Hp) (v : V) : Prop := ∃ p o u, v = .ref p ∧ H p = some (.frz o u) ∧ o.dict = none ∧ o.cls = .type "tuple"
theorem Nd.mono {H H' : Hp} {v : V} (s : Same H H') (h : Nd H v) : Nd H' v := by
  obtain ⟨p, o, u, h1, h2, h3, h4⟩ := h
  exact ⟨p, o, u, h1, s _ _ h2, h3, h4⟩
section
variable {X : Cx} {e o : Expr} {es : List Expr} {t : TA} {to : TE} {pos apos cps : Pos} {name : Str} {id : String} {r : V → List V → Hp → VK → Prop}
/-- (..), tis object known -/
def tTupN (t : TA) : TE := fun σ H Q => t σ H fun xs G1 => xs.length ≤ sizeLine ∧ ∀ p ob, G1 p = none → ob.dict = none → ob.cls = .type "tuple" → Q (.ref p) (upd G1 p (.frz ob (.tup xs)))
theorem pe_tupN {x1 : Nat} (h : PA X es t) : PE X (.Tuple es x1 pos) (tTupN t) := by
  refine ⟨fun pins s σ H Q I qq0 => ?_⟩
  refine wpAny_Tuple_spliced (thn (h.run pos pins s σ H _ I qq0) fun uv s1 ⟨xs, G1, J1, r, zz, q⟩ => ⟨by rw [← r.length]; exact zz, ?_⟩)
  have ff : G1 s1.heap.objs.size = none := J1.hok.fresh (Nat.le_refl _)
  refine ⟨.ref s1.heap.objs.size, upd G1 s1.heap.objs.size (.frz _ (.tup xs)), J1.laid (t' := s1.toks) (fun b u e => Heap.get?_push_of_some _ e) (Nat.le_refl _) ⟨Heap.get?_push_size _ rfl, ?_⟩, rfl, q _ _ ff rfl rfl⟩
  exact ⟨zz, uv, r, ⟨_, Heap.get?_push_size _ rfl, rfl, _, rfl⟩⟩
/-- t + u, tis object known -/
def rCatN (K : PySem.W.Frag) : R2 := fun x y H Q => ∃ a b xs ys, x = .ref a ∧ y = .ref b ∧ SqT K H a xs ∧ SqT K H b ys ∧ xs.length + ys.length ≤ sizeLine ∧
  (xs = [] → Q (.ref b) H) ∧ (xs ≠ [] → ys = [] → Q (.ref a) H) ∧ (xs ≠ [] → ys ≠ [] → ∀ p ob, H p = none → ob.dict = none → ob.cls = .type "tuple" → Q (.ref p) (upd H p (.frz ob (.tup (xs ++ ys)))))
theorem op_catN : OpR X (binaryOp .Add) (rCatN X.K) := by
  intro pins s σ H x y
  intro v u Q I rx ry h
  obtain ⟨a, b, xs, ys, rfl, rfl, sa0, sb0, lz0, k0, k1, k2⟩ := h
  by_cases hx : xs = []
  · subst hx
    cases rx
    cases ry
    obtain ⟨tis, r1, pp1, _⟩ := I.tuple sa0
    obtain ⟨tis2, r2, pp2, _⟩ := I.tuple sb0
    cases r1
    exact L2.cat_tup0 pp1 pp2 ⟨.ref b, H, I, rfl, k0 rfl⟩
  · cases rx
    cases ry
    obtain ⟨tis, r1, pp1, _⟩ := I.tuple sa0
    obtain ⟨tis2, r2, pp2, _⟩ := I.tuple sb0
    refine HT.cat_tup pp1 pp2 (fun zz => hx (r1.nil_iff.mp zz)) (fun zz => ⟨.ref a, H, I, rfl, k1 hx (r2.nil_iff.mp zz)⟩) (fun zz => ?_) (by rw [← r1.length, ← r2.length]; exact lz0)
    refine ⟨.ref s.heap.objs.size, _, I.laid (t' := s.toks) (o := .frz _ (.tup (xs ++ ys))) (fun b ob q => Heap.get?_push_of_some _ q) (Nat.le_refl _) ⟨Heap.get?_push_size _ rfl, ?_⟩, rfl, k2 hx (fun w => zz (r2.nil_iff.mpr w)) _ _ (I.hok.fresh (Nat.le_refl _)) rfl rfl⟩
    exact ⟨by rw [List.length_append]; exact lz0, _, r1.append r2, PyProof.Rows.IsTup.new _ _⟩
/-- t.m(..), t a tuple without a dict -/
def tNM (r : V → List V → Hp → VK → Prop) (to : TE) (t : TA) : TE := fun σ H Q => to σ H fun x G1 => Nd G1 x ∧ t σ G1 fun xs H2 => r x xs H2 Q
theorem pe_nm (slot : Slot "tuple" name id) (hty : typeOf (.builtin id) = pure (.type "method_descriptor")) (hm : MtR X id r) (ho : PE X o to) (sa0 : PA X (e :: es) t)
    (hba : attributeBase o name X.env (eval o X.env) = eval o X.env := by rfl)
    (hfew : ((backTo cps (starEach (e :: es) X.env)).all (fun x => !x.1) && (backToKw cps (keywordEach [] X.env)).all (fun x => x.1.isSome) && decide ((e :: es).length + ([] : List Keyword).length + (if ([] : List Keyword).isEmpty then 0 else 1) < 30)) = true := by rfl)
    (hli : (apos.endLine == cps.line) = true := by rfl) (hs : starEach (e :: es) X.env = (false, eval e X.env) :: starEach es X.env := by rfl) (hpl0 : (backTo cps (starEach es X.env)).any (·.1) = false := by rfl) :
    PE X (.Call (.Attribute o name apos) (e :: es) [] cps) (tNM r to t) := by
  constructor
  intro pins s σ H Q I h
  refine wpAny_Call_method_late hba hfew hli rfl (thn (ho.run pins s σ H _ I h) fun v s1 ⟨x, G1, J1, r1, nd, k1⟩ => ?_)
  obtain ⟨p, ob, u, rfl, hp, hd, hc⟩ := nd
  have hg := (J1.hok p _ hp).1
  obtain rfl : v = Value.ref p := r1
  refine ⟨"tuple", id, PySem.F.plainAttrs_tuple, slot, hty, ⟨ob, hg, hc⟩, fun a e2 => ?_, ?_⟩
  · cases e2
    exact ⟨ob, hg, hd⟩
  · have hA := sa0.run cps pins s1 σ G1 _ J1 k1
    rw [hs] at hA ⊢
    refine Calls.callWith_builtin (by show (false || (backTo cps (starEach es X.env)).any (·.1)) = false; rw [hpl0] <;> rfl) (Calls.evalArgs_plain ?_)
    exact thn hA fun uv s2 ⟨vs, H2, I2, r2, k2⟩ => hm pins s2 σ H2 (.ref p) vs (.ref p) uv Q I2 rfl r2 k2
end
end TC
namespace TC
open PySem L2
/-- data in a tuple without a dict -/
def NdF (K : PySem.W.Frag) (d : PyData) : Hp → V → Prop := fun H v => Dp K H v d ∧ Nd H v
def tXN (K : PySem.W.Frag) (Γ : G) (d : PyData) : TE := fun σ H Q => (∃ Hb H0, EnvOk K Hb H0 H σ Γ) ∧ ∀ v H', Same H H' → NdF K d H' v → Q v H'
abbrev XN (X : Cx) (e : Expr) (Γ : G) (d : PyData) : Prop := PE X e (tXN X.K Γ d)
section
variable {X : Cx} {Hb : Bs} {Γ : G} {N : G → Prop} {R : Rk → G → Prop} {a b e : Expr} {es : List Expr} {px pos pos' : Pos} {d : PyData} {ds ds1 ds2 : List PyData} {i : Nat} {x : Str} {F : Hp → V → Prop}
theorem xn_tup {x1 : Nat} (h : XA X es Γ ds) (hl : ds.length ≤ 10000000) : XN X (.Tuple es x1 pos) Γ (.tuple ds) :=
  pe_imp (pe_tupN h) fun σ H Q ⟨E, k⟩ => ⟨E, fun vs H1 s1 q1 => ⟨line_of (by rw [dpa_length q1]; exact hl), fun p ob hp h1 h2 => by
    have s2 : Same H1 (upd H1 p (.frz ob (.tup vs))) := fun b o z => by rw [upd_ne (ne_of_none z hp)]; exact z
    exact k (.ref p) _ (s1.trans s2) ⟨.tup (.inl (.inr ⟨ob, upd_same⟩)) (dpAll_mono s2 _ _ q1), p, ob, _, rfl, upd_same, h1, h2⟩⟩⟩
theorem xe_ofN (h : XN X e Γ d) : XE X e Γ d := pe_imp h fun σ H Q ⟨E, k⟩ => ⟨E, fun v H' s q => k v H' s q.1⟩
theorem xr_ofN (h : XN X e Γ d) : XR X Hb e Γ (.v (NdF X.K d)) := pe_imp h fun σ H Q ⟨⟨H0, E⟩, k⟩ => ⟨⟨Hb, H0, E⟩, k⟩
/-- a + b: one of them without a dict, and not empty -/
theorem xn_catR (ha : XE X a Γ (.tuple ds1)) (hb : XN X b Γ (.tuple ds2)) (h2 : ds2 ≠ []) (hl : ds1.length + ds2.length ≤ 10000000) : XN X (.BinOp a .Add b pos) Γ (.tuple (ds1 ++ ds2)) :=
  pe_imp (pe_op op_catN ha hb) fun σ H Q ⟨⟨Hb, H0, E⟩, k⟩ => ⟨⟨Hb, H0, E⟩, fun v1 H1 s1 q1 => ⟨⟨Hb, H0, E.mono s1⟩, fun v2 H2 s2 ⟨q2, nd⟩ => by
    cases q1 with
    | @tup p xs _ t1 a1 =>
      cases q2 with
      | @tup q ys _ t2 a2 =>
        have t1' := seqT_mono s2 t1
        have a1' := dpAll_mono s2 _ _ a1
        refine ⟨p, q, xs, ys, rfl, rfl, t1', t2, line_of (by rw [dpa_length a1, dpa_length a2]; exact hl), fun e => ?_, fun _ e => ?_, fun _ _ r ob hr h3 h4 => ?_⟩
        · subst e
          cases a1
          exact k _ H2 (s1.trans s2) ⟨.tup t2 a2, nd⟩
        · subst e
          cases a2
          exact absurd rfl h2
        · have s3 : Same H2 (upd H2 r (.frz ob (.tup (xs ++ ys)))) := fun b o z => by rw [upd_ne (ne_of_none z hr)]; exact z
          exact k (.ref r) _ ((s1.trans s2).trans s3) ⟨.tup (.inl (.inr ⟨ob, upd_same⟩)) (dpa_append (dpAll_mono s3 _ _ a1') (dpAll_mono s3 _ _ a2)), r, ob, _, rfl, upd_same, h3, h4⟩⟩⟩
theorem xn_catL (ha : XN X a Γ (.tuple ds1)) (hb : XE X b Γ (.tuple ds2)) (h1 : ds1 ≠ []) (hl : ds1.length + ds2.length ≤ 10000000) : XN X (.BinOp a .Add b pos) Γ (.tuple (ds1 ++ ds2)) :=
  pe_imp (pe_op op_catN ha hb) fun σ H Q ⟨⟨Hb, H0, E⟩, k⟩ => ⟨⟨Hb, H0, E⟩, fun v1 H1 s1 ⟨q1, nd⟩ => ⟨⟨Hb, H0, E.mono s1⟩, fun v2 H2 s2 q2 => by
    cases q1 with
    | @tup p xs _ t1 a1 =>
      cases q2 with
      | @tup q ys _ t2 a2 =>
        have t1' := seqT_mono s2 t1
        have a1' := dpAll_mono s2 _ _ a1
        refine ⟨p, q, xs, ys, rfl, rfl, t1', t2, line_of (by rw [dpa_length a1, dpa_length a2]; exact hl), fun e => ?_, fun _ e => ?_, fun _ _ r ob hr h3 h4 => ?_⟩
        · subst e
          cases a1
          exact absurd rfl h1
        · subst e
          cases a2
          exact k _ H2 (s1.trans s2) ⟨by rw [List.append_nil]; exact .tup t1' a1', nd.mono s2⟩
        · have s3 : Same H2 (upd H2 r (.frz ob (.tup (xs ++ ys)))) := fun b o z => by rw [upd_ne (ne_of_none z hr)]; exact z
          exact k (.ref r) _ ((s1.trans s2).trans s3) ⟨.tup (.inl (.inr ⟨ob, upd_same⟩)) (dpa_append (dpAll_mono s3 _ _ a1') (dpAll_mono s3 _ _ a2)), r, ob, _, rfl, upd_same, h3, h4⟩⟩⟩
/-- a slot that holds such a tuple -/
theorem xn_var (i : Nat) (hl : Γ[i]? = some (.x F)) (hF : ∀ H v, F H v → NdF X.K d H v) (hN : X.N[i]? = some x := by rfl) (hv : Vis X.env.scope x := by first | exact Or.inl rfl | exact Or.inr (Or.inl rfl) | exact Or.inr (Or.inr rfl)) (hd : (x == ("__debug__" : Str)) = false := by decide)
    (hcd : (x == ("__classdict__" : Str)) = false := by decide) : XN X (.Name x px) Γ d :=
  pe_imp (pv i hN hv hd hcd) fun σ H Q ⟨⟨Hb, H0, E⟩, k⟩ => by
    obtain ⟨ov, h1, v, rfl, h2⟩ := E.sl i _ hl
    exact ⟨v, h1, k v H (Same.refl H) (hF _ _ (h2 H E.s0))⟩
end
theorem xn_eq {X : Cx} {e : Expr} {Γ : G} {d d' : PyData} (h : XN X e Γ d) (q : d = d') : XN X e Γ d' := q ▸ h
section
variable {P : Program} {w : World}
variable {K : PySem.W.Frag} {mg : Str → Option Value} {base : Heap}
def spNd (K : PySem.W.Frag) (n : Nat) (P : List PyData → PyData → Prop) : Sp := fun vs H Q _ => ∃ ds r, vs.length = n ∧ DpAll K H vs ds ∧ P ds r ∧ ∀ v H', Same H H' → NdF K r H' v → Q v H'
theorem swap_xn {X : Cx} {Γ : G} {l : List Deed} {p : Nat} {y1 y2 : Str} {q1 q2 q3 q4 q5 q6 q7 q8 q9 q10 q11 q12 q13 q14 q15 q16 q17 q18 q19 q20 q21 : Pos} {k1 k2 k3 : Nat} (hp : p + 1 < l.length) (hl : l.length ≤ 1000000)
    (h1 : ∀ {q : Pos}, XE X (.Name y1 q) Γ (dDeeds l)) (h2 : ∀ {q : Pos}, XE X (.Name y2 q) Γ (.int (p : Int))) :
    XN X (.BinOp (.BinOp (.Subscript (.Name y1 q1) (.Slice none (some (.Name y2 q2)) none q3) q4) .Add (.Tuple [.Subscript (.Name y1 q5) (.BinOp (.Name y2 q6) .Add (.Constant (.int 1) k1 q7) q8) q9, .Subscript (.Name y1 q10) (.Name y2 q11) q12] k2 q13) q14) .Add
      (.Subscript (.Name y1 q15) (.Slice (some (.BinOp (.Name y2 q16) .Add (.Constant (.int 2) k3 q17) q18)) none none q19) q20) q21) Γ (dDeeds (swapAt l p)) := by
  refine xn_eq (xn_catL (xn_catR (xe_slT h1 xo_none (xo_some h2)) (xn_tup (xa_cons (xe_eq (xe_ixTm (f := dDeed) (xs := l) (i := (p : Int) + 1) (.crash 0) h1 (xe_add h2 xe_int) (by omega) (fun _ _ => rfl)) (show _ = dDeed (l.getD (p + 1) (.crash 0)) by rw [show ((p : Int) + 1).toNat = p + 1 by omega]))
    (xa_cons (xe_eq (xe_ixTm (f := dDeed) (xs := l) (i := (p : Int)) (.crash 0) h1 h2 (by omega) (fun _ _ => rfl)) (show _ = dDeed (l.getD p (.crash 0)) by rw [Int.toNat_natCast])) xa_nil)) (show 2 ≤ 10000000 by decide)) (fun z => nomatch z) ?_) (xe_slT h1 (xo_some (xe_eq (xe_add h2 xe_int) (show _ = PyData.int ((p + 2 : Nat) : Int) by congr 1))) xo_none) (fun z => by simp at z) ?_) ?_
  · rw [cut_to, List.length_take, List.length_map]
    show _ + 2 ≤ 10000000
    omega
  · rw [cut_to, cut_from, List.length_append, List.length_take, List.length_map, List.length_drop, List.length_map]
    show _ + 2 + _ ≤ 10000000
    omega
  · rw [cut_to, cut_from]
    unfold swapAt dDeeds
    rw [List.map_append, List.map_append, List.map_take, List.map_drop]
    rfl
theorem ok_exdN (R : RawD K mg "exchanged" sExd) (B : Bi mg) (D1 : Def P w K mg base "independent" 2 ["one", "other"] (spR K 2 pFree)) : Def P w K mg base "exchanged" 3 ["deeds", "place"] (spNd K 2 pExd) := by
  obtain ⟨f, fd, h1, F⟩ := R
  refine ⟨f, fd, h1, F.kp, F.binds (fun _ _ _ _ _ _ us hl => match us, hl with | [_, _], _ => rfl), F.ok sc_exd (fun vs H Q E h => ?_) (fun cdv A outer s H vs Q E hr h => ?_)⟩
  · obtain ⟨ds, r, h1, _⟩ := h
    exact h1
  · obtain ⟨ds, r, h1, h2, ⟨l, p, rfl, hp, hll, hf, rfl⟩, h4⟩ := h
    refine ⟨tS K (.pu H) (startG 2 [dDeeds l, .int (p : Int)]) (fun _ => False) (fun q _ => q = .v (NdF K (dDeeds (swapAt l p)))), ?_, ⟨H, env_start (Hb := .pu H) h2⟩, fun Γ' σ' H' H0 kt e n => n.elim, ⟨fun _ _ _ _ _ _ _ _ z => (nomatch z), fun _ _ _ _ _ _ _ _ _ _ _ z => (nomatch z), fun _ _ _ _ _ _ _ _ _ _ z => (nomatch z), fun Γ' σ' v F' H' H0 e q z => ?_, fun _ _ _ _ _ _ _ _ z => (nomatch z)⟩⟩
    · have hlen : ((l.map dDeed).length : Int) = (l.length : Int) := by rw [List.length_map]
      refine xss_cons (Hb := .pu H) (xs_ifF (xt_w (xw_or (xt_not (xt_val (xe_isi B.isinstance B.int PyProof.Rows.boot_int (xe_var 1 rfl) kit_ii))) (fun _ => xw_or (xt_val (xe_isi B.isinstance B.bool PyProof.Rows.boot_bool (xe_var 1 rfl) kit_ib)) (fun _ => xw_or1 (xt_not (xt_chain op_le op_lt rd_le rd_lt xe_int (xe_var 1 rfl) (xe_sub (xe_eq (xe_lenT B.len (xe_var 0 rfl)) (by rw [hlen])) xe_int))))))) ?_ (xss_nil ?_))
      · rw [decide_eq_true (show (0 : Int) ≤ (p : Int) by omega), decide_eq_true (show (p : Int) < (l.length : Int) - 1 by omega)]
        rfl
      refine xss_cons (xs_ifF (xt_not (xt_val (xd_call D1 (hr.mono (by decide)) (xa_cons (xe_eq (xe_ixTm (f := dDeed) (xs := l) (i := (p : Int)) (.crash 0) (xe_var 0 rfl) (xe_var 1 rfl) (by omega)) (show _ = dDeed (l.getD p (.crash 0)) by rw [Int.toNat_natCast]))
        (xa_cons (xe_eq (xe_ixTm (f := dDeed) (xs := l) (i := (p : Int) + 1) (.crash 0) (xe_var 0 rfl) (xe_add (xe_var 1 rfl) xe_int) (by omega)) (show _ = dDeed (l.getD (p + 1) (.crash 0)) by rw [show ((p : Int) + 1).toNat = p + 1 by omega])) xa_nil)) ⟨_, _, rfl, rfl⟩))) (by rw [hf]; rfl) (xss_nil ?_))
      exact xss_one (xs_retRv (xr_ofN (swap_xn hp hll (xe_var 0 rfl) (xe_var 1 rfl))) rfl)
    · cases z
      exact h4 v H' (e.sb.same.trans e.s0) q
end
end TC
namespace TC
open PySem L2
open PySem.Spec PyProof.Rows
/-! ### enumerate(tuple) -/
theorem meets_enum_tuple (l : Addr) (items : Array Value) (n : Nat) (dc : Option Addr) (sls : Array (Option Value)) :
    Meets (Builtin.«enumerate.__new__» ⟨[.type "enumerate", .ref l], []⟩) (fun _ R s => s.heap.get? l = some { cls := .type "tuple", dict := dc, data := .seq items n, slots := sls } ∧
      R (.ok (.ret (.ref (s.heap.push { cls := .type "tuple_iterator", data := .fields #[.ref l, .int 0 0] }).objs.size)))
        { s with heap := (s.heap.push { cls := .type "tuple_iterator", data := .fields #[.ref l, .int 0 0] }).push { cls := .type "enumerate", data := .fields #[.none, .bool false, .ref s.heap.objs.size, rawInt 0, .none, .none] } }) :=
  .of_wp fun pg wd A R s k => by
    rcases s with ⟨hp, g, d, tk, os⟩
    obtain ⟨gl0, k⟩ := k
    have hsub := sub_enumerate
    have isT : Heap.IsTuple (Shared.heap ⟨hp, g, d, tk, os⟩) l items := ⟨_, gl0, rfl, n, rfl⟩
    wp_walk using AutoSeq1.wpAny_loadPart' gl0
    refine wpAny_stack_any fun stk => wpAny_pure ?_
    split
    · rename_i kls _ _ _ _ _
      cases (kls == Value.type "enumerate")
      · wp_walk using AutoSeq1.wpAny_loadPart' gl0, wpAny_pyIter_tuple isT
        exact ⟨_, rfl, k⟩
      · wp_walk using AutoSeq1.wpAny_loadPart' gl0, wpAny_pyIter_tuple isT
        exact ⟨_, rfl, k⟩
    · wp_walk using AutoSeq1.wpAny_loadPart' gl0, wpAny_pyIter_tuple isT
      exact ⟨_, rfl, k⟩
theorem call_enum_tuple {pg : Program} {wd : World} {A : Around} {E : Value → Shared → Prop} {s : Shared} {l : Addr} {items : Array Value} {Q : Value → Shared → Prop} (isL : s.heap.IsTuple l items)
    (k : ∀ h', IsEnum h' (s.heap.objs.size + 1) s.heap.objs.size 0 .none → h'.IsTupleIter s.heap.objs.size l 0 → (∀ b o, s.heap.get? b = some o → h'.get? b = some o) → Q (.ref (s.heap.objs.size + 1)) { s with heap := h' }) :
    wpAny (model pg wd) A (call (.type "enumerate") [.ref l]) Q E s := by
  obtain ⟨⟨kls, dc, dta, sls⟩, gl0, ec0, n, ed0⟩ := isL
  replace ec0 : kls = .type "tuple" := ec0
  replace ed0 : dta = .seq items n := ed0
  subst ec0 ed0
  refine callType_new F.called_enumerate (by decide) (F.typeCall_enumerate_1 _) (F.newCall_enumerate_1 _) (fun obj => F.args_object_init_2 obj _) F.entry_enumerate_new (meets_enum_tuple l items n dc sls) ⟨gl0, ?_⟩
  have hz : (s.heap.push { cls := .type "tuple_iterator", data := .fields #[.ref l, .int 0 0] }).objs.size = s.heap.objs.size + 1 := Heap.size_push ..
  show _ ∧ _
  rw [hz]
  have he : IsEnum ((s.heap.push { cls := .type "tuple_iterator", data := .fields #[.ref l, .int 0 0] }).push { cls := .type "enumerate", data := .fields #[.none, .bool false, .ref s.heap.objs.size, rawInt 0, .none, .none] }) (s.heap.objs.size + 1) s.heap.objs.size 0 .none := by
    have q := Heap.get?_push_size (s.heap.push { cls := .type "tuple_iterator", data := .fields #[.ref l, .int 0 0] }) (o := { cls := .type "enumerate", data := .fields #[.none, .bool false, .ref s.heap.objs.size, rawInt 0, .none, .none] }) rfl
    rw [hz] at q
    exact q
  exact ⟨⟨_, he, rfl⟩, k _ he ⟨_, Heap.get?_push_of_some _ (Heap.get?_push_size _ rfl), rfl, rfl⟩ fun b o x => Heap.get?_push_of_some _ (Heap.get?_push_of_some _ x)⟩
end TC
namespace TC
open PySem L2
open PySem.Spec PyProof.Rows
/-- the tuple at a, tis items in nw0 pairs -/
def EnT (K : PySem.W.Frag) (a : Addr) : It :=
  ⟨fun i H => ∃ (zs : List V) (x : V), SqT K H a zs ∧ zs[i]? = some x, fun i H v H' => ∃ T x, v = .ref T ∧ H T = none ∧ H' = upd H T (.tup [.int (i : Nat), x]) ∧ ∀ zs, SqT K H a zs → zs[i]? = some x, fun i H => ∃ zs : List V, SqT K H a zs ∧ i = zs.length⟩
theorem turn_enT {P : Program} {w : World} {K : PySem.W.Frag} {elts : List Expr} {kk : Nat} {tpos : Pos} (a e it : Addr) :
    Turn P w K (.Tuple elts kk tpos) (EnT K a) [e, it] e (fun i h => (∃ od0, IsEnum h e it ((i : Nat) : Int) od0) ∧ h.IsTupleIter it a i ∧ e ≠ it ∧ e ≠ a ∧ a ≠ it) where
  mem := by simp
  obj := fun i h sq b mb0 => by
    obtain ⟨⟨od0, ge0⟩, ⟨o, ho, hc, hd⟩, _⟩ := sq
    have eb : b = e ∨ b = it := by simpa using mb0
    rcases eb with z | z
    · rw [z]
      exact ⟨_, ge0, fun v q => nomatch q⟩
    · rw [z]
      exact ⟨o, ho, fun v q => by rw [hd] at q; cases q⟩
  keep := fun i h h' sq k => let ⟨⟨od0, ge0⟩, hi, r⟩ := sq; ⟨⟨od0, k e (by simp) _ ge0⟩, hi.at fun o q => k it (by simp) o q, r⟩
  item := by
    intro X eP eW eK hc i pins s σ H E I ff sq hg
    subst eP eW eK
    obtain ⟨⟨od0, ge0⟩, ti0, ne1, ne2, ne3⟩ := sq
    obtain ⟨zs, x, qt, gx⟩ := hg
    obtain ⟨tis, rvs, p, sz0⟩ := I.tuple qt
    obtain ⟨u, gu, ru⟩ := rvs.get gx
    have le0 : e < s.heap.objs.size := Heap.lt_size ge0
    have li0 : it < s.heap.objs.size := by obtain ⟨_, q, _⟩ := ti0; exact Heap.lt_size q
    have hil2 : i < tis.toArray.size := by
      have := (List.getElem?_eq_some_iff.mp gu).1
      simpa using this
    refine wpAny_pyNext_enum_itemD (Draws.tuple (show X.A.in1.handled = none from I.ok.hd hc) it a ne3 tis.toArray) ge0 ⟨ti0, p⟩ hil2 ne1 (by simp [ne1, ne2]) fun y1 h' tk hx1 ho st' hT hsz hk => ?_
    obtain rfl : y1 = u := by
      have : tis.toArray[i]? = some u := by simpa using gu
      rw [this] at hx1
      exact (Option.some.inj hx1).symm
    obtain ⟨hit', _⟩ := st'
    refine ⟨_, rfl, wpAny_letOwnedTupleGo_enum (s := { s with heap := h', toks := tk + 1 }) ho fun h'' ge1 sb => ?_⟩
    have hT2 : h''.get? s.heap.objs.size = some { cls := .type "tuple", data := .seq #[.int i tk, y1] } := (sb.2 _ (Nat.ne_of_gt le0)).trans hT
    have nw0 : ObjOk X.prog X.w (upd H s.heap.objs.size (.tup [.int (i : Nat), x])) h'' s.heap.objs.size (.tup [.int (i : Nat), x]) :=
      ⟨show 2 ≤ sizeLine by decide, [.int i tk, y1], .cons ⟨_, rfl⟩ (.cons ru .nil), ⟨_, hT2, rfl, _, rfl⟩⟩
    have J1 : Inv X pins σ (upd H s.heap.objs.size (.tup [.int (i : Nat), x])) { s with heap := h'', toks := tk + 1 } :=
      I.turnedNew (t' := tk + 1) (ch := [e, it]) (fun b ob mb0 q => (sb.2 b (fun z => mb0 (by simp [z]))).trans (hk b ob (fun z => mb0 (by simp [z])) (fun z => mb0 (by simp [z])) q)) ff (Nat.le_refl _) nw0
    refine ⟨.ref s.heap.objs.size, _, J1, rfl, ⟨_, x, rfl, I.hok.fresh (Nat.le_refl _), rfl, fun ys hy => by rw [I.tuple_inj hy qt]; exact gx⟩, ⟨⟨y1, ?_⟩, hit'.at fun o q => (sb.2 it (Ne.symm ne1)).trans q, ne1, ne2, ne3⟩, fun b mb0 => ?_⟩
    · have e1 : ((i + 1 : Nat) : Int) = (i : Int) + 1 :=
        by omega
      rw [e1]
      exact ge1
    · have lb0 : b < s.heap.objs.size := by
        have eb : b = e ∨ b = it := by simpa using mb0
        rcases eb with z | z
        · rw [z]; exact le0
        · rw [z]; exact li0
      rw [upd_ne (Nat.ne_of_lt lb0)]
      exact (ff b mb0).1
  done := by
    intro X eP eW eK hc i pins s σ H E I ff sq hg
    subst eP eW eK
    obtain ⟨⟨od0, ge0⟩, ti0, ne1, ne2, ne3⟩ := sq
    obtain ⟨zs, qt, gx⟩ := hg
    obtain ⟨tis, rvs, p, sz0⟩ := I.tuple qt
    obtain ⟨p0, p1, p2, p3, p4, p5⟩ := ff it (by simp)
    have ln0 := rvs.length
    have hin : i = tis.toArray.size := by
      rw [List.size_toArray]
      omega
    subst hin
    exact wpAny_pyNext_enum_endD (Draws.tuple (show X.A.in1.handled = none from I.ok.hd hc) it a ne3 tis.toArray) ge0 ⟨ti0, p⟩ fun h' eb => ⟨rfl, I.turned (t' := s.toks) (fun b o mb0 q => eb b o mb0 q) p0 p1 p3 p4 p5⟩
  self := fun A i s Q E sq h => let ⟨⟨_, ge0⟩, _⟩ := sq; wpAny_pyIter_enum ge0 h
def iEnT (K : PySem.W.Frag) (ta : TA) : TI := fun σ H R => ta σ H fun vs H1 => ∃ a zs, vs = [.ref a] ∧ SqT K H1 a zs ∧ R (EnT K a) H1
theorem pi_enT {X : Cx} {e : Expr} {ta : TA} {p pos tpos : Pos} {elts : List Expr} {kk : Nat} (hg : Gl X "enumerate") (hm : X.mg "enumerate" = none) (ha : PA X [e] ta) (hs : starEach [e] X.env = [(false, eval e X.env)] := by rfl) : PI X (.Tuple elts kk tpos) (.Call (.Name "enumerate" p) [e] [] pos) (iEnT X.K ta) := by
  constructor
  intro pins s σ H R I h
  refine Call_ (ld_blt I hg hm boot_enumerate (PyProof.Rows.callWith_type1 (thn (ha.run pos pins s σ H _ I h) fun us s1 ⟨vs, H1, J1, ra1, k1⟩ => ?_) hs rfl))
  obtain ⟨a, zs, ea0, qt, q⟩ := k1
  subst ea0
  cases ra1 with
  | cons r ra2 =>
    cases ra2
    cases r
    obtain ⟨tis, rvs, p', sz0⟩ := J1.tuple qt
    have hal : a < s1.heap.objs.size := by
      obtain ⟨o, ho, _⟩ := p'
      exact Heap.lt_size ho
    refine call_enum_tuple (items := tis.toArray) p' fun h' ge0 ti0 hk => wpAny_pyIter_enum ge0 ?_
    have J2 : Inv X pins σ H1 { s1 with heap := h' } := J1.kept (t' := s1.toks) hk
    refine ⟨s1.heap.objs.size + 1, [s1.heap.objs.size + 1, s1.heap.objs.size], _, _, H1, rfl, J2, turn_enT a (s1.heap.objs.size + 1) s1.heap.objs.size, ⟨⟨.none, ge0⟩, ti0, Nat.succ_ne_self _, Ne.symm (Nat.ne_of_lt (Nat.lt_succ_of_lt hal)), Nat.ne_of_lt hal⟩, fun b mb0 => ?_, q⟩
    have eb : b = s1.heap.objs.size + 1 ∨ b = s1.heap.objs.size := by simpa using mb0
    have le1 : s1.heap.objs.size ≤ b := by
      rcases eb with z | z
      · rw [z]
        exact Nat.le_add_right _ _
      · rw [z]
        exact Nat.le_refl _
    exact J1.fpOk le1 (J1.hok.fresh le1)
def enumD (ds : List PyData) : List PyData := ds.zipIdx.map fun p => .tuple [.int (p.2 : Nat), p.1]
theorem enumD_len (ds : List PyData) : (enumD ds).length = ds.length := by unfold enumD; rw [List.length_map, List.length_zipIdx]
theorem enumD_get {ds : List PyData} {i : Nat} {d : PyData} (h : ds[i]? = some d) : (enumD ds)[i]? = some (.tuple [.int (i : Nat), d]) := by
  unfold enumD
  rw [List.getElem?_map, List.getElem?_zipIdx, h]
  simp
theorem walk_enT {K : PySem.W.Frag} {a : Addr} {zs : List V} : Walk (EnT K a) zs.length (fun H => SqT K H a zs) (YPair (fun i => some (.int (i : Nat))) (fun i => zs[i]?)) := by
  refine ⟨fun i _ hi q => ⟨zs, zs[i], q, by simp [hi]⟩, fun _ q => ⟨zs, q, rfl⟩, fun i H v H' _ q y => ?_⟩
  rcases y with ⟨T, x, h1, h2, h3, h4⟩
  exact ⟨T, .int (i : Nat), x, h1, h2, h3, rfl, h4 zs q⟩
/-- for i, x in enumerate(tuple) -/
theorem xi_enT {X : Cx} {Γ : G} {e : Expr} {ds : List PyData} {elts : List Expr} {kk : Nat} {p pos tpos : Pos} (hm : X.mg "enumerate" = none) (ge0 : XE X e Γ (.tuple ds)) (pu : pureAll ds = true) (hg : Gl X "enumerate" := by rfl) (hs : starEach [e] X.env = (false, eval e X.env) :: starEach [] X.env := by rfl) :
    XI X (KeepT X.K) (.Tuple elts kk tpos) (.Call (.Name "enumerate" p) [e] [] pos) Γ (enumD ds) :=
  pi_imp (pi_enT hg hm (xa_cons ge0 xa_nil hs) hs) fun σ H Q ⟨E, k⟩ => ⟨E, fun vs H1 s1 k1 => by
    cases k1 with
    | cons h1 h2 =>
      cases h2
      cases h1 with
      | @tup q zs _ ht ha =>
        refine ⟨q, zs, rfl, ht, k _ H1 s1 ⟨fun H' => SqT X.K H' q zs ∧ DpAll X.K H' zs ds, YPair (fun i => some (.int (i : Nat))) (fun i => zs[i]?), ?_, ⟨ht, ha⟩, fun H1 H2 g r => ⟨r _ _ g.1, dpAll_keep r _ _ pu g.2⟩, ?_⟩⟩
        · rw [enumD_len, ← dpa_length ha]
          exact (walk_enT (K := X.K) (a := q) (zs := zs)).mono (fun _ g => g.1) fun _ _ _ _ _ _ y => y
        · rintro i H1 x H2 hi g ⟨T, y, z, rfl, hT, rfl, hy, sz0⟩
          have s4 : Same H1 (upd H1 T (.tup [y, z])) := fun b o w => by rw [upd_ne (ne_of_none w hT)]; exact w
          cases hy
          obtain ⟨d, e1, e2⟩ := dpa_getV g.2 sz0
          exact ⟨s4, ⟨seqT_mono s4 g.1, dpAll_mono s4 _ _ g.2⟩, _, enumD_get e1, .tup (SqT.of upd_same) (.cons (.int _) (.cons (dp_mono s4 _ _ e2) .nil))⟩⟩
end TC
namespace TC
open PySem L2
/-! ### a list of ints that stands -/
def LstF (ns : List Int) : Hp → V → Prop := fun H v => ∃ q, v = .ref q ∧ H q = some (.lst (ns.map V.int))
theorem dpa_ints {K : PySem.W.Frag} {H : Hp} : ∀ {vs : List V} {ns : List Int}, DpAll K H vs (ns.map .int) → vs = ns.map V.int
  | [], [], _ => rfl
  | v :: vs, n :: ns, h => by
    cases h with
    | cons h1 h2 =>
      cases h1
      rw [dpa_ints h2]
      rfl
  | [], _ :: _, h => by cases h
  | _ :: _, [], h => by cases h
theorem dpa_int {K : PySem.W.Frag} {H : Hp} : ∀ (ns : List Int), DpAll K H (ns.map V.int) (ns.map .int)
  | [] => .nil
  | n :: ns => .cons (.int n) (dpa_int ns)
theorem EnvOk.base_add {K : PySem.W.Frag} {Hb : Bs} {H0 H H1 : Hp} {σ : St} {Γ : G} {l : Addr} {o : HO} (E : EnvOk K Hb H0 H σ Γ) (n : H l = none) (s : Same H H1) (e : H1 l = some o) : EnvOk K Hb (upd H0 l o) H1 σ Γ := by
  have n0 : H0 l = none := E.s0.free n
  have s0 : Same H0 (upd H0 l o) := fun b ob z => by
    rw [upd_ne (ne_of_none z n0)]
    exact z
  refine ⟨E.sb.then s0, fun b ob z => ?_, E.ln, fun j g hj => ?_⟩
  · by_cases hb : b = l
    · rw [hb, upd_same] at z
      rw [hb, e, z]
    · rw [upd_ne hb] at z
      exact s _ _ (E.s0 _ _ z)
  · obtain ⟨ov, h1, h2⟩ := (E.mono s).sl j g hj
    obtain ⟨ov', h1', h2'⟩ := E.sl j g hj
    refine ⟨ov, h1, ?_⟩
    have hov : ov' = ov := by rw [h1] at h1'; exact (Option.some.inj h1').symm
    subst hov
    cases g with
    | c d => exact h2
    | b d =>
      obtain ⟨v, q1, q2⟩ := h2
      exact ⟨v, q1, dp_mono s0 _ _ q2⟩
    | o ds =>
      obtain ⟨p, vs, q1, q2, q3, q4, q5⟩ := h2'
      refine ⟨p, vs, q1, ?_, s _ _ q3, dpAll_mono s _ _ q4, q5⟩
      rw [upd_ne (fun z => by rw [z, n] at q3; cases q3)]
      exact q2
    | w C fs =>
      obtain ⟨p, dx, vs, q1, q2, q3, q4⟩ := h2'
      obtain ⟨p', dx', vs', r1, r2, r3, r4⟩ := h2
      refine ⟨p', dx', vs', r1, ?_, r3, r4⟩
      have hp : p = p' := by
        rw [q1] at r1
        exact V.ref.inj (Option.some.inj r1)
      rw [upd_ne (fun z => by rw [← hp] at z; rw [z, n] at q3; cases q3)]
      exact r2
    | x F =>
      obtain ⟨v, q1, q2⟩ := h2
      exact ⟨v, q1, fun H2 s2 => q2 H2 (s0.trans s2)⟩
    | n => trivial
section
variable {X : Cx} {Hb : Bs} {Γ : G} {N : G → Prop} {R : Rk → G → Prop} {e : Expr} {px py pos pos' apos mpos : Pos} {ns : List Int} {ds : List PyData} {x y : Str}
/-- name = e, a list of ints that nobody changes -/
theorem xs_setL (i : Nat) (he : XF X e Γ (ns.map .int)) (h : N (Γ.set i (.x (LstF ns)))) (hN : X.N.Nodup) (hi : X.N[i]? = some x := by rfl) (hx : Loc X.env.scope x := by first | exact Or.inl rfl | exact Or.inr rfl) (hs : swapsWith e (some (.Name x pos')) pos.line X.env = pure false := by rfl)
    (hf : X.fn x = true ∨ X.env.scope.names.lookup x = some .local := by first | exact .inl rfl | exact .inr rfl) : XS X Hb (.Assign [.Name x pos'] e pos) Γ N R :=
  ps_imp (ps_set hN hi hx he hs hf) fun D σ H q => by
    obtain ⟨H0, E⟩ := q.1
    refine ⟨⟨Hb, H0, E⟩, fun l vs H1 n1 s1 e1 q1 => ?_⟩
    rw [dpa_ints q1] at e1
    refine q.2.1 _ _ H1 _ (KeepT.of s1) ((E.base_add n1 s1 e1).store (g := .x (LstF ns)) ⟨_, rfl, fun H2 s2 => ⟨l, rfl, s2 _ _ upd_same⟩⟩) h
/-- for t in name: the list of ints stands -/
theorem xs_forL {tg : Expr} {body : List Stmt} {pt : Pos} (i : Nat) (hl : Γ[i]? = some (.x (LstF ns))) (t : Tg) (J : Nat → G → Prop) (hg : PG X tg (gT X.K t)) (h0 : J 0 Γ) (hb0 : Hb.l = [])
    (turn : ∀ (h : Hp) (i : Nat) (n : Int) (Γi : G), ns[i]? = some n → J i Γi → ∃ Γ', t.put (.int n) Γi = some Γ' ∧ XSs X ⟨h, [], Hb.E, Hb.DF⟩ body Γ' (J (i + 1)) R) (hd : ∀ Γ', J ns.length Γ' → N Γ') (hc : X.calm = true) (hpo : PassesOwn (model X.prog X.w) X.A X.env X.xe)
    (hN : X.N[i]? = some x := by rfl) (hv : Vis X.env.scope x := by first | exact Or.inl rfl | exact Or.inr (Or.inl rfl) | exact Or.inr (Or.inr rfl)) (hdb : (x == ("__debug__" : Str)) = false := by decide) (hcd : (x == ("__classdict__" : Str)) = false := by decide)
    (hs : ∀ z, foldedSetIterable (.Name x px) X.env z = pure z := by intro _; rfl) : XS X Hb (.For tg (.Name x px) body [] pos) Γ N R := by
  refine ps_imp (ps_for hpo hc (pi_list (pv i hN hv hdb hcd)) hg (pss_semA) hs) fun D σ H q => ?_
  obtain ⟨H0, E⟩ := q.1
  obtain ⟨ov, h1, v, rfl, h2⟩ := E.sl i _ hl
  obtain ⟨p, rfl, e0⟩ := h2 H0 (Same.refl _)
  refine ⟨_, h1, p, rfl, ⟨_, SqL.of (E.s0 _ _ e0)⟩, ?_⟩
  have key : ∀ H2, Same H0 H2 → SqL X.K H2 p (ns.map V.int) := fun H2 s => SqL.of (s _ _ e0)
  refine for_it ((walk_list (K := X.K) (a := p) (xs := ns.map V.int))) (fun k σ' H2 => KeepT X.K H H2 ∧ Same H0 H2 ∧ ∃ Γi H0', EnvOk X.K ⟨H0, [], Hb.E, Hb.DF⟩ H0' H2 σ' Γi ∧ J k Γi) ⟨KeepT.refl _, E.s0, Γ, H0, ⟨Off.refl _, E.s0, E.ln, E.sl⟩, h0⟩ (fun k σ' H2 _ p => key H2 p.2.1) ?_ ?_
  · rintro k z σ' H2 H3 hk ⟨kt, s0, Γi, H0', Ei, hJ⟩ ⟨rfl, hz⟩
    rw [List.getElem?_map] at hz
    cases hn : ns[k]? with
    | none => rw [hn] at hz; cases hz
    | some n =>
      rw [hn] at hz
      cases hz
      obtain ⟨Γ', hput, hbody⟩ := turn H0 k n Γi hn hJ
      refine gT_ok t (.int n) hput fun σ2 _ EE => ⟨⟨H0, [], Hb.E, Hb.DF⟩, Γ', _, _, hbody, ⟨H0', EE _ _ Ei⟩, fun Γ2 σ3 H4 H0'' k4 e4 n4 => ?_, ?_⟩
      · exact ⟨kt.trans k4, e4.sb.same.trans e4.s0, Γ2, H0'', e4, n4⟩
      · have back : ∀ {H0' H' : Hp} {σ' : St} {Γ' : G}, EnvOk X.K ⟨H0, [], Hb.E, Hb.DF⟩ H0' H' σ' Γ' → EnvOk X.K Hb H0' H' σ' Γ' := fun e => ⟨E.sb.then e.sb.same, e.s0, e.ln, e.sl⟩
        exact ⟨fun Γ' σ' v d H' H0' e => q.2.2.d Γ' σ' v d H' H0' (back e), fun Γ' σ' p vs ds H' H0' e => q.2.2.l Γ' σ' p vs ds H' H0' (back e), fun Γ' σ' q1 C fs H' H0' e => q.2.2.w Γ' σ' q1 C fs H' H0' (back e), fun Γ' σ' v F H' H0' e => q.2.2.v Γ' σ' v F H' H0' (back e), fun Γ' σ' s d H' H0' e => q.2.2.x Γ' σ' s d H' H0' (back e)⟩
  · rintro σ' H2 ⟨kt, s0, Γi, H0', Ei, hJ⟩
    rw [List.length_map] at hJ
    exact q.2.1 _ _ H2 H0' kt ⟨E.sb.then Ei.sb.same, Ei.s0, Ei.ln, Ei.sl⟩ (hd _ hJ)
/-- name.extend(y), y a list of ints that stands -/
theorem xs_extendL (i j : Nat) (hl : Γ[i]? = some (.o ds)) (hj : Γ[j]? = some (.x (LstF ns))) (hz : ds.length + ns.length ≤ 1000000) (h : N ((Γ.map demote).set i (.o (ds ++ ns.map .int))))
    (hps : PS X (.Expr (.Call (.Attribute (.Name x px) "extend" apos) [.Name y py] [] mpos) pos) (tDrop (tBM X.K "list" rExtend (tVar i) (tCons (tVar j) tNil)))) : XS X Hb (.Expr (.Call (.Attribute (.Name x px) "extend" apos) [.Name y py] [] mpos) pos) Γ N R :=
  ps_imp hps fun D σ H q => by
    obtain ⟨H0, E⟩ := q.1
    obtain ⟨ov, h1, l, vs, rfl, n0, e1, q1, pu⟩ := E.sl i _ hl
    obtain ⟨ov2, g1, v2, rfl, g2⟩ := E.sl j _ hj
    obtain ⟨b, rfl, e2⟩ := g2 H E.s0
    refine ⟨_, h1, Or.inl ⟨rfl, vs, SqL.of e1⟩, _, g1, l, b, vs, _, rfl, rfl, e1, e2, ?_, ?_⟩
    · rw [dpa_length q1, List.length_map]
      have hs : (1000000 : Nat) < sizeLine := by decide
      omega
    · exact q.2.1 _ _ _ H0 (KeepT.upd e1) (E.change hl h1 n0 e1 (dpa_append q1 (dpa_int ns)) (pureAll_append pu (pure_ints ns))) h
end
end TC
namespace TC
open PySem L2
open PySem.Spec PyProof.Rows
/-- the ints i, i - 1, .. -/
def downM (i : Int) (n : Nat) : List Int := (List.range n).map fun (k : Nat) => i - (k : Int)
theorem vals_down {i : Int} {n : Nat} {acc : Array Value} (h : ItemsOf (fun k v => ∃ t, v = .int (i + k * -1) t) acc n) : Vals ((downM i n).map V.int) acc.toList := by
  have e : acc.toList.length = n := by rw [Array.length_toList]; exact h.1
  have q := vals_of_get acc.toList (fun k => V.int (i - (k : Nat))) fun j u hj => by
    rcases h.2 j u (by rw [← hj, Array.getElem?_toList]) with ⟨t, rfl⟩
    exact ⟨t, by congr 1; omega⟩
  unfold downM
  rw [List.map_map, ← e]
  exact q
section
variable {X : Cx} {Γ : G} {a b c : Expr} {p p2 pos pos2 : Pos}
/-- list(range(i, j, -1)) -/
theorem xf_listDown {i j : Int} (hc : X.calm = true) (hm : X.mg "list" = none) (hm2 : X.mg "range" = none) (ha : XA X [a, b, c] Γ [.int i, .int j, .int (-1)]) (h1 : -1000000 ≤ i ∧ i ≤ 1000000) (h2 : -1000000 ≤ j ∧ j ≤ 1000000) (hg : Gl X "list" := by rfl) (hg2 : Gl X "range" := by rfl)
    (hs : starEach [a, b, c] X.env = (false, eval a X.env) :: starEach [b, c] X.env := by rfl) (hpl : (backTo pos2 (starEach [b, c] X.env)).any (·.1) = false := by rfl)
    (na : starEach [.Call (.Name "range" p2) [a, b, c] [] pos2] X.env = (false, eval (.Call (.Name "range" p2) [a, b, c] [] pos2) X.env) :: starEach [] X.env := by rfl) :
    XF X (.Call (.Name "list" p) [.Call (.Name "range" p2) [a, b, c] [] pos2] [] pos) Γ ((downM i (i - j).toNat).map .int) := by
  constructor
  intro pins s σ H Q I h
  obtain ⟨E, k⟩ := h
  refine Call_ (ld_blt I hg hm boot_list (PyProof.Rows.callWith_type1 (args_cons (Call_ (ld_blt I hg2 hm2 boot_range (PyProof.Rows.callWith_type1 (thn (ha.run pos2 pins s σ H _ I ⟨E, fun vs H1 s1 q1 => (⟨s1, q1⟩ : Same H H1 ∧ DpAll X.K H1 vs [.int i, .int j, .int (-1)])⟩) fun us s1 ⟨vs, H1, I1, r1, sm, q1⟩ => ?_) hs hpl))) na) na))
  cases q1 with
  | cons x1 q1 =>
    cases q1 with
    | cons x2 q1 =>
      cases q1 with
      | cons x3 q1 =>
        cases q1
        cases x1
        cases x2
        cases x3
        cases r1 with
        | cons r rr =>
          cases rr with
          | cons r' rr =>
            cases rr with
            | cons r'' rr =>
              cases rr
              obtain ⟨t, rfl⟩ := r
              obtain ⟨t', rfl⟩ := r'
              obtain ⟨t'', rfl⟩ := r''
              obtain ⟨c0, c1, c2, c3⟩ := RgC.neg (i := i) (j := j) (by omega) (by omega) (by omega) (by omega)
              refine call_range_3 c0 ?_
                (.inl (PyProof.noPylong_small c1))
              refine args_nil ?_
              have I2 : Inv X pins σ H1 { s1 with heap := s1.heap.push { cls := .type "range", data := .fields #[.int i t, .int j t', .int (-1) t''] } } := I1.kept (t' := s1.toks) fun b o e => Heap.get?_push_of_some _ e
              refine call_list_range (n := (i - j).toNat) (I2.ok.hd hc) (IsRange.new ..) c2 c3 (by omega) fun h' tk acc c' hk e' hi => ?_
              refine ⟨.ref _, upd H1 _ (.lst ((downM i (i - j).toNat).map V.int)), I2.laid hk (Nat.le_refl _) (show ObjOk X.prog X.w _ _ _ (.lst ((downM i (i - j).toNat).map V.int)) from ⟨?_, acc.toList, c', vals_down hi, ?_⟩), rfl, k _ _ _ (sm.free (I2.hok.fresh (Nat.le_refl _))) (sm.trans fun b o z => ?_) upd_same (dpa_int _)⟩
              · unfold downM
                rw [List.length_map, List.length_map, List.length_range]
                have hs : (10000000 : Nat) < sizeLine := by decide
                omega
              · rw [Array.toArray_toList]
                exact e'
              · rw [upd_ne (ne_of_none z (I2.hok.fresh (Nat.le_refl _)))]
                exact z
end
end TC
namespace TC
open PySem L2
section
variable {P : Program} {w : World}
variable {K : PySem.W.Frag} {mg : Str → Option Value} {base : Heap}
/-! places_from -/
abbrev sPl : Stmt := topS 35
def placesM (a b : Nat) : List Int := downM ((a : Int) - 1) (((a : Int) - 1) - ((b : Int) - 1)).toNat
def pPl (ds rs : List PyData) : Prop := ∃ a b : Nat, ds = [.int (a : Int), .int (b : Int)] ∧ a ≤ 1000 ∧ b ≤ 1000 ∧ rs = (placesM a b).map .int
theorem sc_pl : FnScope ["place", "target"] ["place", "target"] (defScope sPl) := ⟨rfl, rfl, rfl, by decide +kernel, rfl, by decide +kernel, by decide +kernel⟩
theorem ok_pl (R : RawD K mg "places_from" sPl) (B : Bi mg) : Def P w K mg base "places_from" 1 ["place", "target"] (spF K 2 pPl) := by
  refine def_list R sc_pl rfl (fun _ _ _ _ _ _ us hl => match us, hl with | [_, _], _ => rfl) fun f cdv A outer s H E ds rs hr hp hl => ?_
  obtain ⟨a, b, rfl, ha, hb, rfl⟩ := hp
  exact xss_one (xs_retF (xf_listDown rfl B.list B.range (xa_cons (xe_sub (xe_var 0 rfl) xe_int) (xa_cons (xe_sub (xe_var 1 rfl) xe_int) (xa_cons (xe_neg xe_int) xa_nil))) (by omega) (by omega)) rfl)
end
end TC
namespace TC
open PySem L2
/-! ### a base without the lists that are our own -/
def isLst : HO → Bool
  | .lst _ => true
  | _ => false
/-- H without its lists, but for those of H0 -/
def noLst (H0 H : Hp) : Hp := fun a => match H a with
  | some o => if isLst o = true then H0 a else some o
  | none => none
theorem noLst_get {H0 H : Hp} {a : Addr} {o : HO} (h : H a = some o) (n : isLst o = false) : noLst H0 H a = some o := by
  unfold noLst
  rw [h]
  show (if isLst o = true then H0 a else some o) = some o
  rw [n]
  rfl
theorem noLst_lst {H0 H : Hp} {a : Addr} {vs : List V} (h : H a = some (.lst vs)) : noLst H0 H a = H0 a := by
  unfold noLst
  rw [h]
  rfl
theorem noLst_sub {H0 H : Hp} (s : Same H0 H) : Same H0 (noLst H0 H) := fun a o z => by
  cases q : isLst o with
  | false => exact noLst_get (s a o z) q
  | true =>
    cases o with
    | lst vs => rw [noLst_lst (s a _ z)]; exact z
    | _ => cases q
theorem noLst_le {H0 H : Hp} (s : Same H0 H) : Same (noLst H0 H) H := fun a o z => by
  unfold noLst at z
  cases h : H a with
  | none => rw [h] at z; cases z
  | some u =>
    rw [h] at z
    have z : (if isLst u = true then H0 a else some u) = some o := z
    split at z
    · rw [← h]
      exact s a o z
    · exact z
theorem noLst_keep {K : PySem.W.Frag} {H0 H : Hp} : KeepT K H (noLst H0 H) := fun a xs h => by
  obtain (h | ⟨o, h⟩) | h := h
  · exact .inl (.inl (noLst_get h rfl))
  · exact .inl (.inr ⟨o, noLst_get h rfl⟩)
  · exact .inr h
def noW : G → Bool
  | [] => true
  | .w _ _ :: _ => false
  | _ :: r => noW r
theorem noW_get : ∀ {Γ : G} {i : Nat} {C : Addr} {fs : List (Str × PyData)}, noW Γ = true → Γ[i]? ≠ some (.w C fs)
  | [], _, _, _, _, h =>
    by simp at h
  | g :: Γ, 0, C, fs, n, h => by
    cases h
    cases n
  | g :: Γ, i + 1, C, fs, n, h => by
    have n' : noW Γ = true := by
      cases g <;> first | exact n | cases n
    exact noW_get n' h
theorem EnvOk.noLst {K : PySem.W.Frag} {Hb : Bs} {H0 H : Hp} {σ : St} {Γ : G} (E : EnvOk K Hb H0 H σ Γ) (n : noW Γ = true) : EnvOk K Hb (TC.noLst H0 H) H σ Γ := by
  have s1 := noLst_sub E.s0
  refine ⟨E.sb.then s1, noLst_le E.s0, E.ln, fun j g hj => ?_⟩
  obtain ⟨ov, h1, h2⟩ := E.sl j g hj
  refine ⟨ov, h1, ?_⟩
  cases g with
  | c d => exact h2
  | b d =>
    obtain ⟨v, q1, q2⟩ := h2
    exact ⟨v, q1, dp_mono s1 _ _ q2⟩
  | o ds =>
    obtain ⟨p, vs, q1, q2, q3, q4, q5⟩ := h2
    exact ⟨p, vs, q1, by rw [noLst_lst q3]; exact q2, q3, q4, q5⟩
  | w C fs => exact absurd hj (noW_get n)
  | x F =>
    obtain ⟨v, q1, q2⟩ := h2
    exact ⟨v, q1, fun H2 s2 => q2 H2 (s1.trans s2)⟩
  | n => trivial
section
variable {X : Cx} {Hb : Bs} {Γ : G} {N : G → Prop} {R : Rk → G → Prop} {e : Expr} {px pos pos' : Pos} {d : PyData} {x : Str}
/-- name = e, a tuple without a dict -/
theorem xs_setN (i : Nat) (he : XN X e Γ d) (hp : pureD d = true) (hw : noW Γ = true) (h : N (Γ.set i (.x (NdF X.K d)))) (hN : X.N.Nodup) (hi : X.N[i]? = some x := by rfl) (hx : Loc X.env.scope x := by first | exact Or.inl rfl | exact Or.inr rfl) (hs : swapsWith e (some (.Name x pos')) pos.line X.env = pure false := by rfl)
    (hf : X.fn x = true ∨ X.env.scope.names.lookup x = some .local := by first | exact .inl rfl | exact .inr rfl) : XS X Hb (.Assign [.Name x pos'] e pos) Γ N R :=
  ps_imp (ps_set hN hi hx he hs hf) fun D σ H q => by
    obtain ⟨H0, E⟩ := q.1
    refine ⟨⟨Hb, H0, E⟩, fun v H1 s1 q1 => ?_⟩
    obtain ⟨q1, p, o, u, ev, e1, e2, e3⟩ := q1
    have E1 := E.mono s1
    refine q.2.1 _ _ H1 _ (KeepT.of s1) ((E1.noLst hw).store (g := .x (NdF X.K d)) ⟨_, rfl, fun H2 s2 => ⟨dp_mono s2 _ _ (dp_keep noLst_keep _ _ hp q1), p, o, u, ev, s2 _ _ (noLst_get e1 rfl), e2, e3⟩⟩) h
end
end TC
namespace TC
open PySem L2
/-! ### deeds as data: equality, shape -/
theorem eqv_ints : ∀ l m : List Int, PyData.eqvAll (l.map .int) (m.map .int) = decide (l = m)
  | [], [] => rfl
  | [], _ :: _ => rfl
  | _ :: _, [] => rfl
  | a :: l, b :: m => by
    have e : PyData.eqvAll ((a :: l).map .int) ((b :: m).map .int) = ((a == b) && PyData.eqvAll (l.map .int) (m.map .int)) := by simp only [List.map_cons, PyData.eqvAll, PyData.eqv]
    rw [e, eqv_ints l m]
    by_cases h1 : a = b
    · subst h1
      simp
    · simp [h1]
theorem deed_inj {a b : Deed} (h1 : a.name = b.name) (h2 : a.args = b.args) : a = b := by
  cases a <;> cases b <;> first | (exfalso; revert h1; simp only [Deed.name]; decide) | (simp only [Deed.args, List.cons.injEq, and_true] at h2; simp [h2])
theorem deed_eqv (a b : Deed) : PyData.eqv (dDeed a) (dDeed b) = decide (a = b) := by
  have e : PyData.eqv (dDeed a) (dDeed b) = ((a.name == b.name) && PyData.eqvAll (a.args.map .int) (b.args.map .int)) := by simp only [dDeed, PyData.eqv, PyData.eqvAll]
  rw [e, eqv_ints, Bool.eq_iff_iff, Bool.and_eq_true, decide_eq_true_iff, decide_eq_true_iff, beq_iff_eq]
  exact ⟨fun h => deed_inj h.1 h.2, fun h => by rw [h]; exact ⟨rfl, rfl⟩⟩
theorem ints_lay : ∀ l : List Int, PyData.canLayAll0 (l.map .int) = true ∧ PyData.depthAll (l.map .int) ≤ 0
  | [] => ⟨by simp [PyData.canLayAll0], by simp [PyData.depthAll]⟩
  | a :: l => ⟨by simp [PyData.canLayAll0, PyData.canLay0, (ints_lay l).1], by have := (ints_lay l).2; simp only [List.map_cons, PyData.depthAll, PyData.depth]; omega⟩
theorem deed_lay (d : Deed) : (dDeed d).canLay0 = true ∧ (dDeed d).depth ≤ 1 := by
  have h := ints_lay d.args
  have hs : PyData.strOk d.name = true := by cases d <;> (simp only [Deed.name]; decide +kernel)
  refine ⟨by simp only [dDeed, PyData.canLay0, PyData.canLayAll0, h.1, hs]; rfl, ?_⟩
  simp only [dDeed, PyData.depth, PyData.depthAll]
  omega
theorem shaped_deed (d : Deed) : SeqAt.shaped (dDeed d) = true := by
  obtain ⟨a, b⟩ := deed_lay d
  show (PyData.canLay0 (dDeed d) && decide (PyData.depth (dDeed d) ≤ 64)) = true
  rw [a, decide_eq_true (by omega)]
  rfl
theorem shaped_deeds (l : List Deed) : SeqAt.shaped (dDeeds l) = true := by
  have key : ∀ l : List Deed, PyData.canLayAll0 (l.map dDeed) = true ∧ PyData.depthAll (l.map dDeed) ≤ 1 := by
    intro l
    induction l with
    | nil => exact ⟨by simp [PyData.canLayAll0], by simp [PyData.depthAll]⟩
    | cons d l ih =>
      have hd := deed_lay d
      refine ⟨by simp only [List.map_cons, PyData.canLayAll0, hd.1, ih.1]; rfl, ?_⟩
      have := ih.2
      have := hd.2
      simp only [PyData.depthAll, List.map_cons]
      omega
  obtain ⟨a, b⟩ := key l
  show (PyData.canLay0 (.tuple (l.map dDeed)) && decide (PyData.depth (.tuple (l.map dDeed)) ≤ 64)) = true
  rw [Bool.and_eq_true]
  exact ⟨by simp only [PyData.canLay0]; exact a, decide_eq_true (by simp only [PyData.depth]; omega)⟩
theorem any_deed (l : List Deed) (d : Deed) : ((l.map dDeed).any fun z => PyData.eqv z (dDeed d)) = decide (d ∈ l) := by
  rw [List.any_map, Bool.eq_iff_iff, List.any_eq_true, decide_eq_true_iff]
  constructor
  · rintro ⟨x, hx, e⟩
    have e : PyData.eqv (dDeed x) (dDeed d) = true := e
    rw [deed_eqv] at e
    rw [← of_decide_eq_true e]
    exact hx
  · intro h
    refine ⟨d, h, ?_⟩
    show PyData.eqv (dDeed d) (dDeed d) = true
    rw [deed_eqv]
    exact decide_eq_true rfl
end TC
namespace TC
open PySem L2
/-! ### exchanges: the mirror -/
def swapsM (p : List Deed) : List Int → List Deed
  | [] => p
  | m :: ms => swapsM (swapAt p m.toNat) ms
def swapsOk (p : List Deed) : List Int → Bool
  | [] => true
  | m :: ms => decide (0 ≤ m) && (decide (m.toNat + 1 < p.length) && (freeM (p.getD m.toNat (.crash 0)) (p.getD (m.toNat + 1) (.crash 0)) && swapsOk (swapAt p m.toNat) ms))
def idxM (p : List Deed) (d : Deed) (i : Nat) : Nat := i + (p.drop i).idxOf d
def exP (L O : List Deed) : Nat → List Deed × List Int
  | 0 => (L, [])
  | i + 1 => (swapsM (exP L O i).1 (placesM (idxM (exP L O i).1 (O.getD i (.crash 0)) i) i), (exP L O i).2 ++ placesM (idxM (exP L O i).1 (O.getD i (.crash 0)) i) i)
def exOk (L O : List Deed) : Bool := (List.range O.length).all fun i => decide (O.getD i (.crash 0) ∈ (exP L O i).1.drop i) && swapsOk (exP L O i).1 (placesM (idxM (exP L O i).1 (O.getD i (.crash 0)) i) i)
/-- after k of the moves -/
theorem swaps_take (p : List Deed) : ∀ (ms : List Int) (k : Nat) (m : Int), swapsOk p ms = true → ms[k]? = some m → 0 ≤ m ∧ m.toNat + 1 < (swapsM p (ms.take k)).length ∧ freeM ((swapsM p (ms.take k)).getD m.toNat (.crash 0)) ((swapsM p (ms.take k)).getD (m.toNat + 1) (.crash 0)) = true ∧ swapsM p (ms.take (k + 1)) = swapAt (swapsM p (ms.take k)) m.toNat := by
  intro ms
  induction ms generalizing p with
  | nil => intro k m _ h; simp at h
  | cons x ms ih =>
    intro k m ok h
    simp only [swapsOk, Bool.and_eq_true, decide_eq_true_iff] at ok
    cases k with
    | zero =>
      cases h
      exact ⟨ok.1, ok.2.1, ok.2.2.1, rfl⟩
    | succ k => exact ih (swapAt p x.toNat) k m ok.2.2.2 h
theorem swapsM_len : ∀ (ms : List Int) (p : List Deed), swapsOk p ms = true → (swapsM p ms).length = p.length
  | [], _, _ => rfl
  | m :: ms, p, ok => by
    simp only [swapsOk, Bool.and_eq_true, decide_eq_true_iff] at ok
    show (swapsM (swapAt p m.toNat) ms).length = p.length
    rw [swapsM_len ms _ ok.2.2.2, swapAt_len _ _ ok.2.1]
end TC
namespace TC
open PySem L2
section
variable {X : Cx} {Γ : G} {a b c : Expr} {pos apos : Pos} {d : PyData} {ds : List PyData}
theorem xt_notInT (hu : X.A.units + 65 < cLine) (ha : XE X a Γ d) (hb : XE X b Γ (.tuple ds)) (h1 : SeqAt.shaped d = true) (h2 : SeqAt.shaped (.tuple ds) = true) (hm : behindInMarks .NotIn b = false := by rfl) : XT X (.Compare a [.NotIn] [b] pos) Γ (!ds.any fun z => PyData.eqv z d) :=
  xt_cmp (op_notInT hu) (fun H x y Q q1 q2 k => ⟨d, ds, q1, q2, h1, h2, k _ H (Same.refl H) (.bl _)⟩) ha hb hm
/-- t.index(x, lo) -/
theorem xe_index3 {lo j : Nat} (hu : X.A.units + 65 < cLine) (ha : XN X a Γ (.tuple ds)) (hb : XE X b Γ d) (hc : XE X c Γ (.int (lo : Int))) (h1 : SeqAt.shaped (.tuple ds) = true) (h2 : SeqAt.shaped d = true) (h3 : lo ≤ j) (h4 : j < ds.length) (h5 : ∀ y, ds[j]? = some y → PyData.eqv y d = true) (h6 : ∀ m, lo ≤ m → m < j → ∀ y, ds[m]? = some y → PyData.eqv y d = false)
    (hbase : attributeBase a "index" X.env (eval a X.env) = eval a X.env := by rfl)
    (hfew : ((backTo pos (starEach [b, c] X.env)).all (fun x => !x.1) && (backToKw pos (keywordEach [] X.env)).all (fun x => x.1.isSome) && decide ([b, c].length + ([] : List Keyword).length + (if ([] : List Keyword).isEmpty then 0 else 1) < 30)) = true := by rfl)
    (hline : (apos.endLine == pos.line) = true := by rfl) (hs : starEach [b, c] X.env = (false, eval b X.env) :: starEach [c] X.env := by rfl) (hs2 : starEach [c] X.env = (false, eval c X.env) :: starEach [] X.env := by rfl) (hplain : (backTo pos (starEach [c] X.env)).any (·.1) = false := by rfl) :
    XE X (.Call (.Attribute a "index" apos) [b, c] [] pos) Γ (.int (j : Int)) :=
  pe_imp (pe_nm PySem.F.slot_tuple_index PySem.F.type_tuple_index (mt_index3 hu) ha (xa_cons hb (xa_cons hc xa_nil hs2) hs) hbase hfew hline hs hplain) fun σ H Q ⟨⟨Hb, H0, E⟩, k⟩ => ⟨⟨Hb, H0, E⟩, fun v H1 s1 ⟨q1, nd⟩ => ⟨nd, ⟨Hb, H0, E.mono s1⟩, fun vs H2 s2 q2 => by
    cases q2 with
    | cons x1 x2 =>
      cases x2 with
      | cons x2 x3 =>
        cases x3
        cases x2
        exact ⟨d, ds, _, lo, j, dp_mono s2 _ _ q1, rfl, x1, h1, h2, h3, h4, h5, h6, k _ H2 (s1.trans s2) (.int _)⟩⟩⟩
end
end TC
namespace TC
open PySem L2
section
variable {P : Program} {w : World}
variable {K : PySem.W.Frag} {mg : Str → Option Value} {base : Heap}
abbrev sEx : Stmt := topS 36
def spEx (K : PySem.W.Frag) : Sp := fun vs H Q _ => ∃ (L O : List Deed) (v1 v2 : V), vs = [v1, v2] ∧ NdF K (dDeeds L) H v1 ∧ Dp K H v2 (dDeeds O) ∧ L.length = O.length ∧ L.length ≤ 100 ∧ exOk L O = true ∧ ∀ v H', Same H H' → Dp K H' v (dInts (exP L O O.length).2) → Q v H'
theorem sc_ex : FnScope ["deeds", "others", "present", "found", "target", "deed", "moves", "place"] ["deeds", "others"] (defScope sEx) := ⟨rfl, rfl, rfl, by decide +kernel, rfl, by decide +kernel, by decide +kernel⟩
theorem idx_first (p : List Deed) (d : Deed) (i : Nat) (h : d ∈ p.drop i) : i ≤ idxM p d i ∧ idxM p d i < p.length ∧ p[idxM p d i]? = some d ∧ ∀ m, i ≤ m → m < idxM p d i → ∀ y, p[m]? = some y → y ≠ d := by
  have hlt := List.idxOf_lt_length_iff.mpr h
  have hlen := List.length_drop (i := i) (l := p)
  refine ⟨Nat.le_add_right _ _, by unfold idxM; omega, ?_, fun m h1 h2 y hy e => ?_⟩
  · unfold idxM
    rw [← List.getElem?_drop, List.getElem?_eq_getElem hlt, List.getElem_idxOf hlt]
  · subst e
    obtain ⟨k, rfl⟩ : ∃ k, m = i + k := ⟨m - i, by omega⟩
    rw [← List.getElem?_drop] at hy
    unfold idxM at h2
    have hk : k < (p.drop i).idxOf y := by omega
    have hk2 : k < (p.drop i).length := by omega
    rw [List.getElem?_eq_getElem hk2] at hy
    have := List.not_of_lt_findIdx (p := (· == y)) (xs := p.drop i) (show k < (p.drop i).findIdx (· == y) from hk)
    rw [Option.some.inj hy] at this
    simp at this
end
end TC
namespace TC
open PySem L2
section
variable {X : Cx} {Γ : G} {e : Expr} {es : List Expr} {p pos : Pos} {d d1 : PyData} {ds : List PyData}
theorem xn_call {k : Nat} {ps : List Str} {n : Nat} {Pr : List PyData → PyData → Prop} {x : Str} (D : Def X.prog X.w X.K X.mg X.base x k ps (spNd X.K n Pr)) (hr : Room k X.A) (ha : XA X (e :: es) Γ (d1 :: ds)) (hP : Pr (d1 :: ds) d) (hn : (d1 :: ds).length = n := by rfl) (hg : Gl X x := by rfl)
    (hdb : (x == ("__debug__" : Str)) = false := by decide) (he : starEach (e :: es) X.env = (false, eval e X.env) :: starEach es X.env := by rfl) (hpl : (backTo pos (starEach es X.env)).any (·.1) = false := by rfl) : XN X (.Call (.Name x p) (e :: es) [] pos) Γ d := by
  obtain ⟨f, fd, h1, h2, h3, h4⟩ := D
  refine pe_imp (pe_call (E := fun _ _ _ => False) h4 hr hg h1 h2 h3 .nil pass0 ha hdb he hpl) fun σ H Q ⟨E, q⟩ => ⟨E, fun vs H1 s1 q1 => ?_⟩
  show spNd X.K n Pr (vs ++ []) H1 Q _
  rw [List.append_nil]
  exact ⟨d1 :: ds, d, by rw [dpa_length q1]; exact hn, q1, hP, fun v H2 s2 q2 => q v H2 (s1.trans s2) q2⟩
end
section
variable {P : Program} {w : World}
variable {K : PySem.W.Frag} {mg : Str → Option Value} {base : Heap}
theorem exP_len (L O : List Deed) (ok : exOk L O = true) : ∀ i, i ≤ O.length → (exP L O i).1.length = L.length
  | 0, _ => rfl
  | i + 1, h => by
    have hi := List.all_eq_true.mp ok i (List.mem_range.mpr h)
    rw [Bool.and_eq_true] at hi
    show (swapsM _ _).length = _
    rw [swapsM_len _ _ hi.2, exP_len L O ok i (by omega)]
theorem swapsOk_take : ∀ (ms : List Int) (p : List Deed) (k : Nat), swapsOk p ms = true → swapsOk p (ms.take k) = true
  | _, _, 0, _ => rfl
  | [], _, _ + 1, _ => rfl
  | m :: ms, p, k + 1, ok => by
    simp only [List.take_succ_cons, swapsOk, Bool.and_eq_true] at ok ⊢
    exact ⟨ok.1, ok.2.1, ok.2.2.1, swapsOk_take ms _ k ok.2.2.2⟩
theorem placesM_len (a b : Nat) : (placesM a b).length ≤ a := by
  unfold placesM downM
  rw [List.length_map]
  rw [List.length_range]
  omega
theorem exP_len2 (L O : List Deed) (ok : exOk L O = true) : ∀ i, i ≤ O.length → (exP L O i).2.length ≤ L.length * i
  | 0, _ => Nat.zero_le _
  | i + 1, h => by
    have ih := exP_len2 L O ok i (by omega)
    have hi := List.all_eq_true.mp ok i (List.mem_range.mpr h)
    rw [Bool.and_eq_true] at hi
    have hm := of_decide_eq_true hi.1
    have x := idx_first _ _ i hm
    have hl := exP_len L O ok i (by omega)
    show (_ ++ placesM _ _).length ≤ _
    rw [List.length_append]
    have h2 := placesM_len (idxM (exP L O i).1 (O.getD i (.crash 0)) i) i
    have h3 := x.2.1
    rw [Nat.mul_succ]
    omega
theorem noW_demote : ∀ Γ : G, noW (Γ.map demote) = true
  | [] => rfl
  | g :: Γ => by
    have ih := noW_demote Γ
    cases g with
    | c d =>
      show noW ((if pureD d = true then SV.c d else SV.n) :: Γ.map demote) = true
      by_cases p : pureD d = true
      · rw [if_pos p]
        exact ih
      · rw [if_neg p]
        exact ih
    | _ => exact ih
theorem ok_ex (R : RawD K mg "exchanges" sEx) (B : Bi mg) (hen : mg "enumerate" = none) (D1 : Def P w K mg base "places_from" 1 ["place", "target"] (spF K 2 pPl)) (D2 : Def P w K mg base "exchanged" 3 ["deeds", "place"] (spNd K 2 pExd)) : Def P w K mg base "exchanges" 4 ["deeds", "others"] (spEx K) := by
  obtain ⟨f, fd, h1, F⟩ := R
  refine ⟨f, fd, h1, F.kp, F.binds (fun _ _ _ _ _ _ us hl => match us, hl with | [_, _], _ => rfl), F.ok sc_ex (fun vs H Q E h => ?_) (fun cdv A outer s H vs Q E hr h => ?_)⟩
  · obtain ⟨L, O, v1, v2, rfl, _⟩ := h
    rfl
  · obtain ⟨L, O, v1, v2, rfl, nd, d2, hlen, hl, ok, k⟩ := h
    refine ⟨tS K (.pu H) [.x (NdF K (dDeeds L)), .c (dDeeds O), .n, .n, .n, .n, .n, .n] (fun _ => False) (fun q _ => q = .d (dInts (exP L O O.length).2)), ?_, ⟨H, Off.refl _, Same.refl _, rfl, fun i g hg => ?_⟩, fun Γ' σ' H' H0 kt e n => n.elim, ⟨fun Γ' σ' v d H' H0 e q z => ?_, fun _ _ _ _ _ _ _ _ _ _ _ z => (nomatch z), fun _ _ _ _ _ _ _ _ _ _ z => (nomatch z), fun _ _ _ _ _ _ _ _ z => (nomatch z), fun _ _ _ _ _ _ _ _ z => (nomatch z)⟩⟩
    · have hlD : ∀ l : List Deed, (l.map dDeed).length = l.length := fun l => List.length_map _
      refine xss_cons (xs_ifF (xt_neS (xe_eq (xe_lenT B.len (xe_ofN (xn_var 0 rfl (fun _ _ h => h)))) (show _ = PyData.int (L.length : Int) by rw [hlD])) (xe_eq (xe_lenT B.len (xe_var 1 rfl)) (show _ = PyData.int (L.length : Int) by rw [hlD, hlen])) rfl) (by show (!decide ((L.length : Int) = (L.length : Int))) = false; simp) (xss_nil ?_))
      refine xss_cons (xs_setN 2 (xn_var 0 rfl (fun _ _ h => h)) (pureAll_map pureDeed L) rfl ?_ sc_ex.nd)
      refine xss_cons (xs_setF 3 (xf_lst xa_nil (by decide)) rfl rfl ?_ sc_ex.nd)
      refine xss_cons (xs_for (.tp [4, 5]) (fun i Γ => ∃ s4 s5 s6 s7, noW [s4, s5, s6, s7] = true ∧ Γ = [.x (NdF K (dDeeds L)), .b (dDeeds O), .x (NdF K (dDeeds (exP L O i).1)), .o ((exP L O i).2.map .int), s4, s5, s6, s7]) (xi_enT hen (xe_var 1 rfl) (pureAll_map pureDeed O)) (pg_tup rfl (pgs_cons (pg_name (i := 4) sc_ex.nd rfl (Or.inl rfl)) (pgs_cons (pg_name (i := 5) sc_ex.nd rfl (Or.inl rfl)) pgs_nil))) ⟨_, _, _, _, rfl, rfl⟩ ?_ ?_ rfl PassesOwn.never)
      · rintro i y Γi hy ⟨s4, s5, s6, s7, hw, rfl⟩
        have hiO : i < O.length := by
          have := (List.getElem?_eq_some_iff.mp hy).1
          rw [enumD_len, hlD] at this
          exact this
        obtain ⟨d, hd⟩ : ∃ d, d = O.getD i (.crash 0) := ⟨_, rfl⟩
        have hget : O[i]? = some d := by rw [hd, List.getD_eq_getElem?_getD, List.getElem?_eq_getElem hiO]; rfl
        obtain rfl : y = .tuple [.int (i : Nat), dDeed d] := by
          have := enumD_get (ds := O.map dDeed) (i := i) (d := dDeed d) (by rw [List.getElem?_map, hget]; rfl)
          rw [hy] at this
          exact Option.some.inj this
        have hi := List.all_eq_true.mp ok i (List.mem_range.mpr hiO)
        rw [Bool.and_eq_true, ← hd] at hi
        obtain ⟨hmem, hsw⟩ := hi
        have hmem := of_decide_eq_true hmem
        obtain ⟨x1, x2, x3, x4⟩ := idx_first _ d i hmem
        have hpl := exP_len L O ok i (by omega)
        obtain ⟨p, hp⟩ : ∃ p, p = (exP L O i).1 := ⟨_, rfl⟩
        obtain ⟨ff, hff⟩ : ∃ ff, ff = (exP L O i).2 := ⟨_, rfl⟩
        obtain ⟨j, hj⟩ : ∃ j, j = idxM (exP L O i).1 d i := ⟨_, rfl⟩
        rw [← hj] at x1 x2 x3 x4 hsw
        rw [← hp] at x2 x3 x4 hsw hpl hmem
        have e1 : exP L O (i + 1) = (swapsM p (placesM j i), ff ++ placesM j i) := by
          show (swapsM _ _, _ ++ _) = _
          rw [← hd, ← hj, ← hp, ← hff]
        rw [e1, ← hp, ← hff]
        refine ⟨_, rfl, ?_⟩
        have hw7 : noW [s7] = true := by
          cases s4 <;> first | (cases hw; done) | (cases s5 <;> first | (cases hw; done) | (cases s6 <;> first | (cases hw; done) | exact hw))
        have hu : ∀ A : Around, Room 3 A → A.units + 65 < cLine := fun A r => hu65 r
        refine xss_cons (xs_ifF (xt_notInT (hu65 hr) (xe_var 5 rfl) (xe_eq (xe_slT (xe_ofN (xn_var 2 rfl (fun _ _ h => h))) (xo_some (xe_var 4 rfl)) xo_none) (show _ = dDeeds (p.drop i) by rw [cut_from]; unfold dDeeds; rw [List.map_drop])) (shaped_deed d) (shaped_deeds _)) (by rw [any_deed, decide_eq_true hmem]; rfl) (xss_nil ?_))
        refine xss_cons (xs_setL 6 (xd_callF D1 (hr.mono (by decide)) (xa_cons (xe_index3 (j := j) (lo := i) (hu65 hr) (xn_var 2 rfl (fun _ _ h => h)) (xe_var 5 rfl) (xe_var 4 rfl) (shaped_deeds p) (shaped_deed d) x1 (by rw [hlD]; exact x2) ?_ ?_) (xa_cons (xe_var 4 rfl) xa_nil)) ⟨j, i, rfl, by omega, by omega, rfl⟩) ?_ sc_ex.nd)
        · intro y hy
          rw [List.getElem?_map, x3] at hy
          cases hy
          rw [deed_eqv]
          exact decide_eq_true rfl
        · intro m h1 h2 y hy
          rw [List.getElem?_map] at hy
          cases q : p[m]? with
          | none => rw [q] at hy; cases hy
          | some z =>
            rw [q] at hy
            cases hy
            rw [deed_eqv]
            exact decide_eq_false (x4 m h1 h2 z q)
        refine xss_cons (xs_forL (pt := ⟨0, 0, 0, 0⟩) 6 rfl (.nm 7) (fun k Γ => ∃ s7, noW [s7] = true ∧ Γ = [.x (NdF K (dDeeds L)), .b (dDeeds O), .x (NdF K (dDeeds (swapsM p ((placesM j i).take k)))), .o (ff.map .int), .c (.int (i : Int)), .c (dDeed d), .x (LstF (placesM j i)), s7]) (pg_name (i := 7) sc_ex.nd rfl (Or.inl rfl)) ⟨_, hw7, rfl⟩ rfl ?_ ?_ rfl PassesOwn.never)
        · rintro hh kk n Γi hn ⟨s7', hw7', rfl⟩
          obtain ⟨y1, y2, y3, y4⟩ := swaps_take p _ kk n hsw hn
          obtain ⟨m, rfl⟩ : ∃ m : Nat, n = (m : Int) := ⟨n.toNat, by omega⟩
          rw [Int.toNat_natCast] at y2 y3 y4
          rw [y4]
          have hpl2 : (swapsM p ((placesM j i).take kk)).length = p.length := swapsM_len _ _ (swapsOk_take _ _ kk hsw)
          refine ⟨_, rfl, ?_⟩
          refine xss_cons (xs_setN 2 (xn_call D2 hr (xa_cons (xe_ofN (xn_var 2 rfl (fun _ _ h => h))) (xa_cons (xe_var 7 rfl) xa_nil)) ⟨_, m, rfl, y2, by omega, y3, rfl⟩) (pureAll_map pureDeed _) rfl ?_ sc_ex.nd)
          exact xss_one (xs_ifF (xt_isN (xe_ofN (xn_var 2 rfl (fun _ _ h => h)))) rfl (xss_nil ⟨_, rfl, rfl⟩))
        · rintro Γ' ⟨s7', hw7', rfl⟩
          rw [List.take_length]
          refine xss_one (xs_extendL 3 6 rfl rfl ?_ ⟨demote (.c (.int i)), demote (.c (dDeed d)), .x (LstF (placesM j i)), demote s7', noW_demote [.c (.int i), .c (dDeed d), .x (LstF (placesM j i)), s7'], by rw [List.map_append]; rfl⟩ (ps_expr (pe_bm PySem.F.plainAttrs_list PySem.F.slot_list_extend PySem.F.type_list_extend mt_extend (pv 3) (pa_cons (pv 6) pa_nil))))
          rw [List.length_map, hff]
          have z1 := exP_len2 L O ok i (by omega)
          have z2 := placesM_len j i
          have z3 : L.length * i ≤ 100 * 100 := Nat.mul_le_mul (by omega) (by omega)
          omega
      · rintro Γ' ⟨s4, s5, s6, s7, hw, rfl⟩
        refine xss_one (xs_ret (xe_tupleL B.tuple (xe_var 3 rfl)) ?_)
        rw [enumD_len, hlD]
        rfl
    · match i, hg with
      | 0, hg =>
        cases hg
        exact ⟨_, rfl, v1, rfl, fun H1 s1 => ⟨dp_mono s1 _ _ nd.1, nd.2.mono s1⟩⟩
      | 1, hg =>
        cases hg
        exact ⟨_, rfl, v2, rfl, d2⟩
      | 2, hg => cases hg; exact ⟨_, rfl, trivial⟩
      | 3, hg => cases hg; exact ⟨_, rfl, trivial⟩
      | 4, hg => cases hg; exact ⟨_, rfl, trivial⟩
      | 5, hg => cases hg; exact ⟨_, rfl, trivial⟩
      | 6, hg => cases hg; exact ⟨_, rfl, trivial⟩
      | 7, hg => cases hg; exact ⟨_, rfl, trivial⟩
      | i + 8, hg => simp at hg
    · cases z
      exact k v H' (e.sb.same.trans e.s0) q
end
end TC
namespace TC
open PySem L2
/-! ### the law's model: the mirror -/
structure LMem where
  inc : Int
  set : Set2
  seed : Int
  steps : List Set2
  score : Option Int
  saves : List (Option (Int × List Set2))
  hset : Set2
  hseed : Int
  hsteps : List Set2
  hpair : Option (Int × Int)
  stop : Bool
structure LMod where
  mem : List (Int × LMem)
  spent : Int
def lrunM (S : LMod) (t : Int) : Except Str LMem := match lookM S.mem t with
  | none => .error "no such trial"
  | some m => if m.stop then .error "trial is stopped" else .ok m
def lpresM (S : LMod) (t i : Int) : Except Str LMem := match lrunM S t with
  | .error s => .error s
  | .ok m => if m.inc = i then .ok m else .error "incarnation is over"
def lsaves (S : LMod) (t : Int) : List (Option (Int × List Set2)) := match lookM S.mem t with
  | some m => m.saves
  | none => []
def lsavedM (S : LMod) (t x : Int) : Except Str (Int × List Set2) := if 0 ≤ x ∧ x < (lsaves S t).length then (match (lsaves S t).getD x.toNat none with
    | some n => .ok n
    | none => .error "no such save") else .error "no such save"
def LMod.keep (S : LMod) (t : Int) (m : LMem) : LMod := { S with mem := putM t m S.mem }
def lneeded (S : LMod) : List (Int × Int) := S.mem.filterMap fun p => if p.2.stop then none else p.2.hpair
def lnew (s : Int) (r : Set2) : LMem := ⟨1, r, s, [], none, [], r, s, [], none, false⟩
def ldo (tr va : List Ex) (n : Nat) (S : LMod) : Deed → LMod × Out
  | .found t s r m => match lookM S.mem t with
    | some _ => (S, .no "trial exists")
    | none => (S.keep t (lnew s (r, m)), .ok (.int 1))
  | .train t i k => match lpresM S t i with
    | .error s => (S, .no s)
    | .ok m => ({ S.keep t { m with steps := m.steps ++ List.replicate k.toNat m.set } with spent := S.spent + k }, .ok (.int ((m.steps.length : Int) + k)))
  | .save t i => match lpresM S t i with
    | .error s => (S, .no s)
    | .ok m => (S.keep t { m with saves := m.saves ++ [some (m.seed, m.steps)], hset := m.set, hseed := m.seed, hsteps := m.steps, hpair := some (t, (m.saves.length : Int)) }, .ok (.int (m.saves.length : Int)))
  | .crash t => match lrunM S t with
    | .error s => (S, .no s)
    | .ok m => (S.keep t { m with inc := m.inc + 1, set := m.hset, seed := m.hseed, steps := m.hsteps }, .ok (.int (m.inc + 1)))
  | .evaluate t i => match lpresM S t i with
    | .error s => (S, .no s)
    | .ok m => (S.keep t { m with score := some (scoreM va (lwM tr m.seed m.steps n)) }, .ok (.int (scoreM va (lwM tr m.seed m.steps n))))
  | .copy t i d x r g => match lpresM S t i with
    | .error s => (S, .no s)
    | .ok m => match lsavedM S d x with
      | .error s => (S, .no s)
      | .ok w => (S.keep t { m with seed := w.1, steps := w.2, set := (r, g), score := none, hset := (r, g), hseed := w.1, hsteps := w.2, hpair := some (d, x) }, .ok (.int (w.2.length : Int)))
  | .stop t i => match lpresM S t i with
    | .error s => (S, .no s)
    | .ok m => (S.keep t { m with stop := true }, .ok .none)
  | .drop t x => match lookM S.mem t with
    | none => (S, .no "no such trial")
    | some m => match lsavedM S t x with
      | .error s => (S, .no s)
      | .ok _ => if (t, x) ∈ lneeded S then (S, .no "save is needed") else (S.keep t { m with saves := m.saves.set x.toNat none }, .ok .none)
def lafter (tr va : List Ex) (n : Nat) (S : LMod) : List Deed → LMod
  | [] => S
  | d :: ds => lafter tr va n (ldo tr va n S d).1 ds
def louts (tr va : List Ex) (n : Nat) (S : LMod) : List Deed → List Out
  | [] => []
  | d :: ds => (ldo tr va n S d).2 :: louts tr va n (ldo tr va n S d).1 ds

/-! ### steps written out -/
def expM (st : List Str3) : List Set2 := (st.map fun s => List.replicate s.2.2 (s.1, s.2.1)).flatten
theorem expM_append (a b : List Str3) : expM (a ++ b) = expM a ++ expM b := by
  unfold expM
  rw [List.map_append, List.flatten_append]
theorem expM_one (s : Str3) : expM [s] = List.replicate s.2.2 (s.1, s.2.1) := by
  unfold expM
  simp
theorem expM_step (acc : List Str3) (s : Str3) : expM (joinStep acc s) = expM acc ++ expM [s] := by
  unfold joinStep
  split
  · rename_i l hl
    split
    · rename_i hc
      have e : acc = acc.dropLast ++ [l] := by
        obtain ⟨ne, h⟩ := List.getLast?_eq_some_iff.mp hl
        rw [h]
        simp
      rw [expM_append]
      conv => rhs; rw [e, expM_append]
      rw [List.append_assoc, expM_one, expM_one, expM_one, hc.1, hc.2, List.replicate_append_replicate, Nat.add_comm]
    · rw [expM_append]
  · rename_i hl
    rw [List.getLast?_eq_none_iff] at hl
    subst hl
    rfl
theorem expM_join (st : List Str3) : expM (joinM st) = expM st := by
  have key : ∀ (l acc : List Str3), expM (l.foldl joinStep acc) = expM acc ++ expM l := by
    intro l
    induction l with
    | nil => intro acc; simp [expM]
    | cons x l ih =>
      intro acc
      rw [List.foldl_cons, ih, expM_step, List.append_assoc, ← expM_append]
      rfl
  have := key st []
  simpa [joinM, expM] using this
theorem expM_len (st : List Str3) : (expM st).length = posM st := by
  unfold expM posM
  rw [List.length_flatten, List.map_map]
  congr 1
  refine List.map_congr_left fun s _ => ?_
  exact List.length_replicate
theorem lwRun_pre (es : List Ex) (seed : Int) (st l : List Set2) (n : Nat) : ∀ p, p ≤ st.length → lwRun es seed (st ++ l) n p = lwRun es seed st n p
  | 0, _ => rfl
  | p + 1, h => by
    show wStep es seed p (lwRun es seed (st ++ l) n p) _ _ = wStep es seed p (lwRun es seed st n p) _ _
    rw [lwRun_pre es seed st l n p (by omega)]
    have e : (st ++ l).getD p (0, 0) = st.getD p (0, 0) := by
      rw [List.getD_eq_getElem?_getD, List.getElem?_append_left (by omega), List.getD_eq_getElem?_getD]
    rw [e]
theorem lwM_more (es : List Ex) (seed : Int) (st : List Set2) (n k : Nat) (s : Set2) : lwM es seed (st ++ List.replicate k s) n = trainM es seed st.length (lwM es seed st n) s.1 s.2 k := by
  have key : ∀ i, i ≤ k → lwRun es seed (st ++ List.replicate k s) n (st.length + i) = trainM es seed st.length (lwM es seed st n) s.1 s.2 i := by
    intro i
    induction i with
    | zero =>
      intro _
      exact lwRun_pre es seed st _ n st.length (Nat.le_refl _)
    | succ i ih =>
      intro h
      show wStep es seed (st.length + i) (lwRun es seed (st ++ List.replicate k s) n (st.length + i)) ((st ++ List.replicate k s).getD (st.length + i) (0, 0)).1 ((st ++ List.replicate k s).getD (st.length + i) (0, 0)).2 = wStep es seed (st.length + i) _ _ _
      rw [ih (by omega)]
      have e : (st ++ List.replicate k s).getD (st.length + i) (0, 0) = s := by
        rw [List.getD_eq_getElem?_getD, List.getElem?_append_right (by omega), Nat.add_sub_cancel_left, List.getElem?_replicate, if_pos (by omega)]
        rfl
      rw [e]
  have h := key k (Nat.le_refl k)
  unfold lwM at h ⊢
  rw [List.length_append]
  rw [List.length_replicate]
  exact h

/-! ### the program's population as the law's model -/
def absN (w : Now) : Int × List Set2 := (w.seed, expM w.st)
def absMem (m : Mem) : LMem := ⟨m.inc, m.set, m.now.seed, expM m.now.st, m.score, m.shelf.map (Option.map absN), m.hset, m.hnow.seed, expM m.hnow.st, m.hpair, m.stop⟩
def absPop (S : PopM) : LMod := ⟨S.mem.map fun p => (p.1, absMem p.2), S.spent⟩
theorem lookM_map {α β : Type} (f : α → β) (t : Int) : ∀ l : List (Int × α), lookM (l.map fun p => (p.1, f p.2)) t = (lookM l t).map f
  | [] => rfl
  | (u, x) :: r => by
    have ih := lookM_map f t r
    unfold lookM at ih ⊢
    rw [List.map_cons, List.find?_cons, List.find?_cons]
    by_cases h : u = t
    · simp [h]
    · simp only [h, decide_false]
      exact ih
theorem putM_map {α β : Type} (f : α → β) (t : Int) (m : α) : ∀ l : List (Int × α), (putM t m l).map (fun p => (p.1, f p.2)) = putM t (f m) (l.map fun p => (p.1, f p.2))
  | [] => rfl
  | (u, x) :: r => by
    have ih := putM_map f t m r
    rw [List.map_cons]
    unfold putM
    split
    · rfl
    · rw [List.map_cons, ih]
theorem abs_look (S : PopM) (t : Int) : lookM (absPop S).mem t = (lookM S.mem t).map absMem := lookM_map absMem t S.mem
theorem abs_keep (S : PopM) (t : Int) (m : Mem) : absPop (S.keep t m) = (absPop S).keep t (absMem m) := by
  show LMod.mk _ _ = LMod.mk _ _
  rw [show (S.keep t m).mem = putM t m S.mem from rfl, putM_map]
  rfl
theorem abs_run (S : PopM) (t : Int) : lrunM (absPop S) t = (match runningM S t with | .ok m => .ok (absMem m) | .error s => .error s) := by
  unfold lrunM runningM memberM
  rw [abs_look]
  cases lookM S.mem t with
  | none => rfl
  | some m =>
    show (if m.stop = true then _ else _) = _
    dsimp only
    split <;> rfl
theorem abs_pres (S : PopM) (t i : Int) : lpresM (absPop S) t i = (match presentM S t i with | .ok m => .ok (absMem m) | .error s => .error s) := by
  unfold lpresM presentM
  rw [abs_run]
  cases runningM S t with
  | error s => rfl
  | ok m =>
    show (if m.inc = i then _ else _) = _
    dsimp only
    split <;> rfl
theorem abs_saves (S : PopM) (t : Int) : lsaves (absPop S) t = (shelfOf S t).map (Option.map absN) := by
  unfold lsaves shelfOf
  rw [abs_look]
  cases lookM S.mem t <;> rfl
theorem abs_saved (S : PopM) (t x : Int) : lsavedM (absPop S) t x = (match savedM S t x with | .ok w => .ok (absN w) | .error s => .error s) := by
  unfold lsavedM savedM
  rw [abs_saves, List.length_map]
  split
  · rw [List.getD_eq_getElem?_getD, List.getElem?_map, List.getD_eq_getElem?_getD]
    cases (shelfOf S t)[x.toNat]? with
    | none => rfl
    | some o => cases o <;> rfl
  · rfl
theorem abs_needed (S : PopM) : lneeded (absPop S) = neededM S := by
  unfold lneeded neededM absPop
  rw [List.filterMap_map]
  rfl
def WsN (tr : List Ex) (n : Nat) (w : Now) : Prop := w.ws = lwM tr w.seed (expM w.st) n
structure WsM (tr : List Ex) (n : Nat) (m : Mem) : Prop where
  now : WsN tr n m.now
  hn : WsN tr n m.hnow
  sh : ∀ w, some w ∈ m.shelf → WsN tr n w
def WsOk (n : Nat) (S : PopM) : Prop := ∀ p ∈ S.mem, WsM S.tr n p.2
theorem WsOk.keep {n : Nat} {S : PopM} {t : Int} {m : Mem} (h : WsOk n S) (hm : WsM S.tr n m) : WsOk n (S.keep t m) := fun p hp => by
  rcases putM_in hp with e | e
  · rw [e]
    exact hm
  · exact h p e
theorem lookM_in {α : Type} {l : List (Int × α)} {t : Int} {m : α} (h : lookM l t = some m) : (t, m) ∈ l := by
  unfold lookM at h
  obtain ⟨p, h1, h2⟩ := Option.map_eq_some_iff.mp h
  have h3 := List.find?_some h1
  have h4 := List.mem_of_find?_eq_some h1
  have h3 : p.1 = t := of_decide_eq_true h3
  rw [← h3, ← h2]
  exact h4
theorem runM_look {S : PopM} {t : Int} {m : Mem} (h : runningM S t = .ok m) : lookM S.mem t = some m := by
  unfold runningM memberM at h
  cases q : lookM S.mem t with
  | none => rw [q] at h; cases h
  | some x =>
    rw [q] at h
    dsimp only at h
    split at h
    · cases h
    · cases h
      rfl
theorem presM_look {S : PopM} {t i : Int} {m : Mem} (h : presentM S t i = .ok m) : lookM S.mem t = some m := by
  unfold presentM at h
  cases q : runningM S t with
  | error s => rw [q] at h; cases h
  | ok x =>
    rw [q] at h
    dsimp only at h
    split at h
    · cases h
      exact runM_look q
    · cases h
theorem savedM_in {S : PopM} {t x : Int} {w : Now} (h : savedM S t x = .ok w) : ∃ m, lookM S.mem t = some m ∧ some w ∈ m.shelf := by
  unfold savedM at h
  split at h
  · rename_i hx
    cases q : lookM S.mem t with
    | none =>
      unfold shelfOf at hx
      rw [q] at hx
      simp at hx
      omega
    | some m =>
      have e : shelfOf S t = m.shelf := by unfold shelfOf; rw [q]
      rw [e] at h hx
      refine ⟨m, rfl, ?_⟩
      have hl : x.toNat < m.shelf.length := by omega
      rw [List.getD_eq_getElem?_getD, List.getElem?_eq_getElem hl] at h
      cases q2 : m.shelf[x.toNat] with
      | none => rw [show (some m.shelf[x.toNat]).getD none = m.shelf[x.toNat] from rfl, q2] at h; cases h
      | some w' =>
        rw [show (some m.shelf[x.toNat]).getD none = m.shelf[x.toNat] from rfl, q2] at h
        cases h
        rw [← q2]
        exact List.getElem_mem hl
  · cases h
/-- one deed, in both -/
theorem sim {n B : Nat} {S : PopM} {d : Deed} (h : PopOk n B S) (dk : DeedOk d) (ws : WsOk n S) : ldo S.tr S.va n (absPop S) d = (absPop (doM S d).1, (doM S d).2) ∧ WsOk n (doM S d).1 ∧ (doM S d).1.tr = S.tr ∧ (doM S d).1.va = S.va := by
  obtain ⟨fs, lab, es, htr, hfs⟩ := ex_head h.tr
  have hn : (S.tr.getD 0 ([], 0)).1.length = n := by rw [htr]; exact hfs
  cases d with
  | found t s r m =>
    simp only [ldo, doM, abs_look]
    cases q : lookM S.mem t with
    | some x => exact ⟨rfl, ws, rfl, rfl⟩
    | none =>
      refine ⟨?_, ws.keep ⟨?_, ?_, fun w hw => (List.not_mem_nil hw).elim⟩, rfl, rfl⟩
      · show (_, _) = (_, _)
        rw [abs_keep]
        rfl
      · show List.replicate _ 0 = List.replicate n 0
        rw [hn]
      · show List.replicate _ 0 = List.replicate n 0
        rw [hn]
  | train t i k =>
    simp only [ldo, doM, abs_pres]
    cases q : presentM S t i with
    | error s => exact ⟨rfl, ws, rfl, rfl⟩
    | ok m =>
      have wm := ws _ (lookM_in (presM_look q))
      have e1 : expM (joinM (m.now.st ++ [(m.set.1, m.set.2, k.toNat)])) = expM m.now.st ++ List.replicate k.toNat m.set := by
        rw [expM_join, expM_append, expM_one]
      have e2 : (absMem m).steps.length = posM m.now.st := expM_len _
      refine ⟨?_, WsOk.keep (S := S) ws ⟨?_, wm.hn, wm.sh⟩, rfl, rfl⟩
      · dsimp only
        rw [e2]
        refine Prod.ext ?_ rfl
        show LMod.mk (putM t _ _) _ = LMod.mk (List.map _ (putM t _ _)) _
        rw [putM_map]
        congr 2
        unfold absMem
        dsimp only
        rw [e1]
      · show trainM _ _ _ _ _ _ _ = lwM _ _ (expM (joinM _)) n
        rw [e1, lwM_more, expM_len, ← wm.now]
  | save t i =>
    simp only [ldo, doM, abs_pres]
    cases q : presentM S t i with
    | error s => exact ⟨rfl, ws, rfl, rfl⟩
    | ok m =>
      have wm := ws _ (lookM_in (presM_look q))
      have e2 : (absMem m).saves.length = m.shelf.length := List.length_map _
      refine ⟨?_, ws.keep ⟨wm.now, wm.now, fun w hw => ?_⟩, rfl, rfl⟩
      · dsimp only
        rw [abs_keep, e2]
        refine Prod.ext ?_ rfl
        dsimp only
        congr 1
        unfold absMem
        dsimp only
        rw [List.map_append]
        rfl
      · rcases List.mem_append.mp hw with e | e
        · exact wm.sh w e
        · rw [List.mem_singleton] at e
          cases e
          exact wm.now
  | crash t =>
    simp only [ldo, doM, abs_run]
    cases q : runningM S t with
    | error s => exact ⟨rfl, ws, rfl, rfl⟩
    | ok m =>
      have wm := ws _ (lookM_in (runM_look q))
      refine ⟨?_, ws.keep ⟨wm.hn, wm.hn, wm.sh⟩, rfl, rfl⟩
      dsimp only
      rw [abs_keep]
      rfl
  | evaluate t i =>
    simp only [ldo, doM, abs_pres]
    cases q : presentM S t i with
    | error s => exact ⟨rfl, ws, rfl, rfl⟩
    | ok m =>
      have wm := ws _ (lookM_in (presM_look q))
      refine ⟨?_, ws.keep ⟨wm.now, wm.hn, wm.sh⟩, rfl, rfl⟩
      dsimp only
      rw [abs_keep]
      have e : lwM S.tr (absMem m).seed (absMem m).steps n = m.now.ws := wm.now.symm
      rw [e]
      rfl
  | copy t i dn x r g =>
    simp only [ldo, doM, abs_pres, abs_saved]
    cases q : presentM S t i with
    | error s => exact ⟨rfl, ws, rfl, rfl⟩
    | ok m =>
      have wm := ws _ (lookM_in (presM_look q))
      dsimp only
      cases q2 : savedM S dn x with
      | error s => exact ⟨rfl, ws, rfl, rfl⟩
      | ok w =>
        obtain ⟨m2, h1, h2⟩ := savedM_in q2
        have ww := (ws _ (lookM_in h1)).sh w h2
        refine ⟨?_, ws.keep ⟨ww, ww, wm.sh⟩, rfl, rfl⟩
        dsimp only
        rw [abs_keep]
        have e : (absN w).2.length = posM w.st := expM_len _
        rw [e]
        rfl
  | stop t i =>
    simp only [ldo, doM, abs_pres]
    cases q : presentM S t i with
    | error s => exact ⟨rfl, ws, rfl, rfl⟩
    | ok m =>
      have wm := ws _ (lookM_in (presM_look q))
      refine ⟨?_, ws.keep ⟨wm.now, wm.hn, wm.sh⟩, rfl, rfl⟩
      dsimp only
      rw [abs_keep]
      rfl
  | drop t x =>
    simp only [ldo, doM, abs_look, abs_saved, memberM, abs_needed]
    cases q : lookM S.mem t with
    | none => exact ⟨rfl, ws, rfl, rfl⟩
    | some m =>
      have wm := ws _ (lookM_in q)
      dsimp only [Option.map_some]
      cases q2 : savedM S t x with
      | error s => exact ⟨rfl, ws, rfl, rfl⟩
      | ok w =>
        dsimp only
        by_cases hm : (t, x) ∈ neededM S
        · rw [if_pos hm, if_pos hm]
          exact ⟨rfl, ws, rfl, rfl⟩
        · rw [if_neg hm, if_neg hm]
          refine ⟨?_, ws.keep ⟨wm.now, wm.hn, fun w hw => ?_⟩, rfl, rfl⟩
          · dsimp only
            rw [abs_keep]
            unfold absMem
            dsimp only
            rw [List.map_set]
            rfl
          · rcases List.mem_or_eq_of_mem_set hw with e | e
            · exact wm.sh w e
            · cases e
theorem sims {n : Nat} : ∀ {ds : List Deed} {B : Nat} {S : PopM}, PopOk n B S → (∀ d ∈ ds, DeedOk d) → WsOk n S → louts S.tr S.va n (absPop S) ds = outsM S ds
  | [], _, _, _, _, _ => rfl
  | d :: ds, B, S, h, dk, ws => by
    obtain ⟨e, w2, e1, e2⟩ := sim h (dk d List.mem_cons_self) ws
    show (ldo S.tr S.va n (absPop S) d).2 :: louts S.tr S.va n (ldo S.tr S.va n (absPop S) d).1 ds = (doM S d).2 :: outsM (doM S d).1 ds
    rw [e]
    dsimp only
    have ih := sims (ds := ds) (popOk_do h (dk d List.mem_cons_self)) (fun x hx => dk x (List.mem_cons_of_mem _ hx)) w2
    rw [e1, e2] at ih
    rw [ih]
end TC
namespace TC
open PySem L2
/-! ### independent neighbours change places -/
theorem lookM_put {α : Type} (t u : Int) (m : α) : ∀ l : List (Int × α), lookM (putM t m l) u = if u = t then some m else lookM l u
  | [] => by
    unfold putM lookM
    by_cases h : u = t
    · simp [h]
    · simp [h, Ne.symm h]
  | (v, x) :: r => by
    have ih := lookM_put t u m r
    unfold putM
    by_cases h : v = t
    · rw [if_pos h]
      unfold lookM
      by_cases h2 : u = t
      · simp [h, h2]
      · have h3 : ¬ v = u := fun z => h2 (by rw [← z]; exact h)
        simp [h2, h3]
    · rw [if_neg h]
      unfold lookM at ih ⊢
      rw [List.find?_cons, List.find?_cons]
      by_cases h2 : v = u
      · have h3 : ¬ u = t := fun z => h (by rw [h2]; exact z)
        simp [h2, h3]
      · simp only [h2, decide_false]
        exact ih
theorem lookM_mem {α : Type} {p : Int × α} : ∀ {l : List (Int × α)}, (l.map (·.1)).Nodup → p ∈ l → lookM l p.1 = some p.2
  | (v, x) :: r, nd, h => by
    rw [List.map_cons] at nd
    rw [List.nodup_cons] at nd
    unfold lookM
    rw [List.find?_cons]
    obtain e | e := List.mem_cons.mp h
    · subst e
      simp
    · have h2 : ¬ v = p.1 := fun z => nd.1 (by
        show v ∈ r.map (·.1)
        rw [z]
        exact List.mem_map_of_mem e)
      simp only [h2, decide_false]
      exact lookM_mem nd.2 e
structure PEq (S T : PopM) : Prop where
  tr : S.tr = T.tr
  va : S.va = T.va
  sp : S.spent = T.spent
  mem : ∀ t, lookM S.mem t = lookM T.mem t
theorem PEq.refl (S : PopM) : PEq S S := ⟨rfl, rfl, rfl, fun _ => rfl⟩
theorem PEq.symm {S T : PopM} (h : PEq S T) : PEq T S := ⟨h.tr.symm, h.va.symm, h.sp.symm, fun t => (h.mem t).symm⟩
theorem PEq.trans {S T U : PopM} (h : PEq S T) (k : PEq T U) : PEq S U := ⟨h.tr.trans k.tr, h.va.trans k.va, h.sp.trans k.sp, fun t => (h.mem t).trans (k.mem t)⟩
theorem PEq.keep {S T : PopM} (h : PEq S T) (t : Int) (m : Mem) : PEq (S.keep t m) (T.keep t m) := ⟨h.tr, h.va, h.sp, fun u => by
  show lookM (putM t m S.mem) u = lookM (putM t m T.mem) u
  rw [lookM_put, lookM_put, h.mem]⟩
theorem PEq.shelf {S T : PopM} (h : PEq S T) (t : Int) : shelfOf S t = shelfOf T t := by
  unfold shelfOf
  rw [h.mem]
theorem PEq.saved {S T : PopM} (h : PEq S T) (t x : Int) : savedM S t x = savedM T t x := by
  unfold savedM
  rw [h.shelf]
theorem PEq.member {S T : PopM} (h : PEq S T) (t : Int) : memberM S t = memberM T t := by
  unfold memberM
  rw [h.mem]
theorem PEq.running {S T : PopM} (h : PEq S T) (t : Int) : runningM S t = runningM T t := by
  unfold runningM
  rw [h.member]
theorem PEq.present {S T : PopM} (h : PEq S T) (t i : Int) : presentM S t i = presentM T t i := by
  unfold presentM
  rw [h.running]
theorem needed_iff {S : PopM} (nd : (S.mem.map (·.1)).Nodup) (p : Int × Int) : p ∈ neededM S ↔ ∃ u m, lookM S.mem u = some m ∧ m.stop = false ∧ m.hpair = some p := by
  unfold neededM
  rw [List.mem_filterMap]
  constructor
  · rintro ⟨q, h1, h2⟩
    refine ⟨q.1, q.2, lookM_mem nd h1, ?_⟩
    cases e : q.2.stop with
    | true => rw [e] at h2; cases h2
    | false => rw [e] at h2; exact ⟨rfl, h2⟩
  · rintro ⟨u, m, h1, h2, h3⟩
    refine ⟨(u, m), lookM_in h1, ?_⟩
    rw [h2]
    exact h3
theorem PEq.needed {S T : PopM} (h : PEq S T) (n1 : (S.mem.map (·.1)).Nodup) (n2 : (T.mem.map (·.1)).Nodup) (p : Int × Int) : p ∈ neededM S ↔ p ∈ neededM T := by
  rw [needed_iff n1, needed_iff n2]
  simp only [h.mem]
theorem doM_congr {S T : PopM} (h : PEq S T) (n1 : (S.mem.map (·.1)).Nodup) (n2 : (T.mem.map (·.1)).Nodup) (d : Deed) : (doM S d).2 = (doM T d).2 ∧ PEq (doM S d).1 (doM T d).1 := by
  cases d with
  | found t s r m =>
    simp only [doM, h.mem, h.tr]
    cases lookM T.mem t with
    | some x => exact ⟨rfl, h⟩
    | none => exact ⟨rfl, h.keep _ _⟩
  | train t i k =>
    simp only [doM, h.present, h.tr, h.sp]
    cases presentM T t i with
    | error s => exact ⟨rfl, h⟩
    | ok m =>
      have z := h.keep t { m with now := ⟨m.now.seed, joinM (m.now.st ++ [(m.set.1, m.set.2, k.toNat)]), trainM T.tr m.now.seed (posM m.now.st) m.now.ws m.set.1 m.set.2 k.toNat⟩ }
      exact ⟨rfl, z.tr, z.va, rfl, z.mem⟩
  | save t i =>
    simp only [doM, h.present]
    cases presentM T t i with
    | error s => exact ⟨rfl, h⟩
    | ok m => exact ⟨rfl, h.keep _ _⟩
  | crash t =>
    simp only [doM, h.running]
    cases runningM T t with
    | error s => exact ⟨rfl, h⟩
    | ok m => exact ⟨rfl, h.keep _ _⟩
  | evaluate t i =>
    simp only [doM, h.present, h.va]
    cases presentM T t i with
    | error s => exact ⟨rfl, h⟩
    | ok m => exact ⟨rfl, h.keep _ _⟩
  | copy t i dn x r g =>
    simp only [doM, h.present, h.saved]
    cases presentM T t i with
    | error s => exact ⟨rfl, h⟩
    | ok m =>
      dsimp only
      cases savedM T dn x with
      | error s => exact ⟨rfl, h⟩
      | ok w => exact ⟨rfl, h.keep _ _⟩
  | stop t i =>
    simp only [doM, h.present]
    cases presentM T t i with
    | error s => exact ⟨rfl, h⟩
    | ok m => exact ⟨rfl, h.keep _ _⟩
  | drop t x =>
    simp only [doM, h.member, h.saved]
    cases memberM T t with
    | error s => exact ⟨rfl, h⟩
    | ok m =>
      dsimp only
      cases savedM T t x with
      | error s => exact ⟨rfl, h⟩
      | ok w =>
        dsimp only
        by_cases hm : (t, x) ∈ neededM T
        · rw [if_pos hm, if_pos ((h.needed n1 n2 _).mpr hm)]
          exact ⟨rfl, h⟩
        · rw [if_neg hm, if_neg (fun z => hm ((h.needed n1 n2 _).mp z))]
          exact ⟨rfl, h.keep _ _⟩

/-! ### what a deed does to its own trial -/
def runL (o : Option Mem) : Except Str Mem := match o with
  | none => .error "no such trial"
  | some m => if m.stop then .error "trial is stopped" else .ok m
def presL (o : Option Mem) (i : Int) : Except Str Mem := match runL o with
  | .error s => .error s
  | .ok m => if m.inc = i then .ok m else .error "incarnation is over"
def savedL (sh : List (Option Now)) (x : Int) : Except Str Now := if 0 ≤ x ∧ x < sh.length then (match sh.getD x.toNat none with
  | some n => .ok n
  | none => .error "no such save") else .error "no such save"
/-- the new member, the outcome, the steps -/
def locM (tr va : List Ex) (o : Option Mem) (sh : List (Option Now)) : Deed → Option Mem × Out × Int
  | .found t s r m => match o with
    | some _ => (none, .no "trial exists", 0)
    | none => (some (newMem (r, m) ⟨s, [], List.replicate (tr.getD 0 ([], 0)).1.length 0⟩), .ok (.int 1), 0)
  | .train t i k => match presL o i with
    | .error s => (none, .no s, 0)
    | .ok m => (some { m with now := ⟨m.now.seed, joinM (m.now.st ++ [(m.set.1, m.set.2, k.toNat)]), trainM tr m.now.seed (posM m.now.st) m.now.ws m.set.1 m.set.2 k.toNat⟩ }, .ok (.int ((posM m.now.st : Int) + k)), k)
  | .save t i => match presL o i with
    | .error s => (none, .no s, 0)
    | .ok m => (some { m with shelf := m.shelf ++ [some m.now], hset := m.set, hnow := m.now, hpair := some (t, (m.shelf.length : Int)) }, .ok (.int (m.shelf.length : Int)), 0)
  | .crash t => match runL o with
    | .error s => (none, .no s, 0)
    | .ok m => (some { m with inc := m.inc + 1, set := m.hset, now := m.hnow }, .ok (.int (m.inc + 1)), 0)
  | .evaluate t i => match presL o i with
    | .error s => (none, .no s, 0)
    | .ok m => (some { m with score := some (scoreM va m.now.ws) }, .ok (.int (scoreM va m.now.ws)), 0)
  | .copy t i d x r g => match presL o i with
    | .error s => (none, .no s, 0)
    | .ok m => match savedL sh x with
      | .error s => (none, .no s, 0)
      | .ok n => (some { m with now := n, set := (r, g), score := none, hset := (r, g), hnow := n, hpair := some (d, x) }, .ok (.int (posM n.st : Int)), 0)
  | .stop t i => match presL o i with
    | .error s => (none, .no s, 0)
    | .ok m => (some { m with stop := true }, .ok .none, 0)
  | .drop t x => (none, .no "", 0)
def applyM (S : PopM) (t : Int) (r : Option Mem × Out × Int) : PopM × Out := match r.1 with
  | none => (S, r.2.1)
  | some m => ({ S.keep t m with spent := S.spent + r.2.2 }, r.2.1)
def Deed.donor : Deed → Int
  | .copy _ _ d _ _ _ => d
  | _ => 0
def locS (S : PopM) (d : Deed) : Option Mem × Out × Int := locM S.tr S.va (lookM S.mem d.trial) (shelfOf S d.donor) d
theorem run_loc (S : PopM) (t : Int) : runningM S t = runL (lookM S.mem t) := by
  unfold runningM runL memberM
  cases lookM S.mem t <;> rfl
theorem pres_loc (S : PopM) (t i : Int) : presentM S t i = presL (lookM S.mem t) i := by
  unfold presentM presL
  rw [run_loc] <;> cases runL (lookM S.mem t) <;> rfl
theorem keep0 (S : PopM) (t : Int) (m : Mem) : S.keep t m = { S.keep t m with spent := S.spent + 0 } := by
  rw [Int.add_zero]
  rfl
theorem doM_loc (S : PopM) (d : Deed) (h : d.isDrop = false) : doM S d = applyM S d.trial (locS S d) := by
  cases d with
  | found t s r m =>
    simp only [doM, locS, locM, Deed.trial]
    cases lookM S.mem t with
    | some x => rfl
    | none => exact Prod.ext (keep0 _ _ _) rfl
  | train t i k =>
    simp only [doM, locS, locM, Deed.trial, pres_loc]
    cases presL (lookM S.mem t) i with
    | error s => rfl
    | ok m => rfl
  | save t i =>
    simp only [doM, locS, locM, Deed.trial, pres_loc]
    cases presL (lookM S.mem t) i with
    | error s => rfl
    | ok m => exact Prod.ext (keep0 _ _ _) rfl
  | crash t =>
    simp only [doM, locS, locM, Deed.trial, run_loc]
    cases runL (lookM S.mem t) with
    | error s => rfl
    | ok m => exact Prod.ext (keep0 _ _ _) rfl
  | evaluate t i =>
    simp only [doM, locS, locM, Deed.trial, pres_loc]
    cases presL (lookM S.mem t) i with
    | error s => rfl
    | ok m => exact Prod.ext (keep0 _ _ _) rfl
  | copy t i dn x r g =>
    simp only [doM, locS, locM, Deed.trial, Deed.donor, pres_loc]
    cases presL (lookM S.mem t) i with
    | error s => rfl
    | ok m =>
      dsimp only
      rw [show savedM S dn x = savedL (shelfOf S dn) x from rfl]
      cases savedL (shelfOf S dn) x with
      | error s => rfl
      | ok w => exact Prod.ext (keep0 _ _ _) rfl
  | stop t i =>
    simp only [doM, locS, locM, Deed.trial, pres_loc]
    cases presL (lookM S.mem t) i with
    | error s => rfl
    | ok m => exact Prod.ext (keep0 _ _ _) rfl
  | drop t x => cases h
theorem apply_look (S : PopM) (t u : Int) (r : Option Mem × Out × Int) : lookM (applyM S t r).1.mem u = if u = t then (match r.1 with | some m => some m | none => lookM S.mem u) else lookM S.mem u := by
  unfold applyM
  cases r.1 with
  | none =>
    dsimp only
    split <;> rfl
  | some m =>
    show lookM (putM t m S.mem) u = _
    rw [lookM_put]
/-- the shelf stays but under found and save -/
theorem runL_some {o : Option Mem} {m : Mem} (h : runL o = .ok m) : o = some m := by
  unfold runL at h
  cases o with
  | none => cases h
  | some x =>
    dsimp only at h
    split at h
    · cases h
    · cases h
      rfl
theorem presL_some {o : Option Mem} {i : Int} {m : Mem} (h : presL o i = .ok m) : o = some m := by
  unfold presL at h
  cases q : runL o with
  | error s => rw [q] at h; cases h
  | ok x =>
    rw [q] at h
    dsimp only at h
    split at h
    · cases h
      exact runL_some q
    · cases h
def Deed.shelves : Deed → Bool
  | .found .. => true
  | .save .. => true
  | .drop .. => true
  | _ => false
theorem loc_shelf {tr va : List Ex} {o : Option Mem} {sh : List (Option Now)} {d : Deed} {m' : Mem} (hd : d.shelves = false) (h : (locM tr va o sh d).1 = some m') : ∃ m, o = some m ∧ m'.shelf = m.shelf := by
  cases d with
  | found t s r m => cases hd
  | save t i => cases hd
  | drop t x => cases hd
  | train t i k =>
    unfold locM at h
    dsimp only at h
    split at h
    · cases h
    · rename_i m q
      cases h
      exact ⟨m, presL_some q, rfl⟩
  | crash t =>
    unfold locM at h
    dsimp only at h
    split at h
    · cases h
    · rename_i m q
      cases h
      exact ⟨m, runL_some q, rfl⟩
  | evaluate t i =>
    unfold locM at h
    dsimp only at h
    split at h
    · cases h
    · rename_i m q
      cases h
      exact ⟨m, presL_some q, rfl⟩
  | copy t i dn x r g =>
    unfold locM at h
    dsimp only at h
    split at h
    · cases h
    · rename_i m q
      split at h
      · cases h
      · cases h
        exact ⟨m, presL_some q, rfl⟩
  | stop t i =>
    unfold locM at h
    dsimp only at h
    split at h
    · cases h
    · rename_i m q
      cases h
      exact ⟨m, presL_some q, rfl⟩
theorem loc_sh {tr va : List Ex} {o : Option Mem} {sh sh' : List (Option Now)} {d : Deed} (h : (∃ t i dn x r g, d = .copy t i dn x r g) → sh = sh') : locM tr va o sh d = locM tr va o sh' d := by
  cases d with
  | copy t i dn x r g => rw [h ⟨_, _, _, _, _, _, rfl⟩]
  | _ => rfl
/-- a deed sees the same behind an independent one -/
theorem loc_free {S : PopM} {a b : Deed} (f : freeM a b = true) : locS (doM S a).1 b = locS S b := by
  unfold freeM at f
  simp only [Bool.and_eq_true, Bool.not_eq_true', Bool.or_eq_false_iff, decide_eq_false_iff_not] at f
  obtain ⟨⟨⟨ha, hb⟩, ht⟩, _, hc⟩ := f
  rw [doM_loc S a ha]
  obtain ⟨w, hw⟩ : ∃ w, w = locS S a := ⟨_, rfl⟩
  rw [← hw]
  have e1 : (applyM S a.trial w).1.tr = S.tr := by unfold applyM; cases w.1 <;> rfl
  have e2 : (applyM S a.trial w).1.va = S.va := by unfold applyM; cases w.1 <;> rfl
  unfold locS
  rw [e1, e2, apply_look, if_neg (fun z => ht z.symm)]
  refine loc_sh ?_
  rintro ⟨t, i, dn, x, r, g, rfl⟩
  show shelfOf _ dn = shelfOf S dn
  unfold shelfOf
  rw [apply_look]
  by_cases q : dn = a.trial
  · rw [if_pos q]
    have hs : a.shelves = false := by
      cases a with
      | found t2 s2 r2 m2 =>
        have q : dn = t2 := q
        simp [copiesM, q] at hc
      | save t2 i2 =>
        have q : dn = t2 := q
        simp [copiesM, q] at hc
      | drop t2 x2 => cases ha
      | _ => rfl
    cases e : w.1 with
    | none => rfl
    | some m' =>
      rw [hw] at e
      obtain ⟨m, h1, h2⟩ := loc_shelf hs e
      rw [q, h1]
      exact h2
  · rw [if_neg q]
theorem free_symm {a b : Deed} (f : freeM a b = true) : freeM b a = true := by
  unfold freeM at f ⊢
  simp only [Bool.and_eq_true, Bool.not_eq_true', Bool.or_eq_false_iff, decide_eq_false_iff_not] at f ⊢
  obtain ⟨⟨⟨ha, hb⟩, ht⟩, h1, h2⟩ := f
  exact ⟨⟨⟨hb, ha⟩, fun z => ht z.symm⟩, h2, h1⟩
theorem free_ne {a b : Deed} (f : freeM a b = true) : a ≠ b := fun z => by
  unfold freeM at f
  simp only [Bool.and_eq_true, Bool.not_eq_true', Bool.or_eq_false_iff, decide_eq_false_iff_not] at f
  exact f.1.2 (by rw [z])
theorem free_drop {a b : Deed} (f : freeM a b = true) : a.isDrop = false ∧ b.isDrop = false ∧ a.trial ≠ b.trial := by
  unfold freeM at f
  simp only [Bool.and_eq_true, Bool.not_eq_true', Bool.or_eq_false_iff, decide_eq_false_iff_not] at f
  exact ⟨f.1.1.1, f.1.1.2, f.1.2⟩
theorem apply_out (S : PopM) (t : Int) (r : Option Mem × Out × Int) : (applyM S t r).2 = r.2.1 := by
  unfold applyM
  cases r.1 <;> rfl
theorem apply_tr (S : PopM) (t : Int) (r : Option Mem × Out × Int) : (applyM S t r).1.tr = S.tr ∧ (applyM S t r).1.va = S.va := by
  unfold applyM
  cases r.1 <;> exact ⟨rfl, rfl⟩
def stepsOf (r : Option Mem × Out × Int) : Int := match r.1 with
  | none => 0
  | some _ => r.2.2
theorem apply_sp (S : PopM) (t : Int) (r : Option Mem × Out × Int) : (applyM S t r).1.spent = S.spent + stepsOf r := by
  unfold applyM stepsOf
  cases r.1 with
  | none => exact (Int.add_zero _).symm
  | some m => rfl
theorem commute {S : PopM} {a b : Deed} (f : freeM a b = true) : (doM (doM S a).1 b).2 = (doM S b).2 ∧ (doM (doM S b).1 a).2 = (doM S a).2 ∧ PEq (doM (doM S a).1 b).1 (doM (doM S b).1 a).1 := by
  obtain ⟨ha, hb, ht⟩ := free_drop f
  have e1 : doM (doM S a).1 b = applyM (doM S a).1 b.trial (locS S b) := by rw [doM_loc _ b hb, loc_free f]
  have e2 : doM (doM S b).1 a = applyM (doM S b).1 a.trial (locS S a) := by rw [doM_loc _ a ha, loc_free (free_symm f)]
  refine ⟨by rw [e1, doM_loc S b hb, apply_out, apply_out], by rw [e2, doM_loc S a ha, apply_out, apply_out], ?_⟩
  rw [e1, e2, doM_loc S a ha, doM_loc S b hb]
  refine ⟨?_, ?_, ?_, fun u => ?_⟩
  · rw [(apply_tr _ _ _).1, (apply_tr _ _ _).1, (apply_tr _ _ _).1, (apply_tr _ _ _).1]
  · rw [(apply_tr _ _ _).2, (apply_tr _ _ _).2, (apply_tr _ _ _).2, (apply_tr _ _ _).2]
  · rw [apply_sp, apply_sp, apply_sp, apply_sp]
    omega
  · rw [apply_look, apply_look, apply_look, apply_look]
    by_cases h1 : u = a.trial
    · have h2 : ¬ u = b.trial := fun z => ht (h1.symm.trans z)
      simp only [h1, if_true] at *
      simp only [if_neg ht]
    · by_cases h2 : u = b.trial
      · simp only [if_pos h2, if_neg h1]
      · simp only [if_neg h2, if_neg h1]
end TC
namespace TC
open PySem L2
/-! ### rows of deeds, mixed -/
theorem afterM_append (S : PopM) (a b : List Deed) : afterM S (a ++ b) = afterM (afterM S a) b := by
  induction a generalizing S with
  | nil => rfl
  | cons x a ih => exact ih (doM S x).1
theorem outsM_append (S : PopM) (a b : List Deed) : outsM S (a ++ b) = outsM S a ++ outsM (afterM S a) b := by
  induction a generalizing S with
  | nil => rfl
  | cons x a ih =>
    show _ :: outsM (doM S x).1 (a ++ b) = _ :: _
    rw [ih]
    rfl
theorem runs_congr {n : Nat} : ∀ {ds : List Deed} {B C : Nat} {S T : PopM}, PEq S T → PopOk n B S → PopOk n C T → (∀ d ∈ ds, DeedOk d) → outsM S ds = outsM T ds ∧ PEq (afterM S ds) (afterM T ds)
  | [], _, _, _, _, h, _, _, _ => ⟨rfl, h⟩
  | d :: ds, B, C, S, T, h, p, q, dk => by
    obtain ⟨e1, e2⟩ := doM_congr h p.nd q.nd d
    have dk0 := dk d List.mem_cons_self
    obtain ⟨e3, e4⟩ := runs_congr (ds := ds) e2 (popOk_do p dk0) (popOk_do q dk0) (fun x hx => dk x (List.mem_cons_of_mem _ hx))
    refine ⟨?_, e4⟩
    show _ :: _ = _ :: _
    rw [e1, e3]
/-- row k: the deed, how often it stood before, its outcome -/
def rowsF (pre : List Deed) : List Deed → List Out → List (Deed × Nat × Out)
  | d :: ds, o :: os => (d, pre.count d, o) :: rowsF (pre ++ [d]) ds os
  | _, _ => []
def rowsM (ds : List Deed) (os : List Out) : List (Deed × Nat × Out) := rowsF [] ds os
theorem rowsF_congr : ∀ {ds : List Deed} {os : List Out} {p q : List Deed}, (∀ d, p.count d = q.count d) → rowsF p ds os = rowsF q ds os
  | [], _, _, _, _ => rfl
  | _ :: _, [], _, _, _ => rfl
  | d :: ds, o :: os, p, q, h => by
    show _ :: _ = _ :: _
    rw [h d, rowsF_congr (ds := ds) (os := os) (p := p ++ [d]) (q := q ++ [d]) fun x => by rw [List.count_append, List.count_append, h x]]
theorem rowsF_append : ∀ {a : List Deed} {oa : List Out} {b : List Deed} {ob : List Out} {p : List Deed}, a.length = oa.length → rowsF p (a ++ b) (oa ++ ob) = rowsF p a oa ++ rowsF (p ++ a) b ob
  | [], [], _, _, p, _ => by
    rw [List.append_nil]
    rfl
  | [], _ :: _, _, _, _, h => by cases h
  | _ :: _, [], _, _, _, h => by cases h
  | d :: a, o :: oa, b, ob, p, h => by
    show (d, p.count d, o) :: rowsF (p ++ [d]) (a ++ b) (oa ++ ob) = (d, p.count d, o) :: rowsF (p ++ [d]) a oa ++ rowsF (p ++ d :: a) b ob
    rw [List.cons_append, rowsF_append (a := a) (oa := oa) (b := b) (ob := ob) (p := p ++ [d]) (by simpa using h), List.append_assoc]
    rfl
theorem rowsF_get : ∀ {ds : List Deed} {os : List Out} {p : List Deed} {k : Nat} {d : Deed} {o : Out}, ds[k]? = some d → os[k]? = some o → (rowsF p ds os)[k]? = some (d, (p ++ ds.take k).count d, o)
  | x :: ds, y :: os, p, 0, d, o, h1, h2 => by
    cases h1
    cases h2
    show some _ = some _
    rw [List.take_zero, List.append_nil]
  | x :: ds, y :: os, p, k + 1, d, o, h1, h2 => by
    show (rowsF (p ++ [x]) ds os)[k]? = _
    rw [rowsF_get (ds := ds) (os := os) (p := p ++ [x]) (k := k) (d := d) (o := o) h1 h2, List.take_succ_cons, List.append_assoc]
    rfl
  | [], _, _, _, _, _, h1, _ => by simp at h1
  | _ :: _, [], _, _, _, _, _, h2 => by simp at h2
theorem rowsF_len : ∀ {ds : List Deed} {os : List Out} {p : List Deed}, ds.length = os.length → (rowsF p ds os).length = ds.length
  | [], [], _, _ => rfl
  | x :: ds, y :: os, p, h => by
    show _ + 1 = _ + 1
    rw [rowsF_len (ds := ds) (os := os) (p := p ++ [x]) (by simpa using h)]
  | [], _ :: _, _, h => by cases h
  | _ :: _, [], _, h =>
    by cases h
theorem two_mid {l : List Deed} {p : Nat} (h : p + 1 < l.length) : l = l.take p ++ [l.getD p (.crash 0), l.getD (p + 1) (.crash 0)] ++ l.drop (p + 2) := by
  have e1 : l.getD p (.crash 0) = l[p]'(by omega) := by rw [List.getD_eq_getElem?_getD, List.getElem?_eq_getElem (by omega)]; rfl
  have e2 : l.getD (p + 1) (.crash 0) = l[p + 1] := by rw [List.getD_eq_getElem?_getD, List.getElem?_eq_getElem h]; rfl
  rw [e1, e2]
  have e3 : l.drop p = l[p]'(by omega) :: l[p + 1] :: l.drop (p + 2) := by
    rw [List.drop_eq_getElem_cons (by omega), List.drop_eq_getElem_cons h]
  rw [List.append_assoc, List.cons_append, List.cons_append, List.nil_append, ← e3, List.take_append_drop]
structure MixOk (S : PopM) (ds l : List Deed) : Prop where
  ok : ∀ d ∈ l, DeedOk d
  rows : (rowsM l (outsM S l)).Perm (rowsM ds (outsM S ds))
  aft : PEq (afterM S l) (afterM S ds)
theorem mix_swap {n B : Nat} {S : PopM} {ds l : List Deed} {p : Nat} (hp : PopOk n B S) (M : MixOk S ds l) (h : p + 1 < l.length) (f : freeM (l.getD p (.crash 0)) (l.getD (p + 1) (.crash 0)) = true) : MixOk S ds (swapAt l p) := by
  obtain ⟨a, ha⟩ : ∃ a, a = l.getD p (.crash 0) := ⟨_, rfl⟩
  obtain ⟨b, hb⟩ : ∃ b, b = l.getD (p + 1) (.crash 0) := ⟨_, rfl⟩
  obtain ⟨A, hA⟩ : ∃ A, A = l.take p := ⟨_, rfl⟩
  obtain ⟨C, hC⟩ : ∃ C, C = l.drop (p + 2) := ⟨_, rfl⟩
  have hl : l = A ++ [a, b] ++ C := by
    rw [hA, ha, hb, hC]
    exact two_mid h
  have hs : swapAt l p = A ++ [b, a] ++ C := by
    rw [hA, ha, hb, hC]
    rfl
  rw [← ha, ← hb] at f
  rw [hs]
  rw [hl] at M
  obtain ⟨ok, rows, aft⟩ := M
  have okA : ∀ d ∈ A, DeedOk d := fun d hd => ok d (List.mem_append_left _ (List.mem_append_left _ hd))
  have oka : DeedOk a := ok a (List.mem_append_left _ (List.mem_append_right _ List.mem_cons_self))
  have okb : DeedOk b := ok b (List.mem_append_left _ (List.mem_append_right _ (List.mem_cons_of_mem _ List.mem_cons_self)))
  have okC : ∀ d ∈ C, DeedOk d := fun d hd => ok d (List.mem_append_right _ hd)
  have hT := afterM_ok okA hp
  obtain ⟨T, eT⟩ : ∃ T, T = afterM S A := ⟨_, rfl⟩
  rw [← eT] at hT
  obtain ⟨c1, c2, c3⟩ := commute (S := T) f
  obtain ⟨r1, r2⟩ := runs_congr (ds := C) c3 (popOk_do (popOk_do hT oka) okb) (popOk_do (popOk_do hT okb) oka) okC
  have o1 : outsM S (A ++ [a, b] ++ C) = outsM S A ++ [(doM T a).2, (doM T b).2] ++ outsM (doM (doM T a).1 b).1 C := by
    rw [outsM_append, outsM_append, afterM_append, ← eT]
    show outsM S A ++ [(doM T a).2, (doM (doM T a).1 b).2] ++ outsM (doM (doM T a).1 b).1 C = _
    rw [c1]
  have o2 : outsM S (A ++ [b, a] ++ C) = outsM S A ++ [(doM T b).2, (doM T a).2] ++ outsM (doM (doM T a).1 b).1 C := by
    rw [outsM_append, outsM_append, afterM_append, ← eT]
    show outsM S A ++ [(doM T b).2, (doM (doM T b).1 a).2] ++ outsM (doM (doM T b).1 a).1 C = _
    rw [c2, r1]
  refine ⟨fun d hd => ok d ?_, ?_, ?_⟩
  · rcases List.mem_append.mp hd with e | e
    · rcases List.mem_append.mp e with e | e
      · exact List.mem_append_left _ (List.mem_append_left _ e)
      · refine List.mem_append_left _ (List.mem_append_right _ ?_)
        simp at e ⊢
        exact e.symm
    · exact List.mem_append_right _ e
  · refine List.Perm.trans ?_ rows
    rw [o1, o2]
    have hle : A.length = (outsM S A).length := (outsM_len S A).symm
    unfold rowsM
    rw [List.append_assoc, List.append_assoc, List.append_assoc, List.append_assoc, rowsF_append hle, rowsF_append hle]
    apply List.Perm.append_left
    rw [List.nil_append]
    show List.Perm ((b, A.count b, (doM T b).2) :: (a, (A ++ [b]).count a, (doM T a).2) :: rowsF (A ++ [b] ++ [a]) C _) ((a, A.count a, (doM T a).2) :: (b, (A ++ [a]).count b, (doM T b).2) :: rowsF (A ++ [a] ++ [b]) C _)
    have ne := free_ne f
    have k1 : (A ++ [b]).count a = A.count a := by
      rw [List.count_append, List.count_singleton, if_neg (by simpa using ne.symm)]
      rfl
    have k2 : (A ++ [a]).count b = A.count b := by
      rw [List.count_append, List.count_singleton, if_neg (by simpa using ne)]
      rfl
    rw [k1, k2, rowsF_congr (p := A ++ [b] ++ [a]) (q := A ++ [a] ++ [b]) fun d => by
      simp only [List.count_append]
      omega]
    exact List.Perm.swap _ _ _
  · refine PEq.trans ?_ aft
    rw [afterM_append, afterM_append, afterM_append, afterM_append, ← eT]
    exact r2.symm
theorem mix_run {n B : Nat} {S : PopM} {ds : List Deed} (ns : List Int) (hp : PopOk n B S) (hd : ∀ d ∈ ds, DeedOk d) : ∀ k, MixOk S ds (mixRun ns ds k).1
  | 0 => ⟨hd, List.Perm.refl _, PEq.refl _⟩
  | k + 1 => by
    have ih := mix_run ns hp hd k
    show MixOk S ds (mixStep ns k (mixRun ns ds k)).1
    unfold mixStep
    split
    · rename_i h
      exact mix_swap hp ih h.1 h.2
    · exact ih
theorem mix_ok {n B : Nat} {S : PopM} {ds : List Deed} (cell : Int) (many : Nat) (hp : PopOk n B S) (hd : ∀ d ∈ ds, DeedOk d) : MixOk S ds (mixedM ds cell many).1 := mix_run _ hp hd many
end TC
namespace TC
open PySem L2
/-! ### lists: +, sorted, in -/
def rCatL (K : PySem.W.Frag) : R2 := fun x y H Q => ∃ a b xs ys, x = .ref a ∧ y = .ref b ∧ SqL K H a xs ∧ SqL K H b ys ∧ xs.length + ys.length ≤ sizeLine ∧ ∀ p, H p = none → Q (.ref p) (upd H p (.lst (xs ++ ys)))
theorem op_catL {X : Cx} : OpR X (binaryOp .Add) (rCatL X.K) := by
  intro pins s σ H x y
  intro v u Q I rx ry h
  obtain ⟨a, b, xs, ys, rfl, rfl, hA, hB, hz, q⟩ := h
  cases rx
  cases ry
  obtain ⟨its, r, ⟨⟨cls, dd, data, sl⟩, n, ho, hc, hdn, hd⟩, hl⟩ := I.list hA
  obtain ⟨its2, r2, ⟨⟨cls2, dd2, data2, sl2⟩, n2, ho2, hc2, hdn2, hd2⟩, hl2⟩ := I.list hB
  simp only at hc hd hc2 hd2
  subst hc hd hc2 hd2
  have e : its.toArray ++ its2.toArray = (its ++ its2).toArray := by simp
  have l1 := r.length
  have l2 := r2.length
  refine PySem.concat_meets ⟨_, ho, rfl⟩ ⟨_, ho2, rfl⟩ PySem.noFill_list_add PySem.seq_list_add PySem.F.slot_list_add PySem.F.entry_list_add (PySem.F.args_list_add_2 _ _) (PyProof.Rows.list_addW a b its.toArray its2.toArray n n2 dd dd2 sl sl2 (by rw [List.size_toArray, List.size_toArray]; omega)) ⟨ho, ho2, ?_⟩
  rw [e]
  refine ⟨.ref _, _, I.lnew (t' := s.toks) (r.append r2) (by rw [List.length_append]; omega), rfl, q _ I.fresh⟩
section
variable {X : Cx} {Γ : G} {a b c e : Expr} {es : List Expr} {p pos : Pos} {d d1 d2 d3 : PyData} {ds ds1 ds2 : List PyData}
theorem xf_catL (ha : XE X a Γ (.list ds1)) (hb : XE X b Γ (.list ds2)) (hl : ds1.length + ds2.length ≤ 10000000) : XF X (.BinOp a .Add b pos) Γ (ds1 ++ ds2) :=
  xf_bin op_catL (fun H x y Q q1 q2 k => by
    cases q1 with
    | @lst p xs _ h1 a1 =>
      cases q2 with
      | @lst q ys _ h2 a2 =>
        refine ⟨p, q, xs, ys, rfl, rfl, h1, h2, line_of (by rw [dpa_length a1, dpa_length a2]; exact hl), fun r hr => ?_⟩
        have s4 : Same H (upd H r (.lst (xs ++ ys))) := fun b o z => by rw [upd_ne (ne_of_none z hr)]; exact z
        exact k r (xs ++ ys) _ hr s4 upd_same (dpAll_mono s4 _ _ (dpa_append a1 a2))) ha hb
theorem rd_inL {K : PySem.W.Frag} (h1 : SeqAt.shaped d = true) (h2 : SeqAt.shaped (.list ds) = true) : RD K (rInD K) d (.list ds) (.bool (ds.any fun z => PyData.eqv z d)) := fun H x y Q q1 q2 k => ⟨d, ds, q1, q2, h1, h2, k _ H (Same.refl H) (.bl _)⟩
theorem rd_notInL {K : PySem.W.Frag} (h1 : SeqAt.shaped d = true) (h2 : SeqAt.shaped (.list ds) = true) : RD K (rNotInD K) d (.list ds) (.bool (!ds.any fun z => PyData.eqv z d)) := fun H x y Q q1 q2 k => ⟨d, ds, q1, q2, h1, h2, k _ H (Same.refl H) (.bl _)⟩
theorem xt_notInL (hu : X.A.units + 65 < cLine) (ha : XE X a Γ d) (hb : XE X b Γ (.list ds)) (h1 : SeqAt.shaped d = true) (h2 : SeqAt.shaped (.list ds) = true) (hm : behindInMarks .NotIn b = false := by rfl) : XT X (.Compare a [.NotIn] [b] pos) Γ (!ds.any fun z => PyData.eqv z d) :=
  xt_cmp (op_notInD hu) (rd_notInL h1 h2) ha hb hm
theorem xe_notInL (hu : X.A.units + 65 < cLine) (ha : XE X a Γ d) (hb : XE X b Γ (.list ds)) (h1 : SeqAt.shaped d = true) (h2 : SeqAt.shaped (.list ds) = true) (hm : behindInMarks .NotIn b = false := by rfl) : XE X (.Compare a [.NotIn] [b] pos) Γ (.bool (!ds.any fun z => PyData.eqv z d)) :=
  xe_cmp (op_notInD hu) (rd_notInL h1 h2) ha hb hm
/-! sorted of a list of data -/
variable {β : Type}
def StandsFor (K : PySem.W.Frag) (H : Hp) (enc : β → PyData) (u : Value) (b : β) : Prop := ∃ x, RelV x u ∧ Dp K H x (enc b)
theorem each_of {K : PySem.W.Frag} {H : Hp} {enc : β → PyData} : ∀ {bs : List β} {xs : List V} {us : List Value}, Vals xs us → DpAll K H xs (bs.map enc) → PySem.W.EachIs (StandsFor K H enc) us bs
  | [], _, _, r, h => by
    cases h
    cases r
    exact .nil
  | b :: bs, _, _, r, h => by
    rw [List.map_cons] at h
    cases h with
    | cons h1 h2 =>
      cases r with
      | cons r1 r2 => exact .cons ⟨_, r1, h1⟩ (each_of r2 h2)
theorem each_back {K : PySem.W.Frag} {H : Hp} {enc : β → PyData} : ∀ {bs : List β} {us : List Value}, PySem.W.EachIs (StandsFor K H enc) us bs → ∃ xs, Vals xs us ∧ DpAll K H xs (bs.map enc)
  | _, _, .nil => ⟨[], .nil, .nil⟩
  | _, _, .cons h t => by
    obtain ⟨x, r, q⟩ := h
    obtain ⟨xs, r2, q2⟩ := each_back t
    exact ⟨x :: xs, .cons r r2, .cons q q2⟩
def rSortD (K : PySem.W.Frag) (enc : β → PyData) (bs : List β) : List V → Hp → VK → Prop := fun vs H Q => ∃ v, vs = [v] ∧ Dp K H v (.list (bs.map enc)) ∧
  ∀ ys p, H p = none → DpAll K H ys ((bs.mergeSort (PySem.W.dataLe false enc)).map enc) → Q (.ref p) (upd H p (.lst ys))
theorem cr_sortD {enc : β → PyData} {bs : List β} (hu : ∀ b, b ∈ bs → X.A.units + 2 + (enc b).depth < cLine) (hal : PySem.W.AllAlike (bs.map enc)) (hk : PySem.W.Sortable (bs.map enc)) (hL : bs.length ≤ 1000000) : CallR X (.builtin "sorted") (rSortD X.K enc bs) := by
  intro pins s σ H vs
  intro us Q I r h
  obtain ⟨v, rfl, hd, q⟩ := h
  rcases vals1 r with ⟨u, rfl, ru⟩
  cases hd with
  | @lst a xs _ hs ha =>
    cases ru
    rcases I.list hs with ⟨its, rv, hl, hz⟩
    have e := each_of rv ha
    have hsz : (1000000 : Nat) < sizeLine := by decide
    refine PySem.W.sorted_data (R := StandsFor X.K H enc) (enc := enc) hl.isList e (e.mono fun u b ⟨x, r1, q1⟩ => Dp.reads I _ x u q1 r1) hal hk (by omega) hu fun out hlen eo => ?_
    obtain ⟨ys, ry, qy⟩ := each_back eo
    rcases PyProof.Rows.sortedAll_at s.heap its out.toArray with ⟨ep, he'⟩
    have hly : ys.length ≤ sizeLine := by
      rw [ry.length, hlen]
      omega
    refine ⟨.ref _, upd H (s.heap.objs.size + 1) (.lst ys), I.laid (t' := s.toks) (fun _ _ => PyProof.Rows.sortedAll_old) (Nat.le_succ _) ⟨hly, out, ep, ry, by simpa using he'⟩, rfl, q _ _ (I.hok.fresh (Nat.le_succ _)) qy⟩
theorem xf_sorted {enc : β → PyData} {bs : List β} (hu : ∀ b, b ∈ bs → X.A.units + 2 + (enc b).depth < cLine) (hal : PySem.W.AllAlike (bs.map enc)) (hk : PySem.W.Sortable (bs.map enc)) (hL : bs.length ≤ 1000000) (hm : X.mg "sorted" = none) (ha : XE X a Γ (.list (bs.map enc)))
    (hg : Gl X "sorted" := by rfl) (hs : starEach (a :: []) X.env = (false, eval a X.env) :: starEach [] X.env := by rfl) (hpl : (backTo pos (starEach [] X.env)).any (·.1) = false := by rfl) : XF X (.Call (.Name "sorted" p) [a] [] pos) Γ ((bs.mergeSort (PySem.W.dataLe false enc)).map enc) :=
  pe_imp (pe_callB (cr_sortD hu hal hk hL) hg hm (by decide +kernel) (xa_cons ha xa_nil hs) (by decide) (by decide) hs hpl) fun σ H Q ⟨E, k⟩ => ⟨E, fun vs H1 s1 q1 => by
    cases q1 with
    | cons h1 h2 =>
      cases h2
      refine ⟨_, rfl, h1, fun ys p hp qy => ?_⟩
      have s2 : Same H1 (upd H1 p (.lst ys)) := fun b o z => by rw [upd_ne (ne_of_none z hp)]; exact z
      exact k p ys _ (s1.free hp) (s1.trans s2) upd_same (dpAll_mono s2 _ _ qy)⟩
end
end TC
namespace TC
open PySem L2
/-! ### dicts with text keys that hold data -/
def FldsL (K : PySem.W.Frag) (H : Hp) : List (Str × V) → List (Str × PyData) → Prop
  | [], [] => True
  | (x, v) :: vs, (y, d) :: fs => x = y ∧ Dp K H v d ∧ FldsL K H vs fs
  | _, _ => False
def txtK (vs : List (Str × V)) : List (Key × V) := vs.map fun p => (.inr p.1, p.2)
def DkAt (K : PySem.W.Frag) (H : Hp) (m : Addr) (fs : List (Str × PyData)) : Prop := ∃ vs, H m = some (.dK (txtK vs)) ∧ FldsL K H vs fs
/-- all but the dict at m stay -/
def OffK (m : Addr) (H H' : Hp) : Prop := (∃ kvs, H m = some (.dK kvs)) ∧ ∀ b o, b ≠ m → H b = some o → H' b = some o
theorem OffK.upd {m : Addr} {H : Hp} {kvs : List (Key × V)} {o : HO} (h : H m = some (.dK kvs)) : OffK m H (upd H m o) := ⟨⟨kvs, h⟩, fun b ob ne e => by rw [upd_ne ne]; exact e⟩
theorem OffK.of_same {m : Addr} {H H' : Hp} {kvs : List (Key × V)} (h : H m = some (.dK kvs)) (s : Same H H') : OffK m H H' := ⟨⟨kvs, h⟩, fun b o _ e => s b o e⟩
theorem OffK.at {m b : Addr} {H H' : Hp} {o : HO} (k : OffK m H H') (h : H b = some o) (ne : ∀ kvs, o ≠ .dK kvs) : H' b = some o := by
  refine k.2 b o (fun z => ?_) h
  obtain ⟨kvs, e⟩ := k.1
  rw [z, e] at h
  exact ne kvs (Option.some.inj h).symm
theorem OffK.seqT {K : PySem.W.Frag} {m a : Addr} {H H' : Hp} {xs : List V} (k : OffK m H H') (h : SqT K H a xs) : SqT K H' a xs := by
  obtain (h | ⟨o, h⟩) | h := h
  · exact .inl (.inl (k.at h fun _ z => nomatch z))
  · exact .inl (.inr ⟨o, k.at h fun _ z => nomatch z⟩)
  · exact .inr h
theorem OffK.seqL {K : PySem.W.Frag} {m a : Addr} {H H' : Hp} {xs : List V} (k : OffK m H H') (h : SqL K H a xs) : SqL K H' a xs := by
  obtain (h | ⟨o, h⟩) | h := h
  · exact .inl (.inl (k.at h fun _ z => nomatch z))
  · exact .inl (.inr ⟨o, k.at h fun _ z => nomatch z⟩)
  · exact .inr h
theorem OffK.keepT {K : PySem.W.Frag} {m : Addr} {H H' : Hp} (k : OffK m H H') : KeepT K H H' := fun _ _ h => k.seqT h
mutual
theorem dp_offK {K : PySem.W.Frag} {m : Addr} {H H' : Hp} (k : OffK m H H') : ∀ (d : PyData) (v : V), Dp K H v d → Dp K H' v d
  | .none, _, h => by cases h; exact .non
  | .bool b, _, h => by cases h; exact .bl b
  | .int i, _, h => by cases h; exact .int i
  | .str x, _, h => by cases h; exact .str x
  | .list ds, _, h => by
    cases h with
    | lst hs ha => exact .lst (k.seqL hs) (dpAll_offK k ds _ ha)
  | .tuple ds, _, h => by
    cases h with
    | tup hs ha => exact .tup (k.seqT hs) (dpAll_offK k ds _ ha)
  | .dict _, _, h => by cases h
theorem dpAll_offK {K : PySem.W.Frag} {m : Addr} {H H' : Hp} (k : OffK m H H') : ∀ (ds : List PyData) (vs : List V), DpAll K H vs ds → DpAll K H' vs ds
  | [], _, h => by cases h; exact .nil
  | d :: ds, _, h => by
    cases h with
    | cons h1 h2 => exact .cons (dp_offK k d _ h1) (dpAll_offK k ds _ h2)
end
theorem FldsL.mono {K : PySem.W.Frag} {H H' : Hp} (s : Same H H') : ∀ {vs : List (Str × V)} {fs : List (Str × PyData)}, FldsL K H vs fs → FldsL K H' vs fs
  | [], [], _ => trivial
  | (x, v) :: vs, (y, d) :: fs, h => ⟨h.1, dp_mono s d v h.2.1, FldsL.mono s h.2.2⟩
  | [], _ :: _, h => h.elim
  | _ :: _, [], h => h.elim
theorem FldsL.offK {K : PySem.W.Frag} {m : Addr} {H H' : Hp} (k : OffK m H H') : ∀ {vs : List (Str × V)} {fs : List (Str × PyData)}, FldsL K H vs fs → FldsL K H' vs fs
  | [], [], _ => trivial
  | (x, v) :: vs, (y, d) :: fs, h => ⟨h.1, dp_offK k d v h.2.1, FldsL.offK k h.2.2⟩
  | [], _ :: _, h => h.elim
  | _ :: _, [], h => h.elim
theorem FldsL.val {K : PySem.W.Frag} {H : Hp} {f : Str} {d : PyData} : ∀ {vs : List (Str × V)} {fs : List (Str × PyData)}, FldsL K H vs fs → fs.lookup f = some d → ∃ v, valV (txtK vs) (.inr f) = some v ∧ Dp K H v d
  | [], [], _, h => by cases h
  | (x, v) :: vs, (z, e) :: fs, h, l => by
    obtain ⟨rfl, h2, h3⟩ := h
    by_cases q : f = x
    · subst q
      have hb : (f == f) = true := beq_self_eq_true f
      simp only [List.lookup, hb] at l
      cases l
      exact ⟨v, valV_pos (p := ((Sum.inr f : Key), v)) rfl, h2⟩
    · have hb : (f == x) = false := beq_eq_false_iff_ne.mpr q
      simp only [List.lookup, hb] at l
      obtain ⟨u, h4, h5⟩ := h3.val l
      refine ⟨u, ?_, h5⟩
      show valV (((Sum.inr x : Key), v) :: txtK vs) (.inr f) = some u
      rw [valV_neg (p := ((Sum.inr x : Key), v)) (fun z => q (Sum.inr.inj z).symm)]
      exact h4
  | [], _ :: _, h, _ => h.elim
  | _ :: _, [], h, _ => h.elim
/-- in its place -/
def putA (f : Str) (d : PyData) (fs : List (Str × PyData)) : List (Str × PyData) := fs.map fun p => if p.1 = f then (p.1, d) else p
theorem FldsL.put {K : PySem.W.Frag} {H : Hp} {f : Str} {y : V} {d : PyData} {vs : List (Str × V)} {fs : List (Str × PyData)} (h : FldsL K H vs fs) (hf : (fs.any fun p => decide (p.1 = f)) = true) (hy : Dp K H y d) : ∃ ws, putK (txtK vs) (.inr f) y = txtK ws ∧ FldsL K H ws (putA f d fs) := by
  refine ⟨vs.map fun p => if p.1 = f then (p.1, y) else p, ?_, ?_⟩
  · have key : ∀ {vs : List (Str × V)} {fs : List (Str × PyData)}, FldsL K H vs fs → ((txtK vs).any fun kv => decide (kv.1 = (.inr f : Key))) = fs.any fun p => decide (p.1 = f) := by
      intro vs
      induction vs with
      | nil =>
        intro fs h
        cases fs with
        | nil => rfl
        | cons a r => exact h.elim
      | cons p vs ih =>
        intro fs h
        cases fs with
        | nil => exact h.elim
        | cons q fs =>
          obtain ⟨h1, _, h3⟩ := h
          show (decide ((Sum.inr p.1 : Key) = .inr f) || (txtK vs).any _) = (decide (q.1 = f) || fs.any _)
          rw [ih h3, ← h1]
          congr 1
          rw [decide_eq_decide]
          exact ⟨fun z => Sum.inr.inj z, fun z => by rw [z]⟩
    unfold putK
    rw [if_pos (by rw [key h]; exact hf)]
    unfold txtK
    rw [List.map_map]
    rw [List.map_map]
    apply List.map_congr_left
    intro p _
    show (if (Sum.inr p.1 : Key) = .inr f then _ else _) = _
    by_cases q : p.1 = f
    · rw [if_pos (by rw [q])]
      show _ = (fun p : Str × V => ((Sum.inr p.1 : Key), p.2)) (if p.1 = f then (p.1, y) else p)
      rw [if_pos q]
    · rw [if_neg (fun z => q (Sum.inr.inj z))]
      show _ = (fun p : Str × V => ((Sum.inr p.1 : Key), p.2)) (if p.1 = f then (p.1, y) else p)
      rw [if_neg q]
  · clear hf
    revert fs
    induction vs with
    | nil =>
      intro fs h
      cases fs with
      | nil => trivial
      | cons a r => exact h.elim
    | cons p vs ih =>
      intro fs h
      cases fs with
      | nil => exact h.elim
      | cons q fs =>
        obtain ⟨u, v⟩ := p
        obtain ⟨z, e⟩ := q
        obtain ⟨h1, h2, h3⟩ := h
        have h1 : u = z := h1
        subst h1
        have ih := ih h3
        show FldsL K H ((if u = f then (u, y) else (u, v)) :: _) ((if u = f then (u, d) else (u, e)) :: _)
        by_cases q : u = f
        · rw [if_pos q, if_pos q]
          exact ⟨rfl, hy, ih⟩
        · rw [if_neg q, if_neg q]
          exact ⟨rfl, h2, ih⟩
theorem FldsL.len {K : PySem.W.Frag} {H : Hp} : ∀ {vs : List (Str × V)} {fs : List (Str × PyData)}, FldsL K H vs fs → vs.length = fs.length
  | [], [], _ => rfl
  | _ :: vs, _ :: fs, h => by
    rw [List.length_cons, List.length_cons, FldsL.len h.2.2]
  | [], _ :: _, h => h.elim
  | _ :: _, [], h => h.elim
theorem DkAt.mono {K : PySem.W.Frag} {H H' : Hp} {m : Addr} {fs : List (Str × PyData)} (h : DkAt K H m fs) (s : Same H H') : DkAt K H' m fs := by
  obtain ⟨vs, h1, h2⟩ := h
  exact ⟨vs, s _ _ h1, h2.mono s⟩
theorem DkAt.offK {K : PySem.W.Frag} {H H' : Hp} {m x : Addr} {fs : List (Str × PyData)} (h : DkAt K H m fs) (k : OffK x H H') (ne : m ≠ x) : DkAt K H' m fs := by
  obtain ⟨vs, h1, h2⟩ := h
  exact ⟨vs, k.2 _ _ ne h1, h2.offK k⟩

/-! ### the law's model on the heap -/
def dSteps (st : List Set2) : PyData := .list (st.map dSet)
def dSave : Option (Int × List Set2) → PyData
  | none => .none
  | some w => .tuple [.int w.1, dSteps w.2]
def dLHome (m : LMem) : PyData := .tuple [dSet m.hset, .int m.hseed, dSteps m.hsteps, dOP m.hpair]
def lmFs (m : LMem) : List (Str × PyData) := [("incarnation", .int m.inc), ("settings", dSet m.set), ("seed", .int m.seed), ("steps", dSteps m.steps), ("score", dOI m.score), ("saves", .list (m.saves.map dSave)), ("home", dLHome m), ("stopped", .bool m.stop)]
def LMems (K : PySem.W.Frag) (H : Hp) : List (Int × Addr) → List (Int × LMem) → Prop
  | [], [] => True
  | (u, a) :: es, (v, m) :: ms => u = v ∧ DkAt K H a (lmFs m) ∧ LMems K H es ms
  | _, _ => False
def entK (es : List (Int × Addr)) : List (Key × V) := es.map fun e => (.inl e.1, .ref e.2)
structure ModE (K : PySem.W.Frag) (H : Hp) (p t : Addr) (es : List (Int × Addr)) (S : LMod) : Prop where
  top : H p = some (.dK [(.inr "trials", .ref t), (.inr "spent", .int S.spent)])
  tri : H t = some (.dK (entK es))
  mem : LMems K H es S.mem
  nd : (es.map (·.2)).Nodup
theorem LMems.mono {K : PySem.W.Frag} {H H' : Hp} (s : Same H H') : ∀ {es : List (Int × Addr)} {ms : List (Int × LMem)}, LMems K H es ms → LMems K H' es ms
  | [], [], _ => trivial
  | _ :: _, _ :: _, h => ⟨h.1, h.2.1.mono s, LMems.mono s h.2.2⟩
  | [], _ :: _, h => h.elim
  | _ :: _, [], h => h.elim
theorem LMems.len {K : PySem.W.Frag} {H : Hp} : ∀ {es : List (Int × Addr)} {ms : List (Int × LMem)}, LMems K H es ms → es.length = ms.length
  | [], [], _ => rfl
  | _ :: _, _ :: _, h => by rw [List.length_cons, List.length_cons, LMems.len h.2.2]
  | [], _ :: _, h => h.elim
  | _ :: _, [], h => h.elim
theorem LMems.keys {K : PySem.W.Frag} {H : Hp} : ∀ {es : List (Int × Addr)} {ms : List (Int × LMem)}, LMems K H es ms → es.map (·.1) = ms.map (·.1)
  | [], [], _ => rfl
  | (u, a) :: _, (v, m) :: _, h => by
    obtain ⟨h1, _, h3⟩ := h
    show u :: _ = v :: _
    rw [h1]
    congr 1
    exact LMems.keys h3
  | [], _ :: _, h => h.elim
  | _ :: _, [], h => h.elim
theorem ModE.mono {K : PySem.W.Frag} {H H' : Hp} {p t : Addr} {es : List (Int × Addr)} {S : LMod} (h : ModE K H p t es S) (s : Same H H') : ModE K H' p t es S := ⟨s _ _ h.top, s _ _ h.tri, h.mem.mono s, h.nd⟩
theorem entK_val (es : List (Int × Addr)) (u : Int) : valV (entK es) (.inl u) = (lookM es u).map V.ref := by
  induction es with
  | nil => rfl
  | cons e es ih =>
    show valV (((Sum.inl e.1 : Key), V.ref e.2) :: entK es) (.inl u) = _
    unfold lookM at ih ⊢
    by_cases h : e.1 = u
    · rw [valV_pos (p := ((Sum.inl e.1 : Key), V.ref e.2)) (by rw [h])]
      simp [h]
    · rw [valV_neg (p := ((Sum.inl e.1 : Key), V.ref e.2)) (fun z => h (Sum.inl.inj z)), ih]
      simp [h]
theorem LMems.look {K : PySem.W.Frag} {H : Hp} (u : Int) : ∀ {es : List (Int × Addr)} {ms : List (Int × LMem)}, LMems K H es ms → (match lookM ms u with
    | none => lookM es u = none
    | some m => ∃ a, lookM es u = some a ∧ DkAt K H a (lmFs m))
  | [], [], _ => rfl
  | (w, a) :: es, (v, m) :: ms, h => by
    obtain ⟨h1, h2, h3⟩ := h
    have h1 : w = v := h1
    subst h1
    have ih := LMems.look u h3
    unfold lookM at ih ⊢
    rw [List.find?_cons, List.find?_cons]
    by_cases q : w = u
    · simp only [q, decide_true, Option.map_some]
      exact ⟨a, rfl, h2⟩
    · simp only [q, decide_false]
      exact ih
  | [], _ :: _, h => h.elim
  | _ :: _, [], h => h.elim
theorem lookE_in {es : List (Int × Addr)} {u : Int} {a : Addr} (h : lookM es u = some a) : a ∈ es.map (·.2) := List.mem_map.mpr ⟨(u, a), lookM_in h, rfl⟩
theorem LMems.put {K : PySem.W.Frag} {H H' : Hp} {u : Int} {a : Addr} {m' : LMem} (k : OffK a H H') (hd : DkAt K H' a (lmFs m')) : ∀ {es : List (Int × Addr)} {ms : List (Int × LMem)}, LMems K H es ms → lookM es u = some a → (es.map (·.2)).Nodup → LMems K H' es (putM u m' ms)
  | (w, b) :: es, (v, m) :: ms, h, l, nd => by
    obtain ⟨h1, h2, h3⟩ := h
    have h1 : w = v := h1
    subst h1
    rw [List.map_cons] at nd
    rw [List.nodup_cons] at nd
    have keepAll : ∀ {es : List (Int × Addr)} {ms : List (Int × LMem)}, LMems K H es ms → a ∉ es.map (·.2) → LMems K H' es ms := by
      intro es
      induction es with
      | nil =>
        intro ms h _
        cases ms with
        | nil => trivial
        | cons x r => exact h.elim
      | cons e es ih =>
        intro ms h ne
        cases ms with
        | nil => exact h.elim
        | cons x ms =>
          rw [List.map_cons, List.mem_cons, not_or] at ne
          exact ⟨h.1, h.2.1.offK k (fun z => ne.1 z.symm), ih h.2.2 ne.2⟩
    unfold putM
    by_cases q : w = u
    · rw [if_pos q]
      have e : b = a := by
        unfold lookM at l
        rw [List.find?_cons] at l
        simp only [q, decide_true, Option.map_some] at l
        exact Option.some.inj l
      subst e
      exact ⟨rfl, hd, keepAll h3 nd.1⟩
    · rw [if_neg q]
      have l2 : lookM es u = some a := by
        unfold lookM at l ⊢
        rw [List.find?_cons] at l
        simp only [q, decide_false] at l
        exact l
      refine ⟨rfl, h2.offK k (fun z => ?_), LMems.put k hd h3 l2 nd.2⟩
      refine nd.1 ?_
      show b ∈ es.map (·.2)
      rw [z]
      exact lookE_in l2
  | [], _, _, l, _ => by cases l
  | _ :: _, [], h, _, _ => h.elim
/-- the three dicts stand apart -/
theorem DkAt.head {K : PySem.W.Frag} {H : Hp} {a : Addr} {m : LMem} (h : DkAt K H a (lmFs m)) : ∃ v r, H a = some (.dK ((.inr "incarnation", v) :: r)) := by
  obtain ⟨vs, h1, h2⟩ := h
  cases vs with
  | nil => exact h2.elim
  | cons p vs =>
    obtain ⟨x, v⟩ := p
    have e : x = "incarnation" := h2.1
    subst e
    exact ⟨v, txtK vs, h1⟩
theorem ModE.ne_pt {K : PySem.W.Frag} {H : Hp} {p t : Addr} {es : List (Int × Addr)} {S : LMod} (h : ModE K H p t es S) : p ≠ t := ne_of h.top h.tri fun z => by
  cases es with
  | nil => cases z
  | cons e es => cases z
theorem ModE.ne_mp {K : PySem.W.Frag} {H : Hp} {p t a : Addr} {es : List (Int × Addr)} {S : LMod} {m : LMem} (h : ModE K H p t es S) (ha : DkAt K H a (lmFs m)) : a ≠ p := by
  obtain ⟨v, r, e⟩ := ha.head
  refine ne_of e h.top fun z => ?_
  have z1 := HO.dK.inj z
  have z2 := (List.cons.inj z1).1
  have z3 := Sum.inr.inj (Prod.mk.inj z2).1
  exact absurd z3 (by decide)
theorem ModE.ne_mt {K : PySem.W.Frag} {H : Hp} {p t a : Addr} {es : List (Int × Addr)} {S : LMod} {m : LMem} (h : ModE K H p t es S) (ha : DkAt K H a (lmFs m)) : a ≠ t := by
  obtain ⟨v, r, e⟩ := ha.head
  refine ne_of e h.tri fun z => ?_
  cases es with
  | nil => cases z
  | cons e es =>
    have z1 := HO.dK.inj z
    have z2 := (List.cons.inj z1).1
    exact nomatch (Prod.mk.inj z2).1
/-- a member's dict written -/
theorem ModE.put {K : PySem.W.Frag} {H H' : Hp} {p t a : Addr} {es : List (Int × Addr)} {S : LMod} {u : Int} {m m' : LMem} (h : ModE K H p t es S) (l : lookM es u = some a) (hm : lookM S.mem u = some m) (k : OffK a H H') (hd : DkAt K H' a (lmFs m')) : ModE K H' p t es (S.keep u m') := by
  have q := h.mem.look u
  rw [hm] at q
  obtain ⟨a', l', da⟩ := q
  rw [l] at l'
  cases l'
  exact ⟨k.2 _ _ (Ne.symm (h.ne_mp da)) h.top, k.2 _ _ (Ne.symm (h.ne_mt da)) h.tri, h.mem.put k hd l h.nd, h.nd⟩
end TC
namespace TC
open PySem L2
/-! ### rules for dicts -/
def IsV (y : V) : Hp → V → Prop := fun _ v => v = y
def ModF (K : PySem.W.Frag) (p t : Addr) (es : List (Int × Addr)) (S : LMod) : Hp → V → Prop := fun H v => v = .ref p ∧ ModE K H p t es S
def tXK (K : PySem.W.Frag) (Γ : G) (y : V) : TE := fun σ H Q => (∃ Hb H0, EnvOk K Hb H0 H σ Γ) ∧ ∀ H', Same H H' → Q y H'
/-- e gives the value y -/
abbrev XK (X : Cx) (e : Expr) (Γ : G) (y : V) : Prop := PE X e (tXK X.K Γ y)
def keyD : PyData → Option Key
  | .int i => some (.inl i)
  | .str s => some (.inr s)
  | _ => none
theorem keyD_of {K : PySem.W.Frag} {H : Hp} {v : V} {d : PyData} {k : Key} (h : keyD d = some k) (q : Dp K H v d) : v = kV k := by
  cases d <;> first | (cases h; done) | (cases h; cases q; rfl)
/-- a dict that the slots tell of -/
def DGot (K : PySem.W.Frag) (Γ : G) (r : Addr) (k : Key) (o : Option V) : Prop := ∀ Hb H0 H σ, EnvOk K Hb H0 H σ Γ → ∃ kvs, H r = some (.dK kvs) ∧ valV kvs k = o
def DGotD (K : PySem.W.Frag) (Γ : G) (r : Addr) (k : Key) (d : PyData) : Prop := ∀ Hb H0 H σ, EnvOk K Hb H0 H σ Γ → ∃ kvs y, H r = some (.dK kvs) ∧ valV kvs k = some y ∧ Dp K H y d
section
variable {X : Cx} {Hb : Bs} {Γ : G} {N : G → Prop} {R : Rk → G → Prop} {a b c e : Expr} {es : List Expr} {x : Str} {p pos pos' spos : Pos} {d d1 d2 : PyData} {ds : List PyData} {F : Hp → V → Prop} {y : V} {r : Addr} {k : Key} {fs : List (Str × PyData)}
theorem xk_var (i : Nat) (hl : Γ[i]? = some (.x F)) (hF : ∀ H v, F H v → v = y) (hN : X.N[i]? = some x := by rfl) (hv : Vis X.env.scope x := by first | exact Or.inl rfl | exact Or.inr (Or.inl rfl) | exact Or.inr (Or.inr rfl)) (hd : (x == ("__debug__" : Str)) = false := by decide)
    (hcd : (x == ("__classdict__" : Str)) = false := by decide) : XK X (.Name x pos) Γ y :=
  pe_imp (pv i hN hv hd hcd) fun σ H Q ⟨⟨Hb, H0, E⟩, k⟩ => by
    obtain ⟨ov, h1, v, rfl, h2⟩ := E.sl i _ hl
    have e := hF H v (h2 H E.s0)
    subst e
    exact ⟨_, h1, k H (Same.refl H)⟩
theorem xk_key {dk : PyData} (hu : X.A.units + 1 < cLine) (ha : XK X a Γ (.ref r)) (hb : XE X b Γ dk) (hk : keyD dk = some k) (hf : DGot X.K Γ r k (some y)) (hs : NoSl b := by intro _ _; rfl) : XK X (.Subscript a b pos) Γ y :=
  pe_imp (pe_dget hu ha hb hs) fun σ H Q ⟨⟨Hb, H0, E⟩, q⟩ => ⟨⟨Hb, H0, E⟩, fun H1 s1 => ⟨⟨Hb, H0, E.mono s1⟩, fun v H2 s2 q2 => by
    have e := keyD_of hk q2
    subst e
    obtain ⟨kvs, h1, h2⟩ := hf Hb H0 H2 σ (E.mono (s1.trans s2))
    have g := DGet.k (k := k) h1
    rw [h2] at g
    exact ⟨r, y, rfl, g, q H2 (s1.trans s2)⟩⟩⟩
theorem xe_key {dk : PyData} (hu : X.A.units + 1 < cLine) (ha : XK X a Γ (.ref r)) (hb : XE X b Γ dk) (hk : keyD dk = some k) (hf : DGotD X.K Γ r k d) (hs : NoSl b := by intro _ _; rfl) : XE X (.Subscript a b pos) Γ d :=
  pe_imp (pe_dget hu ha hb hs) fun σ H Q ⟨⟨Hb, H0, E⟩, q⟩ => ⟨⟨Hb, H0, E⟩, fun H1 s1 => ⟨⟨Hb, H0, E.mono s1⟩, fun v H2 s2 q2 => by
    have e := keyD_of hk q2
    subst e
    obtain ⟨kvs, y, h1, h2, h3⟩ := hf Hb H0 H2 σ (E.mono (s1.trans s2))
    have g := DGet.k (k := k) h1
    rw [h2] at g
    exact ⟨r, y, rfl, g, q y H2 (s1.trans s2) h3⟩⟩⟩
theorem xt_inK {dk : PyData} {o : Option V} (hu : X.A.units + 1 < cLine) (hb : XE X b Γ dk) (ha : XK X a Γ (.ref r)) (hk : keyD dk = some k) (hf : DGot X.K Γ r k o) (hm : behindInMarks .In a = false := by rfl) : XT X (.Compare b [.In] [a] pos) Γ o.isSome :=
  pt_imp (pt_cmp (pc_din hu hb ha) (h1 := hm)) fun σ H Q ⟨⟨Hb, H0, E⟩, q⟩ => ⟨⟨Hb, H0, E⟩, fun v H1 s1 q1 => ⟨⟨Hb, H0, E.mono s1⟩, fun H2 s2 => by
    have e := keyD_of hk q1
    subst e
    obtain ⟨kvs, h1, h2⟩ := hf Hb H0 H2 σ (E.mono (s1.trans s2))
    have g := DGet.k (k := k) h1
    rw [h2] at g
    exact ⟨r, o, rfl, g, _, rfl, q H2 (s1.trans s2)⟩⟩⟩
theorem xt_notinK {dk : PyData} {o : Option V} (hu : X.A.units + 1 < cLine) (hb : XE X b Γ dk) (ha : XK X a Γ (.ref r)) (hk : keyD dk = some k) (hf : DGot X.K Γ r k o) (hm : behindInMarks .NotIn a = false := by rfl) : XT X (.Compare b [.NotIn] [a] pos) Γ (!o.isSome) :=
  pt_imp (pt_cmp (pc_dnotin hu hb ha) (h1 := hm)) fun σ H Q ⟨⟨Hb, H0, E⟩, q⟩ => ⟨⟨Hb, H0, E⟩, fun v H1 s1 q1 => ⟨⟨Hb, H0, E.mono s1⟩, fun H2 s2 => by
    have e := keyD_of hk q1
    subst e
    obtain ⟨kvs, h1, h2⟩ := hf Hb H0 H2 σ (E.mono (s1.trans s2))
    have g := DGet.k (k := k) h1
    rw [h2] at g
    exact ⟨r, o, rfl, g, _, rfl, q H2 (s1.trans s2)⟩⟩⟩
/-- x = a value that is known -/
theorem xs_setK (i : Nat) (he : XK X e Γ y) (h : N (Γ.set i (.x (IsV y)))) (hN : X.N.Nodup) (hi : X.N[i]? = some x := by rfl) (hx : Loc X.env.scope x := by first | exact Or.inl rfl | exact Or.inr rfl) (hs : swapsWith e (some (.Name x pos')) pos.line X.env = pure false := by rfl)
    (hf : X.fn x = true ∨ X.env.scope.names.lookup x = some .local := by first | exact .inl rfl | exact .inr rfl) : XS X Hb (.Assign [.Name x pos'] e pos) Γ N R :=
  ps_imp (ps_set hN hi hx he hs hf) fun D σ H q => by
    obtain ⟨H0, E⟩ := q.1
    exact ⟨⟨Hb, H0, E⟩, fun H1 s1 => q.2.1 _ _ H1 H0 (KeepT.of s1) ((E.mono s1).store (g := .x (IsV y)) ⟨y, rfl, fun _ _ => rfl⟩) h⟩

/-! ### a dict is written -/
def okSt : SV → Prop
  | .c _ => True
  | .b _ => True
  | .n => True
  | .x F => ∀ H H' v, F H v → F H' v
  | _ => False
def StL : List SV → Prop
  | [] => True
  | g :: r => okSt g ∧ StL r
theorem StL.get : ∀ {Γ : List SV} {i : Nat} {g : SV}, StL Γ → Γ[i]? = some g → okSt g
  | [], _, _, _, h =>
    by simp at h
  | _ :: _, 0, _, s, h => by cases h; exact s.1
  | _ :: r, i + 1, g, s, h => StL.get (Γ := r) (i := i) s.2 (by simpa using h)
theorem EnvOk.offK {K : PySem.W.Frag} {Hb : Bs} {H0 H H' : Hp} {σ : St} {g0 : SV} {Γ : G} {m : Addr} {F' : Hp → V → Prop} {v : V} (E : EnvOk K Hb H0 H σ (g0 :: Γ)) (k : OffK m H H') (hm : H' m ≠ none) (hl : m ∈ Hb.l) (st : StL Γ) (h0 : σ[0]? = some (some v)) (hF : ∀ H1, Same H' H1 → F' H1 v) : EnvOk K Hb H' H' σ (.x F' :: Γ) := by
  refine ⟨(E.sb.then E.s0).trans fun a o e => ?_, Same.refl _, E.ln, fun i g hg => ?_⟩
  · by_cases q : a = m
    · rw [q]
      exact ⟨fun z => absurd hl z, hm⟩
    · exact ⟨fun _ => k.2 a o q e, by rw [k.2 a o q e]; exact fun z => nomatch z⟩
  · cases i with
    | zero =>
      cases hg
      exact ⟨_, h0, v, rfl, hF⟩
    | succ i =>
      obtain ⟨ov, h1, h2⟩ := E.sl (i + 1) g hg
      refine ⟨ov, h1, ?_⟩
      have sg := st.get (i := i) hg
      cases g with
      | c d => obtain ⟨u, e, q⟩ := h2; exact ⟨u, e, dp_offK k d u q⟩
      | b d => obtain ⟨u, e, q⟩ := h2; exact ⟨u, e, dp_offK k d u (dp_mono E.s0 d u q)⟩
      | o ds => exact sg.elim
      | w C fs => exact sg.elim
      | x F => obtain ⟨u, e, q⟩ := h2; exact ⟨u, e, fun H1 _ => sg H H1 u (q H E.s0)⟩
      | n => trivial
theorem LMems.off {K : PySem.W.Frag} {H H' : Hp} {x : Addr} (k : OffK x H H') : ∀ {es : List (Int × Addr)} {ms : List (Int × LMem)}, LMems K H es ms → (∀ a ∈ es.map (·.2), a ≠ x) → LMems K H' es ms
  | [], [], _, _ => trivial
  | e :: es, m :: ms, h, ne => ⟨h.1, h.2.1.offK k (ne _ List.mem_cons_self), LMems.off k h.2.2 fun a ha => ne a (List.mem_cons_of_mem _ ha)⟩
  | [], _ :: _, h, _ => h.elim
  | _ :: _, [], h, _ => h.elim
theorem LMems.each {K : PySem.W.Frag} {H : Hp} : ∀ {es : List (Int × Addr)} {ms : List (Int × LMem)}, LMems K H es ms → ∀ a ∈ es.map (·.2), ∃ m, DkAt K H a (lmFs m)
  | [], [], _, a, h => by cases h
  | e :: es, m :: ms, h, a, ha => by
    rcases List.mem_cons.mp (show a ∈ e.2 :: es.map (·.2) from ha) with z | z
    · rw [z]
      exact ⟨m.2, h.2.1⟩
    · exact LMems.each h.2.2 a z
  | [], _ :: _, h, _, _ => h.elim
  | _ :: _, [], h, _, _ => h.elim
variable {pa ta m : Addr} {ents : List (Int × Addr)} {S : LMod} {u : Int} {mm mm' : LMem} {f : Str} {j : Nat}
/-- member['key'] = e -/
theorem xs_mput {p2 : Pos} (hu : X.A.units + 1 < cLine) (hm : XK X a (.x (ModF X.K pa ta ents S) :: Γ) (.ref m)) (l : lookM ents u = some m) (hlook : lookM S.mem u = some mm) (hfs : putA f d (lmFs mm) = lmFs mm') (hany : ((lmFs mm).any fun p => decide (p.1 = f)) = true)
    (he : XE X e (.x (ModF X.K pa ta ents S) :: Γ) d) (hst : StL Γ) (hl : m ∈ Hb.l) (h : N (.x (ModF X.K pa ta ents (S.keep u mm')) :: Γ)) (hs : swapsWith e (some (.Subscript a (.Constant (.str f) j p2) pos')) pos.line X.env = pure false := by rfl) :
    XS X Hb (.Assign [.Subscript a (.Constant (.str f) j p2) pos'] e pos) (.x (ModF X.K pa ta ents S) :: Γ) N R :=
  ps_imp (ps_dput hu hm xe_str he hs) fun D σ H q => by
    obtain ⟨H0, E⟩ := q.1
    refine ⟨⟨Hb, H0, E⟩, fun v H1 s1 q1 => ⟨⟨Hb, H0, E.mono s1⟩, fun H2 s2 => ⟨⟨Hb, H0, E.mono (s1.trans s2)⟩, fun y H3 s3 q3 => ?_⟩⟩⟩
    cases q3
    have s := (s1.trans s2).trans s3
    have E3 := E.mono s
    obtain ⟨ov, h1, v0, rfl, h2⟩ := E3.sl 0 _ rfl
    obtain ⟨rfl, M⟩ := h2 H3 E3.s0
    have z := M.mem.look u
    rw [hlook] at z
    obtain ⟨a', l', vs, hv, fl⟩ := z
    rw [l] at l'
    cases l'
    obtain ⟨ws, e1, fw⟩ := fl.put hany (dp_mono (s2.trans s3) _ _ q1)
    have hlen : (txtK vs).length < sizeLine := by
      unfold txtK
      rw [List.length_map, fl.len]
      exact (by decide : 8 < sizeLine)
    refine ⟨m, _, rfl, DPut.k (k := .inr f) hv hlen, ?_⟩
    have k : OffK m H3 (upd H3 m (.dK (putK (txtK vs) (.inr f) v))) := OffK.upd hv
    have dd : DkAt X.K (upd H3 m (.dK (putK (txtK vs) (.inr f) v))) m (lmFs mm') := ⟨ws, by rw [e1]; exact upd_same, by rw [← hfs]; exact fw.offK k⟩
    refine q.2.1 _ σ _ _ ((KeepT.of s).trans k.keepT) (E3.offK k (by rw [upd_same]; exact fun z => nomatch z) hl hst h1 fun H4 s4 => ⟨rfl, (M.put l hlook k dd).mono s4⟩) h
/-- model['spent'] = e -/
theorem xs_sput {p2 : Pos} {n : Int} (hu : X.A.units + 1 < cLine) (hm : XK X a (.x (ModF X.K pa ta ents S) :: Γ) (.ref pa)) (he : XE X e (.x (ModF X.K pa ta ents S) :: Γ) (.int n)) (hst : StL Γ) (hl : pa ∈ Hb.l) (h : N (.x (ModF X.K pa ta ents { S with spent := n }) :: Γ))
    (hs : swapsWith e (some (.Subscript a (.Constant (.str "spent") j p2) pos')) pos.line X.env = pure false := by rfl) :
    XS X Hb (.Assign [.Subscript a (.Constant (.str "spent") j p2) pos'] e pos) (.x (ModF X.K pa ta ents S) :: Γ) N R :=
  ps_imp (ps_dput hu hm xe_str he hs) fun D σ H q => by
    obtain ⟨H0, E⟩ := q.1
    refine ⟨⟨Hb, H0, E⟩, fun v H1 s1 q1 => ⟨⟨Hb, H0, E.mono s1⟩, fun H2 s2 => ⟨⟨Hb, H0, E.mono (s1.trans s2)⟩, fun y H3 s3 q3 => ?_⟩⟩⟩
    cases q3
    cases q1
    have s := (s1.trans s2).trans s3
    have E3 := E.mono s
    obtain ⟨ov, h1, v0, rfl, h2⟩ := E3.sl 0 _ rfl
    obtain ⟨rfl, M⟩ := h2 H3 E3.s0
    refine ⟨pa, _, rfl, DPut.k (k := .inr "spent") M.top (show 2 < sizeLine by decide), ?_⟩
    have k : OffK pa H3 (upd H3 pa (.dK (putK [(.inr "trials", .ref ta), (.inr "spent", .int S.spent)] (.inr "spent") (.int n)))) := OffK.upd M.top
    refine q.2.1 _ σ _ _ ((KeepT.of s).trans k.keepT) (E3.offK k (by rw [upd_same]; exact fun z => nomatch z) hl hst h1 fun H4 s4 => ⟨rfl, ModE.mono ⟨?_, k.2 _ _ (Ne.symm M.ne_pt) M.tri, M.mem.off k fun a ha => ?_, M.nd⟩ s4⟩) h
    · rw [upd_same]
      rfl
    · obtain ⟨m, hm⟩ := M.mem.each a ha
      exact M.ne_mp hm

/-! ### displays -/
def tXDk (K : PySem.W.Frag) (Γ : G) (fs : List (Str × PyData)) : TE := fun σ H Q => (∃ Hb H0, EnvOk K Hb H0 H σ Γ) ∧ ∀ a H', H a = none → Same H H' → DkAt K H' a fs → Q (.ref a) H'
abbrev XPs (X : Cx) (pos : Pos) (keys : List (Option Expr)) (values : List Expr) (Γ : G) (fs : List (Str × PyData)) : Prop := PPs X pos keys values (fs.map fun f => (tX X.K Γ (.str f.1), tX X.K Γ f.2))
theorem xps_nil : XPs X pos [] [] Γ [] := pps_nil
theorem xps_cons {ks : List (Option Expr)} {vs : List Expr} {v : Expr} {p2 : Pos} (hv : XE X v Γ d) (hr : XPs X pos ks vs Γ fs) : XPs X pos (some (.Constant (.str f) j p2) :: ks) (v :: vs) Γ ((f, d) :: fs) := pps_cons xe_str hv hr
theorem pairs_data {K : PySem.W.Frag} {σ : St} : ∀ {fs : List (Str × PyData)} {H : Hp} {Q : List (V × V) → Hp → Prop}, (∃ Hb H0, EnvOk K Hb H0 H σ Γ) → (∀ vs H', Same H H' → FldsL K H' vs fs → Q ((txtK vs).map fun kv => (kV kv.1, kv.2)) H') → tPairs (fs.map fun f => (tX K Γ (.str f.1), tX K Γ f.2)) σ H Q
  | [], H, Q, E, k => k [] H (Same.refl H) trivial
  | (g, d) :: fs, H, Q, E, k => by
    obtain ⟨Hb, H0, E⟩ := E
    refine ⟨⟨Hb, H0, E⟩, fun x H1 s1 q1 => ⟨⟨Hb, H0, E.mono s1⟩, fun y H2 s2 q2 => pairs_data ⟨Hb, H0, E.mono (s1.trans s2)⟩ fun vs H3 s3 fl => ?_⟩⟩
    cases q1
    exact k ((g, y) :: vs) H3 ((s1.trans s2).trans s3) ⟨rfl, dp_mono s3 _ _ q2, fl⟩
theorem mergeK_txt : ∀ (more kvs : List (Key × V)), ((kvs ++ more).map (·.1)).Nodup → mergeK kvs more = kvs ++ more
  | [], kvs, _ => (List.append_nil _).symm
  | x :: more, kvs, nd => by
    have hn : valV kvs x.1 = none := by
      unfold valV
      rw [Option.map_eq_none_iff, List.find?_eq_none]
      intro z hz he
      have he : z.1 = x.1 := of_decide_eq_true he
      rw [List.map_append, List.map_cons, List.nodup_append] at nd
      exact nd.2.2 z.1 (List.mem_map_of_mem hz) x.1 List.mem_cons_self he
    show mergeK (putK kvs x.1 x.2) more = kvs ++ x :: more
    rw [putK_new _ hn, mergeK_txt more _ (by rw [List.append_assoc]; exact nd), List.append_assoc]
    rfl
theorem FldsL.keys {K : PySem.W.Frag} {H : Hp} : ∀ {vs : List (Str × V)} {fs : List (Str × PyData)}, FldsL K H vs fs → vs.map (·.1) = fs.map (·.1)
  | [], [], _ => rfl
  | (x, v) :: vs, (y, d) :: fs, h => by
    show x :: _ = y :: _
    rw [h.1, FldsL.keys h.2.2]
  | [], _ :: _, h => h.elim
  | _ :: _, [], h => h.elim
theorem xd_disp {keys : List (Option Expr)} {values : List Expr} (h : XPs X pos keys values Γ fs) (hall : keys.all (·.isSome) = true) (hl : keys.length = values.length) (h0 : keys ≠ []) (h15 : keys.length ≤ 15) (hf : fs.length ≤ 15) (nd : (fs.map (·.1)).Nodup) : PE X (.Dict keys values pos) (tXDk X.K Γ fs) :=
  pe_imp (pe_disp h hall hl h0 h15) fun σ H Q ⟨⟨Hb, H0, E⟩, q⟩ a ha => by
    have s0 : Same H (upd H a (.dK [])) := fun b o z => by rw [upd_ne (ne_of_none z ha)]; exact z
    refine pairs_data ⟨Hb, H0, E.mono s0⟩ fun vs H2 s2 fl => ?_
    have e2 : H2 a = some (.dK []) := s2 _ _ upd_same
    refine ⟨e2, txtK vs, rfl, by unfold txtK; rw [List.length_map, fl.len]; exact hf, ?_⟩
    have em : mergeK [] (txtK vs) = txtK vs := mergeK_txt (txtK vs) [] (by
      show ((txtK vs).map (·.1)).Nodup
      have : (txtK vs).map (·.1) = (vs.map (·.1)).map Sum.inr := by
        unfold txtK
        rw [List.map_map]
        rw [List.map_map]
        rfl
      rw [this, fl.keys]
      exact nd.map (f := Sum.inr) (fun x y ne z => ne (Sum.inr.inj z)))
    rw [em]
    have k : OffK a H2 (upd H2 a (.dK (txtK vs))) := OffK.upd e2
    refine q a _ ha (fun b o z => ?_) ⟨vs, upd_same, fl.offK k⟩
    have hb : b ≠ a := ne_of_none z ha
    rw [upd_ne hb]
    exact s2 _ _ (s0 _ _ z)
theorem LMems.snoc {K : PySem.W.Frag} {H : Hp} {a : Addr} {m : LMem} (hd : DkAt K H a (lmFs m)) : ∀ {es : List (Int × Addr)} {ms : List (Int × LMem)}, LMems K H es ms → LMems K H (es ++ [(u, a)]) (ms ++ [(u, m)])
  | [], [], _ => ⟨rfl, hd, trivial⟩
  | e :: es, x :: ms, h => ⟨h.1, h.2.1, LMems.snoc hd h.2.2⟩
  | [], _ :: _, h => h.elim
  | _ :: _, [], h => h.elim
theorem putM_new {α : Type} {t : Int} {m : α} : ∀ {l : List (Int × α)}, lookM l t = none → putM t m l = l ++ [(t, m)]
  | [], _ => rfl
  | (v, x) :: r, h => by
    unfold lookM at h
    rw [List.find?_cons] at h
    by_cases q : v = t
    · simp [q] at h
    · simp only [q, decide_false] at h
      unfold putM
      rw [if_neg q, putM_new (l := r) h]
      rfl
/-- trials[k] = {..} -/
theorem xs_fput {i : Expr} {mm : LMem} (hu : X.A.units + 1 < cLine) (hm : XK X a (.x (ModF X.K pa ta ents S) :: Γ) (.ref ta)) (hi : XE X i (.x (ModF X.K pa ta ents S) :: Γ) (.int u)) (he : PE X e (tXDk X.K (.x (ModF X.K pa ta ents S) :: Γ) (lmFs mm))) (hlook : lookM S.mem u = none) (hz : ents.length ≤ 1000) (hst : StL Γ) (hl : ta ∈ Hb.l)
    (h : ∀ a, N (.x (ModF X.K pa ta (ents ++ [(u, a)]) (S.keep u mm)) :: Γ)) (hs : swapsWith e (some (.Subscript a i pos')) pos.line X.env = pure false := by rfl) :
    XS X Hb (.Assign [.Subscript a i pos'] e pos) (.x (ModF X.K pa ta ents S) :: Γ) N R :=
  ps_imp (ps_dput hu hm hi he hs) fun D σ H q => by
    obtain ⟨H0, E⟩ := q.1
    refine ⟨⟨Hb, H0, E⟩, fun v H1 n1 s1 q1 => ⟨⟨Hb, H0, E.mono s1⟩, fun H2 s2 => ⟨⟨Hb, H0, E.mono (s1.trans s2)⟩, fun y H3 s3 q3 => ?_⟩⟩⟩
    cases q3
    have s := (s1.trans s2).trans s3
    have E3 := E.mono s
    have dk := (q1.mono s2).mono s3
    obtain ⟨_, h1', v0', e0', h2'⟩ := E.sl 0 _ rfl
    subst e0'
    obtain ⟨_, M0⟩ := h2' H E.s0
    have nv : v ∉ ents.map (·.2) := fun z => by
      obtain ⟨m, vs, hm, _⟩ := M0.mem.each v z
      rw [n1] at hm
      cases hm
    obtain ⟨ov, h1, v0, rfl, h2⟩ := E3.sl 0 _ rfl
    obtain ⟨rfl, M⟩ := h2 H3 E3.s0
    have hlen : (entK ents).length < sizeLine := by
      unfold entK
      rw [List.length_map]
      have : (1000 : Nat) < sizeLine := by decide
      omega
    refine ⟨ta, _, rfl, DPut.k (k := .inl u) M.tri hlen, ?_⟩
    have z := M.mem.look u
    rw [hlook] at z
    have ek : putK (entK ents) (.inl u) (.ref v) = entK (ents ++ [(u, v)]) := by
      rw [putK_new _ (by rw [entK_val, z]; rfl)]
      unfold entK
      rw [List.map_append]
      rfl
    rw [ek]
    have k : OffK ta H3 (upd H3 ta (.dK (entK (ents ++ [(u, v)])))) := OffK.upd M.tri
    refine q.2.1 _ σ _ _ ((KeepT.of s).trans k.keepT) (E3.offK k (by rw [upd_same]; exact fun z => nomatch z) hl hst h1 fun H4 s4 => ⟨rfl, ModE.mono ⟨k.2 _ _ M.ne_pt M.top, upd_same, ?_, ?_⟩ s4⟩) (h v)
    · show LMems X.K _ _ (putM u mm S.mem)
      rw [putM_new hlook]
      refine LMems.snoc (dk.offK k (M.ne_mt dk)) (M.mem.off k fun a ha => ?_)
      obtain ⟨m, hm⟩ := M.mem.each a ha
      exact M.ne_mt hm
    · rw [List.map_append]
      rw [List.nodup_append]
      refine ⟨M.nd, by simp, fun x hx y hy => ?_⟩
      have e : y = v := List.mem_singleton.mp hy
      rw [e]
      exact fun z => nv (by rw [← z]; exact hx)
end
end TC
namespace TC
open PySem L2
/-! ### what the slots tell of the model -/
section
variable {K : PySem.W.Frag} {Γ : G} {p t a : Addr} {es : List (Int × Addr)} {S : LMod} {u : Int} {m : LMem} {f : Str} {d : PyData}
theorem modAt {Hb : Bs} {H0 H : Hp} {σ : St} (E : EnvOk K Hb H0 H σ Γ) (h : Γ[0]? = some (.x (ModF K p t es S))) : ModE K H p t es S := by
  obtain ⟨ov, h1, v, rfl, h2⟩ := E.sl 0 _ h
  exact (h2 H E.s0).2
theorem got_tri (h : Γ[0]? = some (.x (ModF K p t es S))) : DGot K Γ p (.inr "trials") (some (.ref t)) := fun _ _ H _ E => ⟨_, (modAt E h).top, rfl⟩
theorem got_spent (h : Γ[0]? = some (.x (ModF K p t es S))) : DGotD K Γ p (.inr "spent") (.int S.spent) := fun _ _ H _ E => ⟨_, _, (modAt E h).top, rfl, .int _⟩
theorem got_mem (h : Γ[0]? = some (.x (ModF K p t es S))) : DGot K Γ t (.inl u) ((lookM es u).map V.ref) := fun _ _ H _ E => ⟨_, (modAt E h).tri, entK_val es u⟩
theorem got_the (h : Γ[0]? = some (.x (ModF K p t es S))) (l : lookM es u = some a) : DGot K Γ t (.inl u) (some (.ref a)) := fun _ _ H _ E => ⟨_, (modAt E h).tri, by rw [entK_val, l]; rfl⟩
theorem got_fld (h : Γ[0]? = some (.x (ModF K p t es S))) (l : lookM es u = some a) (hm : lookM S.mem u = some m) (hf : (lmFs m).lookup f = some d) : DGotD K Γ a (.inr f) d := fun _ _ H _ E => by
  have z := (modAt E h).mem.look u
  rw [hm] at z
  obtain ⟨a', l', vs, h1, h2⟩ := z
  rw [l] at l'
  cases l'
  obtain ⟨v, h3, h4⟩ := h2.val hf
  exact ⟨_, v, h1, h3, h4⟩
/-- the table of addresses has the model's keys -/
theorem ModE.keys {H : Hp} (h : ModE K H p t es S) : es.map (·.1) = S.mem.map (·.1) := h.mem.keys
theorem ModE.look {H : Hp} (h : ModE K H p t es S) (u : Int) : (lookM es u).isSome = (lookM S.mem u).isSome := by
  have z := h.mem.look u
  cases q : lookM S.mem u with
  | none => rw [q] at z; rw [z]; rfl
  | some m =>
    rw [q] at z
    obtain ⟨a, l, _⟩ := z
    rw [l]
    rfl
theorem look_iso {es : List (Int × Addr)} (h : (lookM es u).isSome = (lookM S.mem u).isSome) (hm : lookM S.mem u = some m) : ∃ a, lookM es u = some a := by
  rw [hm] at h
  cases q : lookM es u with
  | none => rw [q] at h; cases h
  | some a => exact ⟨a, rfl⟩
end
def intLe (a b : Int) : Bool := decide (a ≤ b)
def sortI (ks : List Int) : List Int := ks.mergeSort intLe
theorem sortI_of {ys ks : List Int} (h : ys.Perm ks) (o : ys.Pairwise (· ≤ ·)) : ys = sortI ks := by
  refine List.Perm.eq_of_pairwise (le := fun a b => a ≤ b) (fun a b _ _ h1 h2 => by omega) o ?_ (h.trans (List.mergeSort_perm ks intLe).symm)
  have z := List.pairwise_mergeSort (le := intLe) (fun a b c h1 h2 => by unfold intLe at *; simp at *; omega) (fun a b => by unfold intLe; simp; omega) ks
  exact z.imp fun h => of_decide_eq_true h
section
variable {X : Cx} {Hb : Bs} {Γ : G} {N : G → Prop} {R : Rk → G → Prop} {a e : Expr} {es : List Expr} {x : Str} {p pos pos' apos mpos px : Pos} {d : PyData} {ds : List PyData} {ns : List Int} {y : V} {r : Addr}
/-- sorted(a dict with int keys) -/
theorem xf_sortedK {ks : List Int} (hc : X.calm = true) (hm : X.mg "sorted" = none) (ha : XK X a Γ (.ref r)) (hf : ∀ Hb H0 H σ, EnvOk X.K Hb H0 H σ Γ → ∃ kvs, H r = some (.dK kvs) ∧ kvs.map (·.1) = ks.map Sum.inl) (hz : ks.length < 64)
    (hg : Gl X "sorted" := by rfl) (hs : starEach (a :: []) X.env = (false, eval a X.env) :: starEach [] X.env := by rfl) (hpl : (backTo pos (starEach [] X.env)).any (·.1) = false := by rfl) : XF X (.Call (.Name "sorted" p) [a] [] pos) Γ ((sortI ks).map .int) :=
  pe_imp (pe_callB (call_sortedDI hc) hg hm (by decide +kernel) (pa_cons ha pa_nil hs) (by decide) (by decide) hs hpl) fun σ H Q ⟨⟨Hb, H0, E⟩, k⟩ => ⟨⟨Hb, H0, E⟩, fun H1 s1 => by
    obtain ⟨kvs, h1, h2⟩ := hf Hb H0 H1 σ (E.mono s1)
    refine ⟨r, kvs, ks, rfl, .inl h1, h2, hz, fun ys q hp ho hq => ?_⟩
    rw [sortI_of hp ho]
    have s2 : Same H1 (upd H1 q (.lst ((sortI ks).map V.int))) := fun b o z => by rw [upd_ne (ne_of_none z hq)]; exact z
    exact k q _ _ (s1.free hq) (s1.trans s2) upd_same (dpa_int _)⟩
/-- for t in (a new list of ints) -/
theorem xs_forF {tg : Expr} {body : List Stmt} (he : XF X e Γ (ns.map .int)) (t : Tg) (J : Nat → G → Prop) (hg : PG X tg (gT X.K t)) (h0 : J 0 Γ)
    (turn : ∀ (h : Hp) (i : Nat) (n : Int) (Γi : G), ns[i]? = some n → J i Γi → ∃ Γ', t.put (.int n) Γi = some Γ' ∧ XSs X ⟨h, [], Hb.E, Hb.DF⟩ body Γ' (J (i + 1)) R) (hd : ∀ Γ', J ns.length Γ' → N Γ') (hc : X.calm = true) (hpo : PassesOwn (model X.prog X.w) X.A X.env X.xe)
    (hs : ∀ z, foldedSetIterable e X.env z = pure z := by intro _; rfl) : XS X Hb (.For tg e body [] pos) Γ N R := by
  refine ps_imp (ps_for hpo hc (pi_list he) hg (pss_semA) hs) fun D σ H q => ?_
  obtain ⟨H0', E'⟩ := q.1
  refine ⟨⟨Hb, H0', E'⟩, fun p vs H1 n1 s1 e1 q1 => ?_⟩
  rw [dpa_ints q1] at e1
  obtain ⟨H0, hH0⟩ : ∃ H0, H0 = upd H0' p (.lst (ns.map V.int)) := ⟨_, rfl⟩
  have E := E'.base_add n1 s1 e1
  have e0 : H0 p = some (.lst (ns.map V.int)) := by rw [hH0]; exact upd_same
  rw [← hH0] at E
  refine ⟨p, rfl, ⟨_, SqL.of e1⟩, ?_⟩
  have key : ∀ H2, Same H0 H2 → SqL X.K H2 p (ns.map V.int) := fun H2 s => SqL.of (s _ _ e0)
  refine for_it ((walk_list (K := X.K) (a := p) (xs := ns.map V.int))) (fun k σ' H2 => KeepT X.K H1 H2 ∧ Same H0 H2 ∧ ∃ Γi H0', EnvOk X.K ⟨H0, [], Hb.E, Hb.DF⟩ H0' H2 σ' Γi ∧ J k Γi) ⟨KeepT.refl _, E.s0, Γ, H0, ⟨Off.refl _, E.s0, E.ln, E.sl⟩, h0⟩ (fun k σ' H2 _ p => key H2 p.2.1) ?_ ?_
  · rintro k z σ' H2 H3 hk ⟨kt, s0, Γi, H0', Ei, hJ⟩ ⟨rfl, hz⟩
    rw [List.getElem?_map] at hz
    cases hn : ns[k]? with
    | none => rw [hn] at hz; cases hz
    | some n =>
      rw [hn] at hz
      cases hz
      obtain ⟨Γ', hput, hbody⟩ := turn H0 k n Γi hn hJ
      refine gT_ok t (.int n) hput fun σ2 _ EE => ⟨⟨H0, [], Hb.E, Hb.DF⟩, Γ', _, _, hbody, ⟨H0', EE _ _ Ei⟩, fun Γ2 σ3 H4 H0'' k4 e4 n4 => ?_, ?_⟩
      · exact ⟨kt.trans k4, e4.sb.same.trans e4.s0, Γ2, H0'', e4, n4⟩
      · have back : ∀ {H0' H' : Hp} {σ' : St} {Γ' : G}, EnvOk X.K ⟨H0, [], Hb.E, Hb.DF⟩ H0' H' σ' Γ' → EnvOk X.K Hb H0' H' σ' Γ' := fun e => ⟨E.sb.then e.sb.same, e.s0, e.ln, e.sl⟩
        exact ⟨fun Γ' σ' v d H' H0' e => q.2.2.d Γ' σ' v d H' H0' (back e), fun Γ' σ' p vs ds H' H0' e => q.2.2.l Γ' σ' p vs ds H' H0' (back e), fun Γ' σ' q1 C fs H' H0' e => q.2.2.w Γ' σ' q1 C fs H' H0' (back e), fun Γ' σ' v F H' H0' e => q.2.2.v Γ' σ' v F H' H0' (back e), fun Γ' σ' s d H' H0' e => q.2.2.x Γ' σ' s d H' H0' (back e)⟩
  · rintro σ' H2 ⟨kt, s0, Γi, H0', Ei, hJ⟩
    rw [List.length_map] at hJ
    exact q.2.1 _ _ H2 H0' ((KeepT.of s1).trans kt) ⟨E.sb.then Ei.sb.same, Ei.s0, Ei.ln, Ei.sl⟩ (hd _ hJ)
/-! ### defs that are given the model -/
def spMod (K : PySem.W.Frag) (n : Nat) (Pr : LMod → List PyData → PyData → Prop) : Sp := fun vs H Q _ => ∃ p t es S us ds r, vs = V.ref p :: us ∧ us.length = n ∧ ModE K H p t es S ∧ DpAll K H us ds ∧ Pr S ds r ∧ ∀ v H', Same H H' → Dp K H' v r → Q v H'
theorem xd_callM {k n : Nat} {ps : List Str} {Pr : LMod → List PyData → PyData → Prop} {fn : Str} {pt t : Addr} {ents : List (Int × Addr)} {S : LMod} (D : Def X.prog X.w X.K X.mg X.base fn k ps (spMod X.K n Pr)) (hr : Room k X.A) (h0 : Γ[0]? = some (.x (ModF X.K pt t ents S))) (hm : XK X e Γ (.ref pt)) (ha : XA X es Γ ds) (hP : Pr S ds d) (hn : ds.length = n := by rfl) (hg : Gl X fn := by rfl)
    (hdb : (fn == ("__debug__" : Str)) = false := by decide) (he : starEach (e :: es) X.env = (false, eval e X.env) :: starEach es X.env := by rfl) (hpl : (backTo pos (starEach es X.env)).any (·.1) = false := by rfl) : XE X (.Call (.Name fn p) (e :: es) [] pos) Γ d := by
  obtain ⟨f, fd, h1, h2, h3, h4⟩ := D
  refine pe_imp (pe_call (E := fun _ _ _ => False) h4 hr hg h1 h2 h3 .nil pass0 (pa_cons hm ha he) hdb he hpl) fun σ H Q ⟨⟨Hb, H0, E⟩, q⟩ => ⟨⟨Hb, H0, E⟩, fun H1 s1 => ⟨⟨Hb, H0, E.mono s1⟩, fun us H2 s2 q2 => ?_⟩⟩
  show spMod X.K n Pr (V.ref pt :: us ++ []) H2 Q _
  rw [List.append_nil]
  exact ⟨pt, t, ents, S, us, ds, d, rfl, by rw [dpa_length q2]; exact hn, modAt (E.mono (s1.trans s2)) h0, q2, hP, fun v H3 s3 q3 => q v H3 ((s1.trans s2).trans s3) q3⟩
end
/-! ### needed: the mirror -/
def needStep (S : LMod) (L : List (Int × Int)) (k : Int) : List (Int × Int) := match lookM S.mem k with
  | none => L
  | some m => if m.stop = true then L else match m.hpair with
    | none => L
    | some p => if p ∈ L then L else L ++ [p]
def needRun (S : LMod) (ks : List Int) : List (Int × Int) := ks.foldl (needStep S) []
def neededL (S : LMod) : List (Int × Int) := (needRun S (sortI (S.mem.map (·.1)))).mergeSort (PySem.W.dataLe false dPair)
theorem needStep_mem (S : LMod) (L : List (Int × Int)) (k : Int) (q : Int × Int) : q ∈ needStep S L k ↔ q ∈ L ∨ ∃ m, lookM S.mem k = some m ∧ m.stop = false ∧ m.hpair = some q := by
  unfold needStep
  cases lookM S.mem k with
  | none => simp
  | some m =>
    dsimp only
    cases hs : m.stop with
    | true => simp [hs]
    | false =>
      cases hp : m.hpair with
      | none => simp [hp]
      | some p =>
        simp only [if_false, Bool.false_eq_true]
        split
        · rename_i hin
          constructor
          · exact fun h => .inl h
          · rintro (h | ⟨m', h1, h2, h3⟩)
            · exact h
            · cases h1
              rw [hp] at h3
              cases h3
              exact hin
        · rw [List.mem_append, List.mem_singleton]
          constructor
          · rintro (h | h)
            · exact .inl h
            · exact .inr ⟨m, rfl, hs, by rw [hp, h]⟩
          · rintro (h | ⟨m', h1, h2, h3⟩)
            · exact .inl h
            · cases h1
              rw [hp] at h3
              cases h3
              exact .inr rfl
theorem needRun_mem (S : LMod) (q : Int × Int) : ∀ (ks : List Int) (L : List (Int × Int)), q ∈ ks.foldl (needStep S) L ↔ q ∈ L ∨ ∃ k ∈ ks, ∃ m, lookM S.mem k = some m ∧ m.stop = false ∧ m.hpair = some q
  | [], L => by simp
  | k :: ks, L => by
    rw [List.foldl_cons, needRun_mem S q ks, needStep_mem]
    constructor
    · rintro ((h | h) | ⟨k', h1, h2⟩)
      · exact .inl h
      · exact .inr ⟨k, List.mem_cons_self, h⟩
      · exact .inr ⟨k', List.mem_cons_of_mem _ h1, h2⟩
    · rintro (h | ⟨k', h1, h2⟩)
      · exact .inl (.inl h)
      · rcases List.mem_cons.mp h1 with e | e
        · rw [e] at h2
          exact .inl (.inr h2)
        · exact .inr ⟨k', e, h2⟩
theorem neededL_mem {S : LMod} (nd : (S.mem.map (·.1)).Nodup) (q : Int × Int) : q ∈ neededL S ↔ q ∈ lneeded S := by
  unfold neededL needRun lneeded
  rw [(List.mergeSort_perm _ _).mem_iff, needRun_mem, List.mem_filterMap]
  constructor
  · rintro (h | ⟨k, _, m, h1, h2, h3⟩)
    · cases h
    · refine ⟨(k, m), lookM_in h1, ?_⟩
      rw [h2]
      exact h3
  · rintro ⟨⟨k, m⟩, h1, h2⟩
    refine .inr ⟨k, ?_, m, lookM_mem nd h1, ?_, ?_⟩
    · exact (List.mergeSort_perm _ _).mem_iff.mpr (List.mem_map.mpr ⟨(k, m), h1, rfl⟩)
    · cases e : m.stop with
      | true => simp [e] at h2
      | false => rfl
    · cases e : m.stop with
      | true => simp [e] at h2
      | false => simpa [e] using h2
theorem needStep_len (S : LMod) (L : List (Int × Int)) (k : Int) : (needStep S L k).length ≤ L.length + 1 := by
  unfold needStep
  repeat' split
  all_goals first | omega | (rw [List.length_append, List.length_singleton]; omega)
theorem needRun_len (S : LMod) : ∀ (ks : List Int) (L : List (Int × Int)), (ks.foldl (needStep S) L).length ≤ L.length + ks.length
  | [], L => by simp
  | k :: ks, L => by
    rw [List.foldl_cons]
    have h1 := needRun_len S ks (needStep S L k)
    have h2 := needStep_len S L k
    rw [List.length_cons]
    omega
theorem need_take (S : LMod) (ks : List Int) (i : Nat) (k : Int) (h : ks[i]? = some k) : needRun S (ks.take (i + 1)) = needStep S (needRun S (ks.take i)) k := by
  unfold needRun
  rw [List.take_add_one]
  rw [h, List.foldl_append]
  rfl
end TC
namespace TC
open PySem L2
section
variable {P : Program} {w : World}
variable {K : PySem.W.Frag} {mg : Str → Option Value} {base : Heap}
/-! _law_new -/
abbrev sLNew : Stmt := topS 49
def spNew (K : PySem.W.Frag) : Sp := fun vs H Q _ => vs = [] ∧ ∀ p t H', H p = none → Same H H' → ModE K H' p t [] ⟨[], 0⟩ → Q (.ref p) H'
theorem sc_lnew : FnScope [] [] (defScope sLNew) := ⟨rfl, rfl, rfl, by decide +kernel, rfl, by decide +kernel, by decide +kernel⟩
theorem ok_lnew (R : RawD K mg "_law_new" sLNew) : Def P w K mg base "_law_new" 1 [] (spNew K) := by
  obtain ⟨f, fd, h1, F⟩ := R
  refine ⟨f, fd, h1, F.kp, F.binds (fun _ _ _ _ _ _ us hl => match us, hl with | [], _ => rfl), F.ok sc_lnew (fun vs H Q E h => by rw [h.1]; rfl) (fun cdv A outer s H vs Q E hr h => ?_)⟩
  obtain ⟨rfl, k⟩ := h
  refine ⟨_, pss_one (ps_ret (pe_disp (pps_cons pe_str pe_dnewK (pps_cons pe_str pe_int pps_nil)) rfl rfl (by decide) (by decide))), ?_⟩
  intro p hp t ht
  have npt : t ≠ p := fun z => by rw [z, upd_same] at ht; cases ht
  refine ⟨by rw [upd_ne npt.symm, upd_same], [(.inr "trials", .ref t), (.inr "spent", .int 0)], rfl, show 2 ≤ 15 by decide, ?_⟩
  have ht0 : H t = none := by rw [upd_ne npt] at ht; exact ht
  refine k p t _ hp (fun b o z => ?_) ⟨upd_same, ?_, trivial, List.nodup_nil⟩
  · rw [upd_ne (ne_of_none z hp), upd_ne (ne_of_none z ht0), upd_ne (ne_of_none z hp)]
    exact z
  · rw [upd_ne npt, upd_same]
    rfl
/-! _law_needed -/
abbrev sLNeed : Stmt := topS 51
structure LOk (B : Nat) (S : LMod) : Prop where
  nd : (S.mem.map (·.1)).Nodup
  ml : S.mem.length ≤ B
  st : ∀ x ∈ S.mem, x.2.steps.length ≤ 4 * B ∧ x.2.hsteps.length ≤ 4 * B ∧ x.2.saves.length ≤ B ∧ (∀ q, some q ∈ x.2.saves → q.2.length ≤ 4 * B)
  rt : ∀ x ∈ S.mem, RateOk x.2.set.1 ∧ RateOk x.2.hset.1 ∧ (∀ s ∈ x.2.steps, RateOk s.1) ∧ (∀ s ∈ x.2.hsteps, RateOk s.1) ∧ (∀ q, some q ∈ x.2.saves → ∀ s ∈ q.2, RateOk s.1)
def pLNeed (S : LMod) (ds : List PyData) (r : PyData) : Prop := ds = [] ∧ S.mem.length ≤ 50 ∧ r = .tuple ((neededL S).map dPair)
theorem sc_lneed : FnScope ["_law_model", "_law_found", "_law_number", "_law_member"] ["_law_model"] (defScope sLNeed) := ⟨rfl, rfl, rfl, by decide +kernel, rfl, by decide +kernel, by decide +kernel⟩
theorem hu1 {k : Nat} {A : Around} (r : Room k A) : A.units + 1 < cLine := by
  have := r.un
  omega
theorem pair_shaped (p : Int × Int) : SeqAt.shaped (dPair p) = true := by
  show (PyData.canLay0 (dPair p) && decide (PyData.depth (dPair p) ≤ 64)) = true
  rw [Bool.and_eq_true]
  exact ⟨by simp [PyData.canLay0, PyData.canLayAll0, dPair], decide_eq_true (by simp [PyData.depth, PyData.depthAll, dPair])⟩
theorem pairsL_shaped (l : List (Int × Int)) : SeqAt.shaped (.list (l.map dPair)) = true := by
  have h := pairs_shaped l
  have h : (PyData.canLay0 (.tuple (l.map dPair)) && decide (PyData.depth (.tuple (l.map dPair)) ≤ 64)) = true := h
  rw [Bool.and_eq_true] at h
  show (PyData.canLay0 (.list (l.map dPair)) && decide (PyData.depth (.list (l.map dPair)) ≤ 64)) = true
  rw [Bool.and_eq_true]
  refine ⟨?_, decide_eq_true ?_⟩
  · have := h.1
    simp only [PyData.canLay0] at this ⊢
    exact this
  · have := of_decide_eq_true h.2
    simp only [PyData.depth] at this ⊢
    exact this
theorem look_key {α : Type} {u : Int} : ∀ {l : List (Int × α)}, u ∈ l.map (·.1) → ∃ m, lookM l u = some m
  | (v, x) :: r, h => by
    unfold lookM
    rw [List.find?_cons]
    by_cases q : v = u
    · simp [q]
    · simp only [q, decide_false]
      rcases List.mem_cons.mp (show u ∈ v :: r.map (·.1) from h) with z | z
      · exact absurd z.symm q
      · exact look_key z
theorem pure_pair (p : Int × Int) : pureD (dPair p) = true := rfl
theorem pair_alike (p q : Int × Int) : PySem.W.alike (dPair p) (dPair q) = true := by simp [dPair, PySem.W.alike, PySem.W.alikeAll]
theorem ok_lneed (R : RawD K mg "_law_needed" sLNeed) (B : Bi mg) : Def P w K mg base "_law_needed" 1 ["_law_model"] (spMod K 0 pLNeed) := by
  obtain ⟨f, fd, h1, F⟩ := R
  refine ⟨f, fd, h1, F.kp, F.binds (fun _ _ _ _ _ _ us hl => match us, hl with | [_], _ => rfl), F.ok sc_lneed (fun vs H Q E h => ?_) (fun cdv A outer s H vs Q E hr h => ?_)⟩
  · obtain ⟨p, t, es, S, us, ds, r, rfl, hl, _⟩ := h
    match us, hl with
    | [], _ => rfl
  · obtain ⟨p, t, es, S, us, ds, r, rfl, hl, M, da, ⟨rfl, hz, rfl⟩, k⟩ := h
    have hl0 : us = [] := List.length_eq_zero_iff.mp hl
    subst hl0
    refine ⟨tS K (.pu H) [.x (ModF K p t es S), .n, .n, .n] (fun _ => False) (fun q _ => q = .d (.tuple ((neededL S).map dPair))), ?_, ⟨H, Off.refl _, Same.refl _, rfl, fun i g hg => ?_⟩, fun Γ' σ' H' H0 kt e n => n.elim, ⟨fun Γ' σ' v d H' H0 e q z => ?_, fun _ _ _ _ _ _ _ _ _ _ _ z => (nomatch z), fun _ _ _ _ _ _ _ _ _ _ z => (nomatch z), fun _ _ _ _ _ _ _ _ z => (nomatch z), fun _ _ _ _ _ _ _ _ z => (nomatch z)⟩⟩
    · obtain ⟨ks, hks⟩ : ∃ ks, ks = sortI (S.mem.map (·.1)) := ⟨_, rfl⟩
      have hkl : ks.length ≤ 50 := by
        rw [hks]
        unfold sortI
        rw [List.length_mergeSort, List.length_map]
        exact hz
      have hlen : ∀ i, (needRun S (ks.take i)).length ≤ 50 := fun i => by
        have z := needRun_len S (ks.take i) []
        have z2 : (ks.take i).length ≤ ks.length := by rw [List.length_take]; omega
        unfold needRun
        simp only [List.length_nil] at z
        omega
      refine xss_cons (xs_setF 1 (xf_lst xa_nil (by decide)) rfl rfl ?_ sc_lneed.nd)
      refine xss_cons (xs_forF (ns := ks) (xf_eq (xf_sortedK (ks := S.mem.map (·.1)) rfl B.sorted (xk_key (hu1 hr) (xk_var 0 rfl (fun H v h => h.1)) xe_str rfl (got_tri rfl)) (fun Hb H0 H σ E => ⟨_, (modAt E rfl).tri, ?_⟩) (by rw [List.length_map]; omega)) (by rw [hks])) (.nm 2)
        (fun i Γ => ∃ s2 s3, Γ = [.x (ModF K p t es S), .o ((needRun S (ks.take i)).map dPair), s2, s3]) (pg_name (i := 2) sc_lneed.nd rfl (Or.inl rfl)) ⟨_, _, rfl⟩ ?_ ?_ rfl PassesOwn.never)
      · rw [← M.keys]
        unfold entK
        rw [List.map_map]
        rw [List.map_map]
        rfl
      · rintro h i n Γi hn ⟨s2, s3, rfl⟩
        refine ⟨_, rfl, ?_⟩
        have hin : n ∈ S.mem.map (·.1) := by
          have := List.mem_of_getElem? hn
          rw [hks] at this
          exact (List.mergeSort_perm _ _).mem_iff.mp this
        obtain ⟨x, hx, hxe⟩ := List.mem_map.mp hin
        subst hxe
        obtain ⟨m, hm⟩ : ∃ m, lookM S.mem x.1 = some m := look_key hin
        obtain ⟨a, la⟩ := look_iso (M.look x.1) hm
        have e1 := need_take S ks i x.1 hn
        have hl2 := hlen i
        obtain ⟨L, hL⟩ : ∃ L, L = needRun S (ks.take i) := ⟨_, rfl⟩
        rw [e1, ← hL]
        rw [← hL] at hl2
        have step : needStep S L x.1 = if m.stop = true then L else match m.hpair with
            | none => L
            | some p => if p ∈ L then L else L ++ [p] := by
          unfold needStep
          rw [hm] <;> rfl
        rw [step]
        refine xss_cons (xs_setK 3 (xk_key (hu1 hr) (xk_key (hu1 hr) (xk_var 0 rfl (fun H v h => h.1)) xe_str rfl (got_tri rfl)) (xe_var 2 rfl) rfl (got_the rfl la)) ?_ sc_lneed.nd)
        have st : ∀ {pos : Pos} {p2 p3 : Pos} {j : Nat}, XE (cxOf CX0 P w K mg base ["_law_model", "_law_found", "_law_number", "_law_member"] "_law_needed" (defScope sLNeed) f cdv A outer s H E).nox (.Subscript (.Name "_law_member" p2) (.Constant (.str "stopped") j p3) pos) [.x (ModF K p t es S), .o (L.map dPair), .c (.int x.1), .x (IsV (.ref a))] (.bool m.stop) := xe_key (hu1 hr) (xk_var 3 rfl (fun H v h => h)) xe_str rfl (got_fld rfl la hm rfl)
        have ho : ∀ {pos : Pos} {p2 p3 : Pos} {j : Nat}, XE (cxOf CX0 P w K mg base ["_law_model", "_law_found", "_law_number", "_law_member"] "_law_needed" (defScope sLNeed) f cdv A outer s H E).nox (.Subscript (.Name "_law_member" p2) (.Constant (.str "home") j p3) pos) [.x (ModF K p t es S), .o (L.map dPair), .c (.int x.1), .x (IsV (.ref a))] (dLHome m) := xe_key (hu1 hr) (xk_var 3 rfl (fun H v h => h)) xe_str rfl (got_fld rfl la hm rfl)
        cases hs : m.stop with
        | true =>
          rw [hs] at st
          rw [if_pos rfl]
          refine xss_one (xs_ifF (xt_w (xw_and (l := false) (xt_not (xt_val st)) (fun z => nomatch z))) (k := false) rfl (xss_nil ⟨_, _, rfl⟩))
        | false =>
          rw [hs] at st
          rw [if_neg (by decide)]
          cases hp : m.hpair with
          | none =>
            have e3 : dLHome m = .tuple [dSet m.hset, .int m.hseed, dSteps m.hsteps, .none] := by unfold dLHome; rw [hp]; rfl
            rw [e3] at ho
            refine xss_one (xs_ifF (xt_w (xw_and (xt_not (xt_val st)) (fun _ => xw_and (l := false) (xt_notN (xe_ixT ho xe_int (atI_nat (j := 3) rfl))) (fun z => nomatch z)))) (k := false) rfl (xss_nil ⟨_, _, rfl⟩))
            | some q =>
            have e3 : dLHome m = .tuple [dSet m.hset, .int m.hseed, dSteps m.hsteps, dPair q] := by unfold dLHome; rw [hp]; rfl
            rw [e3] at ho
            dsimp only
            refine xss_one (xs_if (xt_w (xw_and (xt_not (xt_val st)) (fun _ => xw_and (xt_notN (xe_ixT ho xe_int (atI_nat (j := 3) rfl))) (fun _ => xw_and1 (xt_notInL (hu65 hr) (xe_ixT ho xe_int (atI_nat (j := 3) rfl)) (xe_var 1 rfl) (pair_shaped q) (pairsL_shaped L)))))) (fun z => ?_) (fun z => ?_))
            · have z : (!decide (q ∈ L)) = true := by
                rw [← any_pair]
                exact z
              have hq : q ∉ L := by simpa using z
              refine xss_one (xs_app 1 rfl (xe_ixT ho xe_int (atI_nat (j := 3) rfl)) (pure_pair q) (by rw [List.length_map]; omega) ⟨.c (.int x.1), .x (IsV (.ref a)), ?_⟩)
              rw [if_neg hq, List.map_append]
              rfl
            · have z : (!decide (q ∈ L)) = false := by
                rw [← any_pair]
                exact z
              have hq : q ∈ L := by simpa using z
              refine xss_nil ⟨.c (.int x.1), .x (IsV (.ref a)), ?_⟩
              rw [if_pos hq]
              rfl
      · rintro Γ' ⟨s2, s3, rfl⟩
        rw [List.take_length]
        have hl3 := hlen ks.length
        rw [List.take_length] at hl3
        refine xss_one (xs_ret (xe_tupleL B.tuple (xe_of_f (xf_sorted (enc := dPair) (bs := needRun S ks) (fun b _ => ?_) (PySem.W.AllAlike.of pair_alike) (PySem.W.Sortable.tuples fun b => ⟨_, _, rfl⟩) (by omega) B.sorted (xe_var 1 rfl)))) ?_)
        · have hd : (dPair b).depth = 1 := by simp [dPair, PyData.depth, PyData.depthAll]
          rw [hd]
          have h3 : ∀ n, n + 65 < cLine → n + 2 + 1 < cLine := fun n h => by omega
          exact h3 _ (hu65 hr)
        · rw [hks]
          rfl
    · match i, hg with
      | 0, hg =>
        cases hg
        exact ⟨_, rfl, .ref p, rfl, fun H1 s1 => ⟨rfl, M.mono s1⟩⟩
      | 1, hg => cases hg; exact ⟨_, rfl, trivial⟩
      | 2, hg => cases hg; exact ⟨_, rfl, trivial⟩
      | 3, hg => cases hg; exact ⟨_, rfl, trivial⟩
      | i + 4, hg => simp at hg
    · cases z
      exact k v H' (e.sb.same.trans e.s0) q
end
end TC
namespace TC
open PySem L2
/-! ### the law's fault: the mirror -/
def errO {α : Type} : Except Str α → Option Str
  | .error s => some s
  | .ok _ => none
def lfault (S : LMod) : Deed → Option Str
  | .found t _ _ _ => if (lookM S.mem t).isSome = true then some "trial exists" else none
  | .train t i _ => errO (lpresM S t i)
  | .save t i => errO (lpresM S t i)
  | .crash t => errO (lrunM S t)
  | .evaluate t i => errO (lpresM S t i)
  | .copy t i d x _ _ => match lpresM S t i with
    | .error s => some s
    | .ok _ => errO (lsavedM S d x)
  | .stop t i => errO (lpresM S t i)
  | .drop t x => match lookM S.mem t with
    | none => some "no such trial"
    | some _ => match lsavedM S t x with
      | .error s => some s
      | .ok _ => if (t, x) ∈ lneeded S then some "save is needed" else none
def dOS : Option Str → PyData
  | none => .none
  | some s => .str s
def svBad (sv : List (Option (Int × List Set2))) (x : Int) : Bool := decide ((sv.length : Int) ≤ x) || (sv.getD x.toNat none).isNone
theorem saved_bad {S : LMod} {t x : Int} (h : 0 ≤ x) : errO (lsavedM S t x) = if svBad (lsaves S t) x = true then some ("no such save" : Str) else none := by
  unfold lsavedM svBad
  by_cases h2 : x < ((lsaves S t).length : Int)
  · rw [if_pos ⟨h, h2⟩, decide_eq_false (by omega), Bool.false_or]
    cases (lsaves S t).getD x.toNat none <;> rfl
  · rw [if_neg (fun z => h2 z.2), decide_eq_true (by omega), Bool.true_or]
    rfl
theorem ldo_fault {tr va : List Ex} {n : Nat} {S : LMod} {d : Deed} {s : Str} (h : lfault S d = some s) : ldo tr va n S d = (S, .no s) := by
  cases d with
  | found t sd r m =>
    simp only [lfault, ldo] at h ⊢
    cases q : lookM S.mem t with
    | none => rw [q] at h; simp at h
    | some m => rw [q] at h; simp at h; rw [← h]
  | crash t =>
    simp only [lfault, ldo] at h ⊢
    cases q : lrunM S t with
    | error e => rw [q] at h; cases h; rfl
    | ok m => rw [q] at h; cases h
  | copy t i dn x r g =>
    simp only [lfault, ldo] at h ⊢
    cases q : lpresM S t i with
    | error e => rw [q] at h; cases h; rfl
    | ok m =>
      rw [q] at h
      dsimp only at h ⊢
      cases q2 : lsavedM S dn x with
      | error e => rw [q2] at h; cases h; rfl
      | ok m => rw [q2] at h; cases h
  | drop t x =>
    simp only [lfault, ldo] at h ⊢
    cases q : lookM S.mem t with
    | none => rw [q] at h; cases h; rfl
    | some m =>
      rw [q] at h
      dsimp only at h ⊢
      cases q2 : lsavedM S t x with
      | error e => rw [q2] at h; cases h; rfl
      | ok m2 =>
        rw [q2] at h
        dsimp only at h ⊢
        split at h
        · rename_i hin
          cases h
          rw [if_pos hin]
        · cases h
  | train t i k => simp only [lfault, ldo] at h ⊢; cases q : lpresM S t i with | error e => rw [q] at h; cases h; rfl | ok m => rw [q] at h; cases h
  | save t i => simp only [lfault, ldo] at h ⊢; cases q : lpresM S t i with | error e => rw [q] at h; cases h; rfl | ok m => rw [q] at h; cases h
  | evaluate t i => simp only [lfault, ldo] at h ⊢; cases q : lpresM S t i with | error e => rw [q] at h; cases h; rfl | ok m => rw [q] at h; cases h
  | stop t i => simp only [lfault, ldo] at h ⊢; cases q : lpresM S t i with | error e => rw [q] at h; cases h; rfl | ok m => rw [q] at h; cases h
section
variable {X : Cx} {Γ : G} {a b c e : Expr} {p pos pos' p1 p2 p3 p4 p5 : Pos} {t : Addr} {pa : Addr} {es : List (Int × Addr)} {S : LMod} {u x : Int} {j : Nat}
theorem xt_inTri (hu : X.A.units + 1 < cLine) (h0 : Γ[0]? = some (.x (ModF X.K pa t es S))) (iso : ∀ u, (lookM es u).isSome = (lookM S.mem u).isSome) (hb : XE X b Γ (.int u)) (ha : XK X a Γ (.ref t)) (hm : behindInMarks .In a = false := by rfl) : XT X (.Compare b [.In] [a] pos) Γ (lookM S.mem u).isSome :=
  xt_eq (xt_inK hu hb ha rfl (got_mem h0) hm) (by rw [Option.isSome_map]; exact iso u)
theorem xt_notinTri (hu : X.A.units + 1 < cLine) (h0 : Γ[0]? = some (.x (ModF X.K pa t es S))) (iso : ∀ u, (lookM es u).isSome = (lookM S.mem u).isSome) (hb : XE X b Γ (.int u)) (ha : XK X a Γ (.ref t)) (hm : behindInMarks .NotIn a = false := by rfl) : XT X (.Compare b [.NotIn] [a] pos) Γ (!(lookM S.mem u).isSome) :=
  xt_eq (xt_notinK hu hb ha rfl (got_mem h0) hm) (by rw [Option.isSome_map, iso u])
/-- i >= len(s) or s[i] is None -/
theorem xt_svBad {a2 b2 : Expr} {sv : List (Option (Int × List Set2))} (hm : X.mg "len" = none) (hx : 0 ≤ x) (hi : XE X b Γ (.int x)) (hs : XE X a Γ (.list (sv.map dSave))) (hi2 : XE X b2 Γ (.int x)) (hs2 : XE X a2 Γ (.list (sv.map dSave))) (hg : Gl X "len" := by rfl) (he : starEach (a :: []) X.env = (false, eval a X.env) :: starEach [] X.env := by rfl) (hpi : PlainIx b2 := by intro _ _; rfl) :
    XT X (.BoolOp .Or [.Compare b [.GtE] [.Call (.Name "len" p1) [a] [] p2] p3, .Compare (.Subscript a2 b2 p4) [.Is] [.Constant .none j p5] p] pos) Γ (svBad sv x) :=
  xt_eq (xt_w (xw_or (xt_ge hi (xe_eq (xe_lenL hm hs hg he) (by rw [List.length_map]))) (l := (sv.getD x.toNat none).isNone) fun hk => xw_or1 (xt_eq (xt_isN (xe_ixLm (f := dSave) (xs := sv) none hs2 hi2 ⟨hx, by have := of_decide_eq_false hk; omega⟩ hpi)) (by cases sv.getD x.toNat none <;> rfl)))) rfl
end
section
variable {P : Program} {w : World}
variable {K : PySem.W.Frag} {mg : Str → Option Value} {base : Heap}
/-! _law_fault -/
abbrev sLF : Stmt := topS 50
structure LBd (S : LMod) : Prop where
  nd : (S.mem.map (·.1)).Nodup
  ml : S.mem.length ≤ 50
  st : ∀ t m, lookM S.mem t = some m → m.steps.length + 4 ≤ 1000 ∧ m.saves.length ≤ 1000
def pLF (S : LMod) (ds : List PyData) (r : PyData) : Prop := ∃ d, ds = [dDeed d] ∧ DeedOk d ∧ LBd S ∧ r = dOS (lfault S d)
theorem sc_lf : FnScope ["_law_model", "_law_deed_here", "_law_kind", "_law_trials", "_law_member", "_law_saves"] ["_law_model", "_law_deed_here"] (defScope sLF) := ⟨rfl, rfl, rfl, by decide +kernel, rfl, by decide +kernel, by decide +kernel⟩
theorem ok_lfault (R : RawD K mg "_law_fault" sLF) (B : Bi mg) (D1 : Def P w K mg base "_law_needed" 1 ["_law_model"] (spMod K 0 pLNeed)) : Def P w K mg base "_law_fault" 2 ["_law_model", "_law_deed_here"] (spMod K 1 pLF) := by
  obtain ⟨f, fd, h1, F⟩ := R
  refine ⟨f, fd, h1, F.kp, F.binds (fun _ _ _ _ _ _ us hl => match us, hl with | [_, _], _ => rfl), F.ok sc_lf (fun vs H Q E h => ?_) (fun cdv A outer s H vs Q E hr h => ?_)⟩
  · obtain ⟨p, t, es, S, us, ds, r, rfl, hl, _⟩ := h
    match us, hl with
    | [_], _ => rfl
  · obtain ⟨p, t, es, S, us, ds, r, rfl, hl, M, da, ⟨d, rfl, dk, bd, rfl⟩, k⟩ := h
    cases da with
    | cons da1 da2 =>
    cases da2
    have iso := M.look
    refine ⟨tS K (.pu H) [.x (ModF K p t es S), .c (dDeed d), .n, .n, .n, .n] (fun _ => False) (fun q _ => q = .d (dOS (lfault S d))), ?_, ⟨H, Off.refl _, Same.refl _, rfl, fun i g hg => ?_⟩, fun Γ' σ' H' H0 kt e n => n.elim, ⟨fun Γ' σ' v d H' H0 e q z => ?_, fun _ _ _ _ _ _ _ _ _ _ _ z => (nomatch z), fun _ _ _ _ _ _ _ _ _ _ z => (nomatch z), fun _ _ _ _ _ _ _ _ z => (nomatch z), fun _ _ _ _ _ _ _ _ z => (nomatch z)⟩⟩
    · have hu := hu1 hr
      have ok := dk.ok
      have tk := dk.tr
      cases d with
      | found t sd r g =>
        refine xss_cons (xs_set 2 (d := .str "found") (xe_ixT (xe_var 1 rfl) xe_int (atI_nat (j := 0) rfl)) ?_ sc_lf.nd)
        refine xss_cons (xs_setK 3 (xk_key hu (xk_var 0 rfl (fun H v h => h.1)) xe_str rfl (got_tri rfl)) ?_ sc_lf.nd)
        refine xss_cons (xs_ifT (xt_eqS (xe_var 2 rfl) xe_str rfl) (by decide) (xss_one (xs_ret (d := dOS (lfault S (.found t sd r g))) (xe_ifE (xt_inTri hu rfl iso (xe_ixT (xe_var 1 rfl) xe_int (atI_nat (j := 1) rfl)) (xk_var 3 rfl (fun H v h => h))) (fun z => xe_eq xe_str ?_) (fun z => xe_eq xe_non ?_)) rfl)))
        · show PyData.str "trial exists" = dOS (if (lookM S.mem t).isSome = true then _ else _)
          rw [if_pos z]
          rfl
        · show PyData.none = dOS (if (lookM S.mem t).isSome = true then _ else _)
          rw [z]
          rfl
      | train t i k0 =>
        refine xss_cons (xs_set 2 (d := .str "train") (xe_ixT (xe_var 1 rfl) xe_int (atI_nat (j := 0) rfl)) ?_ sc_lf.nd)
        refine xss_cons (xs_setK 3 (xk_key hu (xk_var 0 rfl (fun H v h => h.1)) xe_str rfl (got_tri rfl)) ?_ sc_lf.nd)
        refine xss_cons (xs_ifF (xt_eqS (xe_var 2 rfl) xe_str rfl) (by decide) (xss_nil ?_))
        cases hm : lookM S.mem t with
        | none =>
          have e : lfault S (.train t i k0) = some ("no such trial" : Str) := by simp only [lfault, lpresM, lrunM, hm, errO]
          rw [e]
          exact xss_cons (xs_ifT (xt_notinTri hu rfl iso (xe_ixT (xe_var 1 rfl) xe_int (atI_nat (j := 1) rfl)) (xk_var 3 rfl (fun H v h => h))) (by rw [hm]; rfl) (xss_one (xs_ret xe_str rfl)))
        | some m =>
          obtain ⟨a, la⟩ := look_iso (iso t) hm
          obtain ⟨b1, b2⟩ := bd.st t m hm
          refine xss_cons (xs_ifF (xt_notinTri hu rfl iso (xe_ixT (xe_var 1 rfl) xe_int (atI_nat (j := 1) rfl)) (xk_var 3 rfl (fun H v h => h))) (by rw [hm]; rfl) (xss_nil ?_))
          refine xss_cons (xs_setK 4 (xk_key hu (xk_var 3 rfl (fun H v h => h)) (xe_ixT (xe_var 1 rfl) xe_int (atI_nat (j := 1) rfl)) rfl (got_the rfl la)) ?_ sc_lf.nd)
          refine xss_cons (xs_ifF (xt_eqS (xe_var 2 rfl) xe_str rfl) (by decide) (xss_nil ?_))
          cases hs : m.stop with
          | true =>
            have e : lfault S (.train t i k0) = some ("trial is stopped" : Str) := by simp [lfault, lpresM, lrunM, hm, hs, errO]
            rw [e]
            exact xss_cons (xs_ifT (xt_val (xe_key hu (xk_var 4 rfl (fun H v h => h)) xe_str rfl (got_fld rfl la hm rfl))) hs (xss_one (xs_ret xe_str rfl)))
          | false =>
            refine xss_cons (xs_ifF (xt_val (xe_key hu (xk_var 4 rfl (fun H v h => h)) xe_str rfl (got_fld rfl la hm rfl))) hs (xss_nil ?_))
            refine xss_cons (xs_ifF (xt_eqS (xe_var 2 rfl) xe_str rfl) (by decide) (xss_nil ?_))
            by_cases hi : ¬ m.inc = i
            · have e : lfault S (.train t i k0) = some ("incarnation is over" : Str) := by simp [lfault, lpresM, lrunM, hm, hs, hi, errO]
              rw [e]
              exact xss_cons (xs_ifT (xt_neS (xe_key hu (xk_var 4 rfl (fun H v h => h)) xe_str rfl (got_fld rfl la hm rfl)) (xe_ixT (xe_var 1 rfl) xe_int (atI_nat (j := 2) rfl)) rfl) (show (!decide (m.inc = i)) = true by simp [hi]) (xss_one (xs_ret xe_str rfl)))
            · have hi := Decidable.not_not.mp hi
              refine xss_cons (xs_ifF (xt_neS (xe_key hu (xk_var 4 rfl (fun H v h => h)) xe_str rfl (got_fld rfl la hm rfl)) (xe_ixT (xe_var 1 rfl) xe_int (atI_nat (j := 2) rfl)) rfl) (show (!decide (m.inc = i)) = false by simp [hi]) (xss_nil ?_))
              refine xss_cons (xs_ifF (xt_w (xw_and (xt_eqS (xe_var 2 rfl) xe_str rfl) (fun _ => xw_and1 (xt_gt (xe_add (xe_lenL B.len (xe_key hu (xk_var 4 rfl (fun H v h => h)) xe_str rfl (got_fld rfl la hm rfl))) (xe_ixT (xe_var 1 rfl) xe_int (atI_nat (j := 3) rfl))) xe_int)))) ?_ (xss_nil ?_))
              · show (true && decide ((10000 : Int) < ((m.steps.map dSet).length : Int) + k0)) = false
                rw [List.length_map, Bool.true_and]
                exact decide_eq_false (by have h4 := ok.2.2.2; omega)
              have e : lfault S (.train t i k0) = none := by simp [lfault, lpresM, lrunM, hm, hs, hi, errO]
              rw [e]
              refine xss_cons (xs_ifF (xt_eqS (xe_var 2 rfl) xe_str rfl) (by decide) (xss_nil ?_))
              exact xss_one (xs_ret xe_non rfl)
      | save t i =>
        refine xss_cons (xs_set 2 (d := .str "save") (xe_ixT (xe_var 1 rfl) xe_int (atI_nat (j := 0) rfl)) ?_ sc_lf.nd)
        refine xss_cons (xs_setK 3 (xk_key hu (xk_var 0 rfl (fun H v h => h.1)) xe_str rfl (got_tri rfl)) ?_ sc_lf.nd)
        refine xss_cons (xs_ifF (xt_eqS (xe_var 2 rfl) xe_str rfl) (by decide) (xss_nil ?_))
        cases hm : lookM S.mem t with
        | none =>
          have e : lfault S (.save t i) = some ("no such trial" : Str) := by simp only [lfault, lpresM, lrunM, hm, errO]
          rw [e]
          exact xss_cons (xs_ifT (xt_notinTri hu rfl iso (xe_ixT (xe_var 1 rfl) xe_int (atI_nat (j := 1) rfl)) (xk_var 3 rfl (fun H v h => h))) (by rw [hm]; rfl) (xss_one (xs_ret xe_str rfl)))
        | some m =>
          obtain ⟨a, la⟩ := look_iso (iso t) hm
          obtain ⟨b1, b2⟩ := bd.st t m hm
          refine xss_cons (xs_ifF (xt_notinTri hu rfl iso (xe_ixT (xe_var 1 rfl) xe_int (atI_nat (j := 1) rfl)) (xk_var 3 rfl (fun H v h => h))) (by rw [hm]; rfl) (xss_nil ?_))
          refine xss_cons (xs_setK 4 (xk_key hu (xk_var 3 rfl (fun H v h => h)) (xe_ixT (xe_var 1 rfl) xe_int (atI_nat (j := 1) rfl)) rfl (got_the rfl la)) ?_ sc_lf.nd)
          refine xss_cons (xs_ifF (xt_eqS (xe_var 2 rfl) xe_str rfl) (by decide) (xss_nil ?_))
          cases hs : m.stop with
          | true =>
            have e : lfault S (.save t i) = some ("trial is stopped" : Str) := by simp [lfault, lpresM, lrunM, hm, hs, errO]
            rw [e]
            exact xss_cons (xs_ifT (xt_val (xe_key hu (xk_var 4 rfl (fun H v h => h)) xe_str rfl (got_fld rfl la hm rfl))) hs (xss_one (xs_ret xe_str rfl)))
          | false =>
            refine xss_cons (xs_ifF (xt_val (xe_key hu (xk_var 4 rfl (fun H v h => h)) xe_str rfl (got_fld rfl la hm rfl))) hs (xss_nil ?_))
            refine xss_cons (xs_ifF (xt_eqS (xe_var 2 rfl) xe_str rfl) (by decide) (xss_nil ?_))
            by_cases hi : ¬ m.inc = i
            · have e : lfault S (.save t i) = some ("incarnation is over" : Str) := by simp [lfault, lpresM, lrunM, hm, hs, hi, errO]
              rw [e]
              exact xss_cons (xs_ifT (xt_neS (xe_key hu (xk_var 4 rfl (fun H v h => h)) xe_str rfl (got_fld rfl la hm rfl)) (xe_ixT (xe_var 1 rfl) xe_int (atI_nat (j := 2) rfl)) rfl) (show (!decide (m.inc = i)) = true by simp [hi]) (xss_one (xs_ret xe_str rfl)))
            · have hi := Decidable.not_not.mp hi
              refine xss_cons (xs_ifF (xt_neS (xe_key hu (xk_var 4 rfl (fun H v h => h)) xe_str rfl (got_fld rfl la hm rfl)) (xe_ixT (xe_var 1 rfl) xe_int (atI_nat (j := 2) rfl)) rfl) (show (!decide (m.inc = i)) = false by simp [hi]) (xss_nil ?_))
              refine xss_cons (xs_ifF (xt_w (xw_and (l := false) (xt_eqS (xe_var 2 rfl) xe_str rfl) (fun z => by revert z; show decide (("save" : Str) = "train") = true → _; intro z; exact absurd z (by decide)))) (show (decide (("save" : Str) = "train") && false) = false by decide) (xss_nil ?_))
              have e : lfault S (.save t i) = none := by simp [lfault, lpresM, lrunM, hm, hs, hi, errO]
              rw [e]
              refine xss_cons (xs_ifF (xt_eqS (xe_var 2 rfl) xe_str rfl) (by decide) (xss_nil ?_))
              exact xss_one (xs_ret xe_non rfl)
      | crash t =>
        refine xss_cons (xs_set 2 (d := .str "crash") (xe_ixT (xe_var 1 rfl) xe_int (atI_nat (j := 0) rfl)) ?_ sc_lf.nd)
        refine xss_cons (xs_setK 3 (xk_key hu (xk_var 0 rfl (fun H v h => h.1)) xe_str rfl (got_tri rfl)) ?_ sc_lf.nd)
        refine xss_cons (xs_ifF (xt_eqS (xe_var 2 rfl) xe_str rfl) (by decide) (xss_nil ?_))
        cases hm : lookM S.mem t with
        | none =>
          have e : lfault S (.crash t) = some ("no such trial" : Str) := by simp only [lfault, lrunM, hm, errO]
          rw [e]
          exact xss_cons (xs_ifT (xt_notinTri hu rfl iso (xe_ixT (xe_var 1 rfl) xe_int (atI_nat (j := 1) rfl)) (xk_var 3 rfl (fun H v h => h))) (by rw [hm]; rfl) (xss_one (xs_ret xe_str rfl)))
        | some m =>
          obtain ⟨a, la⟩ := look_iso (iso t) hm
          obtain ⟨b1, b2⟩ := bd.st t m hm
          refine xss_cons (xs_ifF (xt_notinTri hu rfl iso (xe_ixT (xe_var 1 rfl) xe_int (atI_nat (j := 1) rfl)) (xk_var 3 rfl (fun H v h => h))) (by rw [hm]; rfl) (xss_nil ?_))
          refine xss_cons (xs_setK 4 (xk_key hu (xk_var 3 rfl (fun H v h => h)) (xe_ixT (xe_var 1 rfl) xe_int (atI_nat (j := 1) rfl)) rfl (got_the rfl la)) ?_ sc_lf.nd)
          refine xss_cons (xs_ifF (xt_eqS (xe_var 2 rfl) xe_str rfl) (by decide) (xss_nil ?_))
          cases hs : m.stop with
          | true =>
            have e : lfault S (.crash t) = some ("trial is stopped" : Str) := by simp [lfault, lrunM, hm, hs, errO]
            rw [e]
            exact xss_cons (xs_ifT (xt_val (xe_key hu (xk_var 4 rfl (fun H v h => h)) xe_str rfl (got_fld rfl la hm rfl))) hs (xss_one (xs_ret xe_str rfl)))
          | false =>
            refine xss_cons (xs_ifF (xt_val (xe_key hu (xk_var 4 rfl (fun H v h => h)) xe_str rfl (got_fld rfl la hm rfl))) hs (xss_nil ?_))
            have e : lfault S (.crash t) = none := by simp [lfault, lrunM, hm, hs, errO]
            rw [e]
            exact xss_cons (xs_ifT (xt_eqS (xe_var 2 rfl) xe_str rfl) (by decide) (xss_one (xs_ret xe_non rfl)))
      | evaluate t i =>
        refine xss_cons (xs_set 2 (d := .str "evaluate") (xe_ixT (xe_var 1 rfl) xe_int (atI_nat (j := 0) rfl)) ?_ sc_lf.nd)
        refine xss_cons (xs_setK 3 (xk_key hu (xk_var 0 rfl (fun H v h => h.1)) xe_str rfl (got_tri rfl)) ?_ sc_lf.nd)
        refine xss_cons (xs_ifF (xt_eqS (xe_var 2 rfl) xe_str rfl) (by decide) (xss_nil ?_))
        cases hm : lookM S.mem t with
        | none =>
          have e : lfault S (.evaluate t i) = some ("no such trial" : Str) := by simp only [lfault, lpresM, lrunM, hm, errO]
          rw [e]
          exact xss_cons (xs_ifT (xt_notinTri hu rfl iso (xe_ixT (xe_var 1 rfl) xe_int (atI_nat (j := 1) rfl)) (xk_var 3 rfl (fun H v h => h))) (by rw [hm]; rfl) (xss_one (xs_ret xe_str rfl)))
        | some m =>
          obtain ⟨a, la⟩ := look_iso (iso t) hm
          obtain ⟨b1, b2⟩ := bd.st t m hm
          refine xss_cons (xs_ifF (xt_notinTri hu rfl iso (xe_ixT (xe_var 1 rfl) xe_int (atI_nat (j := 1) rfl)) (xk_var 3 rfl (fun H v h => h))) (by rw [hm]; rfl) (xss_nil ?_))
          refine xss_cons (xs_setK 4 (xk_key hu (xk_var 3 rfl (fun H v h => h)) (xe_ixT (xe_var 1 rfl) xe_int (atI_nat (j := 1) rfl)) rfl (got_the rfl la)) ?_ sc_lf.nd)
          refine xss_cons (xs_ifF (xt_eqS (xe_var 2 rfl) xe_str rfl) (by decide) (xss_nil ?_))
          cases hs : m.stop with
          | true =>
            have e : lfault S (.evaluate t i) = some ("trial is stopped" : Str) := by simp [lfault, lpresM, lrunM, hm, hs, errO]
            rw [e]
            exact xss_cons (xs_ifT (xt_val (xe_key hu (xk_var 4 rfl (fun H v h => h)) xe_str rfl (got_fld rfl la hm rfl))) hs (xss_one (xs_ret xe_str rfl)))
          | false =>
            refine xss_cons (xs_ifF (xt_val (xe_key hu (xk_var 4 rfl (fun H v h => h)) xe_str rfl (got_fld rfl la hm rfl))) hs (xss_nil ?_))
            refine xss_cons (xs_ifF (xt_eqS (xe_var 2 rfl) xe_str rfl) (by decide) (xss_nil ?_))
            by_cases hi : ¬ m.inc = i
            · have e : lfault S (.evaluate t i) = some ("incarnation is over" : Str) := by simp [lfault, lpresM, lrunM, hm, hs, hi, errO]
              rw [e]
              exact xss_cons (xs_ifT (xt_neS (xe_key hu (xk_var 4 rfl (fun H v h => h)) xe_str rfl (got_fld rfl la hm rfl)) (xe_ixT (xe_var 1 rfl) xe_int (atI_nat (j := 2) rfl)) rfl) (show (!decide (m.inc = i)) = true by simp [hi]) (xss_one (xs_ret xe_str rfl)))
            · have hi := Decidable.not_not.mp hi
              refine xss_cons (xs_ifF (xt_neS (xe_key hu (xk_var 4 rfl (fun H v h => h)) xe_str rfl (got_fld rfl la hm rfl)) (xe_ixT (xe_var 1 rfl) xe_int (atI_nat (j := 2) rfl)) rfl) (show (!decide (m.inc = i)) = false by simp [hi]) (xss_nil ?_))
              refine xss_cons (xs_ifF (xt_w (xw_and (l := false) (xt_eqS (xe_var 2 rfl) xe_str rfl) (fun z => by revert z; show decide (("evaluate" : Str) = "train") = true → _; intro z; exact absurd z (by decide)))) (show (decide (("evaluate" : Str) = "train") && false) = false by decide) (xss_nil ?_))
              have e : lfault S (.evaluate t i) = none := by simp [lfault, lpresM, lrunM, hm, hs, hi, errO]
              rw [e]
              refine xss_cons (xs_ifF (xt_eqS (xe_var 2 rfl) xe_str rfl) (by decide) (xss_nil ?_))
              exact xss_one (xs_ret xe_non rfl)
      | copy t i dn x r g =>
        refine xss_cons (xs_set 2 (d := .str "copy") (xe_ixT (xe_var 1 rfl) xe_int (atI_nat (j := 0) rfl)) ?_ sc_lf.nd)
        refine xss_cons (xs_setK 3 (xk_key hu (xk_var 0 rfl (fun H v h => h.1)) xe_str rfl (got_tri rfl)) ?_ sc_lf.nd)
        refine xss_cons (xs_ifF (xt_eqS (xe_var 2 rfl) xe_str rfl) (by decide) (xss_nil ?_))
        cases hm : lookM S.mem t with
        | none =>
          have e : lfault S (.copy t i dn x r g) = some ("no such trial" : Str) := by simp only [lfault, lpresM, lrunM, hm]
          rw [e]
          exact xss_cons (xs_ifT (xt_notinTri hu rfl iso (xe_ixT (xe_var 1 rfl) xe_int (atI_nat (j := 1) rfl)) (xk_var 3 rfl (fun H v h => h))) (by rw [hm]; rfl) (xss_one (xs_ret xe_str rfl)))
        | some m =>
          obtain ⟨a, la⟩ := look_iso (iso t) hm
          obtain ⟨b1, b2⟩ := bd.st t m hm
          refine xss_cons (xs_ifF (xt_notinTri hu rfl iso (xe_ixT (xe_var 1 rfl) xe_int (atI_nat (j := 1) rfl)) (xk_var 3 rfl (fun H v h => h))) (by rw [hm]; rfl) (xss_nil ?_))
          refine xss_cons (xs_setK 4 (xk_key hu (xk_var 3 rfl (fun H v h => h)) (xe_ixT (xe_var 1 rfl) xe_int (atI_nat (j := 1) rfl)) rfl (got_the rfl la)) ?_ sc_lf.nd)
          refine xss_cons (xs_ifF (xt_eqS (xe_var 2 rfl) xe_str rfl) (by decide) (xss_nil ?_))
          cases hs : m.stop with
          | true =>
            have e : lfault S (.copy t i dn x r g) = some ("trial is stopped" : Str) := by simp [lfault, lpresM, lrunM, hm, hs]
            rw [e]
            exact xss_cons (xs_ifT (xt_val (xe_key hu (xk_var 4 rfl (fun H v h => h)) xe_str rfl (got_fld rfl la hm rfl))) hs (xss_one (xs_ret xe_str rfl)))
          | false =>
            refine xss_cons (xs_ifF (xt_val (xe_key hu (xk_var 4 rfl (fun H v h => h)) xe_str rfl (got_fld rfl la hm rfl))) hs (xss_nil ?_))
            refine xss_cons (xs_ifF (xt_eqS (xe_var 2 rfl) xe_str rfl) (by decide) (xss_nil ?_))
            by_cases hi : ¬ m.inc = i
            · have e : lfault S (.copy t i dn x r g) = some ("incarnation is over" : Str) := by simp [lfault, lpresM, lrunM, hm, hs, hi]
              rw [e]
              exact xss_cons (xs_ifT (xt_neS (xe_key hu (xk_var 4 rfl (fun H v h => h)) xe_str rfl (got_fld rfl la hm rfl)) (xe_ixT (xe_var 1 rfl) xe_int (atI_nat (j := 2) rfl)) rfl) (show (!decide (m.inc = i)) = true by simp [hi]) (xss_one (xs_ret xe_str rfl)))
            · have hi := Decidable.not_not.mp hi
              refine xss_cons (xs_ifF (xt_neS (xe_key hu (xk_var 4 rfl (fun H v h => h)) xe_str rfl (got_fld rfl la hm rfl)) (xe_ixT (xe_var 1 rfl) xe_int (atI_nat (j := 2) rfl)) rfl) (show (!decide (m.inc = i)) = false by simp [hi]) (xss_nil ?_))
              refine xss_cons (xs_ifF (xt_w (xw_and (l := false) (xt_eqS (xe_var 2 rfl) xe_str rfl) (fun z => by revert z; show decide (("copy" : Str) = "train") = true → _; intro z; exact absurd z (by decide)))) (show (decide (("copy" : Str) = "train") && false) = false by decide) (xss_nil ?_))
              have hx : 0 ≤ x := ok.2.2.2.2.1
              have e0 := saved_bad (S := S) (t := dn) hx
              refine xss_cons (xs_ifT (xt_eqS (xe_var 2 rfl) xe_str rfl) (by decide) (xss_cons (xs_set 5 (d := .list ((lsaves S dn).map dSave)) (xe_ifE (xt_inTri hu rfl iso (xe_ixT (xe_var 1 rfl) xe_int (atI_nat (j := 3) rfl)) (xk_var 3 rfl (fun H v h => h))) (fun z => ?_) (fun z => ?_)) ?_ sc_lf.nd)))
              · cases hd : lookM S.mem dn with
                | none => rw [hd] at z; cases z
                | some m2 =>
                  obtain ⟨a2, la2⟩ := look_iso (iso dn) hd
                  have esv : lsaves S dn = m2.saves := by unfold lsaves; rw [hd]
                  rw [esv]
                  exact xe_key hu (xk_key hu (xk_var 3 rfl (fun H v h => h)) (xe_ixT (xe_var 1 rfl) xe_int (atI_nat (j := 3) rfl)) rfl (got_the rfl la2)) xe_str rfl (got_fld rfl la2 hd rfl)
              · cases hd : lookM S.mem dn with
                | some m2 => rw [hd] at z; cases z
                | none =>
                  have esv : lsaves S dn = [] := by unfold lsaves; rw [hd]
                  rw [esv]
                  exact xe_of_f (xf_lst xa_nil (by decide))
              refine xss_one (xs_if (xt_svBad B.len hx (xe_ixT (xe_var 1 rfl) xe_int (atI_nat (j := 4) rfl)) (xe_var 5 rfl) (xe_ixT (xe_var 1 rfl) xe_int (atI_nat (j := 4) rfl)) (xe_var 5 rfl)) (fun z => ?_) (fun z => ?_))
              · have e : lfault S (.copy t i dn x r g) = some ("no such save" : Str) := by
                  rw [z, if_pos rfl] at e0
                  simp [lfault, lpresM, lrunM, hm, hs, hi, e0]
                rw [e]
                exact xss_one (xs_ret xe_str rfl)
              · have e : lfault S (.copy t i dn x r g) = none := by
                  rw [z, if_neg (by decide)] at e0
                  simp [lfault, lpresM, lrunM, hm, hs, hi, e0]
                rw [e]
                exact xss_nil (xss_one (xs_ret xe_non rfl))
      | stop t i =>
        refine xss_cons (xs_set 2 (d := .str "stop") (xe_ixT (xe_var 1 rfl) xe_int (atI_nat (j := 0) rfl)) ?_ sc_lf.nd)
        refine xss_cons (xs_setK 3 (xk_key hu (xk_var 0 rfl (fun H v h => h.1)) xe_str rfl (got_tri rfl)) ?_ sc_lf.nd)
        refine xss_cons (xs_ifF (xt_eqS (xe_var 2 rfl) xe_str rfl) (by decide) (xss_nil ?_))
        cases hm : lookM S.mem t with
        | none =>
          have e : lfault S (.stop t i) = some ("no such trial" : Str) := by simp only [lfault, lpresM, lrunM, hm, errO]
          rw [e]
          exact xss_cons (xs_ifT (xt_notinTri hu rfl iso (xe_ixT (xe_var 1 rfl) xe_int (atI_nat (j := 1) rfl)) (xk_var 3 rfl (fun H v h => h))) (by rw [hm]; rfl) (xss_one (xs_ret xe_str rfl)))
        | some m =>
          obtain ⟨a, la⟩ := look_iso (iso t) hm
          obtain ⟨b1, b2⟩ := bd.st t m hm
          refine xss_cons (xs_ifF (xt_notinTri hu rfl iso (xe_ixT (xe_var 1 rfl) xe_int (atI_nat (j := 1) rfl)) (xk_var 3 rfl (fun H v h => h))) (by rw [hm]; rfl) (xss_nil ?_))
          refine xss_cons (xs_setK 4 (xk_key hu (xk_var 3 rfl (fun H v h => h)) (xe_ixT (xe_var 1 rfl) xe_int (atI_nat (j := 1) rfl)) rfl (got_the rfl la)) ?_ sc_lf.nd)
          refine xss_cons (xs_ifF (xt_eqS (xe_var 2 rfl) xe_str rfl) (by decide) (xss_nil ?_))
          cases hs : m.stop with
          | true =>
            have e : lfault S (.stop t i) = some ("trial is stopped" : Str) := by simp [lfault, lpresM, lrunM, hm, hs, errO]
            rw [e]
            exact xss_cons (xs_ifT (xt_val (xe_key hu (xk_var 4 rfl (fun H v h => h)) xe_str rfl (got_fld rfl la hm rfl))) hs (xss_one (xs_ret xe_str rfl)))
          | false =>
            refine xss_cons (xs_ifF (xt_val (xe_key hu (xk_var 4 rfl (fun H v h => h)) xe_str rfl (got_fld rfl la hm rfl))) hs (xss_nil ?_))
            refine xss_cons (xs_ifF (xt_eqS (xe_var 2 rfl) xe_str rfl) (by decide) (xss_nil ?_))
            by_cases hi : ¬ m.inc = i
            · have e : lfault S (.stop t i) = some ("incarnation is over" : Str) := by simp [lfault, lpresM, lrunM, hm, hs, hi, errO]
              rw [e]
              exact xss_cons (xs_ifT (xt_neS (xe_key hu (xk_var 4 rfl (fun H v h => h)) xe_str rfl (got_fld rfl la hm rfl)) (xe_ixT (xe_var 1 rfl) xe_int (atI_nat (j := 2) rfl)) rfl) (show (!decide (m.inc = i)) = true by simp [hi]) (xss_one (xs_ret xe_str rfl)))
            · have hi := Decidable.not_not.mp hi
              refine xss_cons (xs_ifF (xt_neS (xe_key hu (xk_var 4 rfl (fun H v h => h)) xe_str rfl (got_fld rfl la hm rfl)) (xe_ixT (xe_var 1 rfl) xe_int (atI_nat (j := 2) rfl)) rfl) (show (!decide (m.inc = i)) = false by simp [hi]) (xss_nil ?_))
              refine xss_cons (xs_ifF (xt_w (xw_and (l := false) (xt_eqS (xe_var 2 rfl) xe_str rfl) (fun z => by revert z; show decide (("stop" : Str) = "train") = true → _; intro z; exact absurd z (by decide)))) (show (decide (("stop" : Str) = "train") && false) = false by decide) (xss_nil ?_))
              have e : lfault S (.stop t i) = none := by simp [lfault, lpresM, lrunM, hm, hs, hi, errO]
              rw [e]
              refine xss_cons (xs_ifF (xt_eqS (xe_var 2 rfl) xe_str rfl) (by decide) (xss_nil ?_))
              exact xss_one (xs_ret xe_non rfl)
      | drop t x =>
        refine xss_cons (xs_set 2 (d := .str "drop") (xe_ixT (xe_var 1 rfl) xe_int (atI_nat (j := 0) rfl)) ?_ sc_lf.nd)
        refine xss_cons (xs_setK 3 (xk_key hu (xk_var 0 rfl (fun H v h => h.1)) xe_str rfl (got_tri rfl)) ?_ sc_lf.nd)
        refine xss_cons (xs_ifF (xt_eqS (xe_var 2 rfl) xe_str rfl) (by decide) (xss_nil ?_))
        cases hm : lookM S.mem t with
        | none =>
          have e : lfault S (.drop t x) = some ("no such trial" : Str) := by simp only [lfault, hm]
          rw [e]
          exact xss_cons (xs_ifT (xt_notinTri hu rfl iso (xe_ixT (xe_var 1 rfl) xe_int (atI_nat (j := 1) rfl)) (xk_var 3 rfl (fun H v h => h))) (by rw [hm]; rfl) (xss_one (xs_ret xe_str rfl)))
        | some m =>
          obtain ⟨a, la⟩ := look_iso (iso t) hm
          obtain ⟨b1, b2⟩ := bd.st t m hm
          refine xss_cons (xs_ifF (xt_notinTri hu rfl iso (xe_ixT (xe_var 1 rfl) xe_int (atI_nat (j := 1) rfl)) (xk_var 3 rfl (fun H v h => h))) (by rw [hm]; rfl) (xss_nil ?_))
          refine xss_cons (xs_setK 4 (xk_key hu (xk_var 3 rfl (fun H v h => h)) (xe_ixT (xe_var 1 rfl) xe_int (atI_nat (j := 1) rfl)) rfl (got_the rfl la)) ?_ sc_lf.nd)
          have hx : 0 ≤ x := ok.1
          have esv : lsaves S t = m.saves := by unfold lsaves; rw [hm]
          have e0 := saved_bad (S := S) (t := t) hx
          rw [esv] at e0
          refine xss_cons (xs_ifT (xt_eqS (xe_var 2 rfl) xe_str rfl) (by decide) (xss_cons (xs_if (xt_svBad B.len hx (xe_ixT (xe_var 1 rfl) xe_int (atI_nat (j := 2) rfl)) (xe_key hu (xk_var 4 rfl (fun H v h => h)) xe_str rfl (got_fld rfl la hm rfl)) (xe_ixT (xe_var 1 rfl) xe_int (atI_nat (j := 2) rfl)) (xe_key hu (xk_var 4 rfl (fun H v h => h)) xe_str rfl (got_fld rfl la hm rfl))) (fun z => ?_) (fun z => ?_))))
          · have e : lfault S (.drop t x) = some ("no such save" : Str) := by
              rw [z, if_pos rfl] at e0
              simp only [lfault, hm]
              cases q : lsavedM S t x with
              | error s2 => rw [q] at e0; exact e0
              | ok w2 => rw [q] at e0; cases e0
            rw [e]
            exact xss_one (xs_ret xe_str rfl)
          · refine xss_nil ?_
            have e : lfault S (.drop t x) = if (t, x) ∈ lneeded S then some ("save is needed" : Str) else none := by
              rw [z, if_neg (by decide)] at e0
              simp only [lfault, hm]
              cases q : lsavedM S t x with
              | error s2 => rw [q] at e0; cases e0
              | ok w2 => rfl
            refine xss_one (xs_ret (d := dOS (lfault S (.drop t x))) (xe_ifE (k := decide ((t, x) ∈ lneeded S)) (xt_eq (xt_cmp (op_inT (hu65 hr)) (fun H y1 y2 Q q1 q2 k => ⟨_, _, q1, q2, pair_shaped (t, x), pairs_shaped (neededL S), k _ H (Same.refl H) (.bl _)⟩) (xe_tup (xa_cons (xe_ixT (xe_var 1 rfl) xe_int (atI_nat (j := 1) rfl)) (xa_cons (xe_ixT (xe_var 1 rfl) xe_int (atI_nat (j := 2) rfl)) xa_nil)) (show 2 ≤ 10000000 by decide)) (xd_callM D1 hr rfl (xk_var 0 rfl (fun H v h => h.1)) xa_nil ⟨rfl, bd.ml, rfl⟩) rfl) ?_) (fun z => xe_eq xe_str ?_) (fun z => xe_eq xe_non ?_)) rfl)
            · exact (any_pair (neededL S) (t, x)).trans (decide_eq_decide.mpr (neededL_mem bd.nd (t, x)))
            · rw [e, if_pos (of_decide_eq_true z)]
              rfl
            · rw [e, if_neg (of_decide_eq_false z)]
              rfl
    · match i, hg with
      | 0, hg =>
        cases hg
        exact ⟨_, rfl, .ref p, rfl, fun H1 s1 => ⟨rfl, M.mono s1⟩⟩
      | 1, hg => cases hg; exact ⟨_, rfl, _, rfl, da1⟩
      | 2, hg => cases hg; exact ⟨_, rfl, trivial⟩
      | 3, hg => cases hg; exact ⟨_, rfl, trivial⟩
      | 4, hg => cases hg; exact ⟨_, rfl, trivial⟩
      | 5, hg => cases hg; exact ⟨_, rfl, trivial⟩
      | i + 6, hg => simp at hg
    · cases z
      exact k v H' (e.sb.same.trans e.s0) q
end
end TC
namespace TC
open PySem L2
/-! ### several keys at once -/
section
variable {X : Cx} {Hb : Bs} {Γ : G} {N : G → Prop} {R : Rk → G → Prop} {e a1 a2 a3 : Expr} {pos tpos q1 q2 q3 r1 r2 r3 : Pos} {d d1 d2 d3 : PyData} {pa ta m : Addr} {ents : List (Int × Addr)} {S : LMod} {u : Int} {mm m1 m2 m3 : LMem} {f f1 f2 f3 : Str} {j1 j2 j3 kk : Nat}
theorem gput {K : PySem.W.Frag} {H0 H : Hp} {σ : St} {v : V} {Q : St → Hp → Prop} (E : EnvOk K Hb H0 H σ (.x (ModF K pa ta ents S) :: Γ)) (l : lookM ents u = some m) (hlook : lookM S.mem u = some mm) (hfs : putA f d (lmFs mm) = lmFs m1) (hany : ((lmFs mm).any fun p => decide (p.1 = f)) = true) (hst : StL Γ) (hl : m ∈ Hb.l) (qv : Dp K H v d)
    (k : ∀ H1, OffK m H H1 → EnvOk K Hb H1 H1 σ (.x (ModF K pa ta ents (S.keep u m1)) :: Γ) → Q σ H1) : gSub (tXK K (.x (ModF K pa ta ents S) :: Γ) (.ref m)) (tX K (.x (ModF K pa ta ents S) :: Γ) (.str f)) rSetD v σ H Q := by
  refine ⟨⟨Hb, H0, E⟩, fun H2 s2 => ⟨⟨Hb, H0, E.mono s2⟩, fun y H3 s3 q3 => ?_⟩⟩
  cases q3
  have s := s2.trans s3
  have E3 := E.mono s
  obtain ⟨ov, h1, v0, rfl, h2⟩ := E3.sl 0 _ rfl
  obtain ⟨rfl, M⟩ := h2 H3 E3.s0
  have z := M.mem.look u
  rw [hlook] at z
  obtain ⟨a', l', vs, hv, fl⟩ := z
  rw [l] at l'
  cases l'
  obtain ⟨ws, e1, fw⟩ := fl.put hany (dp_mono s _ _ qv)
  have hlen : (txtK vs).length < sizeLine := by
    unfold txtK
    rw [List.length_map, fl.len]
    exact (by decide : 8 < sizeLine)
  refine ⟨m, _, rfl, DPut.k (k := .inr f) hv hlen, ?_⟩
  have k1 : OffK m H3 (upd H3 m (.dK (putK (txtK vs) (.inr f) v))) := OffK.upd hv
  have dd : DkAt K (upd H3 m (.dK (putK (txtK vs) (.inr f) v))) m (lmFs m1) := ⟨ws, by rw [e1]; exact upd_same, by rw [← hfs]; exact fw.offK k1⟩
  obtain ⟨_, h1', v0', e0', h2'⟩ := E.sl 0 _ rfl
  subst e0'
  have M0 := (h2' H E.s0).2
  have z0 := M0.mem.look u
  rw [hlook] at z0
  obtain ⟨a0, l0, vs0, hv0, fl0⟩ := z0
  rw [l] at l0
  cases l0
  refine k _ ⟨⟨_, hv0⟩, fun b o ne hb => ?_⟩ (E3.offK k1 (by rw [upd_same]; exact fun z => nomatch z) hl hst h1 fun H4 s4 => ⟨rfl, (M.put l hlook k1 dd).mono s4⟩)
  rw [upd_ne ne]
  exact s _ _ hb
theorem look_keep {S : LMod} {u : Int} {m : LMem} : lookM (S.keep u m).mem u = some m := by
  show lookM (putM u m S.mem) u = some m
  rw [lookM_put, if_pos rfl]
/-- m['f1'], m['f2'] = e -/
theorem xs_mput2 (hc : X.calm = true) (hu : X.A.units + 1 < cLine) (hm1 : XK X a1 (.x (ModF X.K pa ta ents S) :: Γ) (.ref m)) (hm2 : XK X a2 (.x (ModF X.K pa ta ents (S.keep u m1)) :: Γ) (.ref m)) (l : lookM ents u = some m) (hlook : lookM S.mem u = some mm)
    (hf1 : putA f1 d1 (lmFs mm) = lmFs m1) (ha1 : ((lmFs mm).any fun p => decide (p.1 = f1)) = true) (hf2 : putA f2 d2 (lmFs m1) = lmFs m2) (ha2 : ((lmFs m1).any fun p => decide (p.1 = f2)) = true)
    (he : XE X e (.x (ModF X.K pa ta ents S) :: Γ) (.tuple [d1, d2])) (hst : StL Γ) (hl : m ∈ Hb.l) (h : N (.x (ModF X.K pa ta ents ((S.keep u m1).keep u m2)) :: Γ))
    (hs : swapsWithSole [.Tuple [.Subscript a1 (.Constant (.str f1) j1 q1) r1, .Subscript a2 (.Constant (.str f2) j2 q2) r2] kk tpos] e pos.line X.env = pure false := by rfl) (hw : swappedStores [.Tuple [.Subscript a1 (.Constant (.str f1) j1 q1) r1, .Subscript a2 (.Constant (.str f2) j2 q2) r2] kk tpos] e X.env = pure none := by rfl) :
    XS X Hb (.Assign [.Tuple [.Subscript a1 (.Constant (.str f1) j1 q1) r1, .Subscript a2 (.Constant (.str f2) j2 q2) r2] kk tpos] e pos) (.x (ModF X.K pa ta ents S) :: Γ) N R := by
  refine ps_imp (ps_asg he (pg_tup (n := 2) hc (pgs_cons (pg_sub hm1 (xe_str (Γ := .x (ModF X.K pa ta ents S) :: Γ)) (set_dict hu)) (pgs_cons (pg_sub hm2 (xe_str (Γ := .x (ModF X.K pa ta ents (S.keep u m1)) :: Γ)) (set_dict hu)) pgs_nil))) hs hw) fun D σ H q => ?_
  obtain ⟨H0, E⟩ := q.1
  refine ⟨⟨Hb, H0, E⟩, fun v H1 s1 qv => ?_⟩
  cases qv with
  | @tup t xs _ hs ha =>
    cases ha with
    | cons h3 h4 =>
      cases h4 with
      | cons h5 h6 =>
        cases h6
        refine ⟨t, _, rfl, hs, rfl, _, _, rfl, gput (E.mono s1) l hlook hf1 ha1 hst hl h3 fun H2 k2 E2 => ⟨_, _, rfl, gput E2 l look_keep hf2 ha2 hst hl (dp_offK k2 _ _ h5) fun H3 k3 E3 => ⟨rfl, ?_⟩⟩⟩
        exact q.2.1 _ _ _ _ (((KeepT.of s1).trans k2.keepT).trans k3.keepT) E3 h
/-- m['f1'], m['f2'], m['f3'] = e -/
theorem xs_mput3 (hc : X.calm = true) (hu : X.A.units + 1 < cLine) (hm1 : XK X a1 (.x (ModF X.K pa ta ents S) :: Γ) (.ref m)) (hm2 : XK X a2 (.x (ModF X.K pa ta ents (S.keep u m1)) :: Γ) (.ref m)) (hm3 : XK X a3 (.x (ModF X.K pa ta ents ((S.keep u m1).keep u m2)) :: Γ) (.ref m)) (l : lookM ents u = some m) (hlook : lookM S.mem u = some mm)
    (hf1 : putA f1 d1 (lmFs mm) = lmFs m1) (ha1 : ((lmFs mm).any fun p => decide (p.1 = f1)) = true) (hf2 : putA f2 d2 (lmFs m1) = lmFs m2) (ha2 : ((lmFs m1).any fun p => decide (p.1 = f2)) = true) (hf3 : putA f3 d3 (lmFs m2) = lmFs m3) (ha3 : ((lmFs m2).any fun p => decide (p.1 = f3)) = true)
    (he : XE X e (.x (ModF X.K pa ta ents S) :: Γ) (.tuple [d1, d2, d3])) (hst : StL Γ) (hl : m ∈ Hb.l) (h : N (.x (ModF X.K pa ta ents (((S.keep u m1).keep u m2).keep u m3)) :: Γ))
    (hs : swapsWithSole [.Tuple [.Subscript a1 (.Constant (.str f1) j1 q1) r1, .Subscript a2 (.Constant (.str f2) j2 q2) r2, .Subscript a3 (.Constant (.str f3) j3 q3) r3] kk tpos] e pos.line X.env = pure false := by rfl) (hw : swappedStores [.Tuple [.Subscript a1 (.Constant (.str f1) j1 q1) r1, .Subscript a2 (.Constant (.str f2) j2 q2) r2, .Subscript a3 (.Constant (.str f3) j3 q3) r3] kk tpos] e X.env = pure none := by rfl) :
    XS X Hb (.Assign [.Tuple [.Subscript a1 (.Constant (.str f1) j1 q1) r1, .Subscript a2 (.Constant (.str f2) j2 q2) r2, .Subscript a3 (.Constant (.str f3) j3 q3) r3] kk tpos] e pos) (.x (ModF X.K pa ta ents S) :: Γ) N R := by
  refine ps_imp (ps_asg he (pg_tup (n := 3) hc (pgs_cons (pg_sub hm1 (xe_str (Γ := .x (ModF X.K pa ta ents S) :: Γ)) (set_dict hu)) (pgs_cons (pg_sub hm2 (xe_str (Γ := .x (ModF X.K pa ta ents (S.keep u m1)) :: Γ)) (set_dict hu)) (pgs_cons (pg_sub hm3 (xe_str (Γ := .x (ModF X.K pa ta ents ((S.keep u m1).keep u m2)) :: Γ)) (set_dict hu)) pgs_nil)))) hs hw) fun D σ H q => ?_
  obtain ⟨H0, E⟩ := q.1
  refine ⟨⟨Hb, H0, E⟩, fun v H1 s1 qv => ?_⟩
  cases qv with
  | @tup t xs _ hs ha =>
    cases ha with
    | cons h3 h4 =>
      cases h4 with
      | cons h5 h6 =>
        cases h6 with
        | cons h7 h8 =>
          cases h8
          refine ⟨t, _, rfl, hs, rfl, _, _, rfl, gput (E.mono s1) l hlook hf1 ha1 hst hl h3 fun H2 k2 E2 => ⟨_, _, rfl, gput E2 l look_keep hf2 ha2 hst hl (dp_offK k2 _ _ h5) fun H3 k3 E3 => ⟨_, _, rfl, gput E3 l look_keep hf3 ha3 hst hl (dp_offK k3 _ _ (dp_offK k2 _ _ h7)) fun H4 k4 E4 => ⟨rfl, ?_⟩⟩⟩⟩
          exact q.2.1 _ _ _ _ ((((KeepT.of s1).trans k2.keepT).trans k3.keepT).trans k4.keepT) E4 h
end
theorem putM_twice {α : Type} (t : Int) (m m' : α) : ∀ l : List (Int × α), putM t m' (putM t m l) = putM t m' l
  | [] => by
    show (if t = t then _ else _) = _
    rw [if_pos rfl]
    rfl
  | (v, x) :: r => by
    have ih := putM_twice t m m' r
    by_cases h : v = t
    · have e1 : putM t m ((v, x) :: r) = (v, m) :: r := if_pos h
      have e2 : putM t m' ((v, x) :: r) = (v, m') :: r := if_pos h
      have e3 : putM t m' ((v, m) :: r) = (v, m') :: r := if_pos h
      rw [e1, e2, e3]
    · have e1 : putM t m ((v, x) :: r) = (v, x) :: putM t m r := if_neg h
      have e2 : putM t m' ((v, x) :: r) = (v, x) :: putM t m' r := if_neg h
      have e3 : putM t m' ((v, x) :: putM t m r) = (v, x) :: putM t m' (putM t m r) := if_neg h
      rw [e1, e2, e3, ih]
theorem keep_twice (S : LMod) (t : Int) (m m' : LMem) : (S.keep t m).keep t m' = S.keep t m' := by
  show LMod.mk _ _ = LMod.mk _ _
  rw [show (S.keep t m).mem = putM t m S.mem from rfl, putM_twice]
  rfl
/-! the fields -/
theorem put_inc (m : LMem) (i : Int) : putA "incarnation" (.int i) (lmFs m) = lmFs { m with inc := i } := rfl
theorem put_set (m : LMem) (s : Set2) : putA "settings" (dSet s) (lmFs m) = lmFs { m with set := s } := rfl
theorem put_seed (m : LMem) (i : Int) : putA "seed" (.int i) (lmFs m) = lmFs { m with seed := i } := rfl
theorem put_steps (m : LMem) (s : List Set2) : putA "steps" (dSteps s) (lmFs m) = lmFs { m with steps := s } := rfl
theorem put_score (m : LMem) (s : Option Int) : putA "score" (dOI s) (lmFs m) = lmFs { m with score := s } := rfl
theorem put_saves (m : LMem) (s : List (Option (Int × List Set2))) : putA "saves" (.list (s.map dSave)) (lmFs m) = lmFs { m with saves := s } := rfl
theorem put_home (m : LMem) (s : Set2) (i : Int) (st : List Set2) (o : Option (Int × Int)) : putA "home" (.tuple [dSet s, .int i, dSteps st, dOP o]) (lmFs m) = lmFs { m with hset := s, hseed := i, hsteps := st, hpair := o } := rfl
theorem put_stop (m : LMem) (b : Bool) : putA "stopped" (.bool b) (lmFs m) = lmFs { m with stop := b } := rfl
end TC
namespace TC
open PySem L2
/-- all objects but dicts stand -/
def OffD (H H' : Hp) : Prop := ∀ b o, (∀ kvs, o ≠ .dK kvs) → H b = some o → H' b = some o
theorem OffD.trans {H H1 H2 : Hp} (a : OffD H H1) (b : OffD H1 H2) : OffD H H2 := fun x o n h => b x o n (a x o n h)
theorem OffD.of_same {H H' : Hp} (s : Same H H') : OffD H H' := fun b o _ h => s b o h
theorem OffD.keepT {K : PySem.W.Frag} {H H' : Hp} (k : OffD H H') : KeepT K H H' := fun a xs h => by
  obtain (h | ⟨o, h⟩) | h := h
  · exact .inl (.inl (k _ _ (fun _ z => nomatch z) h))
  · exact .inl (.inr ⟨o, k _ _ (fun _ z => nomatch z) h⟩)
  · exact .inr h
theorem ModE.offD {K : PySem.W.Frag} {H H' : Hp} {p t : Addr} {es : List (Int × Addr)} {S : LMod} (M : ModE K H p t es S) (o : Off (p :: t :: es.map (·.2)) H H') : OffD H H' := fun b ob ne h => (o b ob h).1 fun z => by
  obtain z | z := List.mem_cons.mp z
  · rw [z, M.top] at h
    exact ne _ (Option.some.inj h).symm
  · obtain z | z := List.mem_cons.mp z
    · rw [z, M.tri] at h
      exact ne _ (Option.some.inj h).symm
    · obtain ⟨m, vs, e, _⟩ := M.mem.each b z
      rw [e] at h
      exact ne _ (Option.some.inj h).symm
theorem lf_run {S : LMod} {t : Int} (h : errO (lrunM S t) = none) : ∃ m, lookM S.mem t = some m ∧ lrunM S t = .ok m := by
  unfold lrunM at h ⊢
  cases q : lookM S.mem t with
  | none => rw [q] at h; cases h
  | some m =>
    rw [q] at h
    dsimp only at h ⊢
    split at h
    · cases h
    · rename_i hs
      rw [if_neg hs]
      exact ⟨m, rfl, rfl⟩
theorem lf_pres {S : LMod} {t i : Int} (h : errO (lpresM S t i) = none) : ∃ m, lookM S.mem t = some m ∧ lpresM S t i = .ok m := by
  have h2 : errO (lrunM S t) = none := by
    unfold lpresM at h
    cases q : lrunM S t with
    | error s => rw [q] at h; cases h
    | ok m => rfl
  obtain ⟨m, h3, h4⟩ := lf_run h2
  refine ⟨m, h3, ?_⟩
  unfold lpresM at h ⊢
  rw [h4] at h ⊢
  dsimp only at h ⊢
  split at h
  · rename_i hi
    rw [if_pos hi]
  · cases h
theorem lf_saved {S : LMod} {t x : Int} (h : errO (lsavedM S t x) = none) : ∃ m w, lookM S.mem t = some m ∧ lsavedM S t x = .ok w ∧ 0 ≤ x ∧ x < m.saves.length ∧ m.saves.getD x.toNat none = some w := by
  unfold lsavedM at h ⊢
  split at h
  · rename_i hx
    cases q : lookM S.mem t with
    | none =>
      have e : lsaves S t = [] := by unfold lsaves; rw [q]
      rw [e] at hx
      simp at hx
      omega
    | some m =>
      have e : lsaves S t = m.saves := by unfold lsaves; rw [q]
      rw [e] at h hx ⊢
      cases q2 : m.saves.getD x.toNat none with
      | none => rw [q2] at h; cases h
      | some w => exact ⟨m, w, rfl, by rw [if_pos hx], hx.1, hx.2, q2⟩
  · cases h
section
variable {P : Program} {w : World}
variable {K : PySem.W.Frag} {mg : Str → Option Value} {base : Heap}
/-! _law_do -/
abbrev sLD : Stmt := topS 52
def spLDo (K : PySem.W.Frag) : Sp := fun vs H Q _ => ∃ p t es S n tr va d v1 v2 v3, vs = [V.ref p, v1, v2, v3] ∧ ModE K H p t es S ∧ Dp K H v1 (dDeed d) ∧ Dp K H v2 (dExs tr) ∧ Dp K H v3 (dExs va) ∧ DeedOk d ∧ LBd S ∧ (∀ t m, lookM S.mem t = some m → ∀ s ∈ m.steps, RateOk s.1) ∧ ExsOk n tr ∧ ExsOk n va ∧
  ∀ v H' es', OffD H H' → ModE K H' p t es' (ldo tr va n S d).1 → Dp K H' v (dOut (ldo tr va n S d).2) → Q v H'
theorem sc_ld : FnScope ["_law_model", "_law_deed_here", "_law_training", "_law_validation", "_law_fault_here", "_law_trials", "_law_kind", "_law_member"] ["_law_model", "_law_deed_here", "_law_training", "_law_validation"] (defScope sLD) := ⟨rfl, rfl, rfl, by decide +kernel, rfl, by decide +kernel, by decide +kernel⟩
theorem two_le : 2 ≤ 10000000 := by decide
theorem len_more (l : List Set2) (k : Int) (s : Set2) (h : 0 ≤ k) : (((l ++ List.replicate k.toNat s).map dSet).length : Int) = (l.length : Int) + k := by
  rw [List.length_map, List.length_append, List.length_replicate]
  omega
theorem len_snoc (l : List (Option (Int × List Set2))) (y : Option (Int × List Set2)) : (((l ++ [y]).map dSave).length : Int) - 1 = (l.length : Int) := by
  rw [List.length_map, List.length_append]
  show ((l.length + 1 : Nat) : Int) - 1 = _
  omega
theorem ok_ldo (R : RawD K mg "_law_do" sLD) (B : Bi mg) (D1 : Def P w K mg base "_law_fault" 2 ["_law_model", "_law_deed_here"] (spMod K 1 pLF)) (D2 : Def P w K mg base "_law_score" 1 ["_law_examples_here", "_law_weights_here"] (spR K 2 pScore)) (D3 : Def P w K mg base "_law_weights" 2 ["_law_examples_here", "_law_seed", "_law_steps"] (spR K 3 pLW)) :
    Def P w K mg base "_law_do" 3 ["_law_model", "_law_deed_here", "_law_training", "_law_validation"] (spLDo K) := by
  obtain ⟨f, fd, h1, F⟩ := R
  refine ⟨f, fd, h1, F.kp, F.binds (fun _ _ _ _ _ _ us hl => match us, hl with | [_, _, _, _], _ => rfl), F.ok sc_ld (fun vs H Q E h => ?_) (fun cdv A outer s H vs Q E hr h => ?_)⟩
  · obtain ⟨p, t, es, S, n, tr, va, d, v1, v2, v3, rfl, _⟩ := h
    rfl
  · obtain ⟨p, ta, es, S, n, tr, va, d, v1, v2, v3, rfl, M, da1, da2, da3, dk, bd, hrt, o1, o2, k⟩ := h
    have iso := M.look
    refine ⟨tS K ⟨H, p :: ta :: es.map (·.2), fun _ _ _ => False, default⟩ [.x (ModF K p ta es S), .c (dDeed d), .c (dExs tr), .c (dExs va), .n, .n, .n, .n] (fun _ => False) (fun q Γ => q = .d (dOut (ldo tr va n S d).2) ∧ ∃ es', Γ[0]? = some (.x (ModF K p ta es' (ldo tr va n S d).1))), ?_, ⟨H, Off.refl _, Same.refl _, rfl, fun i g hg => ?_⟩, fun Γ' σ' H' H0 kt e n => n.elim, ⟨fun Γ' σ' v d H' H0 e q z => ?_, fun _ _ _ _ _ _ _ _ _ _ _ z => (nomatch z.1), fun _ _ _ _ _ _ _ _ _ _ z => (nomatch z.1), fun _ _ _ _ _ _ _ _ z => (nomatch z.1), fun _ _ _ _ _ _ _ _ z => (nomatch z.1)⟩⟩
    · have hu := hu1 hr
      have ok := dk.ok
      have hpl : p ∈ p :: ta :: es.map (·.2) := List.mem_cons_self
      have htl : ta ∈ p :: ta :: es.map (·.2) := List.mem_cons_of_mem _ List.mem_cons_self
      refine xss_cons (xs_set 4 (d := dOS (lfault S d)) (xd_callM D1 hr rfl (xk_var 0 rfl (fun H v h => h.1)) (xa_cons (xe_var 1 rfl) xa_nil) ⟨d, rfl, dk, bd, rfl⟩) ?_ sc_ld.nd)
      cases hf : lfault S d with
      | some z =>
        refine xss_cons (xs_ifT (xt_notN (xe_var 4 rfl)) rfl (xss_one (xs_ret (xe_tup (xa_cons xe_bl (xa_cons (xe_var 4 rfl) xa_nil)) two_le) ⟨?_, es, ?_⟩)))
        · rw [ldo_fault hf]
          rfl
        · rw [ldo_fault hf]
          rfl
      | none =>
        refine xss_cons (xs_ifF (xt_notN (xe_var 4 rfl)) rfl (xss_nil ?_))
        refine xss_cons (xs_setK 5 (xk_key hu (xk_var 0 rfl (fun H v h => h.1)) xe_str rfl (got_tri rfl)) ?_ sc_ld.nd)
        cases d with
        | found t sd r g =>
          refine xss_cons (xs_set 6 (d := .str "found") (xe_ixT (xe_var 1 rfl) xe_int (atI_nat (j := 0) rfl)) ?_ sc_ld.nd)
          have hl : lookM S.mem t = none := by
            simp only [lfault] at hf
            cases q : lookM S.mem t with
            | none => rfl
            | some m => rw [q] at hf; cases hf
          have e : ldo tr va n S (.found t sd r g) = (S.keep t (lnew sd (r, g)), .ok (.int 1)) := by simp only [ldo, hl]
          have hz : es.length ≤ 1000 := by
            have z := M.mem.len
            have z2 := bd.ml
            omega
          refine xss_cons (xs_ifT (xt_eqS (xe_var 6 rfl) xe_str rfl) (by decide) (xss_cons (xs_fput (mm := lnew sd (r, g)) hu (xk_var 5 rfl (fun H v h => h)) (xe_ixT (xe_var 1 rfl) xe_int (atI_nat (j := 1) rfl)) (xd_disp (xps_cons xe_int (xps_cons (xe_eq (xe_slT (xe_var 1 rfl) (xo_some xe_int) xo_none) rfl) (xps_cons (xe_ixT (xe_var 1 rfl) xe_int (atI_nat (j := 2) rfl)) (xps_cons (xe_of_f (xf_lst xa_nil (Nat.zero_le _))) (xps_cons xe_non (xps_cons (xe_of_f (xf_lst xa_nil (Nat.zero_le _))) (xps_cons (xe_tup (xa_cons (xe_eq (xe_slT (xe_var 1 rfl) (xo_some xe_int) xo_none) rfl) (xa_cons (xe_ixT (xe_var 1 rfl) xe_int (atI_nat (j := 2) rfl)) (xa_cons (xe_of_f (xf_lst xa_nil (Nat.zero_le _))) (xa_cons xe_non xa_nil)))) (show 4 ≤ 10000000 by decide)) (xps_cons xe_bl xps_nil)))))))) rfl rfl (by decide) (by decide) (show 8 ≤ 15 by decide) (show (List.map Prod.fst (lmFs (lnew 0 (0, 0)))).Nodup by decide)) hl hz ⟨trivial, trivial, trivial, trivial, fun _ _ _ h => h, trivial, trivial, trivial⟩ htl fun a => ?_)))
          refine xss_one (xs_ret (xe_tup (xa_cons xe_bl (xa_cons xe_int xa_nil)) two_le) ⟨by rw [e]; rfl, es ++ [(t, a)], by rw [e]; rfl⟩)
        | train t i k0 =>
          refine xss_cons (xs_set 6 (d := .str "train") (xe_ixT (xe_var 1 rfl) xe_int (atI_nat (j := 0) rfl)) ?_ sc_ld.nd)
          refine xss_cons (xs_ifF (xt_eqS (xe_var 6 rfl) xe_str rfl) (by decide) (xss_nil ?_))
          obtain ⟨m, hm, hp⟩ := lf_pres hf
          obtain ⟨a, la⟩ := look_iso (iso t) hm
          obtain ⟨b1, b2⟩ := bd.st t m hm
          have hal : a ∈ p :: ta :: es.map (·.2) := List.mem_cons_of_mem _ (List.mem_cons_of_mem _ (lookE_in la))
          refine xss_cons (xs_setK 7 (xk_key hu (xk_var 5 rfl (fun H v h => h)) (xe_ixT (xe_var 1 rfl) xe_int (atI_nat (j := 1) rfl)) rfl (got_the rfl la)) ?_ sc_ld.nd)
          have e : ldo tr va n S (.train t i k0) = ({ S.keep t { m with steps := m.steps ++ List.replicate k0.toNat m.set } with spent := S.spent + k0 }, .ok (.int ((m.steps.length : Int) + k0))) := by simp only [ldo, hp]
          have hk : 1 ≤ k0 ∧ k0 ≤ 4 := ok.2.2
          refine xss_cons (xs_ifT (xt_eqS (xe_var 6 rfl) xe_str rfl) (by decide) (xss_cons (xs_mput hu (xk_var 7 rfl (fun H v h => h)) la hm (put_steps m (m.steps ++ List.replicate k0.toNat m.set)) rfl (xe_eq (xe_of_f (xf_catL (xe_key hu (xk_var 7 rfl (fun H v h => h)) xe_str rfl (got_fld rfl la hm rfl)) (xe_of_f (xf_rep (xf_lst (xa_cons (xe_key hu (xk_var 7 rfl (fun H v h => h)) xe_str rfl (got_fld rfl la hm rfl)) xa_nil) (show 1 ≤ 10000000 by decide)) (xe_ixT (xe_var 1 rfl) xe_int (atI_nat (j := 3) rfl)) ⟨by omega, by omega, show 1 ≤ 1000 by decide⟩)) ?_)) ?_) ⟨trivial, trivial, trivial, trivial, fun _ _ _ h => h, trivial, fun _ _ _ h => h, trivial⟩ hal ?_)))
          · rw [List.length_map, List.flatten_replicate_singleton, List.length_replicate]
            omega
          · unfold dSteps
            rw [List.map_append, List.map_replicate, List.flatten_replicate_singleton]
          · refine xss_cons (xs_sput hu (xk_var 0 rfl (fun H v h => h.1)) (xe_add (xe_key hu (xk_var 0 rfl (fun H v h => h.1)) xe_str rfl (got_spent rfl)) (xe_ixT (xe_var 1 rfl) xe_int (atI_nat (j := 3) rfl))) ⟨trivial, trivial, trivial, trivial, fun _ _ _ h => h, trivial, fun _ _ _ h => h, trivial⟩ hpl ?_)
            refine xss_one (xs_ret (xe_tup (xa_cons xe_bl (xa_cons (xe_lenL B.len (xe_key hu (xk_var 7 rfl (fun H v h => h)) xe_str rfl (got_fld rfl la look_keep rfl))) xa_nil)) two_le) ⟨?_, es, ?_⟩)
            · rw [e, len_more _ _ _ (by omega)]
              rfl
            · rw [e]
              rfl
        | save t i =>
          refine xss_cons (xs_set 6 (d := .str "save") (xe_ixT (xe_var 1 rfl) xe_int (atI_nat (j := 0) rfl)) ?_ sc_ld.nd)
          refine xss_cons (xs_ifF (xt_eqS (xe_var 6 rfl) xe_str rfl) (by decide) (xss_nil ?_))
          obtain ⟨m, hm, hp⟩ := lf_pres hf
          obtain ⟨a, la⟩ := look_iso (iso t) hm
          obtain ⟨b1, b2⟩ := bd.st t m hm
          have hal : a ∈ p :: ta :: es.map (·.2) := List.mem_cons_of_mem _ (List.mem_cons_of_mem _ (lookE_in la))
          refine xss_cons (xs_setK 7 (xk_key hu (xk_var 5 rfl (fun H v h => h)) (xe_ixT (xe_var 1 rfl) xe_int (atI_nat (j := 1) rfl)) rfl (got_the rfl la)) ?_ sc_ld.nd)
          refine xss_cons (xs_ifF (xt_eqS (xe_var 6 rfl) xe_str rfl) (by decide) (xss_nil ?_))
          have e : ldo tr va n S (.save t i) = (S.keep t { m with saves := m.saves ++ [some (m.seed, m.steps)], hset := m.set, hseed := m.seed, hsteps := m.steps, hpair := some (t, (m.saves.length : Int)) }, .ok (.int (m.saves.length : Int))) := by simp only [ldo, hp]
          refine xss_cons (xs_ifT (xt_eqS (xe_var 6 rfl) xe_str rfl) (by decide) (xss_cons (xs_mput hu (xk_var 7 rfl (fun H v h => h)) la hm (put_saves m (m.saves ++ [some (m.seed, m.steps)])) rfl (xe_eq (xe_of_f (xf_catL (xe_key hu (xk_var 7 rfl (fun H v h => h)) xe_str rfl (got_fld rfl la hm rfl)) (xe_of_f (xf_lst (xa_cons (xe_tup (xa_cons (xe_key hu (xk_var 7 rfl (fun H v h => h)) xe_str rfl (got_fld rfl la hm rfl)) (xa_cons (xe_key hu (xk_var 7 rfl (fun H v h => h)) xe_str rfl (got_fld rfl la hm rfl)) xa_nil)) two_le) xa_nil) (show 1 ≤ 10000000 by decide))) ?_)) ?_) ⟨trivial, trivial, trivial, trivial, fun _ _ _ h => h, trivial, fun _ _ _ h => h, trivial⟩ hal ?_)))
          · rw [List.length_map]
            show _ + 1 ≤ _
            omega
          · rw [List.map_append]
            rfl
          · refine xss_cons (xs_mput hu (xk_var 7 rfl (fun H v h => h)) la look_keep (put_home _ m.set m.seed m.steps (some (t, (m.saves.length : Int)))) rfl (xe_tup (xa_cons (xe_key hu (xk_var 7 rfl (fun H v h => h)) xe_str rfl (got_fld rfl la look_keep rfl)) (xa_cons (xe_key hu (xk_var 7 rfl (fun H v h => h)) xe_str rfl (got_fld rfl la look_keep rfl)) (xa_cons (xe_key hu (xk_var 7 rfl (fun H v h => h)) xe_str rfl (got_fld rfl la look_keep rfl)) (xa_cons (xe_eq (xe_tup (xa_cons (xe_ixT (xe_var 1 rfl) xe_int (atI_nat (j := 1) rfl)) (xa_cons (xe_sub (xe_lenL B.len (xe_key hu (xk_var 7 rfl (fun H v h => h)) xe_str rfl (got_fld rfl la look_keep rfl))) xe_int) xa_nil)) two_le) ?_) xa_nil)))) (show 4 ≤ 10000000 by decide)) ⟨trivial, trivial, trivial, trivial, fun _ _ _ h => h, trivial, fun _ _ _ h => h, trivial⟩ hal ?_)
            · rw [len_snoc]
              rfl
            · refine xss_one (xs_ret (xe_tup (xa_cons xe_bl (xa_cons (xe_sub (xe_lenL B.len (xe_key hu (xk_var 7 rfl (fun H v h => h)) xe_str rfl (got_fld rfl la look_keep rfl))) xe_int) xa_nil)) two_le) ⟨?_, es, ?_⟩)
              · rw [e, len_snoc]
                rfl
              · rw [keep_twice]
                rw [e]
                rfl
        | crash t =>
          refine xss_cons (xs_set 6 (d := .str "crash") (xe_ixT (xe_var 1 rfl) xe_int (atI_nat (j := 0) rfl)) ?_ sc_ld.nd)
          refine xss_cons (xs_ifF (xt_eqS (xe_var 6 rfl) xe_str rfl) (by decide) (xss_nil ?_))
          obtain ⟨m, hm, hp⟩ := lf_run hf
          obtain ⟨a, la⟩ := look_iso (iso t) hm
          obtain ⟨b1, b2⟩ := bd.st t m hm
          have hal : a ∈ p :: ta :: es.map (·.2) := List.mem_cons_of_mem _ (List.mem_cons_of_mem _ (lookE_in la))
          refine xss_cons (xs_setK 7 (xk_key hu (xk_var 5 rfl (fun H v h => h)) (xe_ixT (xe_var 1 rfl) xe_int (atI_nat (j := 1) rfl)) rfl (got_the rfl la)) ?_ sc_ld.nd)
          refine xss_cons (xs_ifF (xt_eqS (xe_var 6 rfl) xe_str rfl) (by decide) (xss_nil ?_))
          refine xss_cons (xs_ifF (xt_eqS (xe_var 6 rfl) xe_str rfl) (by decide) (xss_nil ?_))
          have e : ldo tr va n S (.crash t) = (S.keep t { m with inc := m.inc + 1, set := m.hset, seed := m.hseed, steps := m.hsteps }, .ok (.int (m.inc + 1))) := by simp only [ldo, hp]
          refine xss_cons (xs_ifT (xt_eqS (xe_var 6 rfl) xe_str rfl) (by decide) (xss_cons (xs_mput hu (xk_var 7 rfl (fun H v h => h)) la hm (put_inc m (m.inc + 1)) rfl (xe_add (xe_key hu (xk_var 7 rfl (fun H v h => h)) xe_str rfl (got_fld rfl la hm rfl)) xe_int) ⟨trivial, trivial, trivial, trivial, fun _ _ _ h => h, trivial, fun _ _ _ h => h, trivial⟩ hal ?_)))
          refine xss_cons (xs_mput3 rfl hu (xk_var 7 rfl (fun H v h => h)) (xk_var 7 rfl (fun H v h => h)) (xk_var 7 rfl (fun H v h => h)) la look_keep (put_set _ m.hset) rfl (put_seed _ m.hseed) rfl (put_steps _ m.hsteps) rfl (xe_eq (xe_slT (xe_key hu (xk_var 7 rfl (fun H v h => h)) xe_str rfl (got_fld rfl la look_keep rfl)) xo_none (xo_some xe_int)) rfl) ⟨trivial, trivial, trivial, trivial, fun _ _ _ h => h, trivial, fun _ _ _ h => h, trivial⟩ hal ?_)
          refine xss_one (xs_ret (xe_tup (xa_cons xe_bl (xa_cons (xe_key hu (xk_var 7 rfl (fun H v h => h)) xe_str rfl (got_fld rfl la look_keep rfl)) xa_nil)) two_le) ⟨by rw [e]; rfl, es, ?_⟩)
          rw [keep_twice, keep_twice, keep_twice]
          rw [e]
          rfl
        | evaluate t i =>
          refine xss_cons (xs_set 6 (d := .str "evaluate") (xe_ixT (xe_var 1 rfl) xe_int (atI_nat (j := 0) rfl)) ?_ sc_ld.nd)
          refine xss_cons (xs_ifF (xt_eqS (xe_var 6 rfl) xe_str rfl) (by decide) (xss_nil ?_))
          obtain ⟨m, hm, hp⟩ := lf_pres hf
          obtain ⟨a, la⟩ := look_iso (iso t) hm
          obtain ⟨b1, b2⟩ := bd.st t m hm
          have hal : a ∈ p :: ta :: es.map (·.2) := List.mem_cons_of_mem _ (List.mem_cons_of_mem _ (lookE_in la))
          refine xss_cons (xs_setK 7 (xk_key hu (xk_var 5 rfl (fun H v h => h)) (xe_ixT (xe_var 1 rfl) xe_int (atI_nat (j := 1) rfl)) rfl (got_the rfl la)) ?_ sc_ld.nd)
          refine xss_cons (xs_ifF (xt_eqS (xe_var 6 rfl) xe_str rfl) (by decide) (xss_nil ?_))
          refine xss_cons (xs_ifF (xt_eqS (xe_var 6 rfl) xe_str rfl) (by decide) (xss_nil ?_))
          refine xss_cons (xs_ifF (xt_eqS (xe_var 6 rfl) xe_str rfl) (by decide) (xss_nil ?_))
          have e : ldo tr va n S (.evaluate t i) = (S.keep t { m with score := some (scoreM va (lwM tr m.seed m.steps n)) }, .ok (.int (scoreM va (lwM tr m.seed m.steps n)))) := by simp only [ldo, hp]
          refine xss_cons (xs_ifT (xt_eqS (xe_var 6 rfl) xe_str rfl) (by decide) (xss_cons (xs_mput hu (xk_var 7 rfl (fun H v h => h)) la hm (put_score m (some (scoreM va (lwM tr m.seed m.steps n)))) rfl (xd_call D2 (hr.mono (by decide)) (xa_cons (xe_var 3 rfl) (xa_cons (xd_call D3 hr (xa_cons (xe_var 2 rfl) (xa_cons (xe_key hu (xk_var 7 rfl (fun H v h => h)) xe_str rfl (got_fld rfl la hm rfl)) (xa_cons (xe_key hu (xk_var 7 rfl (fun H v h => h)) xe_str rfl (got_fld rfl la hm rfl)) xa_nil))) ⟨n, tr, m.seed, m.steps, rfl, o1, by omega, hrt t m hm, rfl⟩) xa_nil)) ⟨n, va, _, rfl, o2, lwRun_len o1 _, rfl⟩) ⟨trivial, trivial, trivial, trivial, fun _ _ _ h => h, trivial, fun _ _ _ h => h, trivial⟩ hal ?_)))
          exact xss_one (xs_ret (xe_tup (xa_cons xe_bl (xa_cons (xe_key hu (xk_var 7 rfl (fun H v h => h)) xe_str rfl (got_fld rfl la look_keep rfl)) xa_nil)) two_le) ⟨by rw [e]; rfl, es, by rw [e]; rfl⟩)
        | copy t i dn x r g =>
          refine xss_cons (xs_set 6 (d := .str "copy") (xe_ixT (xe_var 1 rfl) xe_int (atI_nat (j := 0) rfl)) ?_ sc_ld.nd)
          refine xss_cons (xs_ifF (xt_eqS (xe_var 6 rfl) xe_str rfl) (by decide) (xss_nil ?_))
          obtain ⟨m, hm, hp, hsn⟩ : ∃ m, lookM S.mem t = some m ∧ lpresM S t i = .ok m ∧ errO (lsavedM S dn x) = none := by
            have hq : errO (lpresM S t i) = none := by
              simp only [lfault] at hf
              cases q : lpresM S t i with
              | error s2 => rw [q] at hf; cases hf
              | ok w2 => rfl
            obtain ⟨m, hm, hp⟩ := lf_pres hq
            refine ⟨m, hm, hp, ?_⟩
            simp only [lfault, hp] at hf
            exact hf
          obtain ⟨m2, sv, hm2, hsv, hx, hxl, hget⟩ := lf_saved hsn
          obtain ⟨a, la⟩ := look_iso (iso t) hm
          obtain ⟨b1, b2⟩ := bd.st t m hm
          have hal : a ∈ p :: ta :: es.map (·.2) := List.mem_cons_of_mem _ (List.mem_cons_of_mem _ (lookE_in la))
          refine xss_cons (xs_setK 7 (xk_key hu (xk_var 5 rfl (fun H v h => h)) (xe_ixT (xe_var 1 rfl) xe_int (atI_nat (j := 1) rfl)) rfl (got_the rfl la)) ?_ sc_ld.nd)
          refine xss_cons (xs_ifF (xt_eqS (xe_var 6 rfl) xe_str rfl) (by decide) (xss_nil ?_))
          refine xss_cons (xs_ifF (xt_eqS (xe_var 6 rfl) xe_str rfl) (by decide) (xss_nil ?_))
          refine xss_cons (xs_ifF (xt_eqS (xe_var 6 rfl) xe_str rfl) (by decide) (xss_nil ?_))
          refine xss_cons (xs_ifF (xt_eqS (xe_var 6 rfl) xe_str rfl) (by decide) (xss_nil ?_))
          obtain ⟨a2, la2⟩ := look_iso (iso dn) hm2
          have e : ldo tr va n S (.copy t i dn x r g) = (S.keep t { m with seed := sv.1, steps := sv.2, set := (r, g), score := none, hset := (r, g), hseed := sv.1, hsteps := sv.2, hpair := some (dn, x) }, .ok (.int (sv.2.length : Int))) := by simp only [ldo, hp, hsv]
          refine xss_cons (xs_ifT (xt_eqS (xe_var 6 rfl) xe_str rfl) (by decide) (xss_cons (xs_mput2 rfl hu (xk_var 7 rfl (fun H v h => h)) (xk_var 7 rfl (fun H v h => h)) la hm (put_seed m sv.1) rfl (put_steps _ sv.2) rfl (xe_eq (xe_ixLm (f := dSave) (xs := m2.saves) none (xe_key hu (xk_key hu (xk_var 5 rfl (fun H v h => h)) (xe_ixT (xe_var 1 rfl) xe_int (atI_nat (j := 3) rfl)) rfl (got_the rfl la2)) xe_str rfl (got_fld rfl la2 hm2 rfl)) (xe_ixT (xe_var 1 rfl) xe_int (atI_nat (j := 4) rfl)) ⟨hx, hxl⟩) (by rw [hget]; rfl)) ⟨trivial, trivial, trivial, trivial, fun _ _ _ h => h, trivial, fun _ _ _ h => h, trivial⟩ hal ?_)))
          refine xss_cons (xs_mput hu (xk_var 7 rfl (fun H v h => h)) la look_keep (put_set _ (r, g)) rfl (xe_eq (xe_slT (xe_var 1 rfl) (xo_some xe_int) xo_none) rfl) ⟨trivial, trivial, trivial, trivial, fun _ _ _ h => h, trivial, fun _ _ _ h => h, trivial⟩ hal ?_)
          refine xss_cons (xs_mput hu (xk_var 7 rfl (fun H v h => h)) la look_keep (put_score _ none) rfl xe_non ⟨trivial, trivial, trivial, trivial, fun _ _ _ h => h, trivial, fun _ _ _ h => h, trivial⟩ hal ?_)
          refine xss_cons (xs_mput hu (xk_var 7 rfl (fun H v h => h)) la look_keep (put_home _ (r, g) sv.1 sv.2 (some (dn, x))) rfl (xe_tup (xa_cons (xe_eq (xe_slT (xe_var 1 rfl) (xo_some xe_int) xo_none) rfl) (xa_cons (xe_key hu (xk_var 7 rfl (fun H v h => h)) xe_str rfl (got_fld rfl la look_keep rfl)) (xa_cons (xe_key hu (xk_var 7 rfl (fun H v h => h)) xe_str rfl (got_fld rfl la look_keep rfl)) (xa_cons (xe_eq (xe_slT (xe_var 1 rfl) (xo_some xe_int) (xo_some xe_int)) rfl) xa_nil)))) (show 4 ≤ 10000000 by decide)) ⟨trivial, trivial, trivial, trivial, fun _ _ _ h => h, trivial, fun _ _ _ h => h, trivial⟩ hal ?_)
          refine xss_one (xs_ret (xe_tup (xa_cons xe_bl (xa_cons (xe_lenL B.len (xe_key hu (xk_var 7 rfl (fun H v h => h)) xe_str rfl (got_fld rfl la look_keep rfl))) xa_nil)) two_le) ⟨?_, es, ?_⟩)
          · rw [e]
            show Rk.d (.tuple [.bool true, .int _]) = Rk.d (.tuple [.bool true, .int _])
            congr 4
            rw [List.length_map]
          · rw [keep_twice, keep_twice, keep_twice, keep_twice]
            rw [e]
            rfl
        | stop t i =>
          refine xss_cons (xs_set 6 (d := .str "stop") (xe_ixT (xe_var 1 rfl) xe_int (atI_nat (j := 0) rfl)) ?_ sc_ld.nd)
          refine xss_cons (xs_ifF (xt_eqS (xe_var 6 rfl) xe_str rfl) (by decide) (xss_nil ?_))
          obtain ⟨m, hm, hp⟩ := lf_pres hf
          obtain ⟨a, la⟩ := look_iso (iso t) hm
          obtain ⟨b1, b2⟩ := bd.st t m hm
          have hal : a ∈ p :: ta :: es.map (·.2) := List.mem_cons_of_mem _ (List.mem_cons_of_mem _ (lookE_in la))
          refine xss_cons (xs_setK 7 (xk_key hu (xk_var 5 rfl (fun H v h => h)) (xe_ixT (xe_var 1 rfl) xe_int (atI_nat (j := 1) rfl)) rfl (got_the rfl la)) ?_ sc_ld.nd)
          refine xss_cons (xs_ifF (xt_eqS (xe_var 6 rfl) xe_str rfl) (by decide) (xss_nil ?_))
          refine xss_cons (xs_ifF (xt_eqS (xe_var 6 rfl) xe_str rfl) (by decide) (xss_nil ?_))
          refine xss_cons (xs_ifF (xt_eqS (xe_var 6 rfl) xe_str rfl) (by decide) (xss_nil ?_))
          refine xss_cons (xs_ifF (xt_eqS (xe_var 6 rfl) xe_str rfl) (by decide) (xss_nil ?_))
          refine xss_cons (xs_ifF (xt_eqS (xe_var 6 rfl) xe_str rfl) (by decide) (xss_nil ?_))
          have e : ldo tr va n S (.stop t i) = (S.keep t { m with stop := true }, .ok .none) := by simp only [ldo, hp]
          refine xss_cons (xs_ifT (xt_eqS (xe_var 6 rfl) xe_str rfl) (by decide) (xss_cons (xs_mput hu (xk_var 7 rfl (fun H v h => h)) la hm (put_stop m true) rfl xe_bl ⟨trivial, trivial, trivial, trivial, fun _ _ _ h => h, trivial, fun _ _ _ h => h, trivial⟩ hal ?_)))
          exact xss_one (xs_ret (xe_tup (xa_cons xe_bl (xa_cons xe_non xa_nil)) two_le) ⟨by rw [e]; rfl, es, by rw [e]; rfl⟩)
        | drop t x =>
          refine xss_cons (xs_set 6 (d := .str "drop") (xe_ixT (xe_var 1 rfl) xe_int (atI_nat (j := 0) rfl)) ?_ sc_ld.nd)
          refine xss_cons (xs_ifF (xt_eqS (xe_var 6 rfl) xe_str rfl) (by decide) (xss_nil ?_))
          obtain ⟨m, sv, hm, hsv, hx, hxl, hget, hnn⟩ : ∃ m sv, lookM S.mem t = some m ∧ lsavedM S t x = .ok sv ∧ 0 ≤ x ∧ x < m.saves.length ∧ m.saves.getD x.toNat none = some sv ∧ (t, x) ∉ lneeded S := by
            have hs : errO (lsavedM S t x) = none := by
              simp only [lfault] at hf
              cases q : lookM S.mem t with
              | none => rw [q] at hf; cases hf
              | some m =>
                rw [q] at hf
                dsimp only at hf
                cases q2 : lsavedM S t x with
                | error s2 => rw [q2] at hf; cases hf
                | ok w2 => rfl
            obtain ⟨m, sv, hm, hsv, hx, hxl, hget⟩ := lf_saved hs
            refine ⟨m, sv, hm, hsv, hx, hxl, hget, fun z => ?_⟩
            simp only [lfault, hm, hsv, if_pos z] at hf
            cases hf
          obtain ⟨a, la⟩ := look_iso (iso t) hm
          obtain ⟨b1, b2⟩ := bd.st t m hm
          have hal : a ∈ p :: ta :: es.map (·.2) := List.mem_cons_of_mem _ (List.mem_cons_of_mem _ (lookE_in la))
          refine xss_cons (xs_setK 7 (xk_key hu (xk_var 5 rfl (fun H v h => h)) (xe_ixT (xe_var 1 rfl) xe_int (atI_nat (j := 1) rfl)) rfl (got_the rfl la)) ?_ sc_ld.nd)
          refine xss_cons (xs_ifF (xt_eqS (xe_var 6 rfl) xe_str rfl) (by decide) (xss_nil ?_))
          refine xss_cons (xs_ifF (xt_eqS (xe_var 6 rfl) xe_str rfl) (by decide) (xss_nil ?_))
          refine xss_cons (xs_ifF (xt_eqS (xe_var 6 rfl) xe_str rfl) (by decide) (xss_nil ?_))
          refine xss_cons (xs_ifF (xt_eqS (xe_var 6 rfl) xe_str rfl) (by decide) (xss_nil ?_))
          refine xss_cons (xs_ifF (xt_eqS (xe_var 6 rfl) xe_str rfl) (by decide) (xss_nil ?_))
          refine xss_cons (xs_ifF (xt_eqS (xe_var 6 rfl) xe_str rfl) (by decide) (xss_nil ?_))
          have e : ldo tr va n S (.drop t x) = (S.keep t { m with saves := m.saves.set x.toNat none }, .ok .none) := by simp only [ldo, hm, hsv, if_neg hnn]
          obtain ⟨xn, rfl⟩ : ∃ xn : Nat, x = (xn : Int) := ⟨x.toNat, by omega⟩
          have hxn : xn < m.saves.length := by omega
          refine xss_cons (xs_mput hu (xk_var 7 rfl (fun H v h => h)) la hm (put_saves m (m.saves.set xn none)) rfl (xe_eq (xe_of_f (xf_catL (xe_of_f (xf_catL (xe_of_f (xf_slL (xe_key hu (xk_var 7 rfl (fun H v h => h)) xe_str rfl (got_fld rfl la hm rfl)) xo_none (xo_some (xe_ixT (xe_var 1 rfl) xe_int (atI_nat (j := 2) rfl))))) (xe_of_f (xf_lst (xa_cons xe_non xa_nil) (show 1 ≤ 10000000 by decide))) ?_)) (xe_of_f (xf_slL (xe_key hu (xk_var 7 rfl (fun H v h => h)) xe_str rfl (got_fld rfl la hm rfl)) (xo_some (xe_add (xe_ixT (xe_var 1 rfl) xe_int (atI_nat (j := 2) rfl)) xe_int)) xo_none)) ?_)) ?_) ⟨trivial, trivial, trivial, trivial, fun _ _ _ h => h, trivial, fun _ _ _ h => h, trivial⟩ hal ?_)
          · rw [cut_to, List.length_take, List.length_map]
            show _ + 1 ≤ _
            omega
          · rw [cut_to, show ((xn : Int) + 1) = ((xn + 1 : Nat) : Int) from rfl, cut_from, List.length_append, List.length_take, List.length_drop, List.length_map]
            show _ + 1 + _ ≤ _
            omega
          · rw [cut_to, show ((xn : Int) + 1) = ((xn + 1 : Nat) : Int) from rfl, cut_from, List.map_set, List.set_eq_take_append_cons_drop, if_pos (by rw [List.length_map]; exact hxn), List.append_assoc]
            rfl
          · exact xss_one (xs_ret (xe_tup (xa_cons xe_bl (xa_cons xe_non xa_nil)) two_le) ⟨by rw [e]; rfl, es, by rw [e]; rfl⟩)
    · match i, hg with
      | 0, hg =>
        cases hg
        exact ⟨_, rfl, .ref p, rfl, fun H1 s1 => ⟨rfl, M.mono s1⟩⟩
      | 1, hg => cases hg; exact ⟨_, rfl, _, rfl, da1⟩
      | 2, hg => cases hg; exact ⟨_, rfl, _, rfl, da2⟩
      | 3, hg => cases hg; exact ⟨_, rfl, _, rfl, da3⟩
      | 4, hg => cases hg; exact ⟨_, rfl, trivial⟩
      | 5, hg => cases hg; exact ⟨_, rfl, trivial⟩
      | 6, hg => cases hg; exact ⟨_, rfl, trivial⟩
      | 7, hg => cases hg; exact ⟨_, rfl, trivial⟩
      | i + 8, hg => simp at hg
    · obtain ⟨z1, es', z2⟩ := z
      cases z1
      exact k v H' es' (M.offD (e.sb.then e.s0)) (modAt e z2) q
end
end TC
namespace TC
open PySem L2
/-! ### repr of a tuple -/
section
variable {X : Cx} {Γ : G} {a b c e : Expr} {p pos : Pos} {d : PyData} {ds : List PyData}
structure ShowOk (d : PyData) : Prop where
  sh : d.showable = true
  nd : d.hasDict = false
  dp : d.depth ≤ 60
  ln : d.shown.length ≤ sizeLine
theorem cr_repr (hg : X.A.guards = some []) (hu : X.A.units + 65 < cLine) : CallR X (.builtin "repr") (fun xs H Q => ∃ v ds, xs = [v] ∧ Dp X.K H v (.tuple ds) ∧ ShowOk (.tuple ds) ∧ Q (.str (PyData.tuple ds).shown) H) := by
  intro pins s σ H xs
  intro us Q I r h
  obtain ⟨v, ds, rfl, hd, hs, q⟩ := h
  rcases vals1 r with ⟨u, rfl, ru⟩
  obtain ⟨as, rd⟩ := Dp.reads I _ v u hd ru
  cases hd with
  | @tup ad xs _ h1 h2 =>
    cases ru
    have dpt := hs.dp
    exact repr_of_reads' rd hs.sh (PyData.noDict_hsm hs.nd) hg (by omega) (fun _ _ z => z) (fun h' u tk hk => ⟨.str _, H, I.kept (t' := tk) hk, ⟨u, rfl⟩, q⟩) hs.ln
theorem xe_repr (hgd : X.A.guards = some []) (hu : X.A.units + 65 < cLine) (hm : X.mg "repr" = none) (ha : XE X a Γ (.tuple ds)) (so : ShowOk (.tuple ds)) (hg : Gl X "repr" := by rfl) (hs : starEach (a :: []) X.env = (false, eval a X.env) :: starEach [] X.env := by rfl) (hpl : (backTo pos (starEach [] X.env)).any (·.1) = false := by rfl) :
    XE X (.Call (.Name "repr" p) [a] [] pos) Γ (.str (PyData.tuple ds).shown) :=
  pe_imp (pe_callB (cr_repr hgd hu) hg hm (by decide +kernel) (xa_cons ha xa_nil hs) (by decide) (by decide) hs hpl) fun σ H Q ⟨E, k⟩ => ⟨E, fun vs H1 s1 q1 => by
    cases q1 with
    | cons h1 h2 =>
      cases h2
      exact ⟨_, ds, rfl, h1, so, k _ H1 s1 (.str _)⟩⟩
end
/-! ### what is shown is short -/
theorem show_int {i : Int} (h : i.natAbs < 10 ^ 11) : (PyData.int i).showable = true ∧ PyData.intsShort 13 (.int i) = true := by
  refine ⟨?_, ?_⟩
  · show decide (i.natAbs.log2 < 1920) = true
    rw [decide_eq_true_iff]
    by_cases z : i.natAbs = 0
    · rw [z]
      decide
    · rw [Nat.log2_lt z]
      exact Nat.lt_of_lt_of_le h (by decide +kernel)
  · show decide ((PyData.shown (.int i)).length ≤ 13) = true
    rw [decide_eq_true_iff]
    have z := PySem.int_text_length_le10 (a := i) (k := 11) (by decide) h
    change (Str.ofString (toString i)).length ≤ 13
    rw [ofString_length]
    omega
inductive LeafOk : PyData → Prop
  | none : LeafOk .none
  | bool (b : Bool) : LeafOk (.bool b)
  | int (i : Int) : i.natAbs < 10 ^ 11 → LeafOk (.int i)
  | str (s : Str) : PyData.strOk s = true → s.cps.size ≤ 100 → LeafOk (.str s)
theorem show_leaves : ∀ ds : List PyData, (∀ d ∈ ds, LeafOk d) → PyData.canLayAll0 ds = true ∧ PyData.depthAll ds ≤ 0 ∧ PyData.weightAll ds ≤ 101 * ds.length ∧ PyData.showableAll ds = true ∧ PyData.hasDictAll ds = false ∧ PyData.intsShortAll 13 ds = true
  | [], _ => ⟨by simp [PyData.canLayAll0], by simp [PyData.depthAll], by simp [PyData.weightAll], by simp [PyData.showableAll], by simp [PyData.hasDictAll], by simp [PyData.intsShortAll]⟩
  | d :: ds, h => by
    obtain ⟨h1, h2, h3, h4, h5, h6⟩ := show_leaves ds fun x hx => h x (List.mem_cons_of_mem _ hx)
    have key : PyData.canLay0 d = true ∧ PyData.depth d = 0 ∧ PyData.weight d ≤ 100 ∧ PyData.showable d = true ∧ PyData.hasDict d = false ∧ PyData.intsShort 13 d = true := by
      cases h d List.mem_cons_self with
      | none => exact ⟨by simp [PyData.canLay0], by simp [PyData.depth], by simp [PyData.weight], by simp [PyData.showable], by simp [PyData.hasDict], by simp [PyData.intsShort]⟩
      | bool b => exact ⟨by simp [PyData.canLay0], by simp [PyData.depth], by simp [PyData.weight], by simp [PyData.showable], by simp [PyData.hasDict], by simp [PyData.intsShort]⟩
      | int i hi =>
        obtain ⟨z1, z2⟩ := show_int hi
        refine ⟨by simp [PyData.canLay0], by simp [PyData.depth], ?_, z1, by simp [PyData.hasDict], z2⟩
        simp only [PyData.weight]
        split
        · omega
        · rename_i hz
          have : i.natAbs ≠ 0 := by
            intro q
            apply hz
            simp at q ⊢
            exact q
          have : i.natAbs.log2 < 40 := (Nat.log2_lt this).mpr (Nat.lt_of_lt_of_le hi (by decide))
          omega
      | str s s1 s2 => exact ⟨by simp [PyData.canLay0, s1], by simp [PyData.depth], by simp only [PyData.weight]; exact s2, by simp [PyData.showable], by simp [PyData.hasDict], by simp [PyData.intsShort]⟩
    obtain ⟨k1, k2, k3, k4, k5, k6⟩ := key
    refine ⟨by simp [PyData.canLayAll0, k1, h1], ?_, ?_, by simp [PyData.showableAll, k4, h4], by simp [PyData.hasDictAll, k5, h5], by simp [PyData.intsShortAll, k6, h6]⟩
    · simp only [PyData.depthAll]
      omega
    · simp only [PyData.weightAll, List.length_cons]
      omega
theorem show_tup {ds : List PyData} (h : ∀ d ∈ ds, LeafOk d) (hl : ds.length ≤ 1000) : ShowOk (.tuple ds) := by
  obtain ⟨h1, h2, h3, h4, h5, h6⟩ := show_leaves ds h
  refine ⟨by simp only [PyData.showable]; exact h4, by simp only [PyData.hasDict]; exact h5, by simp only [PyData.depth]; omega, ?_⟩
  refine Nat.le_trans (PyProof.Rows.shown_le13 ?_ (by simp only [PyData.intsShort]; exact h6)) (by decide)
  show (PyData.canLay0 (.tuple ds) && decide (PyData.depth (.tuple ds) ≤ 64) && decide (PyData.weight (.tuple ds) ≤ 2 ^ 20)) = true
  rw [Bool.and_eq_true]
  rw [Bool.and_eq_true]
  refine ⟨⟨by simp only [PyData.canLay0]; exact h1, decide_eq_true ?_⟩, decide_eq_true ?_⟩
  · simp only [PyData.depth]
    omega
  · simp only [PyData.weight]
    omega
theorem leaf_small {i : Int} (h : -1000000 ≤ i ∧ i ≤ 1000000) : LeafOk (.int i) := .int i (by omega)
theorem deed_leaf {d : Deed} (dk : DeedOk d) : ∀ x ∈ PyData.str d.name :: d.args.map .int, LeafOk x := by
  intro x hx
  rcases List.mem_cons.mp hx with e | e
  · rw [e]
    exact .str _ (by cases d <;> (simp only [Deed.name]; decide +kernel)) (by cases d <;> (simp only [Deed.name]; decide +kernel))
  · obtain ⟨i, hi, rfl⟩ := List.mem_map.mp e
    refine leaf_small ?_
    have t := dk.tr
    have k := dk.ok
    cases d <;> simp only [Deed.args, Deed.trial, List.mem_cons, List.not_mem_nil, or_false] at hi t k <;> omega
theorem show_deed {d : Deed} (dk : DeedOk d) : ShowOk (dDeed d) := show_tup (deed_leaf dk) (by cases d <;> simp [Deed.args])
/-- outcomes that are shown in few signs -/
inductive OutOk : Out → Prop
  | int (i : Int) : -1000000 ≤ i ∧ i ≤ 1000000 → OutOk (.ok (.int i))
  | none : OutOk (.ok .none)
  | no (s : Str) : PyData.strOk s = true → s.cps.size ≤ 100 → OutOk (.no s)
def outDs : Out → List PyData
  | .ok d => [.bool true, d]
  | .no s => [.bool false, .str s]
theorem dOut_tup (o : Out) : dOut o = .tuple (outDs o) := by cases o <;> rfl
theorem out_leaf {o : Out} (h : OutOk o) : ∀ x ∈ outDs o, LeafOk x := by
  cases h with
  | int i hi =>
    intro x hx
    simp only [outDs, List.mem_cons, List.not_mem_nil, or_false] at hx
    rcases hx with rfl | rfl
    · exact .bool _
    · exact leaf_small hi
  | none =>
    intro x hx
    simp only [outDs, List.mem_cons, List.not_mem_nil, or_false] at hx
    rcases hx with rfl | rfl
    · exact .bool _
    · exact .none
  | no s h1 h2 =>
    intro x hx
    simp only [outDs, List.mem_cons, List.not_mem_nil, or_false] at hx
    rcases hx with rfl | rfl
    · exact .bool _
    · exact .str s h1 h2
theorem show_out {o : Out} (h : OutOk o) : ShowOk (.tuple (outDs o)) := show_tup (out_leaf h) (by cases o <;> (show 2 ≤ 1000; decide))
end TC
namespace TC
open PySem L2
/-! ### outcomes are small -/
def NoOk (s : Str) : Prop := PyData.strOk s = true ∧ s.cps.size ≤ 100
theorem no1 : NoOk "no such trial" := ⟨by decide +kernel, by decide +kernel⟩
theorem no2 : NoOk "trial is stopped" := ⟨by decide +kernel, by decide +kernel⟩
theorem no3 : NoOk "incarnation is over" := ⟨by decide +kernel, by decide +kernel⟩
theorem no4 : NoOk "no such save" := ⟨by decide +kernel, by decide +kernel⟩
theorem no5 : NoOk "save is needed" := ⟨by decide +kernel, by decide +kernel⟩
theorem no6 : NoOk "trial exists" := ⟨by decide +kernel, by decide +kernel⟩
theorem member_err {S : PopM} {t : Int} {s : Str} (h : memberM S t = .error s) : NoOk s := by
  unfold memberM at h
  split at h
  · cases h
  · cases h
    exact no1
theorem run_err {S : PopM} {t : Int} {s : Str} (h : runningM S t = .error s) : NoOk s := by
  unfold runningM at h
  cases q : memberM S t with
  | error e =>
    rw [q] at h
    cases h
    exact member_err q
  | ok m =>
    rw [q] at h
    dsimp only at h
    split at h
    · cases h
      exact no2
    · cases h
theorem pres_err {S : PopM} {t i : Int} {s : Str} (h : presentM S t i = .error s) : NoOk s := by
  unfold presentM at h
  cases q : runningM S t with
  | error e =>
    rw [q] at h
    cases h
    exact run_err q
  | ok m =>
    rw [q] at h
    dsimp only at h
    split at h
    · cases h
    · cases h
      exact no3
theorem saved_err {S : PopM} {t x : Int} {s : Str} (h : savedM S t x = .error s) : NoOk s := by
  unfold savedM at h
  split at h
  · split at h
    · cases h
    · cases h
      exact no4
  · cases h
    exact no4
theorem OutOk.err {s : Str} (h : NoOk s) : OutOk (.no s) := .no s h.1 h.2
def IncOk (B : Nat) (S : PopM) : Prop := ∀ p ∈ S.mem, 0 ≤ p.2.inc ∧ p.2.inc ≤ (B : Int) + 1
theorem IncOk.up {B : Nat} {S : PopM} (h : IncOk B S) : IncOk (B + 1) S := fun p hp => by
  have := h p hp
  omega
theorem IncOk.keep {B : Nat} {S : PopM} {t : Int} {m : Mem} (h : IncOk B S) (hm : 0 ≤ m.inc ∧ m.inc ≤ (B : Int) + 2) : IncOk (B + 1) (S.keep t m) := fun p hp => by
  rcases putM_in hp with e | e
  · rw [e]
    omega
  · have := h p e
    omega
theorem score_le (es : List Ex) (ws : List Int) : 0 ≤ scoreM es ws ∧ scoreM es ws ≤ es.length := by
  unfold scoreM
  have := List.length_filter_le (fun e : Ex => decide (e.2 * dot ws e.1 > 0)) es
  omega
theorem out_do {n B : Nat} {S : PopM} {d : Deed} (h : PopOk n B S) (hi : IncOk B S) (hB : B ≤ 1000) (dk : DeedOk d) : OutOk (doM S d).2 ∧ IncOk (B + 1) (doM S d).1 := by
  have look : ∀ {t : Int} {m : Mem}, lookM S.mem t = some m → 0 ≤ m.inc ∧ m.inc ≤ (B : Int) + 1 := fun {t m} e => hi _ (lookM_in e)
  cases d with
  | found t s r m =>
    simp only [doM]
    cases q : lookM S.mem t with
    | some x => exact ⟨.err no6, hi.up⟩
    | none => exact ⟨.int 1 (by omega), hi.keep (by show (0 : Int) ≤ 1 ∧ (1 : Int) ≤ _; omega)⟩
  | train t i k =>
    simp only [doM]
    cases q : presentM S t i with
    | error s => exact ⟨.err (pres_err q), hi.up⟩
    | ok m =>
      have mo := h.look (presM_mem q)
      have k0 := dk.ok
      dsimp only at k0
      have hp := mo.now.ps
      have hk := IncOk.keep (t := t) (m := { m with now := ⟨m.now.seed, joinM (m.now.st ++ [(m.set.1, m.set.2, k.toNat)]), trainM S.tr m.now.seed (posM m.now.st) m.now.ws m.set.1 m.set.2 k.toNat⟩ }) hi (by have := look (presM_look q); show 0 ≤ m.inc ∧ m.inc ≤ _; omega)
      exact ⟨.int _ (by omega), hk⟩
  | save t i =>
    simp only [doM]
    cases q : presentM S t i with
    | error s => exact ⟨.err (pres_err q), hi.up⟩
    | ok m =>
      have mo := h.look (presM_mem q)
      have hp := mo.ln
      exact ⟨.int _ (by omega), hi.keep (by have := look (presM_look q); show 0 ≤ m.inc ∧ m.inc ≤ _; omega)⟩
  | crash t =>
    simp only [doM]
    cases q : runningM S t with
    | error s => exact ⟨.err (run_err q), hi.up⟩
    | ok m =>
      have z := look (runM_look q)
      exact ⟨.int _ (by omega), hi.keep (by show 0 ≤ m.inc + 1 ∧ m.inc + 1 ≤ _; omega)⟩
  | evaluate t i =>
    simp only [doM]
    cases q : presentM S t i with
    | error s => exact ⟨.err (pres_err q), hi.up⟩
    | ok m =>
      have z := score_le S.va m.now.ws
      have z2 := h.va.l2
      exact ⟨.int _ (by omega), hi.keep (by have := look (presM_look q); show 0 ≤ m.inc ∧ m.inc ≤ _; omega)⟩
  | copy t i dn x r g =>
    simp only [doM]
    cases q : presentM S t i with
    | error s => exact ⟨.err (pres_err q), hi.up⟩
    | ok m =>
      dsimp only
      cases q2 : savedM S dn x with
      | error s => exact ⟨.err (saved_err q2), hi.up⟩
      | ok w =>
        have hp := (savedM_ok h q2).ps
        exact ⟨.int _ (by omega), hi.keep (by have := look (presM_look q); show 0 ≤ m.inc ∧ m.inc ≤ _; omega)⟩
  | stop t i =>
    simp only [doM]
    cases q : presentM S t i with
    | error s => exact ⟨.err (pres_err q), hi.up⟩
    | ok m => exact ⟨.none, hi.keep (by have := look (presM_look q); show 0 ≤ m.inc ∧ m.inc ≤ _; omega)⟩
  | drop t x =>
    simp only [doM]
    cases q : memberM S t with
    | error s => exact ⟨.err (member_err q), hi.up⟩
    | ok m =>
      have hm : lookM S.mem t = some m := by
        unfold memberM at q
        split at q
        · rename_i hh
          rw [hh]
          cases q
          rfl
        · cases q
      dsimp only
      cases q2 : savedM S t x with
      | error s => exact ⟨.err (saved_err q2), hi.up⟩
      | ok w =>
        dsimp only
        split
        · exact ⟨.err no5, hi.up⟩
        · exact ⟨.none, hi.keep (by have := look hm; show 0 ≤ m.inc ∧ m.inc ≤ _; omega)⟩
theorem outs_ok {n : Nat} : ∀ {ds : List Deed} {B : Nat} {S : PopM}, PopOk n B S → IncOk B S → B + ds.length ≤ 1000 → (∀ d ∈ ds, DeedOk d) → ∀ o ∈ outsM S ds, OutOk o
  | [], _, _, _, _, _, _, o, ho => (List.not_mem_nil ho).elim
  | d :: ds, B, S, h, hi, hB, dk, o, ho => by
    rw [List.length_cons] at hB
    obtain ⟨h1, h2⟩ := out_do h hi (by omega) (dk d List.mem_cons_self)
    rcases List.mem_cons.mp (show o ∈ (doM S d).2 :: outsM (doM S d).1 ds from ho) with e | e
    · rw [e]
      exact h1
    · exact outs_ok (ds := ds) (popOk_do h (dk d List.mem_cons_self)) h2 (by omega) (fun x hx => dk x (List.mem_cons_of_mem _ hx)) o e
theorem newPop_inc (tr va : List Ex) : IncOk 0 (newPop tr va) := fun p hp => (List.not_mem_nil hp).elim
end TC
namespace TC
open PySem L2
/-! ### rows of texts and numbers, sorted -/
abbrev T3 := Str × Int × Str
def encT (t : T3) : PyData := .tuple [.str t.1, .int t.2.1, .str t.2.2]
def leT (a b : T3) : Bool := PySem.W.dataLe false encT a b
def sortT (l : List T3) : List T3 := l.mergeSort leT
theorem toksT (t : T3) : PySem.W.keyToks (encT t) = [.inl 1, .inr t.1.cps.toList, .inl 1, .inl t.2.1, .inl 1, .inr t.2.2.cps.toList, .inl 0] := by
  simp [encT, PySem.W.keyToks, PySem.W.keyToksAll]
theorem toksT_inj {a b : T3} (h : PySem.W.keyToks (encT a) = PySem.W.keyToks (encT b)) : a = b := by
  rw [toksT, toksT] at h
  simp only [List.cons.injEq, Sum.inl.injEq, Sum.inr.injEq, and_true, true_and] at h
  obtain ⟨a1, a2, a3⟩ := a
  obtain ⟨b1, b2, b3⟩ := b
  obtain ⟨h1, h2, h3⟩ := h
  have e1 := PySem.W.str_of_cps h1
  have e3 := PySem.W.str_of_cps h3
  dsimp only at e1 e3 h2
  rw [e1, e3, h2]
theorem leT_anti {a b : T3} (h1 : leT a b = true) (h2 : leT b a = true) : a = b := by
  unfold leT PySem.W.dataLe PySem.W.sortLe at h1 h2
  simp only [cond_false, Bool.not_eq_true'] at h1 h2
  exact toksT_inj ((PyProof.Rows.listOrd PyProof.Rows.itemOrd).total _ _ h2 h1)
theorem leT_total : PySem.W.TotalLe leT := PySem.W.sortLe_total (PyProof.Rows.listOrd PyProof.Rows.itemOrd) false fun b : T3 => PySem.W.keyToks (encT b)
theorem sortT_perm {l m : List T3} (h : l.Perm m) : sortT l = sortT m := by
  refine List.Perm.eq_of_pairwise (le := fun a b => leT a b = true) (fun a b _ _ h1 h2 => leT_anti h1 h2) (PySem.W.sort_pairwise leT_total l) (PySem.W.sort_pairwise leT_total m) ?_
  exact ((List.mergeSort_perm l leT).trans h).trans (List.mergeSort_perm m leT).symm
def keyT (r : Deed × Nat × Out) : T3 := ((dDeed r.1).shown, (r.2.1 : Int), (PyData.tuple (outDs r.2.2)).shown)
def numM (ds : List Deed) (os : List Out) : List T3 := sortT ((rowsM ds os).map keyT)
theorem num_perm {ds ds' : List Deed} {os os' : List Out} (h : (rowsM ds os).Perm (rowsM ds' os')) : numM ds os = numM ds' os' := sortT_perm (h.map keyT)
theorem encT_alike (a b : T3) : PySem.W.alike (encT a) (encT b) = true := by simp [encT, PySem.W.alike, PySem.W.alikeAll]
theorem pureT (t : T3) : pureD (encT t) = true := rfl
theorem depthT (t : T3) : (encT t).depth = 1 := by simp [encT, PyData.depth, PyData.depthAll]
end TC
namespace TC
open PySem PySem.Spec
open PyProof.Rows L2
/-! ### defs that want to know that nothing is being shown -/
structure FnG (P : Program) (w : World) (K : PySem.W.Frag) (mg : Str → Option Value) (base : Heap) (k : Nat) (f : Addr) (fd : FuncData) (ps : List Str) (sp : Sp) : Prop where
  len : ∀ us H Q E, sp us H Q E → us.length = ps.length
  go : ∀ (A : Around) (out : List Env) (s : Shared) (H : Hp) (ar : Args) (us : List Value) (vs : List V) (Q : VK) (E : L2.XK), Room k A → A.guards = some [] → Env0 P w K mg base A out s H → BindsTo s fd ar (ps.zip us) → Vals vs us → sp vs H Q E → codeAny (model P w) A (.call (.ref f) ar) (CR CX0 out P w H s Q E) s
section
variable {P : Program} {w : World} {K : PySem.W.Frag} {mg : Str → Option Value} {base : Heap} {x qn : Str} {st : Stmt} {f : Addr} {fd : FuncData} {N ps : List Str} {k : Nat} {sp : Sp}
theorem fnG_of (F : Fun K x qn st f fd) (S : FnScope N ps (defScope st)) (len : ∀ vs H Q E, sp vs H Q E → vs.length = ps.length)
    (body : ∀ (cdv : Value) (A : Around) (out : List Env) (s : Shared) (H : Hp) (vs : List V) (Q : VK) (E : L2.XK), Room k (A.deeper (envOfC qn (defScope st) s.heap.objs.size f cdv)) → A.guards = some [] → sp vs H Q E →
      ∃ t, PSs (cxOf CX0 P w K mg base N qn (defScope st) f cdv A out s H E).nox (defBody st) t ∧ t { nx := fun _ H' => Q .non H', rt := Q } (start N vs) H) : FnG P w K mg base (k + 1) f fd ps sp := by
  rcases F.ex with ⟨oc, od, kV, doc, pm, an, cdv, ct, osl, rfl, lk, hcd⟩
  refine ⟨len, fun A out s H ar us vs Q E room gd e0 bi rv told => ?_⟩
  have inH : K.In s.heap := e0.mod.kin.keeps fun b ob z => (e0.bs b ob z).1
  have vl := len _ _ _ _ told
  have par : ∀ y ∈ ps.zip us, (defScope st).names.lookup y.1 = some .local ∨ ((defScope st).names.lookup y.1 = some .cell ∧ ((cellsFrom (s.heap.objs.size + 1) (defScope st).names []).lookup y.1).isSome = true) := by
    rintro ⟨m, u⟩ hm
    rcases S.par m (List.of_mem_zip hm).1 with z | z
    · exact Or.inl z
    · exact Or.inr ⟨z, PySem.W.cellsFrom_some _ _ _ (.inl z)⟩
  refine codeAny_call_function room.depth (inH _ _ lk) rfl S.co S.gen rfl (PySem.W.codeRec_of inH hcd) (bi _ _ _ _ ?_)
  refine wpAny_newFunctionEnv_cells S.kind par fun env he s1 xs => ?_
  subst he
  have nolim : s.heap.NoLimit := e0.mod.nolimit.keeps fun b ob z => (e0.bs b ob z).1
  refine ⟨nolim.keeps xs.toInCall.keep, codeAny_func ?_⟩
  obtain ⟨t, ht, hq⟩ := body cdv A out s H vs Q E (room.deeper _) gd told
  have I0 : Inv (cxOf CX0 P w K mg base N qn (defScope st) f cdv A out s H E) [] (start N vs) H s1 := inv_start S room.hd e0 vl rv xs
  refine wpAny_mono (ht.nox.run [] s1 (start N vs) H _ I0 hq) (fun fl s' hs => ?_) fun er s' hs => hs
  have ended : ∀ {σ' : L2.St} {H' : Hp} {v : V} {u : Value}, Inv (cxOf CX0 P w K mg base N qn (defScope st) f cdv A out s H E) [] σ' H' s' → RelV v u → Q v H' → CE out P w H s Q u s' := fun {σ' H' v u} J rv' q' => ⟨v, H', J.os, J.bare, J.base, J.hok, rv', q'⟩
  cases fl with
  | next =>
    obtain ⟨_, _, J, q'⟩ := hs
    exact ended (v := .non) (u := .none) J rfl q'
  | ret u =>
    obtain ⟨_, _, _, J, rv', q'⟩ := hs
    exact ended J rv' q'
  | brk =>
    obtain ⟨_, _, _, q'⟩ := hs
    exact q'.elim
  | cont =>
    obtain ⟨_, _, _, q'⟩ := hs
    exact q'.elim
/-- a def with that promise -/
def DefG (P : Program) (w : World) (K : PySem.W.Frag) (mg : Str → Option Value) (base : Heap) (x : Str) (k : Nat) (ps : List Str) (sp : Sp) : Prop :=
  ∃ f fd, mg x = some (.ref f) ∧ PySem.W.keepIn K (.ref f) = true ∧ Binds K fd ps [] ∧ FnG P w K mg base k f fd ps sp
end
section
variable {X : Cx} {k : Nat} {f : Addr} {fd : FuncData} {ps : List Str} {sp : Sp} {E : L2.XK} {x : Str} {p pos : Pos} {e : Expr} {es : List Expr} {t : TA}
theorem runG {pins : List (Addr × Obj)} {σ : L2.St} {H : Hp} {s : Shared} {Q : VK} {us : List Value} {vs : List V} (F : FnG X.prog X.w X.K X.mg X.base k f fd ps sp) (room : Room k X.A) (gd : X.A.guards = some []) (bi : Binds X.K fd ps []) (I : Inv X pins σ H s) (r : Vals vs us) (told : sp vs H Q E0) :
    wpAny (model X.prog X.w) X.A (call (.ref f) us)
      (EP X pins σ Q) X.xe s := by
  have ul : us.length = ps.length := by
    rw [← r.length]
    exact F.len _ _ _ _ told
  have b := bi s us I.kIn (by rw [List.append_nil]; exact ul)
  rw [List.append_nil] at b
  refine wpAny_call (codeAny_mono (F.go X.A X.stack s H ⟨us, []⟩ us vs Q E0 room gd I.env0 b r told) fun rs s' hq => ?_)
  match rs, hq with
  | .error er, hq => exact pass0 pins σ H s er s' I hq
  | .ok (.ret u), hq => exact I.after hq
  | .ok .next, hq => exact hq.elim
  | .ok .brk, hq => exact hq.elim
  | .ok .cont, hq => exact hq.elim
theorem pe_callG (F : FnG X.prog X.w X.K X.mg X.base k f fd ps sp) (room : Room k X.A) (gd : X.A.guards = some []) (hg : Gl X x) (hm : X.mg x = some (.ref f)) (kp : PySem.W.keepIn X.K (.ref f) = true) (bi : Binds X.K fd ps []) (ha : PA X (e :: es) t) (hdb : (x == ("__debug__" : Str)) = false := by decide) (he : starEach (e :: es) X.env = (false, eval e X.env) :: starEach es X.env := by rfl) (hpl : (backTo pos (starEach es X.env)).any (·.1) = false := by rfl) :
    PE X (.Call (.Name x p) (e :: es) [] pos) (fun σ H Q => t σ H fun vs H1 => sp vs H1 Q E0) := ⟨fun pins s σ H Q I h =>
  wpAny_Call_Name_kw (ld_glob I hg hm (PySem.W.callWith_K (h₀ := X.base) I.ok.mod.kin kp (thn (ha.run pos pins s σ H _ I h) fun us s1 ⟨vs, H1, I1, r, q⟩ => ⟨I1.kIn, runG F room gd bi I1 r q⟩) he hpl) hdb)⟩
end
end TC
namespace TC
open PySem L2
section
variable {P : Program} {w : World}
variable {K : PySem.W.Frag} {mg : Str → Option Value} {base : Heap}
/-! _law_numbered -/
abbrev sNum : Stmt := topS 55
def pNum (ds : List PyData) (rs : List PyData) : Prop := ∃ (dl : List Deed) (os : List Out), ds = [dDeeds dl, .tuple (os.map dOut)] ∧ dl.length = os.length ∧ dl.length ≤ 100 ∧ (∀ d ∈ dl, DeedOk d) ∧ (∀ o ∈ os, OutOk o) ∧ rs = (numM dl os).map encT
theorem sc_num : FnScope ["_law_deeds_here", "_law_told", "_law_rows", "_law_k", "_law_deed_here"] ["_law_deeds_here", "_law_told"] (defScope sNum) := ⟨rfl, rfl, rfl, by decide +kernel, rfl, by decide +kernel, by decide +kernel⟩
theorem getD_in {α : Type} {l : List α} {i : Nat} {z : α} (h : i < l.length) : l.getD i z ∈ l := by
  rw [List.getD_eq_getElem?_getD, List.getElem?_eq_getElem h]
  exact List.getElem_mem h
theorem pureOutD (o : Out) (h : OutOk o) : pureD (dOut o) = true := by cases h <;> rfl
theorem ok_num (R : RawD K mg "_law_numbered" sNum) (B : Bi mg) : DefG P w K mg base "_law_numbered" 1 ["_law_deeds_here", "_law_told"] (spF K 2 pNum) := by
  obtain ⟨f, fd, h1, F⟩ := R
  refine ⟨f, fd, h1, F.kp, F.binds (fun _ _ _ _ _ _ us hl => match us, hl with | [_, _], _ => rfl), fnG_of F sc_num (fun vs H Q E h => ?_) (fun cdv A outer s H vs Q E hr gd h => ?_)⟩
  · obtain ⟨ds, r, h1, _⟩ := h
    exact h1
  · obtain ⟨ds, rs, h1, h2, ⟨dl, os, rfl, hlo, hl, hdk, hok, rfl⟩, k⟩ := h
    refine ⟨tS K (.pu H) (startG 5 [dDeeds dl, .tuple (os.map dOut)]) (fun _ => False) (fun q _ => q = .l ((numM dl os).map encT)), ?_, ⟨H, env_start (Hb := .pu H) (N := ["_law_deeds_here", "_law_told", "_law_rows", "_law_k", "_law_deed_here"]) h2⟩, fun Γ' σ' H' H0 kt e n => n.elim, ⟨fun _ _ _ _ _ _ _ _ z => (nomatch z), fun Γ' σ' p vs' ds' H' H0 e n0 e1 q z => ?_, fun _ _ _ _ _ _ _ _ _ _ z => (nomatch z), fun _ _ _ _ _ _ _ _ z => (nomatch z), fun _ _ _ _ _ _ _ _ z => (nomatch z)⟩⟩
    · obtain ⟨rows, hrows⟩ : ∃ rows, rows = rowsM dl os := ⟨_, rfl⟩
      have hrl : rows.length = dl.length := by rw [hrows]; exact rowsF_len hlo
      have ostD : pureAll (os.map dOut) = true := pureAll_of fun d hd => by
        obtain ⟨o, ho, rfl⟩ := List.mem_map.mp hd
        exact pureOutD o (hok o ho)
      refine xss_cons (xs_setF 2 (xf_lst xa_nil (by decide)) rfl rfl ?_ sc_num.nd)
      refine xss_cons (xs_for (.nm 3) (fun i Γ => ∃ s3, Γ = [.b (dDeeds dl), .b (.tuple (os.map dOut)), .o (((rows.take i).map keyT).map encT), s3, .n])
        (xi_range1 (n := (dl.length : Int)) B.range (xe_eq (xe_lenT B.len (xe_var 0 rfl)) (by rw [List.length_map])) (by omega)) (pg_name (i := 3) sc_num.nd rfl (Or.inr rfl)) ⟨_, rfl⟩ ?_ ?_ rfl PassesOwn.never)
      · rintro i y Γi hy ⟨s3, rfl⟩
        obtain ⟨rfl, hi⟩ := stepsD_get hy
        rw [show (0 : Int) + (i : Nat) * 1 = (i : Int) by omega]
        have hi' : i < dl.length := by omega
        refine ⟨_, rfl, ?_⟩
        obtain ⟨d, hd⟩ : ∃ d, d = dl.getD i (.crash 0) := ⟨_, rfl⟩
        obtain ⟨o, ho⟩ : ∃ o, o = os.getD i (.ok .none) := ⟨_, rfl⟩
        have dk : DeedOk d := by rw [hd]; exact hdk _ (getD_in hi')
        have ok : OutOk o := by rw [ho]; exact hok _ (getD_in (by omega))
        have ed : ∀ {X : Cx} {Γ : G} {a b : Expr} {pos : Pos}, XE X a Γ (dDeeds dl) → XE X b Γ (.int (i : Int)) → PlainIx b → XE X (.Subscript a b pos) Γ (dDeed d) := fun ha hb hs => xe_eq (xe_ixTm (f := dDeed) (xs := dl) (.crash 0) ha hb (by omega) hs) (by rw [Int.toNat_natCast, hd])
        have eo : ∀ {X : Cx} {Γ : G} {a b : Expr} {pos : Pos}, XE X a Γ (.tuple (os.map dOut)) → XE X b Γ (.int (i : Int)) → PlainIx b → XE X (.Subscript a b pos) Γ (.tuple (outDs o)) := fun ha hb hs => xe_eq (xe_ixTm (f := dOut) (xs := os) (.ok .none) ha hb (by omega) hs) (by rw [Int.toNat_natCast, ho, dOut_tup])
        have hrow : rows[i]? = some (d, (dl.take i).count d, o) := by
          rw [hrows]
          have z := rowsF_get (ds := dl) (os := os) (p := []) (k := i) (d := d) (o := o) (by rw [hd, List.getD_eq_getElem?_getD, List.getElem?_eq_getElem hi']; rfl) (by rw [ho, List.getD_eq_getElem?_getD, List.getElem?_eq_getElem (by omega)]; rfl)
          rw [List.nil_append] at z
          exact z
        refine xss_one (xs_app 2 (d := encT (keyT (d, (dl.take i).count d, o))) rfl (xe_tup (xa_cons (xe_repr gd (hu65 hr) B.repr (ed (xe_var 0 rfl) (xe_var 3 rfl) (by intro _ _; rfl)) (show_deed dk)) (xa_cons (xe_eq (xe_lenL B.len (xe_of_f (xf_lc (own := [("_law_deed_here", 4)]) (fun j => decide ((dl.take i).getD j (.crash 0) = d)) (fun j => dDeed ((dl.take i).getD j (.crash 0))) (.nm 4) rfl sc_num.nd (xi_same (xi_tup (ds := (dl.take i).map dDeed) (xe_eq (xe_slT (xe_var 0 rfl) xo_none (xo_some (xe_var 3 rfl))) ?_) (pureAll_map pureDeed _)))
          (blkOk_by (own := [("_law_deed_here", 4)]) (N := ["_law_deeds_here", "_law_told", "_law_rows", "_law_k", "_law_deed_here"]) (sc := defScope sNum) (by decide +kernel)) (fun _ _ _ _ _ => pg_name (i := 4) sc_num.nd rfl (Or.inl rfl)) (by decide) ?_ (fun j y hy => ?_)))) ?_) (xa_cons (xe_repr gd (hu65 hr) B.repr (eo (xe_var 1 rfl) (xe_var 3 rfl) (by intro _ _; rfl)) (show_out ok)) xa_nil))) (show 3 ≤ 10000000 by decide)) (pureT _) ?_ ⟨.c (.int (i : Int)), ?_⟩)
        · rw [cut_to, List.map_take]
        · rw [List.length_map]
          rw [List.length_take]
          omega
        · rw [List.getElem?_map] at hy
          cases q : (dl.take i)[j]? with
          | none => rw [q] at hy; cases hy
          | some z =>
            rw [q] at hy
            cases hy
            rw [getD_of q]
            exact ⟨_, rfl, fun _ _ _ _ _ => pts_one (xt_eq (xt_eqD (Nat.lt_of_succ_lt (hu65 hr)) (xe_var 4 rfl) (ed (xe_var 0 rfl) (xe_var 3 rfl) (by intro _ _; rfl)) (shaped_deed z) (shaped_deed d)) (deed_eqv z d)), fun _ => ⟨fun _ _ _ _ _ => xe_var 4 rfl, pureDeed z⟩⟩
        · rw [givenD_count, List.length_map, filter_range (fun y : Deed => decide (y = d)) (.crash 0) (dl.take i)]
          show PyData.int _ = PyData.int _
          congr 2
          rw [List.count_eq_length_filter]
          rfl
        · rw [List.length_map, List.length_map, List.length_take]
          omega
        · rw [List.take_add_one, hrow, List.map_append, List.map_append]
          rfl
      · rintro Γ' ⟨s3, rfl⟩
        have e1 : (stepsD 0 1 (dl.length : Int).toNat).length = rows.length := by rw [stepsD_len, hrl, Int.toNat_natCast]
        rw [e1, List.take_length]
        refine xss_one (xs_retF (xf_sorted (enc := encT) (bs := rows.map keyT) (fun b _ => ?_) (PySem.W.AllAlike.of encT_alike) (PySem.W.Sortable.tuples fun b => ⟨_, _, rfl⟩) (by rw [List.length_map]; omega) B.sorted (xe_var 2 rfl)) ?_)
        · rw [depthT]
          have h3 : ∀ n, n + 65 < cLine → n + 2 + 1 < cLine := fun n h => by omega
          exact h3 _ (hu65 hr)
        · rw [hrows]
          rfl
    · cases z
      exact k p vs' H' (e.sb.same.free n0) (e.sb.same.trans e.s0) e1 q
end
end TC
namespace TC
open PySem PySem.Calls
open PyProof.Rows PyProof.V PySem.Spec
/-! ### dicts whose values are compared by defs: equal -/
section
variable {prog : Program} {w : World} {κ : Type} [DecidableEq κ] {knd : KeyKind prog w κ} {A : Around} {E : Value → Shared → Prop} {s : Shared}
theorem samePG {nm : String} {a b : Addr} {ka kb : List (κ × Value)} {W : Shared → Prop} {Q : Bool → Shared → Prop} (na : (a == sysModules) = false) (nb : (b == sysModules) = false) (da : s.heap.DictOf knd a ka) (db : s.heap.DictOf knd b kb) (len : ka.length = kb.length)
    (still : ∀ t, W t → t.heap.get? a = s.heap.get? a ∧ t.heap.get? b = s.heap.get? b) (w0 : W s) (turn : ∀ k v, (k, v) ∈ ka → ∃ y, valueAt kb k = some y ∧ ∀ t, W t → wpAny (model prog w) A (eqBool v y) (fun r t2 => r = true ∧ W t2) E t)
    (fin : ∀ t, W t → Q true t) : wpAny (model prog w) A (Builtin.Dict.samePairs nm a b) Q E s := by
  obtain ⟨oa, es, ep, ga, _, dta, keysA, pa, _⟩ := da
  obtain ⟨ob, fs, ep2, gb, _, dtb, keysB, pb, _⟩ := db
  have la : ka.length = es.size := by rw [← pa.length]; exact Array.length_toList
  have lb : kb.length = fs.size := by rw [← pb.length]; exact Array.length_toList
  have sz : es.size = fs.size := by omega
  have seek : ∀ k, findBy knd.is fs k = valueAt kb k := fun k => by
    rw [← pb.find k]
    clear lb pb keysB dtb gb sz
    obtain ⟨l⟩ := fs
    simp [findBy]
  have getA : ∀ t, W t → t.heap.get? a = some oa := fun t ht => (still t ht).1.trans ga
  have getB : ∀ t, W t → t.heap.get? b = some ob := fun t ht => (still t ht).2.trans gb
  unfold Builtin.Dict.samePairs
  unfold Builtin.Dict.showsAll
  rw [if_neg (by rw [na]; exact Bool.false_ne_true), if_neg (by rw [nb]; exact Bool.false_ne_true)]
  refine wpAny_bind (wpAny_pure (wpAny_bind (wpAny_pure (wpAny_bind (wpAny_dictEntries ga dta ?_)))))
  dsimp only
  refine wpAny_bind (wpAny_dictEntries gb dtb ?_)
  rw [if_neg (by rw [sz]; simp)]
  refine wpAny_bind (wpAny_dictEpoch ga dta (wpAny_bind ?_))
  rw [Std.Legacy.Range.forIn_eq_forIn_range']; simp only [Std.Legacy.Range.size, Nat.sub_zero, Nat.add_sub_cancel, Nat.div_one]
  refine wpAny_forIn_list _ (fun rest q t => W t ∧ q = (none, ()) ∧ ∃ i, rest = List.range' i (es.size - i) ∧ i ≤ es.size) _ ?_ ?_ _ _ ⟨w0, rfl, 0, by simp, Nat.zero_le _⟩
  · rintro x rest q t ⟨wt, rfl, i, hr, hi⟩
    have lt : i < es.size := by
      by_cases z : i < es.size
      · exact z
      · rw [Nat.sub_eq_zero_of_le (Nat.le_of_not_lt z)] at hr
        simp at hr
    have more : es.size - i = (es.size - (i + 1)) + 1 := by omega
    rw [more, List.range'_succ] at hr
    obtain ⟨ex, er⟩ := List.cons.inj hr
    subst ex
    refine wpAny_bind (wpAny_dictEntries (getA t wt) dta ?_)
    rw [Array.getElem?_eq_getElem lt]
    have lt2 : x < ka.length := by omega
    obtain ⟨k, v, ekv⟩ : ∃ k v, ka[x] = (k, v) := ⟨_, _, rfl⟩
    obtain ⟨isK, isV⟩ := pa.get? (i := x) (e := es[x]) (k := k) (v := v) (by rw [Array.getElem?_toList]; exact Array.getElem?_eq_getElem lt) (by rw [List.getElem?_eq_getElem lt2, ekv])
    obtain ⟨k2, isK2, hash⟩ := keysA es[x] (Array.getElem_mem lt)
    rw [knd.inj _ _ _ isK2 isK] at hash
    obtain ⟨y, vy, run⟩ := turn k v (by rw [← ekv]; exact List.getElem_mem lt2)
    change wpAny _ _ (holding [es[x].key, es[x].val] _ >>= _) _ _ _
    rw [hash]
    refine wpAny_bind (wpAny_holding (wpAny_bind (wpAny_dictFind_of isK (getB t wt) dtb keysB ?_)))
    cases hj : fs.findIdx? fun e => knd.is k e.key with
    | none =>
      rw [← seek k, findBy_of_findIdx?, hj] at vy
      cases vy
    | some j =>
      obtain ⟨jlt, _, _⟩ := Array.findIdx?_eq_some_iff_getElem.mp hj
      have at_j : valueAt kb k = some fs[j].val := by
        rw [← seek k, findBy_of_findIdx?, hj]
        simp [Array.getElem?_eq_getElem jlt]
      refine wpAny_bind (wpAny_dictEntries (getB t wt) dtb ?_)
      rw [Array.getElem?_eq_getElem jlt]
      have ey : fs[j].val = y := Option.some.inj (at_j.symm.trans vy)
      rw [← ey, ← isV] at run
      refine wpAny_holding (wpAny_mono (run t wt) (fun r t2 ⟨hr2, wt2⟩ => ?_) fun _ _ z => z)
      subst hr2
      change wpAny _ _ (if (!true) = true then _ else _) _ _ _
      rw [if_neg (by decide)]
      refine wpAny_bind (wpAny_dictEpoch (getA t2 wt2) dta ?_)
      rw [if_neg (by simp)]
      exact wpAny_pure ⟨wt2, rfl, x + 1, er, lt⟩
  · rintro q t ⟨wt, rfl, i, hr, hi⟩
    exact wpAny_pure (fin t wt)
theorem rcG_samePairs {a b : Addr} {ka kb : List (κ × Value)} {W : Shared → Prop} {Q : Value → Shared → Prop} (na : (a == sysModules) = false) (nb : (b == sysModules) = false) (da : s.heap.DictOf knd a ka) (db : s.heap.DictOf knd b kb) (len : ka.length = kb.length) (hu : A.units < cLine)
    (still : ∀ t, W t → t.heap.get? a = s.heap.get? a ∧ t.heap.get? b = s.heap.get? b) (w0 : W s) (turn : ∀ k v, (k, v) ∈ ka → ∃ y, valueAt kb k = some y ∧ ∀ t, W t → wpAny (model prog w) A.in1 (eqBool v y) (fun r t2 => r = true ∧ W t2) E t)
    (fin : ∀ t, W t → Q (.bool true) t) : wpAny (model prog w) A (richCompare .Eq (.ref a) (.ref b)) Q E s := by
  refine wpAny_richCompare_same_room (op := .Eq) da.typeIs db.typeIs PySem.F.slot_dict_eq
    (wpAny_call_entry PySem.F.slot_dict_eq da.typeIs PySem.F.entry_dict_eq ?_ (PySem.F.args_dict_eq_2 _ _)) hu
  refine wpAny_bind (m := Builtin.Dict.dictSlotArgs "__eq__" ⟨[.ref a, .ref b], []⟩) ?_
  unfold Builtin.Dict.dictSlotArgs; refine wpAny_bind (wpAny_notOrdered_dict da.typeIs (wpAny_pure (s := s) (a := (Value.ref a, Value.ref b)) ?_))
  refine wpAny_bind ?_
  refine wpAny_isInstance (T := "dict") db.typeIs PySem.F.sub_dict_dict ?_
  simp only [if_false, Bool.false_eq_true, Bool.not_true]
  refine wpAny_bind (wpAny_pure (wpAny_bind (wpAny_pure (wpAny_bind (samePG na nb da db len still w0 turn fun t wt => ?_)))))
  exact wpAny_pure ⟨_, rfl, (fun z => nomatch z), fin t wt⟩
end
end TC
namespace TC
open PySem L2
/-! ### data of numbers -/
mutual
def numD : PyData → Bool
  | .none => true
  | .bool _ => true
  | .int _ => true
  | .tuple ds => numAll ds
  | _ => false
def numAll : List PyData → Bool
  | [] => true
  | d :: ds => numD d && numAll ds
end
mutual
theorem num_lay : ∀ d : PyData, numD d = true → PyData.canLay0 d = true ∧ PySem.W.alike d d = true
  | .none, _ => ⟨by simp [PyData.canLay0], by simp [PySem.W.alike]⟩
  | .bool _, _ => ⟨by simp [PyData.canLay0], by simp [PySem.W.alike]⟩
  | .int _, _ => ⟨by simp [PyData.canLay0], by simp [PySem.W.alike]⟩
  | .tuple ds, h => by
    obtain ⟨a, b⟩ := numAll_lay ds h
    exact ⟨by simp only [PyData.canLay0]; exact a, by simp only [PySem.W.alike]; exact b⟩
  | .str _, h => by cases h
  | .list _, h => by cases h
  | .dict _, h => by cases h
theorem numAll_lay : ∀ ds : List PyData, numAll ds = true → PyData.canLayAll0 ds = true ∧ PySem.W.alikeAll ds ds = true
  | [], _ => ⟨by simp [PyData.canLayAll0], by simp [PySem.W.alikeAll]⟩
  | d :: ds, h => by
    have h' : (numD d && numAll ds) = true := h
    rw [Bool.and_eq_true] at h'
    obtain ⟨a, b⟩ := num_lay d h'.1
    obtain ⟨a2, b2⟩ := numAll_lay ds h'.2
    exact ⟨by simp [PyData.canLayAll0, a, a2], by simp [PySem.W.alikeAll, b, b2]⟩
end
theorem numAll_map {α : Type} {f : α → PyData} (h : ∀ x, numD (f x) = true) : ∀ l : List α, numAll (l.map f) = true
  | [] => rfl
  | x :: l => by
    show (numD (f x) && numAll (l.map f)) = true
    rw [h x, numAll_map h l]
    rfl
theorem depthAll_map {α : Type} {f : α → PyData} {n : Nat} (h : ∀ x, (f x).depth ≤ n) : ∀ l : List α, PyData.depthAll (l.map f) ≤ n
  | [] =>
    by simp [PyData.depthAll]
  | x :: l => by
    have := h x
    have := depthAll_map h l
    simp only [PyData.depthAll, List.map_cons]
    omega
/-- data that == finds equal to itself -/
structure SelfEq (d : PyData) : Prop where
  sh : SeqAt.shaped d = true
  eq : PyData.eqv d d = true
theorem selfEq {d : PyData} (h : numD d = true) (hd : d.depth ≤ 60) : SelfEq d := by
  obtain ⟨a, b⟩ := num_lay d h
  refine ⟨?_, PySem.W.eqv_refl_alike d b⟩
  show (PyData.canLay0 d && decide (PyData.depth d ≤ 64)) = true
  rw [a, decide_eq_true (by omega)]
  rfl
theorem num_ints (l : List Int) : numD (dInts l) = true := numAll_map (f := PyData.int) (fun _ => rfl) l
theorem dep_ints (l : List Int) : (dInts l).depth ≤ 1 := by
  have := depthAll_map (f := PyData.int) (n := 0) (fun _ => by simp [PyData.depth]) l
  show PyData.depth (.tuple (l.map .int)) ≤ 1
  simp only [PyData.depth]
  omega
theorem num_set (s : Set2) : numD (dSet s) = true := rfl
theorem dep_set (s : Set2) : (dSet s).depth ≤ 1 := by simp [dSet, PyData.depth, PyData.depthAll]
theorem num_str3 (s : Str3) : numD (dStr3 s) = true := rfl
theorem dep_str3 (s : Str3) : (dStr3 s).depth ≤ 1 := by simp [dStr3, PyData.depth, PyData.depthAll]
theorem num_now (n : Now) : numD (dNow n) = true := by
  show ((true && (numAll (n.st.map dStr3) && true)) && (numD (dInts n.ws) && true)) = true
  rw [numAll_map num_str3, num_ints]
  rfl
theorem dep_now (n : Now) : (dNow n).depth ≤ 6 := by
  have h1 := dep_ints n.ws
  have h2 := depthAll_map dep_str3 n.st
  simp only [dNow, dScr, PyData.depth, PyData.depthAll]
  omega
theorem num_on (o : Option Now) : numD (dON o) = true := by
  cases o with
  | none => rfl
  | some n => exact num_now n
theorem dep_on (o : Option Now) : (dON o).depth ≤ 6 := by
  cases o with
  | none => simp [dON, PyData.depth]
  | some n => exact dep_now n
theorem se_set (s : Set2) : SelfEq (dSet s) := selfEq (num_set s) (Nat.le_trans (dep_set s) (by decide))
theorem se_now (n : Now) : SelfEq (dNow n) := selfEq (num_now n) (Nat.le_trans (dep_now n) (by decide))
theorem se_oi (o : Option Int) : SelfEq (dOI o) := selfEq (by cases o <;> rfl) (by cases o <;> simp [dOI, PyData.depth])
theorem se_int (i : Int) : SelfEq (.int i) := selfEq rfl (by simp [PyData.depth])
theorem se_bool (b : Bool) : SelfEq (.bool b) := selfEq rfl (by simp [PyData.depth])
theorem se_shelf (l : List (Option Now)) : SelfEq (.tuple (l.map dON)) := selfEq (numAll_map num_on l) (by
  have := depthAll_map dep_on l
  simp only [PyData.depth]
  omega)
theorem se_home (m : Mem) : SelfEq (dHome m) := selfEq (by
  show (numD (dSet m.hset) && (numD (dNow m.hnow) && (numD (dOP m.hpair) && true))) = true
  rw [num_set, num_now]
  cases m.hpair <;> rfl) (by
  have h1 := dep_set m.hset
  have h2 := dep_now m.hnow
  have h3 : (dOP m.hpair).depth ≤ 1 := by cases m.hpair <;> simp [dOP, dPair, PyData.depth, PyData.depthAll]
  simp only [dHome, PyData.depth, PyData.depthAll]
  omega)
theorem se_exs (es : List Ex) : SelfEq (dExs es) := by
  have n1 : ∀ e : Ex, numD (dEx e) = true := fun e => by
    show (numD (dInts e.1) && (true && true)) = true
    rw [num_ints]
    rfl
  have d1 : ∀ e : Ex, (dEx e).depth ≤ 3 := fun e => by
    have := dep_ints e.1
    simp only [dEx, PyData.depth, PyData.depthAll]
    omega
  refine selfEq (numAll_map n1 es) ?_
  have := depthAll_map d1 es
  show PyData.depth (.tuple (es.map dEx)) ≤ 60
  simp only [PyData.depth]
  omega
/-! ### an own class that has a == of its own -/
structure EqOk (K : PySem.W.Frag) (mg : Str → Option Value) (nm : Str) (C f : Addr) : Prop where
  cl : Cls K C
  aC : PySem.W.findIn K (.ref C) "__class__" = some (some (.builtin "object.__class__"))
  aG : PySem.W.specialIn K (.builtin "object.__class__") "__get__" = some (some (.builtin "getset_descriptor.__get__"))
  aT : PySem.W.takesIn K (.builtin "object.__class__") = some true
  aM : PySem.W.mroIn K C (.type "object") = some true
  mg : mg nm = some (.ref C)
  hs : PySem.W.findIn K (.ref C) "__eq__" = some (some (.ref f))
  hf : PySem.W.isFn K (.ref f) = true
def RawE (K : PySem.W.Frag) (mg : Str → Option Value) (nm : Str) (C : Addr) (qual : Str) (st : Stmt) : Prop := ∃ f fd, EqOk K mg nm C f ∧ Fun K "__eq__" qual st f fd
section
variable {X : Cx} {Γ : G} {a b c e : Expr} {es : List Expr} {p p2 pos : Pos} {d : PyData} {F : Hp → V → Prop} {C f : Addr} {x nm : Str}
theorem xe_same (hu : X.A.units + 64 < cLine) (se : SelfEq d) (ha : XE X a Γ d) (hb : XE X b Γ d) : XE X (.Compare a [.Eq] [b] pos) Γ (.bool true) := xe_eq (xe_eqD hu ha hb se.sh se.sh) (by rw [se.eq])
/-- isinstance(x, C), x an instance of C itself -/
theorem xe_isC (K : EqOk X.K X.mg nm C f) (hm : X.mg "isinstance" = none) (i : Nat) (hl : Γ[i]? = some (.x F)) (hF : ∀ H v, F H v → ∃ q dx fs, v = .ref q ∧ H q = some (.ins C dx fs)) (hgn : Gl X nm := by rfl) (hN : X.N[i]? = some x := by rfl)
    (hv : Vis X.env.scope x := by first | exact Or.inl rfl | exact Or.inr (Or.inl rfl) | exact Or.inr (Or.inr rfl)) (hd : (x == ("__debug__" : Str)) = false := by decide) (hcd : (x == ("__classdict__" : Str)) = false := by decide) (hdn : (nm == ("__debug__" : Str)) = false := by decide) (hg : Gl X "isinstance" := by rfl)
    (hs : starEach [.Name x p, .Name nm p2] X.env = (false, eval (.Name x p) X.env) :: starEach [.Name nm p2] X.env := by rfl) (hs2 : starEach [.Name nm p2] X.env = (false, eval (.Name nm p2) X.env) :: starEach [] X.env := by rfl) (hpl : (backTo pos (starEach [.Name nm p2] X.env)).any (·.1) = false := by rfl) {p0 : Pos} :
    XE X (.Call (.Name "isinstance" p0) [.Name x p, .Name nm p2] [] pos) Γ (.bool true) :=
  pe_imp (pe_callB call_isi hg hm (by decide +kernel) (pa_cons (pv i hN hv hd hcd) (pa_cons (pe_glob (v := .ref C) hgn K.mg rfl hdn) pa_nil hs2) hs) (he := hs) (hpl := hpl)) fun σ H Q ⟨⟨Hb, H0, E⟩, k⟩ => by
    obtain ⟨ov, h1, v, rfl, h2⟩ := E.sl i _ hl
    obtain ⟨q, dx, fs, rfl, e1⟩ := hF H v (h2 H E.s0)
    refine ⟨_, h1, .ref q, .ref C, .ref C, .ref C, true, rfl, .own C, .base (.ins e1 K.cl K.aC K.aG K.aT K.aM), ?_, k (.bl true) H (Same.refl H) (.bl true)⟩
    unfold PySem.W.kitOne
    rw [if_pos (by simp)]
end
end TC
namespace TC
open PySem L2
section
variable {P : Program} {w : World} {K : PySem.W.Frag} {mg : Str → Option Value} {base : Heap} {cs : Cs}
/-! Member.__eq__ -/
abbrev sMEq : Stmt := methS 27 1
def REqM (K : PySem.W.Frag) (cs : Cs) : Addr → Addr → Hp → Prop := fun a b H => ∃ m, InsAt K H a cs.CM (memFs m) ∧ InsAt K H b cs.CM (memFs m)
theorem sc_meq : FnScope ["self", "other"] ["self", "other"] (defScope sMEq) := ⟨rfl, rfl, rfl, by decide +kernel, rfl, by decide +kernel, by decide +kernel⟩
theorem insF_ins {H : Hp} {v : V} {C : Addr} {fs : List (Str × PyData)} (h : InsF K C fs H v) : ∃ q dx gs, v = .ref q ∧ H q = some (.ins C dx gs) := by
  obtain ⟨q, rfl, dx, vs, h1, _⟩ := h
  exact ⟨q, dx, vs, rfl, h1⟩
theorem ok_meq (Z : CsOk K cs) (B : Bi mg) (R : RawE K mg "Member" cs.CM "Member.__eq__" sMEq) : ∃ f fd, EqOk K mg "Member" cs.CM f ∧ Binds K fd ["self", "other"] [] ∧ FnOk P w K mg base CX0 1 f fd ["self", "other"] (spEq (REqM K cs)) := by
  obtain ⟨f, fd, EK, F⟩ := R
  refine ⟨f, fd, EK, F.binds (fun _ _ _ _ _ _ us hl => match us, hl with | [_, _], _ => rfl), F.ok sc_meq (fun vs H Q E h => ?_) (fun cdv A outer s H vs Q E hr h => ?_)⟩
  · obtain ⟨a, b, rfl, _⟩ := h
    rfl
  · obtain ⟨a, b, rfl, ⟨m, i1, i2⟩, k⟩ := h
    refine ⟨tS K (.pu H) [.x (InsF K cs.CM (memFs m)), .x (InsF K cs.CM (memFs m))] (fun _ => False) (fun q _ => q = .d (.bool true)), ?_, ⟨H, Off.refl _, Same.refl _, rfl, fun i g hg => ?_⟩, fun Γ' σ' H' H0 kt e n => n.elim, ⟨fun Γ' σ' v d H' H0 e q z => ?_, fun _ _ _ _ _ _ _ _ _ _ _ z => (nomatch z), fun _ _ _ _ _ _ _ _ _ _ z => (nomatch z), fun _ _ _ _ _ _ _ _ z => (nomatch z), fun _ _ _ _ _ _ _ _ z => (nomatch z)⟩⟩
    · have hu := hr.units
      refine xss_one (xs_ret (xe_and (k := true) (l := true) (xe_isC EK B.isinstance 1 rfl (fun H v h => insF_ins h)) (fun _ => xe_and (k := true) (l := true) (xe_same hu (se_int m.inc) (xe_attrI 0 rfl rfl Z.cM Z.nIn) (xe_attrI 1 rfl rfl Z.cM Z.nIn))
        (fun _ => xe_and (k := true) (l := true) (xe_same hu (se_set m.set) (xe_attrI 0 rfl rfl Z.cM Z.nSe) (xe_attrI 1 rfl rfl Z.cM Z.nSe)) (fun _ => xe_and (k := true) (l := true) (xe_same hu (se_now m.now) (xe_attrI 0 rfl rfl Z.cM Z.nNo) (xe_attrI 1 rfl rfl Z.cM Z.nNo))
        (fun _ => xe_and (k := true) (l := true) (xe_same hu (se_oi m.score) (xe_attrI 0 rfl rfl Z.cM Z.nSc) (xe_attrI 1 rfl rfl Z.cM Z.nSc)) (fun _ => xe_and (k := true) (l := true) (xe_same hu (se_shelf m.shelf) (xe_attrI 0 rfl rfl Z.cM Z.nSh) (xe_attrI 1 rfl rfl Z.cM Z.nSh))
        (fun _ => xe_and (k := true) (l := true) (xe_same hu (se_home m) (xe_attrI 0 rfl rfl Z.cM Z.nHo) (xe_attrI 1 rfl rfl Z.cM Z.nHo)) (fun _ => xe_one (xe_same hu (se_bool m.stop) (xe_attrI 0 rfl rfl Z.cM Z.nSt) (xe_attrI 1 rfl rfl Z.cM Z.nSt)))))))))) rfl)
    · match i, hg with
      | 0, hg => cases hg; exact ⟨_, rfl, .ref a, rfl, fun H1 s1 => ⟨a, rfl, i1.mono s1⟩⟩
      | 1, hg => cases hg; exact ⟨_, rfl, .ref b, rfl, fun H1 s1 => ⟨b, rfl, i2.mono s1⟩⟩
      | i + 2, hg => simp at hg
    · cases z
      cases q
      exact k H' (e.sb.same.trans e.s0)
end
end TC
namespace TC
open PySem L2
/-! ### == of two dicts of members -/
theorem kv_in {ks : List (Key × V)} {va : List (Key × Value)} (r : KV ks va) : ∀ {k : Key} {v : Value}, (k, v) ∈ va → ∃ x, (k, x) ∈ ks ∧ RelV x v := by
  unfold KV at r
  induction r with
  | nil => intro k v h; cases h
  | @cons p q ps qs h t ih =>
    intro k v hm
    obtain e | e := List.mem_cons.mp hm
    · have e1 : q.1 = k := by rw [← e]
      have e2 : q.2 = v := by rw [← e]
      refine ⟨p.2, ?_, by rw [← e2]; exact h.2⟩
      have : (k, p.2) = p := by rw [← e1, ← h.1]
      rw [this]
      exact List.mem_cons_self
    · obtain ⟨x, h1, h2⟩ := ih e
      exact ⟨x, List.mem_cons_of_mem _ h1, h2⟩
theorem MemsAt.mem {K : PySem.W.Frag} {cs : Cs} {H : Hp} {k : Key} {x : V} : ∀ {kvs : List (Key × V)} {ms : List (Int × Mem)}, MemsAt K cs H kvs ms → (k, x) ∈ kvs → ∃ t m, k = .inl t ∧ (t, m) ∈ ms ∧ InsF K cs.CM (memFs m) H x
  | [], [], _, h => by cases h
  | (j, v) :: kvs, (t, m) :: ms, h, hm => by
    obtain ⟨h1, h2, h3⟩ := h
    obtain e | e := List.mem_cons.mp hm
    · cases e
      exact ⟨t, m, h1, List.mem_cons_self, h2⟩
    · obtain ⟨t2, m2, e1, e2, e3⟩ := h3.mem e
      exact ⟨t2, m2, e1, List.mem_cons_of_mem _ e2, e3⟩
  | [], _ :: _, h, _ => h.elim
  | _ :: _, [], h, _ => h.elim
theorem InsF.offK {K : PySem.W.Frag} {C : Addr} {fs : List (Str × PyData)} {a : Addr} {H H' : Hp} {v : V} (k : OffK a H H') (h : InsF K C fs H v) : InsF K C fs H' v := by
  obtain ⟨q, rfl, dx, vs, h1, h2⟩ := h
  exact ⟨q, rfl, dx, vs, k.at h1 (fun _ z => nomatch z), h2.keep k.keepT⟩
structure Mems2 (K : PySem.W.Frag) (cs : Cs) (H : Hp) (ks ls : List (Key × V)) (ms ns : List (Int × Mem)) : Prop where
  m1 : MemsAt K cs H ks ms
  m2 : MemsAt K cs H ls ns
  nd : (ms.map (·.1)).Nodup
  ln : ms.length = ns.length
  lk : ∀ t, lookM ms t = lookM ns t
theorem Mems2.imp {K : PySem.W.Frag} {cs : Cs} {H H' : Hp} {ks ls : List (Key × V)} {ms ns : List (Int × Mem)} (h : Mems2 K cs H ks ls ms ns) (i : ∀ v m, InsF K cs.CM (memFs m) H v → InsF K cs.CM (memFs m) H' v) : Mems2 K cs H' ks ls ms ns := ⟨h.m1.imp i, h.m2.imp i, h.nd, h.ln, h.lk⟩
section
variable {X : Cx} {n : Nat} {cs : Cs} {A : Around} {pins : List (Addr × Obj)} {s : Shared} {σ : L2.St} {H : Hp} {a b : Addr} {ks ls : List (Key × V)} {ms ns : List (Int × Mem)} {oa ob : Obj}
theorem eq_mems (hE : EqG X n (DIns cs.CM (REqM X.K cs))) (sb : Sub X (n + 1) A) (I : Inv X pins σ H s) (ga : H a = some (.frz oa (.dK ks))) (gb : H b = some (.frz ob (.dK ls))) (M : Mems2 X.K cs H ks ls ms ns) :
    wpAny (model X.prog X.w) A (richCompare .Eq (.ref a) (.ref b)) (fun r s' => r = .bool true ∧ ∃ H', Inv X pins σ H' s' ∧ Ext H H') X.xe s := by
  obtain ⟨z1, na, va, ra, da⟩ := dk_rd (P := X.prog) (w := X.w) I.hok (.inr ⟨oa, ga⟩)
  obtain ⟨z2, nb, vb, rb, db⟩ := dk_rd (P := X.prog) (w := X.w) I.hok (.inr ⟨ob, gb⟩)
  refine rcG_samePairs (W := fun t => ∃ H', Inv X pins σ H' t ∧ Ext H H') na nb da db ?_ sb.room.units0 (fun t ht => ?_) ⟨H, I, Ext.rfl'⟩ (fun k v hkv => ?_) fun t ht => ⟨rfl, ht⟩
  · rw [← ra.length, ← rb.length, M.m1.len, M.m2.len, M.ln]
  · obtain ⟨H', It, ex⟩ := ht
    obtain ⟨_, e1, _⟩ := It.frzK (ex _ _ ga)
    obtain ⟨_, e2, _⟩ := It.frzK (ex _ _ gb)
    obtain ⟨_, e3, _⟩ := I.frzK ga
    obtain ⟨_, e4, _⟩ := I.frzK gb
    exact ⟨e1.trans e3.symm, e2.trans e4.symm⟩
  · obtain ⟨x, hx, rx⟩ := kv_in ra hkv
    obtain ⟨t, m, rfl, hm, fx⟩ := M.m1.mem hx
    have l1 := lookM_mem M.nd hm
    rw [M.lk] at l1
    rcases M.m2.look (u := t) with ⟨e, _⟩ | ⟨m', x', e1, e2, fx'⟩
    · have l1 : lookM ns t = some m := l1
      rw [e] at l1
      cases l1
    · have l1 : lookM ns t = some m := l1
      rw [e1] at l1
      cases l1
      obtain ⟨y, hy, ry⟩ := RelO.some_of (v := x') (o := valueAt vb (.inl t)) (by rw [← e2]; exact rb.val (.inl t))
      refine ⟨y, hy, fun t' ⟨H', It, ex⟩ => ?_⟩
      obtain ⟨q, rfl, dx, fs, h1, h2⟩ := InsF.mono (H' := H') ex fx
      obtain ⟨q', rfl, dx', fs', h1', h2'⟩ := InsF.mono (H' := H') ex fx'
      refine wpAny_mono (hE A.in1 pins t' σ H' (.ref q) (.ref q') v y sb.in1 It rx ry ⟨q, q', dx, dx', fs, fs', rfl, rfl, h1, h1', m, ⟨dx, fs, h1, h2⟩, ⟨dx', fs', h1', h2'⟩⟩) (fun r t2 ⟨hr, H2, I2, ex2⟩ => ⟨hr, H2, I2, ex.trans ex2⟩) fun _ _ z => z
/-- two dicts of equal members -/
def DMems (K : PySem.W.Frag) (cs : Cs) : Eqv := fun x y H => ∃ a b ks ls ms ns, x = .ref a ∧ y = .ref b ∧ H a = some (.dK ks) ∧ H b = some (.dK ls) ∧ Mems2 K cs H ks ls ms ns
theorem rcG_mems (hE : EqG X n (DIns cs.CM (REqM X.K cs))) : RcG X (n + 1) (DMems X.K cs) := by
  intro A pins s σ H x y
  intro u v sb I rx ry d
  obtain ⟨a, b, ks, ls, ms, ns, rfl, rfl, ga, gb, M⟩ := d
  cases rx
  cases ry
  obtain ⟨oa, I1⟩ := I.lock ga True.intro
  have k1 : ∀ o, OffK a H (upd H a o) := fun o => OffK.upd ga
  by_cases hab : a = b
  · subst hab
    rw [ga] at gb
    cases gb
    have hn := I.nofrz ga True.intro
    refine wpAny_mono (eq_mems hE sb I1 upd_same upd_same (M.imp fun v m z => z.offK (k1 _))) (fun r t ⟨hr, H', It, ex⟩ => ⟨hr, upd H' a (.dK ks), It.unlock (ex _ _ upd_same) hn, fun c o hc => ?_⟩) fun _ _ z => z
    by_cases hca : c = a
    · subst hca
      rw [upd_same, ← ga]
      exact hc
    · rw [upd_ne hca]
      exact ex _ _ (by rw [upd_ne hca]; exact hc)
  · have gb1 : upd H a (.frz oa (.dK ks)) b = some (.dK ls) := by rw [upd_ne (Ne.symm hab)]; exact gb
    obtain ⟨ob, I2⟩ := I1.lock gb1 True.intro
    have hna := I.nofrz ga True.intro
    have hnb := I.nofrz gb True.intro
    have k2 : ∀ o, OffK b (upd H a (.frz oa (.dK ks))) (upd (upd H a (.frz oa (.dK ks))) b o) := fun o => OffK.upd gb1
    refine wpAny_mono (eq_mems hE sb I2 (by rw [upd_ne hab]; exact upd_same) upd_same (M.imp fun v m z => (z.offK (k1 _)).offK (k2 _))) (fun r t ⟨hr, H', It, ex⟩ => ?_) fun _ _ z => z
    have Jb := It.unlock (ex _ _ upd_same) hnb
    have ea : upd H' b (.dK ls) a = some (.frz oa (.dK ks)) := by
      rw [upd_ne hab]
      exact ex _ _ (by rw [upd_ne hab]; exact upd_same)
    refine ⟨hr, upd (upd H' b (.dK ls)) a (.dK ks), Jb.unlock ea hna, fun c o hc => ?_⟩
    by_cases hca : c = a
    · subst hca
      rw [upd_same, ← ga]
      exact hc
    · rw [upd_ne hca]
      by_cases hcb : c = b
      · subst hcb
        rw [upd_same, ← gb]
        exact hc
      · rw [upd_ne hcb]
        exact ex _ _ (by rw [upd_ne hcb, upd_ne hca]; exact hc)
end
end TC
namespace TC
open PySem L2
theorem key_look {α : Type} {l : List (Int × α)} {u : Int} : u ∈ l.map (·.1) ↔ (lookM l u).isSome = true := by
  constructor
  · intro h
    obtain ⟨m, e⟩ := look_key h
    rw [e]
    rfl
  · intro h
    cases q : lookM l u with
    | none => rw [q] at h; cases h
    | some m => exact List.mem_map.mpr ⟨(u, m), lookM_in q, rfl⟩
theorem PEq.len {S T : PopM} (h : PEq S T) (n1 : (S.mem.map (·.1)).Nodup) (n2 : (T.mem.map (·.1)).Nodup) : S.mem.length = T.mem.length := by
  have p := (List.perm_ext_iff_of_nodup n1 n2).mpr fun u => by rw [key_look, key_look, h.mem]
  have := p.length_eq
  rw [List.length_map, List.length_map] at this
  exact this
section
variable {X : Cx} {Γ : G} {n : Nat} {cs : Cs} {a b : Addr} {S T : PopM} {x y : Str} {px py ap bp pos : Pos}
/-- x.members == y.members, of equal populations -/
theorem xe_eqMems (Z : CsOk X.K cs) (hE : EqG X n (DIns cs.CM (REqM X.K cs))) (hr : Room (n + 1) X.A) (h0 : Γ[0]? = some (.x (PopF X.K cs a S))) (h1 : Γ[1]? = some (.x (PopF X.K cs b T))) (pe : PEq S T) (hN : X.N[0]? = some x := by rfl) (hv : Vis X.env.scope x := by first | exact Or.inl rfl | exact Or.inr (Or.inl rfl) | exact Or.inr (Or.inr rfl)) (hd : (x == ("__debug__" : Str)) = false := by decide)
    (hcd : (x == ("__classdict__" : Str)) = false := by decide) (hb : attributeBase (.Name x px) "members" X.env (eval (.Name x px) X.env) = eval (.Name x px) X.env := by rfl)
    (hN2 : X.N[1]? = some y := by rfl) (hv2 : Vis X.env.scope y := by first | exact Or.inl rfl | exact Or.inr (Or.inl rfl) | exact Or.inr (Or.inr rfl)) (hd2 : (y == ("__debug__" : Str)) = false := by decide)
    (hcd2 : (y == ("__classdict__" : Str)) = false := by decide) (hb2 : attributeBase (.Name y py) "members" X.env (eval (.Name y py) X.env) = eval (.Name y py) X.env := by rfl) :
    XE X (.Compare (.Attribute (.Name x px) "members" ap) [.Eq] [.Attribute (.Name y py) "members" bp] pos) Γ (.bool true) :=
  pe_imp (pe_cmpR (op_eqG (rcG_mems hE) hr) (pe_members (cs := cs) Z 0 hN hv hd hcd hb) (pe_members (cs := cs) Z 1 hN2 hv2 hd2 hcd2 hb2) (nomark _)) fun σ H Q ⟨⟨Hb, H0, E1⟩, q⟩ => by
    obtain ⟨g1, P1⟩ := slotPop E1 h0
    obtain ⟨g2, P2⟩ := slotPop E1 h1
    refine ⟨a, S, g1, P1, fun dm ks h1 h2 => ⟨b, T, g2, P2, fun dn ls h3 h4 => ⟨⟨dm, dn, ks, ls, S.mem, T.mem, rfl, rfl, h1, h3, h2, h4, ?_, ?_, pe.mem⟩, fun H' ex => q (.bl true) H' ex (.bl true)⟩⟩⟩
    · obtain ⟨_, _, _, _, _, _, _, _, _, _, nd⟩ := P1
      exact nd
    · obtain ⟨_, _, _, _, _, _, _, _, _, _, nd⟩ := P1
      obtain ⟨_, _, _, _, _, _, _, _, _, _, nd2⟩ := P2
      exact pe.len nd nd2
end
section
variable {P : Program} {w : World} {K : PySem.W.Frag} {mg : Str → Option Value} {base : Heap} {cs : Cs}
/-! Population.__eq__ -/
abbrev sPEq : Stmt := methS 28 3
def REqP (K : PySem.W.Frag) (cs : Cs) : Addr → Addr → Hp → Prop := fun a b H => ∃ S T, PopAt K cs H a S ∧ PopAt K cs H b T ∧ PEq S T
theorem sc_peq : FnScope ["self", "other"] ["self", "other"] (defScope sPEq) := ⟨rfl, rfl, rfl, by decide +kernel, rfl, by decide +kernel, by decide +kernel⟩
theorem popF_ins {H : Hp} {v : V} {p : Addr} {S : PopM} (h : PopF K cs p S H v) : ∃ q dx gs, v = .ref q ∧ H q = some (.ins cs.CP dx gs) := by
  obtain ⟨rfl, dx, dm, vt, vv, kvs, h1, _⟩ := h
  exact ⟨p, dx, _, rfl, h1⟩
theorem ok_peq (Z : CsOk K cs) (B : Bi mg) (R : RawE K mg "Population" cs.CP "Population.__eq__" sPEq) (D : ∃ f fd, EqOk K mg "Member" cs.CM f ∧ Binds K fd ["self", "other"] [] ∧ FnOk P w K mg base CX0 1 f fd ["self", "other"] (spEq (REqM K cs))) :
    ∃ f fd, EqOk K mg "Population" cs.CP f ∧ Binds K fd ["self", "other"] [] ∧ FnOk P w K mg base CX0 3 f fd ["self", "other"] (spEq (REqP K cs)) := by
  obtain ⟨f, fd, EK, F⟩ := R
  refine ⟨f, fd, EK, F.binds (fun _ _ _ _ _ _ us hl => match us, hl with | [_, _], _ => rfl), F.ok sc_peq (fun vs H Q E h => ?_) (fun cdv A outer s H vs Q E hr h => ?_)⟩
  · obtain ⟨a, b, rfl, _⟩ := h
    rfl
  · obtain ⟨a, b, rfl, ⟨S, T, i1, i2, pe⟩, k⟩ := h
    refine ⟨tS K (.pu H) [.x (PopF K cs a S), .x (PopF K cs b T)] (fun _ => False) (fun q _ => q = .d (.bool true)), ?_, ⟨H, Off.refl _, Same.refl _, rfl, fun i g hg => ?_⟩, fun Γ' σ' H' H0 kt e n => n.elim, ⟨fun Γ' σ' v d H' H0 e q z => ?_, fun _ _ _ _ _ _ _ _ _ _ _ z => (nomatch z), fun _ _ _ _ _ _ _ _ _ _ z => (nomatch z), fun _ _ _ _ _ _ _ _ z => (nomatch z), fun _ _ _ _ _ _ _ _ z => (nomatch z)⟩⟩
    · have hu := hr.units
      obtain ⟨fM, fdM, EM, bM, FM⟩ := D
      refine xss_one (xs_ret (xe_and (k := true) (l := true) (xe_isC EK B.isinstance 1 rfl (fun H v h => popF_ins h)) (fun _ => xe_and (k := true) (l := true) (xe_same hu (se_exs S.tr) (xe_attrX 0 rfl (fun H v h => popF_tr Z h)) (xe_attrX 1 rfl (fun H v h => by rw [pe.tr]; exact popF_tr Z h)))
        (fun _ => xe_and (k := true) (l := true) (xe_same hu (se_exs S.va) (xe_attrX 0 rfl (fun H v h => popF_va Z h)) (xe_attrX 1 rfl (fun H v h => by rw [pe.va]; exact popF_va Z h)))
        (fun _ => xe_and (k := true) (l := true) (xe_eqMems Z (eqG_ins (E := fun _ _ _ => False) FM EM.hs EM.hf bM pass0) hr rfl rfl pe)
        (fun _ => xe_one (xe_same hu (se_int S.spent) (xe_attrX 0 rfl (fun H v h => popF_sp Z h)) (xe_attrX 1 rfl (fun H v h => by rw [pe.sp]; exact popF_sp Z h)))))))) rfl)
    · match i, hg with
      | 0, hg => cases hg; exact ⟨_, rfl, .ref a, rfl, fun H1 s1 => ⟨rfl, i1.mono s1⟩⟩
      | 1, hg => cases hg; exact ⟨_, rfl, .ref b, rfl, fun H1 s1 => ⟨rfl, i2.mono s1⟩⟩
      | i + 2, hg => simp at hg
    · cases z
      cases q
      exact k H' (e.sb.same.trans e.s0)
end
end TC
namespace TC
open PySem L2
/-! ### what is shown is text of the common signs -/
def CpOk (l : List Nat) : Prop := ∀ n ∈ l, n < 0x110000
theorem strOk_iff (x : Str) : PyData.strOk x = true ↔ CpOk x.cps.toList := by
  unfold PyData.strOk CpOk
  rw [Array.all_eq_true_iff_forall_mem]
  constructor
  · intro h n hn
    have := h n (Array.mem_toList_iff.mp hn)
    simpa using this
  · intro h n hn
    have := h n (Array.mem_toList_iff.mpr hn)
    simpa using this
theorem char_lt (c : Char) : c.toNat < 0x110000 := by
  have h := c.valid
  rcases h with h | ⟨_, h⟩
  · have : c.toNat < 0xd800 := h
    omega
  · exact h
theorem cp_chars (l : List Char) : CpOk (l.map Char.toNat) := fun n hn => by
  obtain ⟨c, _, rfl⟩ := List.mem_map.mp hn
  exact char_lt c
theorem ok_of (s : String) : PyData.strOk (Str.ofString s) = true := by
  rw [strOk_iff, Str.ofString_eq_toList]
  exact cp_chars _
theorem ok_cat {x y : Str} (h : PyData.strOk x = true) (k : PyData.strOk y = true) : PyData.strOk (x ++ y) = true := by
  rw [strOk_iff] at h k ⊢
  have e : (x ++ y).cps.toList = x.cps.toList ++ y.cps.toList := by
    show (x.cps ++ y.cps).toList = _
    rw [Array.toList_append]
  rw [e]
  intro n hn
  obtain z | z := List.mem_append.mp hn
  · exact h n z
  · exact k n z
theorem okS_join {sep : Str} (hs : PyData.strOk sep = true) : ∀ ts : List Str, (∀ t ∈ ts, PyData.strOk t = true) → PyData.strOk (Str.join sep ts) = true
  | [], _ => by
    rw [strOk_iff]
    intro n hn
    have e : (Str.join sep []).cps.toList = [] := rfl
    rw [e] at hn
    cases hn
  | [x], h => h x List.mem_cons_self
  | x :: y :: r, h => ok_cat (ok_cat (h x List.mem_cons_self) hs) (okS_join hs (y :: r) fun t ht => h t (List.mem_cons_of_mem _ ht))
theorem okS_tuple {ts : List Str} (h : ∀ t ∈ ts, PyData.strOk t = true) : PyData.strOk (tupleText ts) = true := by
  unfold tupleText
  refine ok_cat (ok_cat (ok_of _) (okS_join (ok_of _) ts h)) ?_
  split <;> exact ok_of _
theorem cp_hex (w c : Nat) : CpOk (List.replicate (w - ((Nat.toDigits 16 c).map Char.toNat).length) 48 ++ (Nat.toDigits 16 c).map Char.toNat) := fun n hn => by
  obtain z | z := List.mem_append.mp hn
  · rw [(List.mem_replicate.mp z).2]
    decide
  · exact cp_chars _ n z
theorem cp_pre {a b : Nat} {l : List Nat} (ha : a < 0x110000) (hb : b < 0x110000) (h : CpOk l) : CpOk ([a, b] ++ l) := fun n hn => by
  obtain z | z := List.mem_append.mp hn
  · simp only [List.mem_cons, List.not_mem_nil, or_false] at z
    rcases z with rfl | rfl
    · exact ha
    · exact hb
  · exact h n z
theorem cp_two {a b : Nat} (ha : a < 0x110000) (hb : b < 0x110000) : CpOk [a, b] := cp_pre ha hb (l := []) fun n hn => nomatch hn
theorem cp_char (q : Nat) {c : Nat} (h : c < 0x110000) : CpOk (Builtin.Str.reprChar q c) := by
  unfold Builtin.Str.reprChar
  dsimp only
  repeat' split
  · exact cp_two (by decide) h
  · exact cp_two (by decide) (by decide)
  · exact cp_two (by decide) (by decide)
  · exact cp_two (by decide) (by decide)
  · intro n hn
    rw [List.mem_singleton.mp hn]
    exact h
  · exact cp_pre (by decide) (by decide) (cp_hex 2 c)
  · exact cp_pre (by decide) (by decide) (cp_hex 4 c)
  · exact cp_pre (by decide) (by decide) (cp_hex 8 c)
theorem cp_fold (q : Nat) : ∀ (l : List Nat) (acc : Array Nat), CpOk l → CpOk acc.toList → CpOk (l.foldl (fun out c => out ++ (Builtin.Str.reprChar q c).toArray) acc).toList
  | [], _, _, h => h
  | c :: l, acc, hl, h => by
    rw [List.foldl_cons]
    refine cp_fold q l _ (fun n hn => hl n (List.mem_cons_of_mem _ hn)) fun n hn => ?_
    rw [Array.toList_append] at hn
    obtain z | z := List.mem_append.mp hn
    · exact h n z
    · exact cp_char q (hl c List.mem_cons_self) n z
theorem ok_repr {x : Str} (h : PyData.strOk x = true) : PyData.strOk (reprText x) = true := by
  rw [strOk_iff] at h ⊢
  have hq : reprQuote x < 0x110000 := by
    unfold reprQuote
    split <;> decide
  unfold reprText
  intro n hn
  rw [Array.toList_push, ← Array.foldl_toList] at hn
  obtain z | z := List.mem_append.mp hn
  · exact cp_fold _ _ #[reprQuote x] h (fun m hm => by rw [List.mem_singleton.mp hm]; exact hq) n z
  · have ez := List.mem_singleton.mp z
    rw [ez]
    exact hq
theorem ok_leaf {d : PyData} (h : LeafOk d) : PyData.strOk d.shown = true := by
  cases h with
  | none =>
    simp only [PyData.shown]
    exact ok_of _
  | bool b =>
    simp only [PyData.shown]
    cases b <;> exact ok_of _
  | int i _ =>
    simp only [PyData.shown]
    exact ok_of _
  | str s h1 _ =>
    simp only [PyData.shown]
    exact ok_repr h1
theorem ok_shown {ds : List PyData} (h : ∀ d ∈ ds, LeafOk d) : PyData.strOk (PyData.tuple ds).shown = true := by
  have key : ∀ ds : List PyData, (∀ d ∈ ds, LeafOk d) → ∀ t ∈ PyData.shownAll ds, PyData.strOk t = true := by
    intro ds
    induction ds with
    | nil =>
      intro _ t ht
      simp [PyData.shownAll] at ht
    | cons d ds ih =>
      intro h t ht
      simp only [PyData.shownAll, List.mem_cons] at ht
      rcases ht with rfl | ht
      · exact ok_leaf (h d List.mem_cons_self)
      · exact ih (fun x hx => h x (List.mem_cons_of_mem _ hx)) t ht
  simp only [PyData.shown]
  exact okS_tuple (key ds h)
/-! rows are equal to themselves -/
theorem rows_self {l : List T3} (h : ∀ t ∈ l, PyData.strOk t.1 = true ∧ PyData.strOk t.2.2 = true) : SelfEq (.list (l.map encT)) := by
  have key : ∀ l : List T3, (∀ t ∈ l, PyData.strOk t.1 = true ∧ PyData.strOk t.2.2 = true) → PyData.canLayAll0 (l.map encT) = true ∧ PySem.W.alikeAll (l.map encT) (l.map encT) = true ∧ PyData.depthAll (l.map encT) ≤ 1 := by
    intro l
    induction l with
    | nil => intro _; exact ⟨by simp [PyData.canLayAll0], by simp [PySem.W.alikeAll], by simp [PyData.depthAll]⟩
    | cons t l ih =>
      intro h
      obtain ⟨a, b, c⟩ := ih fun x hx => h x (List.mem_cons_of_mem _ hx)
      obtain ⟨h1, h2⟩ := h t List.mem_cons_self
      refine ⟨by simp [PyData.canLayAll0, encT, PyData.canLay0, h1, h2, a], by simp [PySem.W.alikeAll, encT, PySem.W.alike, b], ?_⟩
      have := depthT t
      simp only [PyData.depthAll, List.map_cons]
      omega
  obtain ⟨a, b, c⟩ := key l h
  refine ⟨?_, PySem.W.eqv_refl_alike _ (by simp only [PySem.W.alike]; exact b)⟩
  show (PyData.canLay0 (.list (l.map encT)) && decide (PyData.depth (.list (l.map encT)) ≤ 64)) = true
  rw [Bool.and_eq_true]
  refine ⟨by simp only [PyData.canLay0]; exact a, decide_eq_true ?_⟩
  simp only [PyData.depth]
  omega
theorem rowsF_mem : ∀ {ds : List Deed} {os : List Out} {p : List Deed} {r : Deed × Nat × Out}, r ∈ rowsF p ds os → r.1 ∈ ds ∧ r.2.2 ∈ os
  | d :: ds, o :: os, p, r, h => by
    rcases List.mem_cons.mp (show r ∈ (d, p.count d, o) :: rowsF (p ++ [d]) ds os from h) with e | e
    · rw [e]
      exact ⟨List.mem_cons_self, List.mem_cons_self⟩
    · obtain ⟨a, b⟩ := rowsF_mem e
      exact ⟨List.mem_cons_of_mem _ a, List.mem_cons_of_mem _ b⟩
  | [], _, _, _, h =>
    by cases h
  | _ :: _, [], _, _, h => by cases h
theorem num_self {dl : List Deed} {os : List Out} (h1 : ∀ d ∈ dl, DeedOk d) (h2 : ∀ o ∈ os, OutOk o) : SelfEq (.list ((numM dl os).map encT)) := rows_self fun t ht => by
  have ht : t ∈ (rowsM dl os).map keyT := (List.mergeSort_perm _ _).mem_iff.mp ht
  obtain ⟨r, hr, rfl⟩ := List.mem_map.mp ht
  obtain ⟨a, b⟩ := rowsF_mem hr
  exact ⟨ok_shown (deed_leaf (h1 _ a)), ok_shown (out_leaf (h2 _ b))⟩
theorem outs_self {os : List Out} (h : ∀ o ∈ os, OutOk o) : SelfEq (.tuple (os.map dOut)) := by
  have leaf : ∀ d, LeafOk d → PyData.canLay0 d = true ∧ PySem.W.alike d d = true ∧ d.depth = 0 := by
    intro d hd
    cases hd with
    | none => exact ⟨by simp [PyData.canLay0], by simp [PySem.W.alike], by simp [PyData.depth]⟩
    | bool b => exact ⟨by simp [PyData.canLay0], by simp [PySem.W.alike], by simp [PyData.depth]⟩
    | int i _ => exact ⟨by simp [PyData.canLay0], by simp [PySem.W.alike], by simp [PyData.depth]⟩
    | str s s1 _ => exact ⟨by simp [PyData.canLay0, s1], by simp [PySem.W.alike], by simp [PyData.depth]⟩
  have key : ∀ os : List Out, (∀ o ∈ os, OutOk o) → PyData.canLayAll0 (os.map dOut) = true ∧ PySem.W.alikeAll (os.map dOut) (os.map dOut) = true ∧ PyData.depthAll (os.map dOut) ≤ 1 := by
    intro os
    induction os with
    | nil => intro _; exact ⟨by simp [PyData.canLayAll0], by simp [PySem.W.alikeAll], by simp [PyData.depthAll]⟩
    | cons o os ih =>
      intro h
      obtain ⟨a, b, c⟩ := ih fun x hx => h x (List.mem_cons_of_mem _ hx)
      have lf := out_leaf (h o List.mem_cons_self)
      obtain ⟨y1, y2, e⟩ : ∃ y1 y2, outDs o = [y1, y2] := by cases o <;> exact ⟨_, _, rfl⟩
      rw [e] at lf
      obtain ⟨p1, p2, p3⟩ := leaf y1 (lf y1 List.mem_cons_self)
      obtain ⟨q1, q2, q3⟩ := leaf y2 (lf y2 (List.mem_cons_of_mem _ List.mem_cons_self))
      have eo : dOut o = .tuple [y1, y2] := by rw [dOut_tup, e]
      refine ⟨by simp [PyData.canLayAll0, eo, PyData.canLay0, p1, q1, a], by simp [PySem.W.alikeAll, eo, PySem.W.alike, p2, q2, b], ?_⟩
      simp only [List.map_cons, PyData.depthAll, eo, PyData.depth]
      omega
  obtain ⟨a, b, c⟩ := key os h
  refine ⟨?_, PySem.W.eqv_refl_alike _ (by simp only [PySem.W.alike]; exact b)⟩
  show (PyData.canLay0 (.tuple (os.map dOut)) && decide (PyData.depth (.tuple (os.map dOut)) ≤ 64)) = true
  rw [Bool.and_eq_true]
  refine ⟨by simp only [PyData.canLay0]; exact a, decide_eq_true ?_⟩
  simp only [PyData.depth]
  omega
end TC
namespace TC
open PySem L2
/-! ### the written page and its rows -/
def trF : List Ex := [([2, 1], 1), ([1, 3], -1), ([-1, 2], -1)]
def vaF : List Ex := [([1, 0], 1), ([0, 1], -1), ([1, 1], 1), ([1, 2], -1)]
def fixL : List Deed := [.found 0 0 1 0, .found 1 1 2 0, .train 0 1 3, .evaluate 1 1, .save 0 1, .copy 1 1 0 0 3 0]
def fixO : List Deed := [.found 1 1 2 0, .evaluate 1 1, .found 0 0 1 0, .train 0 1 3, .save 0 1, .copy 1 1 0 0 3 0]
theorem exsF1 : ExsOk 2 trF := ⟨by decide, by decide, by decide, by decide, by unfold Small; decide⟩
theorem exsF2 : ExsOk 2 vaF := ⟨by decide, by decide, by decide, by decide, by unfold Small; decide⟩
theorem deedsF1 : ∀ d ∈ fixL, DeedOk d := fun d hd => by
  have : d = .found 0 0 1 0 ∨ d = .found 1 1 2 0 ∨ d = .train 0 1 3 ∨ d = .evaluate 1 1 ∨ d = .save 0 1 ∨ d = .copy 1 1 0 0 3 0 := by simpa [fixL] using hd
  rcases this with rfl | rfl | rfl | rfl | rfl | rfl <;> exact ⟨by decide, by decide⟩
theorem deedsF2 : ∀ d ∈ fixO, DeedOk d := fun d hd => by
  have : d = .found 1 1 2 0 ∨ d = .evaluate 1 1 ∨ d = .found 0 0 1 0 ∨ d = .train 0 1 3 ∨ d = .save 0 1 ∨ d = .copy 1 1 0 0 3 0 := by simpa [fixO] using hd
  rcases this with rfl | rfl | rfl | rfl | rfl | rfl <;> exact ⟨by decide, by decide⟩
theorem outsF1 : outsM (newPop trF vaF) fixL = [.ok (.int 1), .ok (.int 1), .ok (.int 3), .ok (.int 0), .ok (.int 0), .ok (.int 3)] := by kernel_rfl
theorem outsF2 : outsM (newPop trF vaF) fixO = [.ok (.int 1), .ok (.int 0), .ok (.int 1), .ok (.int 3), .ok (.int 0), .ok (.int 3)] := by kernel_rfl
theorem exOkF : exOk fixL fixO = true := by decide +kernel
theorem exLenF : (exP fixL fixO fixO.length).2.length = 3 := by decide +kernel
theorem look_two {α : Type} {l1 l2 : List (Int × α)} (h1 : ∀ p ∈ l1, lookM l2 p.1 = some p.2) (h2 : ∀ p ∈ l2, lookM l1 p.1 = some p.2) (t : Int) : lookM l1 t = lookM l2 t := by
  cases q : lookM l1 t with
  | some m => exact (h1 _ (lookM_in q)).symm
  | none =>
    cases q2 : lookM l2 t with
    | none => rfl
    | some m =>
      have := h2 _ (lookM_in q2)
      rw [q] at this
      cases this
theorem peqF : PEq (afterM (newPop trF vaF) fixL) (afterM (newPop trF vaF) fixO) :=
  ⟨by kernel_rfl, by kernel_rfl, by kernel_rfl, look_two (by decide +kernel) (by decide +kernel)⟩
end TC
namespace TC
open PySem L2
/-- a value that is a population -/
def PopV (K : PySem.W.Frag) (cs : Cs) (S : PopM) : Hp → V → Prop := fun H v => ∃ p, v = .ref p ∧ PopAt K cs H p S
theorem PopV.mono {K : PySem.W.Frag} {cs : Cs} {S : PopM} {H H' : Hp} {v : V} (h : PopV K cs S H v) (s : Same H H') : PopV K cs S H' v := by
  obtain ⟨p, e, q⟩ := h
  exact ⟨p, e, q.mono s⟩
section
variable {X : Cx} {Hb : Bs} {Γ : G} {a b e : Expr} {es : List Expr} {p pos : Pos} {d d1 : PyData} {cs : Cs} {S T : PopM} {i j : Nat} {x y : Str} {px py : Pos}
theorem xd_call0 {k : Nat} {Pr : List PyData → PyData → Prop} {fn : Str} (D : Def X.prog X.w X.K X.mg X.base fn k [] (spR X.K 0 Pr)) (hr : Room k X.A) (hP : Pr [] d) (hg : Gl X fn := by rfl) (hdb : (fn == ("__debug__" : Str)) = false := by decide) : XE X (.Call (.Name fn p) [] [] pos) Γ d := by
  obtain ⟨f, fd, h1, h2, h3, h4⟩ := D
  refine pe_imp (pe_call0 (E := fun _ _ _ => False) h4 hr hg h1 h2 h3 .nil pass0 hdb) fun σ H Q ⟨E, q⟩ => ?_
  show spR X.K 0 Pr ([] ++ []) H Q (fun _ _ _ => False)
  exact ⟨[], d, rfl, .nil, hP, fun v H2 s2 q2 => q v H2 s2 q2⟩
theorem xr_after {n : Nat} {tr va : List Ex} {dl : List Deed} {e2 e3 : Expr} (D : Def X.prog X.w X.K X.mg X.base "after" 10 ["training", "validation", "deeds"] (spAft X.K cs)) (hr : Room 10 X.A) (h1 : XE X e Γ (dExs tr)) (h2 : XE X e2 Γ (dExs va)) (h3 : XE X e3 Γ (dDeeds dl)) (o1 : ExsOk n tr) (o2 : ExsOk n va) (hd : ∀ d ∈ dl, DeedOk d) (hl : dl.length ≤ 99) (hg : Gl X "after" := by rfl)
    (he : starEach [e, e2, e3] X.env = (false, eval e X.env) :: starEach [e2, e3] X.env := by rfl) (he2 : starEach [e2, e3] X.env = (false, eval e2 X.env) :: starEach [e3] X.env := by rfl) (he3 : starEach [e3] X.env = (false, eval e3 X.env) :: starEach [] X.env := by rfl) (hpl : (backTo pos (starEach [e2, e3] X.env)).any (·.1) = false := by rfl) :
    PE X (.Call (.Name "after" p) [e, e2, e3] [] pos) (fun σ H Q => (∃ Hb H0, EnvOk X.K Hb H0 H σ Γ) ∧ ∀ v H', Same H H' → PopV X.K cs (afterM (newPop tr va) dl) H' v → Q v H') := by
  obtain ⟨f, fd, g1, g2, g3, g4⟩ := D
  refine pe_imp (pe_call (E := fun _ _ _ => False) g4 hr hg g1 g2 g3 .nil pass0 (xa_cons h1 (xa_cons h2 (xa_cons h3 xa_nil he3) he2) he) (by decide) he hpl) fun σ H Q ⟨E, q⟩ => ⟨E, fun vs H1 s1 q1 => ?_⟩
  show spAft X.K cs (vs ++ []) H1 Q _
  rw [List.append_nil]
  exact ⟨n, tr, va, dl, dpa_length q1, q1, o1, o2, hd, hl, fun p H2 _ s2 P2 => q (.ref p) H2 (s1.trans s2) ⟨p, rfl, P2⟩⟩
theorem xr_popV (h : PE X e (fun σ H Q => (∃ Hb H0, EnvOk X.K Hb H0 H σ Γ) ∧ ∀ v H', Same H H' → PopV X.K cs S H' v → Q v H')) : XR X Hb e Γ (.v (PopV X.K cs S)) := pe_imp h fun σ H Q ⟨⟨H0, E⟩, k⟩ => ⟨⟨Hb, H0, E⟩, k⟩
theorem pv_pop (i : Nat) (hl : Γ[i]? = some (.x (PopV X.K cs S))) (hN : X.N[i]? = some x := by rfl) (hv : Vis X.env.scope x := by first | exact Or.inl rfl | exact Or.inr (Or.inl rfl) | exact Or.inr (Or.inr rfl)) (hd : (x == ("__debug__" : Str)) = false := by decide)
    (hcd : (x == ("__classdict__" : Str)) = false := by decide) : PE X (.Name x px) (fun σ H Q => (∃ Hb H0, EnvOk X.K Hb H0 H σ Γ) ∧ ∀ v H', Same H H' → PopV X.K cs S H' v → Q v H') :=
  pe_imp (pv i hN hv hd hcd) fun σ H Q ⟨⟨Hb, H0, E⟩, k⟩ => by
    obtain ⟨ov, h1, v, rfl, h2⟩ := E.sl i _ hl
    exact ⟨v, h1, k v H (Same.refl H) (h2 H E.s0)⟩
/-- == of two populations -/
def EqPop (P : Program) (w : World) (K : PySem.W.Frag) (mg : Str → Option Value) (base : Heap) (cs : Cs) : Prop := ∃ f fd, EqOk K mg "Population" cs.CP f ∧ Binds K fd ["self", "other"] [] ∧ FnOk P w K mg base CX0 3 f fd ["self", "other"] (spEq (REqP K cs))
theorem rd_pops (D : EqPop X.prog X.w X.K X.mg X.base cs) (hr : Room 3 X.A) (pe : PEq S T) (ha : PE X a (fun σ H Q => (∃ Hb H0, EnvOk X.K Hb H0 H σ Γ) ∧ ∀ v H', Same H H' → PopV X.K cs S H' v → Q v H')) (hb : PE X b (fun σ H Q => (∃ Hb H0, EnvOk X.K Hb H0 H σ Γ) ∧ ∀ v H', Same H H' → PopV X.K cs T H' v → Q v H')) :
    XE X (.Compare a [.Eq] [b] pos) Γ (.bool true) := by
  obtain ⟨f, fd, EK, bi, F⟩ := D
  refine pe_imp (pe_cmpR (op_eqG (rcG_ins (E := fun _ _ _ => False) F EK.hs EK.hf bi pass0) hr) ha hb (nomark _)) fun σ H Q ⟨⟨Hb, H0, E⟩, q⟩ => ⟨⟨Hb, H0, E⟩, fun v H1 s1 P1 => ⟨⟨Hb, H0, E.mono s1⟩, fun u H2 s2 P2 => ?_⟩⟩
  obtain ⟨p1, rfl, Q1⟩ := P1.mono s2
  obtain ⟨p2, rfl, Q2⟩ := P2
  obtain ⟨dx, dm, vt, vv, kvs, e1, r1⟩ := id Q1
  obtain ⟨dx', dm', vt', vv', kvs', e2, r2⟩ := id Q2
  exact ⟨⟨p1, p2, dx, dx', _, _, rfl, rfl, e1, e2, S, T, Q1, Q2, pe⟩, fun H' ex => q (.bl true) H' ((s1.trans s2).trans ex) (.bl true)⟩
end
section
variable {P : Program} {w : World} {K : PySem.W.Frag} {mg : Str → Option Value} {base : Heap} {cs : Cs}
/-! _law_page -/
abbrev sPage : Stmt := topS 54
def pPage (ds : List PyData) (r : PyData) : Prop := ds = [] ∧ r = .tuple [dExs trF, dExs vaF]
theorem sc_page : FnScope ["_law_training"] [] (defScope sPage) := ⟨rfl, rfl, rfl, by decide +kernel, rfl, by decide +kernel, by decide +kernel⟩
theorem ok_page (R : RawD K mg "_law_page" sPage) : Def P w K mg base "_law_page" 1 [] (spR K 0 pPage) := by
  refine def_pure R sc_page rfl (fun _ _ _ _ _ _ us hl => match us, hl with | [], _ => rfl) fun f cdv A outer s H E ds r hr hp hl => ?_
  obtain ⟨rfl, rfl⟩ := hp
  refine xss_cons (xs_set 0 (d := .tuple [.tuple [.tuple [.int 2, .int 1], .int 1], .tuple [.tuple [.int 1, .int 3], .int (-1)], .tuple [.tuple [.int (-1), .int 2], .int (-1)]]) (xe_tup (xa_cons (xe_tup (xa_cons (xe_tup (xa_cons xe_int (xa_cons xe_int xa_nil)) (Nat.le_of_ble_eq_true rfl)) (xa_cons xe_int xa_nil)) (Nat.le_of_ble_eq_true rfl)) (xa_cons (xe_tup (xa_cons (xe_tup (xa_cons xe_int (xa_cons xe_int xa_nil)) (Nat.le_of_ble_eq_true rfl)) (xa_cons (xe_neg xe_int) xa_nil)) (Nat.le_of_ble_eq_true rfl)) (xa_cons (xe_tup (xa_cons (xe_tup (xa_cons (xe_neg xe_int) (xa_cons xe_int xa_nil)) (Nat.le_of_ble_eq_true rfl)) (xa_cons (xe_neg xe_int) xa_nil)) (Nat.le_of_ble_eq_true rfl)) xa_nil))) (Nat.le_of_ble_eq_true rfl)) ?_ sc_page.nd)
  refine xss_one (xs_ret (xe_tup (xa_cons (xe_var 0 rfl) (xa_cons (d := .tuple [.tuple [.tuple [.int 1, .int 0], .int 1], .tuple [.tuple [.int 0, .int 1], .int (-1)], .tuple [.tuple [.int 1, .int 1], .int 1], .tuple [.tuple [.int 1, .int 2], .int (-1)]]) (xe_tup (xa_cons (xe_tup (xa_cons (xe_tup (xa_cons xe_int (xa_cons xe_int xa_nil)) (Nat.le_of_ble_eq_true rfl)) (xa_cons xe_int xa_nil)) (Nat.le_of_ble_eq_true rfl)) (xa_cons (xe_tup (xa_cons (xe_tup (xa_cons xe_int (xa_cons xe_int xa_nil)) (Nat.le_of_ble_eq_true rfl)) (xa_cons (xe_neg xe_int) xa_nil)) (Nat.le_of_ble_eq_true rfl)) (xa_cons (xe_tup (xa_cons (xe_tup (xa_cons xe_int (xa_cons xe_int xa_nil)) (Nat.le_of_ble_eq_true rfl)) (xa_cons xe_int xa_nil)) (Nat.le_of_ble_eq_true rfl)) (xa_cons (xe_tup (xa_cons (xe_tup (xa_cons xe_int (xa_cons xe_int xa_nil)) (Nat.le_of_ble_eq_true rfl)) (xa_cons (xe_neg xe_int) xa_nil)) (Nat.le_of_ble_eq_true rfl)) xa_nil)))) (Nat.le_of_ble_eq_true rfl)) xa_nil)) two_le) ?_)
  rfl
end
end TC
namespace TC
open PySem L2
section
variable {X : Cx} {Γ : G} {a b : Expr} {p pos : Pos}
theorem xe_callEx {L O : List Deed} (D : Def X.prog X.w X.K X.mg X.base "exchanges" 4 ["deeds", "others"] (spEx X.K)) (hr : Room 4 X.A) (ha : XN X a Γ (dDeeds L)) (hb : XE X b Γ (dDeeds O)) (hl : L.length = O.length) (hz : L.length ≤ 100) (ok : exOk L O = true) (hg : Gl X "exchanges" := by rfl)
    (he : starEach [a, b] X.env = (false, eval a X.env) :: starEach [b] X.env := by rfl) (he2 : starEach [b] X.env = (false, eval b X.env) :: starEach [] X.env := by rfl) (hpl : (backTo pos (starEach [b] X.env)).any (·.1) = false := by rfl) : XE X (.Call (.Name "exchanges" p) [a, b] [] pos) Γ (dInts (exP L O O.length).2) := by
  obtain ⟨f, fd, g1, g2, g3, g4⟩ := D
  refine pe_imp (pe_call (E := fun _ _ _ => False) g4 hr hg g1 g2 g3 .nil pass0 (pa_cons ha (pa_cons hb pa_nil he2) he) (by decide) he hpl) fun σ H Q ⟨⟨Hb, H0, E⟩, q⟩ => ⟨⟨Hb, H0, E⟩, fun v1 H1 s1 q1 => ⟨⟨Hb, H0, E.mono s1⟩, fun v2 H2 s2 q2 => ?_⟩⟩
  show spEx X.K ([v1, v2] ++ []) H2 Q (fun _ _ _ => False)
  exact ⟨L, O, v1, v2, rfl, ⟨dp_mono s2 _ _ q1.1, q1.2.mono s2⟩, q2, hl, hz, ok, fun v H3 s3 q3 => q v H3 ((s1.trans s2).trans s3) q3⟩
end
section
variable {P : Program} {w : World} {K : PySem.W.Frag} {mg : Str → Option Value} {base : Heap} {cs : Cs}
/-! _law_fixed -/
abbrev sFix : Stmt := topS 56
def pFix (ds : List PyData) (r : PyData) : Prop := ds = [] ∧ r = .bool true
theorem sc_fix : FnScope ["_law_training", "_law_validation", "_law_deeds_here", "_law_others", "_law_told", "_law_one", "_law_other"] [] (defScope sFix) := ⟨rfl, rfl, rfl, by decide +kernel, rfl, by decide +kernel, by decide +kernel⟩
def toldF1 : PyData := .tuple ((outsM (newPop trF vaF) fixL).map dOut)
def toldF2 : PyData := .tuple ((outsM (newPop trF vaF) fixO).map dOut)
theorem toldF1_eq : toldF1 = .tuple [.tuple [.bool true, .int 1], .tuple [.bool true, .int 1], .tuple [.bool true, .int 3], .tuple [.bool true, .int 0], .tuple [.bool true, .int 0], .tuple [.bool true, .int 3]] := by
  unfold toldF1
  rw [outsF1]
  rfl
theorem toldF2_eq : toldF2 = .tuple [.tuple [.bool true, .int 1], .tuple [.bool true, .int 0], .tuple [.bool true, .int 1], .tuple [.bool true, .int 3], .tuple [.bool true, .int 0], .tuple [.bool true, .int 3]] := by
  unfold toldF2
  rw [outsF2]
  rfl
theorem seF1 : SelfEq toldF1 := outs_self (outs_ok (newPop_ok exsF1 exsF2) (newPop_inc _ _) (by decide) deedsF1)
theorem seF2 : SelfEq toldF2 := outs_self (outs_ok (newPop_ok exsF1 exsF2) (newPop_inc _ _) (by decide) deedsF2)
theorem ok_fix (R : RawD K mg "_law_fixed" sFix) (B : Bi mg) (D1 : Def P w K mg base "_law_page" 1 [] (spR K 0 pPage)) (D2 : Def P w K mg base "outcomes" 10 ["training", "validation", "deeds"] (spR K 3 pOuts)) (D3 : Def P w K mg base "exchanges" 4 ["deeds", "others"] (spEx K)) (D4 : Def P w K mg base "after" 10 ["training", "validation", "deeds"] (spAft K cs)) (D5 : EqPop P w K mg base cs) :
    Def P w K mg base "_law_fixed" 11 [] (spR K 0 pFix) := by
  refine def_pure R sc_fix rfl (fun _ _ _ _ _ _ us hl => match us, hl with | [], _ => rfl) fun f cdv A outer s H E ds r hr hp hl => ?_
  obtain ⟨rfl, rfl⟩ := hp
  have hu := hr.units
  refine xss_cons (xs_asg (.tp [0, 1]) (xd_call0 D1 (hr.mono (by decide)) ⟨rfl, rfl⟩) (pg_tup rfl (pgs_cons (pg_name (i := 0) sc_fix.nd rfl (Or.inl rfl)) (pgs_cons (pg_name (i := 1) sc_fix.nd rfl (Or.inl rfl)) pgs_nil))) ⟨_, rfl, ?_⟩)
  refine xss_cons (xs_setN (d := dDeeds fixL) 2 (xn_eq (xn_tup (xa_cons (xe_tup (xa_cons xe_str (xa_cons xe_int (xa_cons xe_int (xa_cons xe_int (xa_cons xe_int xa_nil))))) (Nat.le_of_ble_eq_true rfl)) (xa_cons (xe_tup (xa_cons xe_str (xa_cons xe_int (xa_cons xe_int (xa_cons xe_int (xa_cons xe_int xa_nil))))) (Nat.le_of_ble_eq_true rfl)) (xa_cons (xe_tup (xa_cons xe_str (xa_cons xe_int (xa_cons xe_int (xa_cons xe_int xa_nil)))) (Nat.le_of_ble_eq_true rfl)) (xa_cons (xe_tup (xa_cons xe_str (xa_cons xe_int (xa_cons xe_int xa_nil))) (Nat.le_of_ble_eq_true rfl)) (xa_cons (xe_tup (xa_cons xe_str (xa_cons xe_int (xa_cons xe_int xa_nil))) (Nat.le_of_ble_eq_true rfl)) (xa_cons (xe_tup (xa_cons xe_str (xa_cons xe_int (xa_cons xe_int (xa_cons xe_int (xa_cons xe_int (xa_cons xe_int (xa_cons xe_int xa_nil))))))) (Nat.le_of_ble_eq_true rfl)) xa_nil)))))) (Nat.le_of_ble_eq_true rfl)) rfl) (pureAll_map pureDeed fixL) rfl ?_ sc_fix.nd)
  refine xss_cons (xs_set 3 (d := dDeeds fixO) (xe_eq (xe_tup (xa_cons (xe_tup (xa_cons xe_str (xa_cons xe_int (xa_cons xe_int (xa_cons xe_int (xa_cons xe_int xa_nil))))) (Nat.le_of_ble_eq_true rfl)) (xa_cons (xe_tup (xa_cons xe_str (xa_cons xe_int (xa_cons xe_int xa_nil))) (Nat.le_of_ble_eq_true rfl)) (xa_cons (xe_tup (xa_cons xe_str (xa_cons xe_int (xa_cons xe_int (xa_cons xe_int (xa_cons xe_int xa_nil))))) (Nat.le_of_ble_eq_true rfl)) (xa_cons (xe_tup (xa_cons xe_str (xa_cons xe_int (xa_cons xe_int (xa_cons xe_int xa_nil)))) (Nat.le_of_ble_eq_true rfl)) (xa_cons (xe_tup (xa_cons xe_str (xa_cons xe_int (xa_cons xe_int xa_nil))) (Nat.le_of_ble_eq_true rfl)) (xa_cons (xe_tup (xa_cons xe_str (xa_cons xe_int (xa_cons xe_int (xa_cons xe_int (xa_cons xe_int (xa_cons xe_int (xa_cons xe_int xa_nil))))))) (Nat.le_of_ble_eq_true rfl)) xa_nil)))))) (Nat.le_of_ble_eq_true rfl)) rfl) ?_ sc_fix.nd)
  refine xss_cons (xs_set 4 (d := toldF1) (xd_call D2 hr (xa_cons (xe_var 0 rfl) (xa_cons (xe_var 1 rfl) (xa_cons (xe_ofN (xn_var 2 rfl (fun _ _ h => h))) xa_nil))) ⟨2, trF, vaF, fixL, rfl, exsF1, exsF2, deedsF1, by decide, rfl⟩) ?_ sc_fix.nd)
  refine xss_cons (xs_ifF (k := false) (xt_w (xw_or (k := false) (l := false) (xt_eq (xt_neD hu (xe_var 4 rfl) (xe_eq (xe_tup (xa_cons (xe_tup (xa_cons xe_bl (xa_cons xe_int xa_nil)) (Nat.le_of_ble_eq_true rfl)) (xa_cons (xe_tup (xa_cons xe_bl (xa_cons xe_int xa_nil)) (Nat.le_of_ble_eq_true rfl)) (xa_cons (xe_tup (xa_cons xe_bl (xa_cons xe_int xa_nil)) (Nat.le_of_ble_eq_true rfl)) (xa_cons (xe_tup (xa_cons xe_bl (xa_cons xe_int xa_nil)) (Nat.le_of_ble_eq_true rfl)) (xa_cons (xe_tup (xa_cons xe_bl (xa_cons xe_int xa_nil)) (Nat.le_of_ble_eq_true rfl)) (xa_cons (xe_tup (xa_cons xe_bl (xa_cons xe_int xa_nil)) (Nat.le_of_ble_eq_true rfl)) xa_nil)))))) (Nat.le_of_ble_eq_true rfl)) toldF1_eq.symm) seF1.sh seF1.sh) (by rw [seF1.eq]; rfl)) (fun _ => xw_or1 (xt_eq (xt_neS (xe_lenT B.len (xe_callEx D3 (hr.mono (by decide)) (xn_var 2 rfl (fun _ _ h => h)) (xe_var 3 rfl) rfl (by decide) exOkF)) xe_int rfl) ?_)))) rfl (xss_nil ?_))
  · rw [List.length_map, exLenF]
    rfl
  refine xss_cons (xs_setRv 5 (xr_popV (xr_after D4 hr (xe_var 0 rfl) (xe_var 1 rfl) (xe_ofN (xn_var 2 rfl (fun _ _ h => h))) exsF1 exsF2 deedsF1 (by decide))) (fun _ _ _ h s => h.mono s) rfl ?_ sc_fix.nd)
  refine xss_cons (xs_setRv 6 (xr_popV (xr_after D4 hr (xe_var 0 rfl) (xe_var 1 rfl) (xe_var 3 rfl) exsF1 exsF2 deedsF2 (by decide))) (fun _ _ _ h s => h.mono s) rfl ?_ sc_fix.nd)
  refine xss_one (xs_ret (xe_and (k := true) (l := true) (rd_pops D5 (hr.mono (by decide)) peqF (pv_pop 5 rfl) (pv_pop 6 rfl)) (fun _ => xe_one (xe_same hu seF2 (xd_call D2 hr (xa_cons (xe_var 0 rfl) (xa_cons (xe_var 1 rfl) (xa_cons (xe_var 3 rfl) xa_nil))) ⟨2, trF, vaF, fixO, rfl, exsF1, exsF2, deedsF2, by decide, rfl⟩) (xe_eq (xe_tup (xa_cons (xe_tup (xa_cons xe_bl (xa_cons xe_int xa_nil)) (Nat.le_of_ble_eq_true rfl)) (xa_cons (xe_tup (xa_cons xe_bl (xa_cons xe_int xa_nil)) (Nat.le_of_ble_eq_true rfl)) (xa_cons (xe_tup (xa_cons xe_bl (xa_cons xe_int xa_nil)) (Nat.le_of_ble_eq_true rfl)) (xa_cons (xe_tup (xa_cons xe_bl (xa_cons xe_int xa_nil)) (Nat.le_of_ble_eq_true rfl)) (xa_cons (xe_tup (xa_cons xe_bl (xa_cons xe_int xa_nil)) (Nat.le_of_ble_eq_true rfl)) (xa_cons (xe_tup (xa_cons xe_bl (xa_cons xe_int xa_nil)) (Nat.le_of_ble_eq_true rfl)) xa_nil)))))) (Nat.le_of_ble_eq_true rfl)) toldF2_eq.symm)))) rfl)
end
end TC
namespace TC
open PySem L2
/-! ### a list that nobody sees while an expression runs -/
def tHide (te : TE) : TE := fun σ H Q => ∃ D acc, H D = some (.lst acc) ∧ ∀ φ, te σ (upd H D (.ext φ)) fun v H2 => H2 D = some (.ext φ) ∧ Q v (upd H2 D (.lst acc))
theorem pe_hide {X : Cx} {e : Expr} {te : TE} (h : PE X e te) : PE X e (tHide te) := ⟨fun pins s σ H Q I ⟨D, acc, hD, k⟩ => by
  obtain ⟨z, its, n, r, g⟩ := (show ObjOk X.prog X.w H s.heap D (.lst acc) from I.hok D _ hD)
  have I1 : Inv X pins σ (upd H D (.ext fun hp => hp.get? D = some { cls := .type "list", data := .seq its.toArray n })) s := I.write (x := D) (e := D) (t' := s.toks) (h' := s.heap) (by rw [hD]; exact True.intro) (.inl rfl) (fun _ _ _ q => q) ⟨_, g⟩ ⟨g, ⟨_, g⟩, fun h1 h2 e1 e2 => e2 _ e1⟩
  refine wpAny_mono (h.run pins s σ _ _ I1 (k _)) (fun v s2 ⟨y, H2, I2, ry, e2, q⟩ => ?_) fun _ _ q => q
  obtain ⟨g2, _⟩ := I2.hok D _ e2
  exact ⟨y, _, I2.write (o := .lst acc) (x := D) (e := D) (t' := s2.toks) (h' := s2.heap) (by rw [e2]; exact True.intro) (.inl rfl) (fun _ _ _ q => q) ⟨_, g2⟩ ⟨z, its, n, r, g2⟩, ry, q⟩⟩
def hide (D : Addr) (H : Hp) : Hp := fun b => if b = D then none else H b
theorem hide_ne {D b : Addr} {H : Hp} (h : b ≠ D) : hide D H b = H b := if_neg h
theorem hide_up (D : Addr) (H : Hp) (o : HO) : hide D (upd H D o) = hide D H := by
  funext b
  unfold hide
  by_cases h : b = D
  · rw [if_pos h, if_pos h]
  · rw [if_neg h, if_neg h, upd_ne h]
theorem hide_sub {D : Addr} {H : Hp} {o : HO} : Same (hide D H) (upd H D o) := fun b x e => by
  unfold hide at e
  by_cases h : b = D
  · rw [if_pos h] at e
    cases e
  · rw [if_neg h] at e
    rw [upd_ne h]
    exact e
theorem hide_mono {D : Addr} {H H' : Hp} (s : Same H H') : Same (hide D H) (hide D H') := fun b x e => by
  unfold hide at e ⊢
  by_cases h : b = D
  · rw [if_pos h] at e
    cases e
  · rw [if_neg h] at e ⊢
    exact s _ _ e
theorem hide_from {D : Addr} {H H' : Hp} (n : H D = none) (s : Same H H') : Same H (hide D H') := fun b x e => by
  rw [hide_ne (ne_of_none e n)]
  exact s _ _ e
/-! an ext object is no part of any data -/
section
variable {K : PySem.W.Frag} {D : Addr} {H : Hp} {φ : Heap → Prop}
theorem seqT_hide (hD : H D = some (.ext φ)) {a : Addr} {xs : List V} (h : SqT K H a xs) : SqT K (hide D H) a xs := by
  have key : ∀ o, H a = some o → o ≠ .ext φ → hide D H a = some o := fun o e ne => by
    rw [hide_ne (fun z => by rw [z, hD] at e; exact ne (Option.some.inj e).symm)]
    exact e
  obtain (h | ⟨o, h⟩) | h := h
  · exact .inl (.inl (key _ h (fun z => nomatch z)))
  · exact .inl (.inr ⟨o, key _ h (fun z => nomatch z)⟩)
  · exact .inr h
theorem seqL_hide (hD : H D = some (.ext φ)) {a : Addr} {xs : List V} (h : SqL K H a xs) : SqL K (hide D H) a xs := by
  have key : ∀ o, H a = some o → o ≠ .ext φ → hide D H a = some o := fun o e ne => by
    rw [hide_ne (fun z => by rw [z, hD] at e; exact ne (Option.some.inj e).symm)]
    exact e
  obtain (h | ⟨o, h⟩) | h := h
  · exact .inl (.inl (key _ h (fun z => nomatch z)))
  · exact .inl (.inr ⟨o, key _ h (fun z => nomatch z)⟩)
  · exact .inr h
mutual
theorem dp_hide (hD : H D = some (.ext φ)) : ∀ (d : PyData) (v : V), Dp K H v d → Dp K (hide D H) v d
  | .none, _, h => by cases h; exact .non
  | .bool b, _, h => by cases h; exact .bl b
  | .int i, _, h => by cases h; exact .int i
  | .str x, _, h => by cases h; exact .str x
  | .list ds, _, h => by
    cases h with
    | lst hs ha => exact .lst (seqL_hide hD hs) (dpAll_hide hD ds _ ha)
  | .tuple ds, _, h => by
    cases h with
    | tup hs ha => exact .tup (seqT_hide hD hs) (dpAll_hide hD ds _ ha)
  | .dict _, _, h => by cases h
theorem dpAll_hide (hD : H D = some (.ext φ)) : ∀ (ds : List PyData) (vs : List V), DpAll K H vs ds → DpAll K (hide D H) vs ds
  | [], _, h => by cases h; exact .nil
  | d :: ds, _, h => by
    cases h with
    | cons h1 h2 => exact .cons (dp_hide hD d _ h1) (dpAll_hide hD ds _ h2)
end
theorem fldsL_hide (hD : H D = some (.ext φ)) : ∀ {vs : List (Str × V)} {fs : List (Str × PyData)}, FldsL K H vs fs → FldsL K (hide D H) vs fs
  | [], [], _ => trivial
  | (x, v) :: vs, (y, d) :: fs, h => ⟨h.1, dp_hide hD d v h.2.1, fldsL_hide hD h.2.2⟩
  | [], _ :: _, h => h.elim
  | _ :: _, [], h => h.elim
theorem dk_hide (hD : H D = some (.ext φ)) {a : Addr} {kvs : List (Key × V)} (h : H a = some (.dK kvs)) : hide D H a = some (.dK kvs) := by
  rw [hide_ne (fun z => by rw [z, hD] at h; cases h)]
  exact h
theorem mems_hide (hD : H D = some (.ext φ)) : ∀ {es : List (Int × Addr)} {ms : List (Int × LMem)}, LMems K H es ms → LMems K (hide D H) es ms
  | [], [], _ => trivial
  | _ :: _, _ :: _, h => by
    obtain ⟨h1, ⟨vs, e1, e2⟩, h3⟩ := h
    exact ⟨h1, ⟨vs, dk_hide hD e1, fldsL_hide hD e2⟩, mems_hide hD h3⟩
  | [], _ :: _, h => h.elim
  | _ :: _, [], h => h.elim
theorem modE_hide (hD : H D = some (.ext φ)) {p t : Addr} {es : List (Int × Addr)} {S : LMod} (M : ModE K H p t es S) : ModE K (hide D H) p t es S := ⟨dk_hide hD M.top, dk_hide hD M.tri, mems_hide hD M.mem, M.nd⟩
end
/-! data behind a change of dicts -/
theorem seqT_offD {K : PySem.W.Frag} {H H' : Hp} (k : OffD H H') {a : Addr} {xs : List V} (h : SqT K H a xs) : SqT K H' a xs := by
  obtain (h | ⟨o, h⟩) | h := h
  · exact .inl (.inl (k _ _ (fun _ z => nomatch z) h))
  · exact .inl (.inr ⟨o, k _ _ (fun _ z => nomatch z) h⟩)
  · exact .inr h
theorem seqL_offD {K : PySem.W.Frag} {H H' : Hp} (k : OffD H H') {a : Addr} {xs : List V} (h : SqL K H a xs) : SqL K H' a xs := by
  obtain (h | ⟨o, h⟩) | h := h
  · exact .inl (.inl (k _ _ (fun _ z => nomatch z) h))
  · exact .inl (.inr ⟨o, k _ _ (fun _ z => nomatch z) h⟩)
  · exact .inr h
mutual
theorem dp_offD {K : PySem.W.Frag} {H H' : Hp} (k : OffD H H') : ∀ (d : PyData) (v : V), Dp K H v d → Dp K H' v d
  | .none, _, h => by cases h; exact .non
  | .bool b, _, h => by cases h; exact .bl b
  | .int i, _, h => by cases h; exact .int i
  | .str x, _, h => by cases h; exact .str x
  | .list ds, _, h => by
    cases h with
    | lst hs ha => exact .lst (seqL_offD k hs) (dpAll_offD k ds _ ha)
  | .tuple ds, _, h => by
    cases h with
    | tup hs ha => exact .tup (seqT_offD k hs) (dpAll_offD k ds _ ha)
  | .dict _, _, h => by cases h
theorem dpAll_offD {K : PySem.W.Frag} {H H' : Hp} (k : OffD H H') : ∀ (ds : List PyData) (vs : List V), DpAll K H vs ds → DpAll K H' vs ds
  | [], _, h => by cases h; exact .nil
  | d :: ds, _, h => by
    cases h with
    | cons h1 h2 => exact .cons (dp_offD k d _ h1) (dpAll_offD k ds _ h2)
end
/-- what is known behind it -/
def keepD : SV → SV
  | .c d => .c d
  | .b d => .c d
  | _ => .n
theorem EnvOk.offD {K : PySem.W.Frag} {Hb : Bs} {H0 H H' : Hp} {σ : St} {Γ : G} (E : EnvOk K Hb H0 H σ Γ) (k : OffD H H') (o : Off Hb.l Hb.h H') : EnvOk K Hb H' H' σ (Γ.map keepD) := by
  refine ⟨o, Same.refl _, by rw [List.length_map]; exact E.ln, fun i g hg => ?_⟩
  rw [List.getElem?_map] at hg
  cases q : Γ[i]? with
  | none => rw [q] at hg; cases hg
  | some g0 =>
    rw [q] at hg
    cases hg
    obtain ⟨ov, h1, h2⟩ := E.sl i g0 q
    refine ⟨ov, h1, ?_⟩
    cases g0 with
    | c d => obtain ⟨v, e, z⟩ := h2; exact ⟨v, e, dp_offD k d v z⟩
    | b d => obtain ⟨v, e, z⟩ := h2; exact ⟨v, e, dp_offD k d v (dp_mono E.s0 d v z)⟩
    | o ds => trivial
    | w C fs => trivial
    | x F => trivial
    | n => trivial
end TC
namespace TC
open PySem L2
/-! ### the law's model stays small -/
structure LMk (B : Nat) (m : LMem) : Prop where
  s1 : m.steps.length ≤ 4 * B
  s2 : m.hsteps.length ≤ 4 * B
  s3 : m.saves.length ≤ B
  s4 : ∀ q, some q ∈ m.saves → q.2.length ≤ 4 * B
  r1 : RateOk m.set.1
  r2 : RateOk m.hset.1
  r3 : ∀ s ∈ m.steps, RateOk s.1
  r4 : ∀ s ∈ m.hsteps, RateOk s.1
  r5 : ∀ q, some q ∈ m.saves → ∀ s ∈ q.2, RateOk s.1
theorem LMk.up {B : Nat} {m : LMem} (h : LMk B m) : LMk (B + 1) m := ⟨by have := h.s1; omega, by have := h.s2; omega, by have := h.s3; omega, fun q hq => by have := h.s4 q hq; omega, h.r1, h.r2, h.r3, h.r4, h.r5⟩
structure LInv (B : Nat) (S : LMod) : Prop where
  nd : (S.mem.map (·.1)).Nodup
  ml : S.mem.length ≤ B
  ok : ∀ p ∈ S.mem, LMk B p.2
theorem LInv.up {B : Nat} {S : LMod} (h : LInv B S) : LInv (B + 1) S := ⟨h.nd, by have := h.ml; omega, fun p hp => (h.ok p hp).up⟩
theorem LInv.keep {B : Nat} {S : LMod} {t : Int} {m : LMem} (h : LInv B S) (hm : LMk (B + 1) m) : LInv (B + 1) (S.keep t m) := ⟨putM_nodup t m h.nd, by
    have := putM_len (t := t) (m := m) (l := S.mem)
    have h2 := h.ml
    show (putM t m S.mem).length ≤ B + 1
    omega, fun p hp => by
    rcases putM_in hp with e | e
    · rw [e]
      exact hm
    · exact (h.ok p e).up⟩
theorem LInv.look {B : Nat} {S : LMod} {t : Int} {m : LMem} (h : LInv B S) (e : lookM S.mem t = some m) : LMk B m := h.ok _ (lookM_in e)
theorem lrun_look {S : LMod} {t : Int} {m : LMem} (h : lrunM S t = .ok m) : lookM S.mem t = some m := by
  unfold lrunM at h
  cases q : lookM S.mem t with
  | none => rw [q] at h; cases h
  | some x =>
    rw [q] at h
    dsimp only at h
    split at h
    · cases h
    · cases h
      rfl
theorem lpres_look {S : LMod} {t i : Int} {m : LMem} (h : lpresM S t i = .ok m) : lookM S.mem t = some m := by
  unfold lpresM at h
  cases q : lrunM S t with
  | error s => rw [q] at h; cases h
  | ok x =>
    rw [q] at h
    dsimp only at h
    split at h
    · cases h
      exact lrun_look q
    · cases h
theorem ldo_inv {tr va : List Ex} {n B : Nat} {S : LMod} {d : Deed} (h : LInv B S) (dk : DeedOk d) : LInv (B + 1) (ldo tr va n S d).1 := by
  have k := dk.ok
  cases d with
  | found t s r m =>
    simp only [ldo]
    cases q : lookM S.mem t with
    | some x => exact h.up
    | none =>
      have so : RateOk r := by show -1000 ≤ r ∧ r ≤ 1000; dsimp only at k; omega
      exact h.keep ⟨Nat.zero_le _, Nat.zero_le _, Nat.zero_le _, fun q hq => (List.not_mem_nil hq).elim, so, so, fun s hs => (List.not_mem_nil hs).elim, fun s hs => (List.not_mem_nil hs).elim, fun q hq => (List.not_mem_nil hq).elim⟩
  | train t i k0 =>
    simp only [ldo]
    cases q : lpresM S t i with
    | error s => exact h.up
    | ok m =>
      have mo := h.look (lpres_look q)
      dsimp only at k
      have z := LInv.keep (t := t) (m := { m with steps := m.steps ++ List.replicate k0.toNat m.set }) h ⟨by
        have := mo.s1
        show (m.steps ++ _).length ≤ _
        rw [List.length_append]
        rw [List.length_replicate]
        omega, mo.up.s2, mo.up.s3, mo.up.s4, mo.r1, mo.r2, fun s hs => by
        rcases List.mem_append.mp hs with e | e
        · exact mo.r3 s e
        · rw [(List.mem_replicate.mp e).2]
          exact mo.r1, mo.r4, mo.r5⟩
      exact ⟨z.nd, z.ml, z.ok⟩
  | save t i =>
    simp only [ldo]
    cases q : lpresM S t i with
    | error s => exact h.up
    | ok m =>
      have mo := h.look (lpres_look q)
      have mu := mo.up
      exact h.keep ⟨mu.s1, mu.s1, by
        have := mo.s3
        show (m.saves ++ [_]).length ≤ _
        rw [List.length_append]
        simp
        omega, fun w hw => by
        rcases List.mem_append.mp hw with e | e
        · exact mu.s4 w e
        · rw [List.mem_singleton] at e
          cases e
          exact mu.s1, mo.r1, mo.r1, mo.r3, mo.r3, fun w hw => by
        rcases List.mem_append.mp hw with e | e
        · exact mo.r5 w e
        · rw [List.mem_singleton] at e
          cases e
          exact mo.r3⟩
  | crash t =>
    simp only [ldo]
    cases q : lrunM S t with
    | error s => exact h.up
    | ok m =>
      have mo := (h.look (lrun_look q)).up
      exact h.keep ⟨mo.s2, mo.s2, mo.s3, mo.s4, mo.r2, mo.r2, mo.r4, mo.r4, mo.r5⟩
  | evaluate t i =>
    simp only [ldo]
    cases q : lpresM S t i with
    | error s => exact h.up
    | ok m =>
      have mo := (h.look (lpres_look q)).up
      exact h.keep ⟨mo.s1, mo.s2, mo.s3, mo.s4, mo.r1, mo.r2, mo.r3, mo.r4, mo.r5⟩
  | copy t i dn x r g =>
    simp only [ldo]
    cases q : lpresM S t i with
    | error s => exact h.up
    | ok m =>
      dsimp only
      cases q2 : lsavedM S dn x with
      | error s => exact h.up
      | ok w =>
        obtain ⟨m2, w2, e1, e2, _, e4, e5⟩ := lf_saved (S := S) (t := dn) (x := x) (by rw [q2]; rfl)
        rw [q2] at e2
        cases e2
        have mo := (h.look (lpres_look q)).up
        have m2o := (h.look e1).up
        have hin : some w ∈ m2.saves := by
          rw [← e5]
          exact getD_in (by omega)
        have so : RateOk r := by show -1000 ≤ r ∧ r ≤ 1000; dsimp only at k; omega
        exact h.keep ⟨m2o.s4 w hin, m2o.s4 w hin, mo.s3, mo.s4, so, so, m2o.r5 w hin, m2o.r5 w hin, mo.r5⟩
  | stop t i =>
    simp only [ldo]
    cases q : lpresM S t i with
    | error s => exact h.up
    | ok m =>
      have mo := (h.look (lpres_look q)).up
      exact h.keep ⟨mo.s1, mo.s2, mo.s3, mo.s4, mo.r1, mo.r2, mo.r3, mo.r4, mo.r5⟩
  | drop t x =>
    simp only [ldo]
    cases q : lookM S.mem t with
    | none => exact h.up
    | some m =>
      dsimp only
      cases q2 : lsavedM S t x with
      | error s => exact h.up
      | ok w =>
        dsimp only
        split
        · exact h.up
        · have mo := (h.look q).up
          exact h.keep ⟨mo.s1, mo.s2, by show (m.saves.set _ _).length ≤ _; rw [List.length_set]; exact mo.s3, fun y hy => by
            rcases List.mem_or_eq_of_mem_set hy with e | e
            · exact mo.s4 y e
            · exact (nomatch e), mo.r1, mo.r2, mo.r3, mo.r4, fun y hy => by
            rcases List.mem_or_eq_of_mem_set hy with e | e
            · exact mo.r5 y e
            · exact (nomatch e)⟩
theorem lafter_inv {tr va : List Ex} {n : Nat} : ∀ {ds : List Deed} {B : Nat} {S : LMod}, LInv B S → (∀ d ∈ ds, DeedOk d) → LInv (B + ds.length) (lafter tr va n S ds)
  | [], _, _, h, _ => h
  | d :: ds, B, S, h, dk => by
    have z := lafter_inv (tr := tr) (va := va) (n := n) (ds := ds) (ldo_inv (tr := tr) (va := va) (n := n) h (dk d List.mem_cons_self)) (fun x hx => dk x (List.mem_cons_of_mem _ hx))
    rw [show B + 1 + ds.length = B + (d :: ds).length by rw [List.length_cons]; omega] at z
    exact z
theorem lnew_inv : LInv 0 ⟨[], 0⟩ := ⟨List.nodup_nil, Nat.le_refl _, fun p hp => (List.not_mem_nil hp).elim⟩
theorem lafter_take (tr va : List Ex) (n : Nat) (S : LMod) : ∀ (ds : List Deed) (i : Nat) (d : Deed), ds[i]? = some d → lafter tr va n S (ds.take (i + 1)) = (ldo tr va n (lafter tr va n S (ds.take i)) d).1 := by
  intro ds
  induction ds generalizing S with
  | nil => intro i d h; cases h
  | cons x ds ih =>
    intro i d h
    cases i with
    | zero =>
      cases h
      rfl
    | succ i => exact ih (ldo tr va n S x).1 i d h
theorem louts_get (tr va : List Ex) (n : Nat) (S : LMod) : ∀ (ds : List Deed) (i : Nat) (d : Deed), ds[i]? = some d → (louts tr va n S ds)[i]? = some (ldo tr va n (lafter tr va n S (ds.take i)) d).2 := by
  intro ds
  induction ds generalizing S with
  | nil => intro i d h; cases h
  | cons x ds ih =>
    intro i d h
    cases i with
    | zero =>
      cases h
      rfl
    | succ i => exact ih (ldo tr va n S x).1 i d h
theorem LInv.bd {B : Nat} {S : LMod} (h : LInv B S) (hB : B ≤ 50) : LBd S := ⟨h.nd, by have := h.ml; omega, fun t m e => by
  have := (h.look e).s1
  have := (h.look e).s3
  omega⟩
theorem louts_eq {n : Nat} {tr va : List Ex} {ds : List Deed} (o1 : ExsOk n tr) (o2 : ExsOk n va) (dk : ∀ d ∈ ds, DeedOk d) : louts tr va n ⟨[], 0⟩ ds = outsM (newPop tr va) ds := by
  have := sims (n := n) (ds := ds) (newPop_ok o1 o2) dk (fun p hp => (List.not_mem_nil hp).elim)
  exact this
end TC
namespace TC
open PySem L2
section
variable {X : Cx} {Hb : Bs} {Γ Γ' : G} {N : G → Prop} {R : Rk → G → Prop} {c e : Expr} {es : List Expr} {tb fb : List Stmt} {p pos pos' cpos : Pos} {x : Str} {d1 : PyData} {ds : List PyData}
/-- a test that changes objects -/
theorem xs_ifFx {tt : TT} (hc : PT X c tt) (hf : XSs X Hb fb Γ' N R) (i : ∀ (σ : St) (H H0 : Hp) (Q : Bool → Hp → Prop), EnvOk X.K Hb H0 H σ Γ → (∀ H', KeepT X.K H H' → (∃ H0', EnvOk X.K Hb H0' H' σ Γ') → Q false H') → tt σ H Q) : XS X Hb (.If c tb fb pos) Γ N R :=
  ps_imp (ps_if hc pss_never hf) fun D σ H q => by
    obtain ⟨H0, E⟩ := q.1
    exact i σ H H0 _ E fun H' k ex => iteF (tS_to q k ex)
/-- name = _law_new() -/
theorem xs_new (i : Nat) (D : Def X.prog X.w X.K X.mg X.base "_law_new" 1 [] (spNew X.K)) (hr : Room 1 X.A) (hn : noOwn (Γ.set i .n) = true) (h : ∀ p t, N (((Γ.set i .n).map rebase).set i (.x (ModF X.K p t [] ⟨[], 0⟩)))) (hg : Gl X "_law_new" := by rfl) (hN : X.N.Nodup) (hi : X.N[i]? = some x := by rfl) (hx : Loc X.env.scope x := by first | exact Or.inl rfl | exact Or.inr rfl)
    (hs : swapsWith (.Call (.Name "_law_new" p) [] [] cpos) (some (.Name x pos')) pos.line X.env = pure false := by rfl) (hf : X.fn x = true ∨ X.env.scope.names.lookup x = some .local := by first | exact .inl rfl | exact .inr rfl) : XS X Hb (.Assign [.Name x pos'] (.Call (.Name "_law_new" p) [] [] cpos) pos) Γ N R := by
  obtain ⟨f, fd, g1, g2, g3, g4⟩ := D
  refine ps_imp (ps_set hN hi hx (pe_call0 (E := fun _ _ _ => False) g4 hr hg g1 g2 g3 .nil pass0 (by decide)) hs hf) fun D σ H q => ?_
  obtain ⟨H0, E⟩ := q.1
  refine ⟨rfl, fun p t H1 n1 s1 M => ?_⟩
  exact q.2.1 _ _ H1 H1 (KeepT.of s1) ((((E.forget i).mono s1).rebase hn).store (g := .x (ModF X.K p t [] ⟨[], 0⟩)) ⟨_, rfl, fun H2 s2 => ⟨rfl, M.mono s2⟩⟩) (h p t)
theorem xf_callG {k n : Nat} {ps : List Str} {Pr : List PyData → List PyData → Prop} {rs : List PyData} {fn : Str} (D : DefG X.prog X.w X.K X.mg X.base fn k ps (spF X.K n Pr)) (room : Room k X.A) (gd : X.A.guards = some []) (ha : XA X (e :: es) Γ (d1 :: ds)) (hP : Pr (d1 :: ds) rs) (hn : (d1 :: ds).length = n := by rfl) (hg : Gl X fn := by rfl)
    (hdb : (fn == ("__debug__" : Str)) = false := by decide) (he : starEach (e :: es) X.env = (false, eval e X.env) :: starEach es X.env := by rfl) (hpl : (backTo pos (starEach es X.env)).any (·.1) = false := by rfl) : XF X (.Call (.Name fn p) (e :: es) [] pos) Γ rs := by
  obtain ⟨f, fd, g1, g2, g3, g4⟩ := D
  refine pe_imp (pe_callG g4 room gd hg g1 g2 g3 ha hdb he hpl) fun σ H Q ⟨E, q⟩ => ⟨E, fun vs H1 s1 q1 => ?_⟩
  exact ⟨d1 :: ds, rs, by rw [dpa_length q1]; exact hn, q1, hP, fun p xs H2 n2 s2 e2 q2 => q p xs H2 (s1.free n2) (s1.trans s2) e2 q2⟩
end
end TC
namespace TC
open PySem L2
section
variable {P : Program} {w : World} {K : PySem.W.Frag} {mg : Str → Option Value} {base : Heap} {cs : Cs}
/-! law -/
abbrev sLaw : Stmt := topS 57
def spLaw (K : PySem.W.Frag) : Sp := fun vs H Q _ => ∃ (a : Addr) (ns : List Int), vs = [V.ref a] ∧ SqL K H a (ns.map V.int) ∧ (∀ b kvs, H b ≠ some (.dK kvs)) ∧ ∀ H', Q (.bl true) H'
abbrev nLaw : List Str := ["_law_script", "_law_training", "_law_validation", "_law_deeds_here", "_law_told", "_law_model", "_law_deed_here", "_law_turn", "_law_others", "_law_places"]
theorem sc_law : FnScope nLaw ["_law_script"] (defScope sLaw) := ⟨rfl, rfl, rfl, by decide +kernel, rfl, by decide +kernel, by decide +kernel⟩
def tLDo (K : PySem.W.Frag) : TE := tCall (spLDo K) [] (fun _ _ _ => False) (tCons (tVar 5) (tCons (tVar 6) (tCons (tVar 1) (tCons (tVar 2) tNil))))
/-- the comprehension over the law's model -/
theorem lc_law {n : Nat} {tr va : List Ex} {dl : List Deed} {Γ : G} {Hb : Bs} {H0 H : Hp} {σ : St} {p t : Addr} {Q : VK} (E : EnvOk K Hb H0 H σ Γ) (hln : Γ.length = 10) (h1 : look Γ 1 = some (dExs tr)) (h2 : look Γ 2 = some (dExs va)) (h5 : Γ[5]? = some (.x (ModF K p t [] ⟨[], 0⟩))) (o1 : ExsOk n tr) (o2 : ExsOk n va) (dk : ∀ d ∈ dl, DeedOk d) (hl : dl.length ≤ 15)
    (fin : ∀ D acc H1, OffD H H1 → H1 D = some (.lst acc) → DpAll K H1 acc ((outsM (newPop tr va) dl).map dOut) → Q (.ref D) H1) : tLc (tXI K (KeepT K) Γ (dl.map dDeed)) (gName 6) tYes (tHide (tLDo K)) [6] σ H Q := by
  obtain ⟨ov5, g5, vp, e5, f5⟩ := E.sl 5 _ h5
  obtain ⟨rfl, M0⟩ := f5 H E.s0
  subst e5
  obtain ⟨v1, g1, q1⟩ := E.look h1
  obtain ⟨v2, g2, q2⟩ := E.look h2
  have ln : σ.length = 10 := E.ln.trans hln
  refine lc_eff (fun _ _ _ h => h) 6 List.mem_cons_self (fun i => dOut ((outsM (newPop tr va) dl).getD i (.ok .none))) (fun i => ?_) (by rw [List.length_map]; omega) (fun H' D i H1 => OffD H' H1 ∧ ∃ es, ModE K (hide D H1) p t es (lafter tr va n ⟨[], 0⟩ (dl.take i))) ⟨_, _, E⟩ (fun H' D s2 hD => ?_) (fun H' D i H2 j => j.1.keepT) (fun H' D i H2 H3 j s3 => ⟨j.1.trans (OffD.of_same s3), let ⟨es, M⟩ := j.2; ⟨es, M.mono (hide_mono s3)⟩⟩) ?_ ?_
  · cases q : (outsM (newPop tr va) dl)[i]? with
    | none => rw [List.getD_eq_getElem?_getD, q]; rfl
    | some o =>
      rw [List.getD_eq_getElem?_getD, q]
      have hi : i < dl.length := by
        have := (List.getElem?_eq_some_iff.mp q).1
        rw [outsM_len] at this
        exact this
      rw [outsM_get _ dl i dl[i] (List.getElem?_eq_getElem hi)] at q
      rw [← Option.some.inj q]
      exact pureOut
  · refine ⟨OffD.of_same fun b o z => ?_, [], ?_⟩
    · rw [upd_ne (ne_of_none z hD)]
      exact z
    · rw [hide_up]
      exact M0.mono (s2.trans (hide_from hD (Same.refl _)))
  · rintro H' D i y v H2 s2 hD hy ⟨j1, es, M⟩ hv Qe acc hacc kQ
    rw [List.getElem?_map] at hy
    cases hd : dl[i]? with
    | none => rw [hd] at hy; cases hy
    | some d =>
      rw [hd] at hy
      cases hy
      have inv := lafter_inv (tr := tr) (va := va) (n := n) (ds := dl.take i) lnew_inv (fun d hd => dk d (List.mem_of_mem_take hd))
      have hBl : 0 + (dl.take i).length ≤ 15 := by
        rw [List.length_take]
        omega
      have own : ∀ j, j ≠ 6 → j < 10 → ((L2.wipe σ [6]).set 6 (some v))[j]? = σ[j]? := fun j hj hl => by
        rw [List.getElem?_set_ne (Ne.symm hj), wipe_get, if_neg (by simpa using hj)]
      refine ⟨D, acc, hacc, fun φ => ?_⟩
      have kD : OffD H2 (upd H2 D (.ext φ)) ∨ True := .inr trivial
      have dpx : ∀ (d : PyData) (u : V), pureD d = true → Dp K H2 u d → Dp K (upd H2 D (.ext φ)) u d := fun d u pd q => dp_keep (KeepT.upd hacc) d u pd q
      have kt0 : KeepT K H H2 := (KeepT.of s2).trans j1.keepT
      refine ⟨_, (own 5 (by decide) (by decide)).trans g5, _, List.getElem?_set_self (by rw [wipe_length, ln]; decide), _, (own 1 (by decide) (by decide)).trans g1, _, (own 2 (by decide) (by decide)).trans g2, ?_⟩
      show spLDo K ([V.ref p, v, v1, v2] ++ []) _ _ (fun _ _ _ => False)
      refine ⟨p, t, es, _, n, tr, va, d, v, v1, v2, rfl, M.mono hide_sub, dpx _ _ (pureDeed d) hv, dpx _ _ (pureExs tr) (dp_keep kt0 _ _ (pureExs tr) q1), dpx _ _ (pureExs va) (dp_keep kt0 _ _ (pureExs va) q2), dk d (List.mem_of_getElem? hd), inv.bd (by omega), fun t m e => (inv.look e).r3, o1, o2, fun u H3 es' of3 M3 dq => ?_⟩
      have hx : H3 D = some (.ext φ) := of3 _ _ (fun _ z => nomatch z) upd_same
      refine ⟨hx, ?_⟩
      have er : (outsM (newPop tr va) dl).getD i (.ok .none) = (ldo tr va n (lafter tr va n ⟨[], 0⟩ (dl.take i)) d).2 := by
        rw [← louts_eq o1 o2 dk, List.getD_eq_getElem?_getD, louts_get tr va n _ dl i d hd]
        rfl
      have k3 : KeepT K H2 (upd H3 D (.lst acc)) := fun a xs z => by
        have ne : ∀ o, H2 a = some o → o ≠ .lst acc → a ≠ D := fun o e1 e2 z => by rw [z, hacc] at e1; exact e2 (Option.some.inj e1).symm
        rcases z with (z | ⟨o, z⟩) | z
        · have na := ne _ z (fun z => nomatch z)
          exact .inl (.inl (by rw [upd_ne na]; exact of3 _ _ (fun _ z => nomatch z) (by rw [upd_ne na]; exact z)))
        · have na := ne _ z (fun z => nomatch z)
          exact .inl (.inr ⟨o, by rw [upd_ne na]; exact of3 _ _ (fun _ z => nomatch z) (by rw [upd_ne na]; exact z)⟩)
        · exact .inr z
      have px : pureD (dOut (ldo tr va n (lafter tr va n ⟨[], 0⟩ (dl.take i)) d).2) = true := by
        have z := outsM_get (newPop tr va) dl i d hd
        rw [List.getD_eq_getElem?_getD, z] at er
        have er : (doM (afterM (newPop tr va) (dl.take i)) d).2 = _ := er
        rw [← er]
        exact pureOut
      have kx : KeepT K H3 (upd H3 D (.lst acc)) := fun a xs z => by
        have ne : ∀ o, H3 a = some o → o ≠ .ext φ → a ≠ D := fun o e1 e2 z => by rw [z, hx] at e1; exact e2 (Option.some.inj e1).symm
        rcases z with (z | ⟨o, z⟩) | z
        · exact .inl (.inl (by rw [upd_ne (ne _ z (fun z => nomatch z))]; exact z))
        · exact .inl (.inr ⟨o, by rw [upd_ne (ne _ z (fun z => nomatch z))]; exact z⟩)
        · exact .inr z
      refine kQ u _ k3 (by rw [er]; exact dp_keep kx _ _ px dq) upd_same fun acc' => ⟨fun b o nd hb => ?_, es', ?_⟩
      · have nb : b ≠ D := ne_of_none hb hD
        rw [upd_ne nb, upd_ne nb]
        exact of3 b o nd (by rw [upd_ne nb]; exact j1 b o nd hb)
      · rw [hide_up, hide_up, lafter_take tr va n _ dl i d hd]
        exact modE_hide hx M3
  · rintro H' D acc H2 s2 hD ⟨j1, _⟩ hacc hall
    refine fin D acc H2 ((OffD.of_same s2).trans j1) hacc ?_
    rw [show (outsM (newPop tr va) dl).map dOut = (List.range ((dl.map dDeed)).length).map fun i => dOut ((outsM (newPop tr va) dl).getD i (.ok .none)) from ?_]
    · exact hall
    · apply List.ext_getElem?
      intro j
      rw [List.getElem?_map, List.getElem?_map, List.length_map]
      by_cases hj : j < dl.length
      · have hj2 : j < (outsM (newPop tr va) dl).length := by rw [outsM_len]; exact hj
        rw [List.getElem?_range hj, List.getElem?_eq_getElem hj2]
        show some (dOut (outsM (newPop tr va) dl)[j]) = some (dOut ((outsM (newPop tr va) dl).getD j (.ok .none)))
        rw [List.getD_eq_getElem?_getD, List.getElem?_eq_getElem hj2]
        rfl
      · rw [List.getElem?_eq_none (by rw [outsM_len]; omega), List.getElem?_eq_none (by rw [List.length_range]; omega)]
        rfl
end
end TC
namespace TC
open PySem L2
section
variable {X : Cx} {Γ : G} {a b : Expr} {pos : Pos} {cs : Cs} {S T : PopM}
theorem xt_pops (D : EqPop X.prog X.w X.K X.mg X.base cs) (hr : Room 3 X.A) (pe : PEq S T) (ha : PE X a (fun σ H Q => (∃ Hb H0, EnvOk X.K Hb H0 H σ Γ) ∧ ∀ v H', Same H H' → PopV X.K cs S H' v → Q v H')) (hb : PE X b (fun σ H Q => (∃ Hb H0, EnvOk X.K Hb H0 H σ Γ) ∧ ∀ v H', Same H H' → PopV X.K cs T H' v → Q v H')) :
    XT X (.Compare a [.Eq] [b] pos) Γ true := by
  obtain ⟨f, fd, EK, bi, F⟩ := D
  refine pt_imp (pt_cmpR (op_eqG (rcG_ins (E := fun _ _ _ => False) F EK.hs EK.hf bi pass0) hr) ha hb (nomark _)) fun σ H Q ⟨⟨Hb, H0, E⟩, q⟩ => ⟨⟨Hb, H0, E⟩, fun v H1 s1 P1 => ⟨⟨Hb, H0, E.mono s1⟩, fun u H2 s2 P2 => ?_⟩⟩
  obtain ⟨p1, rfl, Q1⟩ := P1.mono s2
  obtain ⟨p2, rfl, Q2⟩ := P2
  obtain ⟨dx, dm, vt, vv, kvs, e1, r1⟩ := id Q1
  obtain ⟨dx', dm', vt', vv', kvs', e2, r2⟩ := id Q2
  exact ⟨⟨p1, p2, dx, dx', _, _, rfl, rfl, e1, e2, S, T, Q1, Q2, pe⟩, fun H' ex => ⟨true, rfl, q H' ((s1.trans s2).trans ex)⟩⟩
end
section
variable {P : Program} {w : World} {K : PySem.W.Frag} {mg : Str → Option Value} {base : Heap} {cs : Cs}
theorem ok_law (R : RawD K mg "law" sLaw) (B : Bi mg) (D1 : Def P w K mg base "_law_fixed" 11 [] (spR K 0 pFix)) (D2 : Def P w K mg base "_law_ready" 3 ["_law_script", "_law_most"] (spR K 2 pReady)) (D3 : Def P w K mg base "outcomes" 10 ["training", "validation", "deeds"] (spR K 3 pOuts)) (D4 : Def P w K mg base "_law_new" 1 [] (spNew K))
    (D5 : Def P w K mg base "_law_do" 3 ["_law_model", "_law_deed_here", "_law_training", "_law_validation"] (spLDo K)) (D6 : Def P w K mg base "_law_mixed" 3 ["_law_deeds_here", "_law_cell_here", "_law_many"] (spR K 3 pMix)) (D7 : Def P w K mg base "_law_cell" 1 ["_law_script", "_law_k"] (spR K 2 pCell))
    (D8 : DefG P w K mg base "_law_numbered" 1 ["_law_deeds_here", "_law_told"] (spF K 2 pNum)) (D9 : Def P w K mg base "after" 10 ["training", "validation", "deeds"] (spAft K cs)) (D10 : EqPop P w K mg base cs) : DefG P w K mg base "law" 12 ["_law_script"] (spLaw K) := by
  obtain ⟨f, fd, h1, F⟩ := R
  refine ⟨f, fd, h1, F.kp, F.binds (fun _ _ _ _ _ _ us hl => match us, hl with | [_], _ => rfl), fnG_of F sc_law (fun vs H Q E h => ?_) (fun cdv A outer s H vs Q E hr gd h => ?_)⟩
  · obtain ⟨a, ns, rfl, _⟩ := h
    rfl
  · obtain ⟨a, ns, rfl, hS, hnd, k⟩ := h
    refine ⟨tS K (.pu H) (startG 10 [.list (ns.map .int)]) (fun _ => False) (fun q _ => q = .d (.bool true)), ?_, ⟨H, env_start (Hb := .pu H) (N := nLaw) (.cons (.lst hS (dpa_int ns)) .nil)⟩, fun Γ' σ' H' H0 kt e n => n.elim, ⟨fun Γ' σ' v d H' H0 e q z => ?_, fun _ _ _ _ _ _ _ _ _ _ _ z => (nomatch z), fun _ _ _ _ _ _ _ _ _ _ z => (nomatch z), fun _ _ _ _ _ _ _ _ z => (nomatch z), fun _ _ _ _ _ _ _ _ z => (nomatch z)⟩⟩
    · have hu := hr.units
      obtain ⟨tr, htr⟩ : ∃ tr, tr = examplesM (cellM ns 1) (sizeM ns) := ⟨_, rfl⟩
      obtain ⟨va, hva⟩ : ∃ va, va = examplesM (cellM ns 2) (sizeM ns) := ⟨_, rfl⟩
      obtain ⟨dl, hdl⟩ : ∃ dl, dl = deedsM (cellM ns 3) 11 := ⟨_, rfl⟩
      have o1 : ExsOk (sizeM ns) tr := by rw [htr]; exact examples_ok _ (sizeM_ok ns).1 (sizeM_ok ns).2
      have o2 : ExsOk (sizeM ns) va := by rw [hva]; exact examples_ok _ (sizeM_ok ns).1 (sizeM_ok ns).2
      have dk : ∀ d ∈ dl, DeedOk d := by rw [hdl]; exact deeds_ok _ _
      have hl : dl.length ≤ 15 := by rw [hdl]; exact deeds_len _ _
      have oks : ∀ l : List Deed, (∀ d ∈ l, DeedOk d) → l.length ≤ 15 → ∀ o ∈ outsM (newPop tr va) l, OutOk o := fun l h1 h2 => outs_ok (newPop_ok o1 o2) (newPop_inc _ _) (by omega) h1
      have se := outs_self (oks dl dk hl)
      obtain ⟨told, htold⟩ : ∃ told, told = PyData.tuple ((outsM (newPop tr va) dl).map dOut) := ⟨_, rfl⟩
      rw [← htold] at se
      refine xss_cons (xs_ifF (xt_not (xt_val (xd_call0 D1 hr ⟨rfl, rfl⟩))) rfl (xss_nil ?_))
      refine xss_cons (xs_asg (.tp [1, 2, 3]) (d := .tuple [dExs tr, dExs va, dDeeds dl]) (xd_call D2 (hr.mono (by decide)) (xa_cons (xe_var 0 rfl) (xa_cons xe_int xa_nil)) ⟨ns, 11, rfl, by decide, by rw [htr, hva, hdl]⟩) (pg_tup rfl (pgs_cons (pg_name (i := 1) sc_law.nd rfl (Or.inr rfl)) (pgs_cons (pg_name (i := 2) sc_law.nd rfl (Or.inr rfl)) (pgs_cons (pg_name (i := 3) sc_law.nd rfl (Or.inl rfl)) pgs_nil)))) ⟨_, rfl, ?_⟩)
      refine xss_cons (xs_set 4 (d := told) (xd_call D3 (hr.mono (by decide)) (xa_cons (xe_var 1 rfl) (xa_cons (xe_var 2 rfl) (xa_cons (xe_var 3 rfl) xa_nil))) ⟨_, tr, va, dl, rfl, o1, o2, dk, by omega, htold⟩) ?_ sc_law.nd)
      refine xss_cons (xs_new 5 D4 (hr.mono (by decide)) rfl (fun p t => ?_) rfl sc_law.nd)
      obtain ⟨f2, fd2, g1, g2, g3, g4⟩ := D5
      refine xss_cons (xs_ifFx (Γ' := [.c (.list (ns.map .int)), .c (dExs tr), .c (dExs va), .c (dDeeds dl), .c told, .n, .n, .n, .n, .n]) (pt_cmpR (op_neD hu) (xe_var (Γ := [.b (.list (ns.map .int)), .b (dExs tr), .b (dExs va), .b (dDeeds dl), .b told, .x (ModF K p t [] ⟨[], 0⟩), .n, .n, .n, .n]) 4 rfl)
        (pe_tupleOf rfl B.tuple (pe_lc (own := [("_law_deed_here", 6)]) (te := tHide (tLDo K)) rfl sc_law.nd (xi_tup (Γ := [.b (.list (ns.map .int)), .b (dExs tr), .b (dExs va), .b (dDeeds dl), .b told, .x (ModF K p t [] ⟨[], 0⟩), .n, .n, .n, .n]) (xe_var 3 rfl) (pureAll_map pureDeed dl)) (blkOk_by (own := [("_law_deed_here", 6)]) (N := nLaw) (sc := defScope sLaw) (by decide +kernel))
          (fun _ _ _ _ _ => pg_name (i := 6) sc_law.nd rfl (Or.inl rfl)) (fun _ _ _ _ _ => pts_nil) (fun s H C cl fp => pe_hide (pe_call (E := fun _ _ _ => False) g4 (hr.mono (by decide)) rfl g1 g2 g3 .nil pass0 (pa_cons (pv 5) (pa_cons (pv 6) (pa_cons (pv 1) (pa_cons (pv 2) pa_nil)))))))) (nomark _)) (xss_nil ?_) (fun σ H1 H0 Q1 E1 kQ => ?_))
      · refine xss_cons (xs_for (.nm 7) (fun i Γ => ∃ s7 s8 s9, Γ = [.c (.list (ns.map .int)), .c (dExs tr), .c (dExs va), .c (dDeeds dl), .c told, .n, .n, s7, s8, s9])
          (xi_range1 (n := 3) B.range xe_int (by decide)) (pg_name (i := 7) sc_law.nd rfl (Or.inl rfl)) ⟨_, _, _, rfl⟩ ?_ ?_ rfl PassesOwn.never)
        · rintro i y Γi hy ⟨s7, s8, s9, rfl⟩
          obtain ⟨rfl, hi⟩ := stepsD_get hy
          rw [show (0 : Int) + (i : Nat) * 1 = (i : Int) by omega]
          have hi : i < 3 := hi
          refine ⟨_, rfl, ?_⟩
          obtain ⟨cell, hcell⟩ : ∃ cell, cell = cellM ns (4 + i) := ⟨_, rfl⟩
          obtain ⟨ol, hol⟩ : ∃ ol, ol = (mixedM dl cell (10 + 15 * i)).1 := ⟨_, rfl⟩
          obtain ⟨pl, hpl⟩ : ∃ pl, pl = (mixedM dl cell (10 + 15 * i)).2 := ⟨_, rfl⟩
          have M := mix_ok cell (10 + 15 * i) (newPop_ok o1 o2) dk
          rw [← hol] at M
          have oll : ol.length = dl.length := by rw [hol]; exact mixRun_len _ _ _
          have okO := oks ol M.ok (by omega)
          have okD := oks dl dk hl
          have seD := num_self dk okD
          refine xss_cons (xs_asg (.tp [8, 9]) (d := .tuple [dDeeds ol, dInts pl]) (xd_call D6 (hr.mono (by decide)) (xa_cons (xe_var 3 rfl) (xa_cons (xd_call D7 (hr.mono (by decide)) (xa_cons (xe_var 0 rfl) (xa_cons (xe_add xe_int (xe_var 7 rfl)) xa_nil)) ⟨ns, 4 + i, by rw [Int.natCast_add]; rfl, rfl⟩) (xa_cons (xe_add xe_int (xe_mul xe_int (xe_var 7 rfl) (.inl (by decide)))) xa_nil))) ⟨dl, cell, 10 + 15 * i, by rw [hcell, Int.natCast_add, Int.natCast_mul]; rfl, by omega, by omega, by rw [hol, hpl]⟩)
            (pg_tup rfl (pgs_cons (pg_name (i := 8) sc_law.nd rfl (Or.inl rfl)) (pgs_cons (pg_name (i := 9) sc_law.nd rfl (Or.inl rfl)) pgs_nil))) ⟨_, rfl, ?_⟩)
          refine xss_cons (xs_ifF (xt_neD hu (xe_eq (xe_of_f (xf_callG D8 (hr.mono (by decide)) gd (xa_cons (xe_var 8 rfl) (xa_cons (xd_call D3 (hr.mono (by decide)) (xa_cons (xe_var 1 rfl) (xa_cons (xe_var 2 rfl) (xa_cons (xe_var 8 rfl) xa_nil))) ⟨_, tr, va, ol, rfl, o1, o2, M.ok, by omega, rfl⟩) xa_nil)) ⟨ol, outsM (newPop tr va) ol, rfl, (outsM_len _ _).symm, by omega, M.ok, okO, rfl⟩)) (by rw [num_perm M.rows]))
            (xe_of_f (xf_callG D8 (hr.mono (by decide)) gd (xa_cons (xe_var 3 rfl) (xa_cons (xe_var 4 rfl) xa_nil)) ⟨dl, outsM (newPop tr va) dl, by rw [htold], (outsM_len _ _).symm, by omega, dk, okD, rfl⟩)) seD.sh seD.sh) (by rw [seD.eq]; rfl) (xss_nil ?_))
          exact xss_one (xs_ifF (xt_not (xt_pops D10 (hr.mono (by decide)) M.aft (xr_after D9 (hr.mono (by decide)) (xe_var 1 rfl) (xe_var 2 rfl) (xe_var 8 rfl) o1 o2 M.ok (by omega)) (xr_after D9 (hr.mono (by decide)) (xe_var 1 rfl) (xe_var 2 rfl) (xe_var 3 rfl) o1 o2 dk (by omega)))) rfl (xss_nil ⟨_, _, _, rfl⟩))
        · rintro Γ' ⟨s7, s8, s9, rfl⟩
          exact xss_one (xs_ret xe_bl rfl)
      · refine ⟨⟨_, _, E1⟩, fun v0 H2 s2 q0 => ?_⟩
        refine lc_law (E1.mono s2) rfl rfl rfl rfl o1 o2 dk hl fun D acc H3 of3 hacc hall => .inl ⟨D, acc, rfl, SqL.of hacc, fun q hq => ?_⟩
        have s4 : Same H3 (upd H3 q (.tup acc)) := fun b o z => by rw [upd_ne (ne_of_none z hq)]; exact z
        have of4 : OffD H1 (upd H3 q (.tup acc)) := ((OffD.of_same s2).trans of3).trans (OffD.of_same s4)
        refine ⟨told, told, dp_mono s4 _ _ (dp_offD of3 _ _ q0), by rw [htold]; exact .tup (SqT.of upd_same) (dpAll_mono s4 _ _ hall), se.sh, se.sh, false, by rw [se.eq]; rfl, kQ _ of4.keepT ⟨_, E1.offD of4 fun b o hb => ?_⟩⟩
        have hb1 : H1 b = some o := (E1.sb.same.trans E1.s0) b o hb
        have hb4 := of4 b o (fun kvs e => hnd b kvs (hb.trans (congrArg some e))) hb1
        exact ⟨fun _ => hb4, by rw [hb4]; exact fun z => nomatch z⟩
    · cases z
      cases q
      exact k H'
end
end TC
namespace TC
open PySem PySem.Spec
open PyProof.Rows L2
/-! ### the law's end, for a promise that asks that nothing is being shown -/
/-- the heap that knows the script alone, where it is none of the module's own objects -/
def scr (K : PySem.W.Frag) (a : Addr) (u : HO) : Hp := fun b => if b = a ∧ K.lookup a = none then some u else none
theorem scr_in {K : PySem.W.Frag} {a b : Addr} {u v : HO} (h : scr K a u b = some v) : b = a ∧ K.lookup a = none ∧ v = u := by
  unfold scr at h
  split at h
  · rename_i c
    exact ⟨c.1, c.2, (Option.some.inj h).symm⟩
  · cases h
theorem scr_off {K : PySem.W.Frag} {a b : Addr} {u : HO} (h : b = a → K.lookup a = none → False) : scr K a u b = none := if_neg fun c => h c.1 c.2
theorem law_go {P : Program} {w : World} {K : PySem.W.Frag} {mg mb : Str → Option Value} {k : Nat} {fa a : Addr} {nm x : Str} {sp : Sp} {s : Shared} {vs : List Value} {ns : List Int}
    (KX : K.In s.heap) (gl : s.heap.Ns mainGlobals mg) (bl : s.heap.Ns builtinsNs mb) (blb : ∀ y : Str, y ≠ "__name__" → mb y = bootBuiltins y) (nl : s.heap.NoLimit) (gn : s.gens = #[])
    (ha : s.heap.get? a = some { cls := .type "list", data := .seq vs.toArray }) (hi : IntsAre vs ns) (hl : ns.length ≤ sizeLine) (room : Room k callerA)
    (hm : mg nm = some (.ref fa)) (D : ∀ base : Heap, DefG P w K mg base nm k [x] sp)
    (told : ∀ H : Hp, L2.Only H → SqL K H a (ns.map V.int) → sp [.ref a] H (fun v _ => v = .bl true) fun _ _ _ => False) :
    codeAny (model P w) callerA (.call (.ref fa) ⟨[.ref a], []⟩) (fun r z => r = .ok (.ret (.bool true)) ∧ OldK s.heap z.heap ∧ z.os = s.os ∧ AllBare z.gens) s := by
  obtain ⟨u0, hu0⟩ : ∃ u : HO, u = .frz { cls := .type "list", data := .seq vs.toArray } (.lst (ns.map V.int)) := ⟨_, rfl⟩
  obtain ⟨H, hH⟩ : ∃ H : Hp, H = scr K a u0 := ⟨_, rfl⟩
  have at_ : ∀ {b : Addr} {u : HO}, H b = some u → b = a ∧ K.lookup a = none ∧ u = u0 := fun {b u} h => scr_in (by rw [← hH]; exact h)
  have rv := vals_ints hi
  have size : (ns.map V.int).length ≤ sizeLine := by rw [List.length_map]; exact hl
  have only : L2.Only H := fun b => by
    cases q : H b with
    | none => exact Or.inl rfl
    | some u =>
      obtain ⟨_, _, rfl⟩ := at_ q
      exact Or.inr ⟨_, _, congrArg some hu0⟩
  have seq : SqL K H a (ns.map V.int) := by
    cases hk : K.lookup a with
    | none => exact Or.inl (Or.inr ⟨{ cls := .type "list", data := .seq vs.toArray }, by rw [hH, ← hu0]; exact if_pos ⟨rfl, hk⟩⟩)
    | some o =>
      have e : o = { cls := .type "list", data := .seq vs.toArray } := Option.some.inj ((KX a o hk).symm.trans ha)
      subst e
      exact Or.inr ⟨_, vs.toArray, _, hk, rfl, rfl, rfl, by rw [List.size_toArray, hi.length]; exact hl, by simpa using rv⟩
  have hok : HOk P w H s.heap := fun b u h => by
    obtain ⟨rfl, _, rfl⟩ := at_ h
    subst hu0
    exact ⟨ha, size, vs, _, rv, ha⟩
  have off : ∀ {b : Addr} {o : Obj}, (b = a → K.lookup a = none → False) → s.heap.get? b = some o → (hidT s.heap H).get? b = some o := fun {b o} c h => hidT_get h (by rw [hH]; exact scr_off c)
  have nsOff : ∀ {b : Addr} {m : Str → Option Value}, s.heap.Ns b m → (hidT s.heap H).Ns b m := fun {b m} n => by
    obtain ⟨o, es, ep, h1, h2, h3⟩ := n
    refine ⟨o, es, ep, off (fun e _ => ?_) h1, h2, h3⟩
    rw [e, ha] at h1
    obtain rfl := Option.some.inj h1
    exact nomatch (show Data.seq vs.toArray _ = Data.dict es ep from h2)
  have kb : K.In (hidT s.heap H) := fun b o h => off (fun e n => by rw [e, n] at h; cases h) (KX b o h)
  have modb : Mod K mg (hidT s.heap H) := by
    obtain ⟨mc, n1, n2⟩ := nl
    exact ⟨kb, nsOff gl, ⟨mb, nsOff bl, blb⟩, mc, nsOff n1, n2⟩
  have e0 : Env0 P w K mg (hidT s.heap H) callerA [] s H := by
    refine ⟨rfl, modb, fun b o => of_hidT, Nat.le_of_eq (hidT_size _ _), trivial, fun b hb => ?_, hok, .of_eq gn⟩
    exact nomatch (show b ∈ ([] : List Addr) from hb)
  obtain ⟨f, fd, g1, _, bi, F⟩ := D (hidT s.heap H)
  obtain rfl : fa = f := by injection (Option.some.inj (hm.symm.trans g1))
  refine codeAny_mono (F.go callerA [] s H _ [.ref a] [.ref a] _ _ room rfl e0 (bi s [.ref a] KX rfl) (.cons rfl .nil) (told H only seq)) fun r z h => ?_
  match r, h with
  | .error _, h => exact h.elim
  | .ok .next, h => exact h.elim
  | .ok .brk, h => exact h.elim
  | .ok .cont, h => exact h.elim
  | .ok (.ret u), ⟨v, H', os, bare, un, hok', rel, (q : v = .bl true)⟩ =>
    subst q
    have eu : u = Value.bool true := rel
    subst eu
    refine ⟨rfl, OldK.of_keep fun b o h => ?_, os, bare⟩
    have nf : b ∉ frs ([] : List Env) := fun y => nomatch (show b ∈ ([] : List Addr) from y)
    cases q : H b with
    | none => exact un.keep b o h q nf (by simp)
    | some u =>
      obtain ⟨rfl, _, rfl⟩ := at_ q
      rw [hu0] at q
      obtain ⟨g1, _⟩ := hok' b _ (un.frzs b _ _ q)
      rw [ha] at h
      exact g1.trans h
/-- THE LAW from what its def promises, at a head that tells the written part -/
theorem law_end {l : PySem.W.OpenLaw} {n k : Nat} {q : Program} {loose : List Str} {XP : (Str → Option Value) → Heap → Prop} {YP : World → Heap → Prop} {d : DefRec} {x : Str}
    (most : l.most = some n) (few : n ≤ sizeLine) (dfl : d.params.defaults = []) (room : Room k callerA)
    (F : ∀ (w : World) (gm : Str → Option Value) (fa : Addr) (h : Heap), YP w h → h.Ns mainGlobals gm → gm d.name = some (.ref fa) →
      ∃ (K : PySem.W.Frag) (sp : Sp), K.In h ∧ (∀ (H : Hp) (a : Addr) (ns : List Int), ns.length ≤ n → L2.Only H → SqL K H a (ns.map V.int) → sp [.ref a] H (fun v _ => v = .bl true) fun _ _ _ => False) ∧ ∀ base : Heap, DefG l.prog w K gm base d.name k [x] sp) :
    PySem.W.WalkO q loose XP YP l.row.toRowW d [] fun f vs => PySem.call f vs :=
  Att.attach_call most dfl fun w _ s1 gm mb fa _ _ _ _ a _ ns G Y _ _ _ hmg obj hin len gn => by
    obtain ⟨K, sp, KX, told, D⟩ := F w gm fa _ Y G.T.g hmg
    exact law_go KX G.T.g G.T.b G.T.builtins G.T.nolimit gn obj hin (Nat.le_trans len few) room hmg D fun H => told H a ns len
end TC
namespace TC
open PySem L2
/-! ### what the written part must say, all in one, and the law from it -/
structure HeadOk (P : Program) (K : PySem.W.Frag) (mg : Str → Option Value) (cs : Cs) : Prop where
  bi : Bi mg
  cl : CsOk K cs
  df : ∃ f fd, DfOk P K mg cs.DF f fd ∧ PySem.W.findIn K (.ref cs.DF) "__init__" = some (some (.ref f)) ∧ PySem.W.typeIn K (.ref f) = some (.type "function") ∧ Binds K fd ["self", "reason"] []
  get : DfGet K mg cs.DF
  isNum : RawD K mg "is_number" sIsNum
  prod : RawD K mg "product" sProd
  isEx : RawD K mg "is_example" sIsEx
  feat : RawD K mg "features_of" sFeat
  chk : RawD K mg "check_examples" sChk
  ord : RawD K mg "epoch_order" sOrd
  step : RawD K mg "stepped" sStep
  score : RawD K mg "score_of" sScore
  pos : RawD K mg "position_of" sPos
  train : RawD K mg "trained" sTrain
  join : RawD K mg "joined" sJoin
  put : RawD K mg "put" sPut
  outs : RawD K mg "outcomes" sOuts
  aft : RawD K mg "after" sAft
  cop : RawD K mg "copies_of" sCop
  ind : RawD K mg "independent" sInd
  exd : RawD K mg "exchanged" sExd
  pl : RawD K mg "places_from" sPl
  ex : RawD K mg "exchanges" sEx
  cell : RawD K mg "_law_cell" sCell
  draws : RawD K mg "_law_draws" sDraws
  lord : RawD K mg "_law_order" sLOrd
  lscore : RawD K mg "_law_score" sLScore
  lw : RawD K mg "_law_weights" sLW
  lex : RawD K mg "_law_examples" sLEx
  deed : RawD K mg "_law_deed" sDeed
  deeds : RawD K mg "_law_deeds" sDeeds
  lcop : RawD K mg "_law_copies" sLCop
  free : RawD K mg "_law_free" sFree
  mix : RawD K mg "_law_mixed" sMix
  lnew : RawD K mg "_law_new" sLNew
  lf : RawD K mg "_law_fault" sLF
  lneed : RawD K mg "_law_needed" sLNeed
  ldo : RawD K mg "_law_do" sLD
  ready : RawD K mg "_law_ready" sReady
  page : RawD K mg "_law_page" sPage
  num : RawD K mg "_law_numbered" sNum
  fix : RawD K mg "_law_fixed" sFix
  law : RawD K mg "law" sLaw
  mi : RawMk K mg cs.CM "Member" "Member.__init__" sMI
  twin : RawM K cs.CM "twin" "Member.twin" sTwin
  meq : RawE K mg "Member" cs.CM "Member.__eq__" sMEq
  pi : RawMk K mg cs.CP "Population" "Population.__init__" sPI
  peq : RawE K mg "Population" cs.CP "Population.__eq__" sPEq
  member : RawM K cs.CP "member" "Population.member" sMember
  running : RawM K cs.CP "running" "Population.running" sRunning
  present : RawM K cs.CP "present" "Population.present" sPresent
  keep : RawM K cs.CP "keep" "Population.keep" sKeep
  saved : RawM K cs.CP "state_saved" "Population.state_saved" sSaved
  found : RawM K cs.CP "found" "Population.found" sFound
  tr : RawM K cs.CP "train" "Population.train" sTr
  save : RawM K cs.CP "save" "Population.save" sSave
  crash : RawM K cs.CP "crash" "Population.crash" sCrash
  eval : RawM K cs.CP "evaluate" "Population.evaluate" sEval
  copy : RawM K cs.CP "copy" "Population.copy" sCopy
  stop : RawM K cs.CP "stop" "Population.stop" sStop
  drop : RawM K cs.CP "drop" "Population.drop" sDrop
  dodo : RawM K cs.CP "do" "Population.do" sDo
  need : RawM K cs.CP "needed_saves" "Population.needed_saves" sNeed
  outc : RawM K cs.CP "outcome" "Population.outcome" sOutc
section
variable {P : Program} {w : World} {K : PySem.W.Frag} {mg : Str → Option Value} {base : Heap} {cs : Cs}
theorem head_law (T : HeadOk P K mg cs) : DefG P w K mg base "law" 12 ["_law_script"] (spLaw K) := by
  have B := T.bi
  have C := T.cl
  have Z : RzOk P w K mg base cs := by
    obtain ⟨f, fd, h1, h2, h3, h4⟩ := T.df
    exact rz_ok h1 T.get.mg h2 h3 h4
  have isNum := ok_isNum (P := P) (w := w) (base := base) T.isNum B
  have prod := ok_prod (P := P) (w := w) (base := base) T.prod B
  have isEx := ok_isEx T.isEx B isNum
  have feat := ok_feat (P := P) (w := w) (base := base) T.feat B
  have chk := ok_chk T.chk B feat isEx
  have ord := ok_ord (P := P) (w := w) (base := base) T.ord B
  have step := ok_step T.step B prod
  have score := ok_score T.score B prod
  have pos := ok_pos (P := P) (w := w) (base := base) T.pos B
  have train := ok_train T.train B ord step
  have join := ok_join (P := P) (w := w) (base := base) T.join B
  have cell := ok_cell (P := P) (w := w) (base := base) T.cell B
  have draws := ok_draws (P := P) (w := w) (base := base) T.draws B
  have lord := ok_lord (P := P) (w := w) (base := base) T.lord B
  have lscore := ok_lscore (P := P) (w := w) (base := base) T.lscore B
  have lw := ok_lw T.lw B lord
  have lex := ok_lex T.lex B draws
  have deed := ok_deed (P := P) (w := w) (base := base) T.deed B
  have deeds := ok_deeds T.deeds B draws deed
  have lcop := ok_lcop (P := P) (w := w) (base := base) T.lcop
  have cop := ok_cop (P := P) (w := w) (base := base) T.cop
  have free := ok_free T.free lcop
  have ind := ok_ind T.ind cop
  have exd := ok_exdN T.exd B ind
  have mix := ok_mix T.mix B draws free
  have ready := ok_ready T.ready B cell lex deeds
  have put := ok_put (P := P) (w := w) (base := base) T.put
  have keep := ok_keep C T.keep put
  have mi := ok_mi (P := P) (w := w) (base := base) C T.mi
  have twin := ok_twin C T.twin mi
  have member := ok_member C Z T.member
  have running := ok_running C Z T.running member twin
  have present := ok_present C Z T.present running
  have saved := ok_saved C B Z T.saved
  have found := ok_found C B Z T.found keep mi
  have save := ok_save C B Z T.save keep present
  have stop := ok_stop C Z T.stop keep present
  have eval := ok_eval C Z T.eval keep present score
  have crash := ok_crash C Z T.crash keep running
  have copy := ok_copy C Z T.copy keep present saved pos
  have tr := ok_tr C B Z T.tr keep present train pos join
  have need := ok_need (P := P) (w := w) (base := base) C B T.need
  have drop := ok_drop C B Z T.drop keep member saved twin need
  have dodo := ok_do C ⟨found, tr, save, crash, eval, copy, stop, drop⟩ T.dodo
  have outc := ok_outc C T.get dodo T.outc
  have pi := ok_pi C B T.pi chk
  have outs := ok_outs C B T.outs pi outc
  have aft := ok_aft C T.aft pi outc
  have pl := ok_pl (P := P) (w := w) (base := base) T.pl B
  have ex := ok_ex T.ex B B.enumerate pl exd
  have lnew := ok_lnew (P := P) (w := w) (base := base) T.lnew
  have lneed := ok_lneed (P := P) (w := w) (base := base) T.lneed B
  have lf := ok_lfault T.lf B lneed
  have ldo := ok_ldo T.ldo B lf lscore lw
  have num := ok_num (P := P) (w := w) (base := base) T.num B
  have meq := ok_meq (P := P) (w := w) (base := base) C B T.meq
  have peq := ok_peq C B T.peq meq
  have page := ok_page (P := P) (w := w) (base := base) T.page
  have fix := ok_fix T.fix B page outs ex aft peq
  exact ok_law T.law B fix ready outs lnew ldo mix cell num aft peq
end
end TC
namespace TC
open PySem L2
/-! ### what the head tells, by names -/
def tp (x : Str) (st : Stmt) : Str × Stmt := (x, st)
def tops1 : List (Str × Stmt) := [tp "is_number" sIsNum, tp "product" sProd, tp "is_example" sIsEx, tp "features_of" sFeat, tp "check_examples" sChk, tp "epoch_order" sOrd, tp "stepped" sStep, tp "score_of" sScore, tp "position_of" sPos, tp "trained" sTrain, tp "joined" sJoin, tp "put" sPut, tp "outcomes" sOuts, tp "after" sAft, tp "copies_of" sCop, tp "independent" sInd, tp "exchanged" sExd, tp "places_from" sPl, tp "exchanges" sEx, tp "_law_cell" sCell]
def tops2 : List (Str × Stmt) := [tp "_law_draws" sDraws, tp "_law_order" sLOrd, tp "_law_score" sLScore, tp "_law_weights" sLW, tp "_law_examples" sLEx, tp "_law_deed" sDeed, tp "_law_deeds" sDeeds, tp "_law_copies" sLCop, tp "_law_free" sFree, tp "_law_mixed" sMix, tp "_law_new" sLNew, tp "_law_fault" sLF, tp "_law_needed" sLNeed, tp "_law_do" sLD, tp "_law_ready" sReady, tp "_law_page" sPage, tp "_law_numbered" sNum, tp "_law_fixed" sFix, tp "law" sLaw]
def tops : List (Str × Stmt) := tops1 ++ tops2
def meths : List (Str × Str × Str × Stmt) := [("Member", "twin", "Member.twin", sTwin), ("Population", "member", "Population.member", sMember), ("Population", "running", "Population.running", sRunning), ("Population", "present", "Population.present", sPresent), ("Population", "keep", "Population.keep", sKeep), ("Population", "state_saved", "Population.state_saved", sSaved), ("Population", "found", "Population.found", sFound), ("Population", "train", "Population.train", sTr), ("Population", "save", "Population.save", sSave), ("Population", "crash", "Population.crash", sCrash), ("Population", "evaluate", "Population.evaluate", sEval), ("Population", "copy", "Population.copy", sCopy), ("Population", "stop", "Population.stop", sStop), ("Population", "drop", "Population.drop", sDrop), ("Population", "do", "Population.do", sDo), ("Population", "needed_saves", "Population.needed_saves", sNeed), ("Population", "outcome", "Population.outcome", sOutc)]
def news : List (Str × Str × Stmt) := [("Member", "Member.__init__", sMI), ("Population", "Population.__init__", sPI)]
def eqs : List (Str × Str × Stmt) := [("Member", "Member.__eq__", sMEq), ("Population", "Population.__eq__", sPEq)]
def frees : List Str := ["len", "isinstance", "int", "bool", "tuple", "range", "list", "sum", "zip", "all", "max", "repr", "sorted", "enumerate", "super"]
def nums : List (Str × Int) := [("MODULUS", 2147483647), ("FACTOR", 48271), ("MOST_FEATURES", 8), ("MOST_VALUE", 100), ("MOST_EXAMPLES", 50), ("MOST_POSITION", 10000), ("MOST_SAVES", 1000)]
def noats : List (Str × Str) := [("Population", "training"), ("Population", "validation"), ("Population", "members"), ("Population", "spent"), ("Member", "incarnation"), ("Member", "settings"), ("Member", "now"), ("Member", "score"), ("Member", "shelf"), ("Member", "home"), ("Member", "is_stopped")]
def dTop (p : Str × Stmt) : He.DefD := ⟨(p.1, none), p.1, p.1, defArgs p.2, defBody p.2, defScope p.2, [], []⟩
def dMe (c m q : Str) (st : Stmt) : He.DefD := ⟨(c, some m), m, q, defArgs st, defBody st, defScope st, [], []⟩
def fnAll : List He.DefD := tops.map dTop ++ (meths.map (fun p => dMe p.1 p.2.1 p.2.2.1 p.2.2.2) ++ (news.map (fun p => dMe p.1 "__init__" p.2.1 p.2.2) ++ eqs.map fun p => dMe p.1 "__eq__" p.2.1 p.2.2))
def faAll : List He.Fa := tops.map (fun p => .glo p.1) ++ (meths.map (fun p => .meth p.1 p.2.1) ++ (news.map (fun p => .mkr p.1) ++ (frees.map .free ++ (nums.map (fun p => .int p.1 p.2) ++ (noats.map (fun p => .noat p.1 p.2) ++ [.cls "Population", .cls "Member", .glo "Population", .glo "Member", .glo "DeedFault", .exm "DeedFault" "DeedFault" true])))))
section
variable {K : PySem.W.Frag}
variable {h : Heap} {mg : Str → Option Value}
/-! what the two classes' == must say -/
def eqB (K : PySem.W.Frag) (C : Addr) : Bool := decide (PySem.W.findIn K (.ref C) "__class__" = some (some (.builtin "object.__class__"))) && (decide (PySem.W.specialIn K (.builtin "object.__class__") "__get__" = some (some (.builtin "getset_descriptor.__get__"))) && (decide (PySem.W.takesIn K (.builtin "object.__class__") = some true) && (decide (PySem.W.mroIn K C (.type "object") = some true) && (decide (PySem.W.findIn K (.ref C) "__eq__" = some (some (.ref (He.ma K C "__eq__")))) && PySem.W.isFn K (.ref (He.ma K C "__eq__"))))))
theorem two {a b : Bool} (h : (a && b) = true) : a = true ∧ b = true := Bool.and_eq_true_iff.mp h
theorem eqB_ok {nm : Str} {C : Addr} (g : mg nm = some (.ref C)) (c : Cls K C) (e : eqB K C = true) : EqOk K mg nm C (He.ma K C "__eq__") := by
  obtain ⟨e1, e⟩ := two e
  obtain ⟨e2, e⟩ := two e
  obtain ⟨e3, e⟩ := two e
  obtain ⟨e4, e⟩ := two e
  obtain ⟨e5, e6⟩ := two e
  exact ⟨c, of_decide_eq_true e1, of_decide_eq_true e2, of_decide_eq_true e3, of_decide_eq_true e4, g, of_decide_eq_true e5, e6⟩
/-! what DeedFault must say -/
def fileB (z : Str) (K : PySem.W.Frag) (a : Addr) : Bool := match K.lookup a with
  | some ⟨_, _, .fields vs, _⟩ => (match (vs[2]? : Option Value) with
    | some (.str y _) => z == y
    | _ => false)
  | _ => false
theorem fileB_ok {z : Str} {a : Addr} (e : fileB z K a = true) : ∃ c d vs sl y t, K.lookup a = some ⟨c, d, .fields vs, sl⟩ ∧ vs[2]? = some (.str y t) ∧ (z == y) = true := by
  unfold fileB at e
  split at e
  · rename_i vs sl q
    split at e
    · rename_i y t q2
      exact ⟨_, _, vs, sl, y, t, q, q2, e⟩
    · cases e
  · cases e
def cellB (K : PySem.W.Frag) (a C : Addr) : Bool := match K.lookup a with
  | some ⟨_, _, .cell (some (.ref D)), _⟩ => decide (D = C)
  | _ => false
theorem cellB_ok {a C : Addr} (e : cellB K a C = true) : ∃ c d sl, K.lookup a = some ⟨c, d, .cell (some (.ref C)), sl⟩ := by
  unfold cellB at e
  split at e
  · rename_i D sl q
    have z := of_decide_eq_true e
    subst z
    exact ⟨_, _, sl, q⟩
  · cases e
def oexB (K : PySem.W.Frag) (C : Addr) : Bool := match K.lookup C with
  | some ⟨.type t, _, .cls cd, sl⟩ => (match cd.mro, sl.toList with
    | .ref D :: bm, [_, _, _, _, some (.builtin n), _] => decide (t = "type") && (decide (D = C) && (decide (n = "ValueError.__new__") && (cd.hasDict && (!cd.hasDel && PySem.HandSPX.refsVE bm))))
    | _, _ => false)
  | _ => false
theorem oexB_ok {C : Addr} (e : oexB K C = true) : ∃ nm q N bs bm sn sub ab col dd k0 k1 k2 k3 k5, K.lookup C = some (PySem.excClassObj nm q C N bs bm true sn sub ab col dd k0 k1 k2 k3 k5 "ValueError.__new__") ∧ PySem.HandSPX.refsVE bm = true := by
  unfold oexB at e
  split at e
  · rename_i t dd cd sl q
    split at e
    · rename_i D bm k0 k1 k2 k3 n k5 m1 m2
      obtain ⟨e1, e⟩ := two e
      obtain ⟨e2, e⟩ := two e
      obtain ⟨e3, e⟩ := two e
      obtain ⟨e4, e⟩ := two e
      obtain ⟨e5, e6⟩ := two e
      have z1 := of_decide_eq_true e1
      have z2 := of_decide_eq_true e2
      have z3 := of_decide_eq_true e3
      rcases cd with ⟨nm, bs, mro, ns, qn, hd, sn, sub, ab, col, del⟩
      dsimp only at m1 e4 e5
      obtain ⟨l⟩ := sl
      dsimp only at m2
      have z5 : del = false := by
        cases del with
        | false => rfl
        | true => cases e5
      subst z1 z2 z3 z5 m1 m2 e4
      exact ⟨nm, qn, ns, bs, bm, sn, sub, ab, col, dd, k0, k1, k2, k3, k5, q, e6⟩
    · cases e
  · cases e
def supB (K : PySem.W.Frag) (C : Addr) : Bool := match PySem.W.clsIn K C with
  | some cd => decide (PySem.W.alongIn K "__init__" ((cd.mro.dropWhile (· != .ref C)).drop 1) = some (some (.builtin "ValueError.__init__")))
  | none => false
theorem supB_ok {C : Addr} (e : supB K C = true) : ∃ cd l, PySem.W.clsIn K C = some cd ∧ (cd.mro.dropWhile (· != .ref C)).drop 1 = l ∧ PySem.W.alongIn K "__init__" l = some (some (.builtin "ValueError.__init__")) := by
  unfold supB at e
  split at e
  · rename_i cd q
    exact ⟨cd, _, q, rfl, of_decide_eq_true e⟩
  · cases e
abbrev DfV : Type := Option (Str × Str × Arguments × FuncBody × Scope × Addr × Addr)
def dfV (K : PySem.W.Frag) (f : Addr) : DfV := match K.lookup f with
  | some ⟨_, _, .func fd, _⟩ => some (fd.name, fd.qualname, fd.params, fd.body, fd.scope, fd.globals, fd.builtins)
  | _ => none
def dfVal : DfV := some ("__init__", "DeedFault.__init__", defArgs sDF, .stmts (defBody sDF), defScope sDF, mainGlobals, builtinsNs)
def fnB (z : Str) (K : PySem.W.Frag) (C f : Addr) : Bool := match K.lookup f with
  | some ⟨_, _, .func fd, _⟩ => (match fd.closure, fd.code, fd.defaults with
    | [(x, c)], .ref a, .none => decide (x = "__class__") && (PySem.W.codeIn K (.ref a) "DeedFault.__init__" && (fileB z K a && cellB K c C))
    | _, _, _ => false)
  | _ => false
theorem fnB_ok {z : Str} {C f : Addr} (e : fnB z K C f = true) (v : dfV K f = dfVal) : ∃ (oc : Value) (od : Option Addr) (kV doc pm : Value) (an : Option Addr) (a : Addr) (ct : Value) (c : Addr) (sl : Array (Option Value)) (fd : FuncData),
    fd = PySem.W.ksFn "__init__" "DeedFault.__init__" (defArgs sDF) (defBody sDF) (defScope sDF) .none kV doc pm an (.ref a) ct c ∧ K.lookup f = some ⟨oc, od, .func fd, sl⟩ ∧ PySem.W.codeIn K (.ref a) "DeedFault.__init__" = true ∧ fileB z K a = true ∧ cellB K c C = true := by
  unfold fnB at e
  unfold dfV at v
  split at e
  · rename_i oc od fd sl q
    rw [q] at v
    split at e
    · rename_i x c a m1 m2 m3
      obtain ⟨e1, e⟩ := two e
      obtain ⟨e2, e⟩ := two e
      obtain ⟨e3, e4⟩ := two e
      have z1 := of_decide_eq_true e1
      rcases fd with ⟨n1, n2, n3, n4, n5, n6, n7, n8, n9, n10, n11, n12, n13, n14, n15⟩
      have v2 : (some (n1, n2, n3, n4, n5, n6, n15) : DfV) = dfVal := v
      unfold dfVal at v2
      simp only [Option.some.injEq, Prod.mk.injEq] at v2
      obtain ⟨h1, h2, h3, h4, h5, h6, h7⟩ := v2
      dsimp only at m1 m2 m3
      subst z1 h1 h2 h3 h4 h5 h6 h7 m1 m2 m3
      exact ⟨oc, od, _, _, _, _, a, _, c, sl, _, rfl, q, e2, e3, e4⟩
    · cases e
  · cases e
def dfB (z : Str) (K : PySem.W.Frag) (C f : Addr) : Bool := fnB z K C f && (oexB K C && (supB K C && (decide (PySem.W.findIn K (.ref C) "__init__" = some (some (.ref f))) && (decide (PySem.W.typeIn K (.ref f) = some (.type "function")) && (decide (PySem.W.mroIn K C (.ref C) = some true) && (decide (PySem.W.nsIn K cStatics "thirdparty.any" = some none) && (decide (PySem.W.subIn K (.ref C) (.type "ValueError") = some true) && (decide (PySem.W.findIn K (.ref C) "reason" = some none) &&
  (decide (PySem.W.findIn K (.ref C) "__setattr__" = some (some (.builtin "object.__setattr__"))) && (decide (PySem.W.subIn K (.ref C) (.type "BaseException") = some true) && (decide (PySem.W.typeIn K (.ref C) = some (.type "type")) && (PySem.W.keepIn K (.ref C) && xfB K C))))))))))))
theorem dfB_ok {P : Program} {C f : Addr} (e : dfB P.main.file K C f = true) (v : dfV K f = dfVal) (sup : mg "super" = none) (top : (P.main.scope.names.lookup ("super" : Str)).isSome = false) :
    (∃ fd, DfOk P K mg C f fd ∧ PySem.W.findIn K (.ref C) "__init__" = some (some (.ref f)) ∧ PySem.W.typeIn K (.ref f) = some (.type "function") ∧ Binds K fd ["self", "reason"] []) ∧ XfC K C ∧ PySem.W.findIn K (.ref C) "reason" = some none := by
  obtain ⟨e1, e⟩ := two e
  obtain ⟨e2, e⟩ := two e
  obtain ⟨e3, e⟩ := two e
  obtain ⟨e4, e⟩ := two e
  obtain ⟨e5, e⟩ := two e
  obtain ⟨e6, e⟩ := two e
  obtain ⟨e7, e⟩ := two e
  obtain ⟨e8, e⟩ := two e
  obtain ⟨e9, e⟩ := two e
  obtain ⟨e10, e⟩ := two e
  obtain ⟨e11, e⟩ := two e
  obtain ⟨e12, e⟩ := two e
  obtain ⟨e13, e14⟩ := two e
  obtain ⟨oc, od, kV, doc, pm, an, a, ct, c, sl, fd, h1, h2, h3, h4, h5⟩ := fnB_ok e1 v
  obtain ⟨c4, d4, vs, s4, y, t, f1, f2, f3⟩ := fileB_ok h4
  obtain ⟨c5, d5, s5, f4⟩ := cellB_ok h5
  obtain ⟨cd, l, f5, f6, f7⟩ := supB_ok e3
  have X := xfB_ok e14
  refine ⟨⟨fd, ⟨⟨oc, od, kV, doc, pm, an, a, ct, c, sl, c4, d4, vs, s4, y, t, c5, d5, s5, cd, l, h1, h2, h3, f1, f2, f3, f4, f5, of_decide_eq_true e6, f6, f7⟩, sup, top, of_decide_eq_true e7, of_decide_eq_true e8, ⟨oexB_ok e2, of_decide_eq_true e10, of_decide_eq_true e11, of_decide_eq_true e12, e13⟩, of_decide_eq_true e9⟩, of_decide_eq_true e4, of_decide_eq_true e5, ?_⟩, X, of_decide_eq_true e9⟩
  subst h1
  exact .all fun us hl => match us, hl with | [_, _], _ => rfl
/-! what is looked at -/
abbrev ObT : Type := Bool × DfV × He.AlD
def obsK (z : Str) (K : PySem.W.Frag) : ObT := (!(He.ga K "Population" == He.ga K "Member") && (eqB K (He.ga K "Population") && (eqB K (He.ga K "Member") && dfB z K (He.ga K "DeedFault") (He.ma K (He.ga K "DeedFault") "__init__"))), dfV K (He.ma K (He.ga K "DeedFault") "__init__"), He.obsD faAll fnAll K)
def valK : ObT := (true, dfVal, He.valD fnAll)
def csOf (K : PySem.W.Frag) : Cs := ⟨He.ga K "Population", He.ga K "Member", He.ga K "DeedFault"⟩
theorem fun_of {x q : Str} {st : Stmt} {f : Addr} {fd : FuncData} (F : FunD K x q (defArgs st) (defBody st) (defScope st) [] [] f fd) : Fun K x q st f fd := by
  obtain ⟨⟨oc, od, dV, kV, doc, pm, an, cdv, ct, osl, h1, h2, h3, h4, h5⟩, kp⟩ := F
  rcases h4 with ⟨_, h4⟩ | ⟨h4, _⟩
  · subst h4
    exact ⟨⟨oc, od, kV, doc, pm, an, cdv, ct, osl, h1, h2, h3⟩, kp⟩
  · exact absurd rfl h4
theorem fact_in {f : He.Fa} (c : He.SaysD faAll fnAll K) (m : f ∈ faAll) : f.ok K = true := by
  obtain ⟨i, e⟩ := List.getElem?_of_mem m
  exact c.fact i e
theorem def_in {d : He.DefD} (c : He.SaysD faAll fnAll K) (m : d ∈ fnAll) : ∃ fd, FunD K d.name d.qual d.params d.body d.scope (d.dvs K) (d.kws K) (He.fAd K d.at_) fd := by
  obtain ⟨i, e⟩ := List.getElem?_of_mem m
  exact c.def_ i e
theorem top_in (X : K.In h) (G : h.Ns mainGlobals mg) (c : He.SaysD faAll fnAll K) (i : Nat) {x : Str} {st : Stmt} (e : tops[i]? = some (x, st)) : RawD K mg x st := by
  have m := List.mem_of_getElem? e
  obtain ⟨fd, F⟩ := def_in c (List.mem_append_left _ (List.mem_map_of_mem (f := dTop) m))
  exact ⟨_, fd, He.glo_ok X G (fact_in c (f := .glo x) (List.mem_append_left _ (List.mem_map_of_mem (f := fun p => He.Fa.glo p.1) m))), fun_of F⟩
theorem meth_in (c : He.SaysD faAll fnAll K) (i : Nat) {x m q : Str} {st : Stmt} (e : meths[i]? = some (x, m, q, st)) : RawM K (He.ga K x) m q st := by
  have y := List.mem_of_getElem? e
  obtain ⟨fd, F⟩ := def_in c (List.mem_append_right _ (List.mem_append_left _ (List.mem_map_of_mem (f := fun p => dMe p.1 p.2.1 p.2.2.1 p.2.2.2) y)))
  exact ⟨_, fd, He.meth_ok (fact_in c (f := .meth x m) (List.mem_append_right _ (List.mem_append_left _ (List.mem_map_of_mem (f := fun p => He.Fa.meth p.1 p.2.1) y)))), fun_of F⟩
theorem last_in (c : He.SaysD faAll fnAll K) (j : Nat) {f : He.Fa} (e : ([.cls "Population", .cls "Member", .glo "Population", .glo "Member", .glo "DeedFault", .exm "DeedFault" "DeedFault" true] : List He.Fa)[j]? = some f) : f.ok K = true :=
  fact_in c (List.mem_append_right _ (List.mem_append_right _ (List.mem_append_right _ (List.mem_append_right _ (List.mem_append_right _ (List.mem_append_right _ (List.mem_of_getElem? e)))))))
theorem new_in (c : He.SaysD faAll fnAll K) (i : Nat) {x q : Str} {st : Stmt} (e : news[i]? = some (x, q, st)) (g : mg x = some (.ref (He.ga K x))) : RawMk K mg (He.ga K x) x q st := by
  have y := List.mem_of_getElem? e
  obtain ⟨fd, F⟩ := def_in c (List.mem_append_right _ (List.mem_append_right _ (List.mem_append_left _ (List.mem_map_of_mem (f := fun p => dMe p.1 "__init__" p.2.1 p.2.2) y))))
  exact ⟨_, fd, g, He.mkr_ok (fact_in c (f := .mkr x) (List.mem_append_right _ (List.mem_append_right _ (List.mem_append_left _ (List.mem_map_of_mem (f := fun p => He.Fa.mkr p.1) y))))), fun_of F⟩
theorem eq_in (c : He.SaysD faAll fnAll K) (i : Nat) {x q : Str} {st : Stmt} (e : eqs[i]? = some (x, q, st)) (E : EqOk K mg x (He.ga K x) (He.ma K (He.ga K x) "__eq__")) : RawE K mg x (He.ga K x) q st := by
  have y := List.mem_of_getElem? e
  obtain ⟨fd, F⟩ := def_in c (List.mem_append_right _ (List.mem_append_right _ (List.mem_append_right _ (List.mem_map_of_mem (f := fun p => dMe p.1 "__eq__" p.2.1 p.2.2) y))))
  exact ⟨_, fd, E, fun_of F⟩
theorem free_in (X : K.In h) (G : h.Ns mainGlobals mg) (c : He.SaysD faAll fnAll K) (i : Nat) {x : Str} (e : frees[i]? = some x) : mg x = none :=
  He.free_ok X G (fact_in c (f := .free x) (List.mem_append_right _ (List.mem_append_right _ (List.mem_append_right _ (List.mem_append_left _ (List.mem_map_of_mem (f := He.Fa.free) (List.mem_of_getElem? e)))))))
theorem int_in (X : K.In h) (G : h.Ns mainGlobals mg) (c : He.SaysD faAll fnAll K) (i : Nat) {x : Str} {z : Int} (e : nums[i]? = some (x, z)) : ∃ t, mg x = some (.int z t) :=
  He.int_ok X G (fact_in c (f := .int x z) (List.mem_append_right _ (List.mem_append_right _ (List.mem_append_right _ (List.mem_append_right _ (List.mem_append_left _ (List.mem_map_of_mem (f := fun p => He.Fa.int p.1 p.2) (List.mem_of_getElem? e))))))))
theorem noat_in (c : He.SaysD faAll fnAll K) (i : Nat) {x f : Str} (e : noats[i]? = some (x, f)) : NoAttr K (He.ga K x) f :=
  He.noat_ok (fact_in c (f := .noat x f) (List.mem_append_right _ (List.mem_append_right _ (List.mem_append_right _ (List.mem_append_right _ (List.mem_append_right _ (List.mem_append_left _ (List.mem_map_of_mem (f := fun p => He.Fa.noat p.1 p.2) (List.mem_of_getElem? e)))))))))
theorem head_ok {P : Program} (X : K.In h) (G : h.Ns mainGlobals mg) (top : (P.main.scope.names.lookup ("super" : Str)).isSome = false) (o : obsK P.main.file K = valK) : HeadOk P K mg (csOf K) := by
  have o1 : (!(He.ga K "Population" == He.ga K "Member") && (eqB K (He.ga K "Population") && (eqB K (He.ga K "Member") && dfB P.main.file K (He.ga K "DeedFault") (He.ma K (He.ga K "DeedFault") "__init__")))) = true := congrArg (fun z : ObT => z.1) o
  have o2 : dfV K (He.ma K (He.ga K "DeedFault") "__init__") = dfVal := congrArg (fun z : ObT => z.2.1) o
  have c : He.SaysD faAll fnAll K := congrArg (fun z : ObT => z.2.2) o
  obtain ⟨p1, o1⟩ := two o1
  obtain ⟨p2, o1⟩ := two o1
  obtain ⟨p3, p4⟩ := two o1
  have ne : He.ga K "Population" ≠ He.ga K "Member" := fun z => by
    rw [z, beq_self_eq_true] at p1
    cases p1
  have gP := He.glo_ok X G (last_in c 2 (f := .glo "Population") rfl)
  have gM := He.glo_ok X G (last_in c 3 (f := .glo "Member") rfl)
  have gD := He.glo_ok X G (last_in c 4 (f := .glo "DeedFault") rfl)
  have cP := He.cls_ok (last_in c 0 (f := .cls "Population") rfl)
  have cM := He.cls_ok (last_in c 1 (f := .cls "Member") rfl)
  have sup : mg "super" = none := free_in X G c 14 rfl
  obtain ⟨⟨fd, d1, d2, d3, d4⟩, d5, d6⟩ := dfB_ok (P := P) p4 o2 sup top
  exact {
    bi := {
      len := free_in X G c 0 rfl
      isinstance := free_in X G c 1 rfl
      int := free_in X G c 2 rfl
      bool := free_in X G c 3 rfl
      tuple := free_in X G c 4 rfl
      range := free_in X G c 5 rfl
      list := free_in X G c 6 rfl
      sum := free_in X G c 7 rfl
      zip := free_in X G c 8 rfl
      all := free_in X G c 9 rfl
      max := free_in X G c 10 rfl
      repr := free_in X G c 11 rfl
      sorted := free_in X G c 12 rfl
      enumerate := free_in X G c 13 rfl
      super := free_in X G c 14 rfl
      mMod := int_in X G c 0 rfl
      mFac := int_in X G c 1 rfl
      mFea := int_in X G c 2 rfl
      mVal := int_in X G c 3 rfl
      mExa := int_in X G c 4 rfl
      mPos := int_in X G c 5 rfl
      mSav := int_in X G c 6 rfl
    }
    cl := {
      cP := cP
      cM := cM
      ne := ne
      nTr := noat_in c 0 rfl
      nVa := noat_in c 1 rfl
      nMe := noat_in c 2 rfl
      nSp := noat_in c 3 rfl
      nIn := noat_in c 4 rfl
      nSe := noat_in c 5 rfl
      nNo := noat_in c 6 rfl
      nSc := noat_in c 7 rfl
      nSh := noat_in c 8 rfl
      nHo := noat_in c 9 rfl
      nSt := noat_in c 10 rfl
    }
    df := ⟨_, fd, d1, d2, d3, d4⟩
    get := ⟨d5, d6, He.exm_ok (last_in c 5 (f := .exm "DeedFault" "DeedFault" true) rfl), gD⟩
    isNum := top_in X G c 0 rfl
    prod := top_in X G c 1 rfl
    isEx := top_in X G c 2 rfl
    feat := top_in X G c 3 rfl
    chk := top_in X G c 4 rfl
    ord := top_in X G c 5 rfl
    step := top_in X G c 6 rfl
    score := top_in X G c 7 rfl
    pos := top_in X G c 8 rfl
    train := top_in X G c 9 rfl
    join := top_in X G c 10 rfl
    put := top_in X G c 11 rfl
    outs := top_in X G c 12 rfl
    aft := top_in X G c 13 rfl
    cop := top_in X G c 14 rfl
    ind := top_in X G c 15 rfl
    exd := top_in X G c 16 rfl
    pl := top_in X G c 17 rfl
    ex := top_in X G c 18 rfl
    cell := top_in X G c 19 rfl
    draws := top_in X G c 20 rfl
    lord := top_in X G c 21 rfl
    lscore := top_in X G c 22 rfl
    lw := top_in X G c 23 rfl
    lex := top_in X G c 24 rfl
    deed := top_in X G c 25 rfl
    deeds := top_in X G c 26 rfl
    lcop := top_in X G c 27 rfl
    free := top_in X G c 28 rfl
    mix := top_in X G c 29 rfl
    lnew := top_in X G c 30 rfl
    lf := top_in X G c 31 rfl
    lneed := top_in X G c 32 rfl
    ldo := top_in X G c 33 rfl
    ready := top_in X G c 34 rfl
    page := top_in X G c 35 rfl
    num := top_in X G c 36 rfl
    fix := top_in X G c 37 rfl
    law := top_in X G c 38 rfl
    twin := meth_in c 0 rfl
    member := meth_in c 1 rfl
    running := meth_in c 2 rfl
    present := meth_in c 3 rfl
    keep := meth_in c 4 rfl
    saved := meth_in c 5 rfl
    found := meth_in c 6 rfl
    tr := meth_in c 7 rfl
    save := meth_in c 8 rfl
    crash := meth_in c 9 rfl
    eval := meth_in c 10 rfl
    copy := meth_in c 11 rfl
    stop := meth_in c 12 rfl
    drop := meth_in c 13 rfl
    dodo := meth_in c 14 rfl
    need := meth_in c 15 rfl
    outc := meth_in c 16 rfl
    mi := new_in c 0 rfl gM
    pi := new_in c 1 rfl gP
    meq := eq_in c 0 rfl (eqB_ok gM cM p3)
    peq := eq_in c 1 rfl (eqB_ok gP cP p2)
  }
end
end TC
set_option maxHeartbeats 0
namespace TC
open PySem PySem.Spec
open PyProof.Rows L2
/-! ### the run of the top -/
abbrev theRow : PySem.W.OpenRow := PySem.W.OpenLaw.row PySem.Challenge.rw_trialcopies_k62_whole_exchanged_deeds
abbrev fileT : Str := theRow.prog.main.file
/-- what is looked at: all that the top's names reach in four steps, and the statics -/
def obG (g : Addr → Option Obj) : ObT := obsK fileT (He.frG g (He.asD g 4 ++ [cStatics]))
def seen : PySem.W.Hook := by
  refine ⟨ObT, fun s => obG s.heap.get?, fun _ => valK, fun _ h => ∃ K : PySem.W.Frag, K.In h ∧ obsK fileT K = valK, ?_, ?_⟩
  · intro _ s e
    exact ⟨_, He.frG_in, e⟩
  · intro _ h h' z k
    obtain ⟨K, i, c⟩ := z
    exact ⟨K, i.keeps k, c⟩
def obS (s : PySem.W.SharedT) : ObT := obG (HandSHeadRun.getT s)
theorem obS_eq (s : PySem.W.SharedT) : obS s = seen.obs s.abs := congrArg obG (funext (HandSHeadRun.getT_eq s))
/-- what the top binds besides the law -/
def others : List Str := (theRow.prog.main.scope.names.filter fun p => !((["law", "__name__", "ValueError"] : List Str).contains p.1)).map (·.1)
theorem top_run (w : World) : HandSHeadRun.RunEq theRow (PySem.W.view theRow.prog [57]) seen obS 3600 others w := by
  intro os
  kernel_rfl
end TC
open PySem PySem.W
open PySem.Calls PyProof.Rows
theorem PySem.Challenge.cw_trialcopies_k62_whole_exchanged_deeds_holds : PySem.Challenge.rw_trialcopies_k62_whole_exchanged_deeds.Holds := by
  w_on
  o_law
  refine HandSHeadRun.head_any (r := TC.theRow) (q := view TC.theRow.prog [57]) (H := TC.seen) (ob := TC.obS) (M := 3600) (loose := TC.others) (d := HandSHeadRun.topDef TC.theRow.prog 57) (kwd := []) TC.obS_eq
    (by kernel_rfl) (fun s => by kernel_rfl) TC.top_run (by kernel_rfl) (by kernel_rfl) (by kernel_rfl) (by rfl) (by first | assumption | decide +kernel) (by decide +kernel) ⟨rfl, rfl, rfl, rfl, rfl, by decide +kernel⟩ ?hw ?hc
  case hw => w_witness2
  case hc =>
    refine TC.law_end (l := PySem.Challenge.rw_trialcopies_k62_whole_exchanged_deeds) (n := 63) (k := 12) (x := "_law_script") rfl (by decide) (by kernel_rfl) ⟨rfl, by decide, by decide⟩ fun w mg fa h Y G hm => ?_
    obtain ⟨K, KX, o⟩ := Y
    have T := TC.head_ok (P := PySem.Challenge.rw_trialcopies_k62_whole_exchanged_deeds.prog) KX G (by decide +kernel) o
    refine ⟨K, TC.spLaw K, KX, fun H a ns _ O S => ⟨a, ns, rfl, S, fun b kvs e => ?_, fun _ => rfl⟩, fun base => ?_⟩
    · rcases O b with q | ⟨o, xs, q⟩ <;> rw [q] at e <;> cases e
    · have hn : (HandSHeadRun.topDef TC.theRow.prog 57).name = ("law" : PySem.Str) := by kernel_rfl
      rw [hn]
      exact TC.head_law T
