import PyProof.Rows.All
import Wide.All
import OpenK.AllK
import Wide.FinOn
import HandS.ForMost
import HandS.Evl
import HandS.TupSets
import HandS.TupAny
import HandS.TupMul
import HandS.Style
import HandS.IsInst
import HandS.GenCall
import HandS.Conv
import HandS.ExcOwn
import HandS.Small
import HandS.TryOnly
import HandS.WordsExc
import HandS.Deep
import HandS.DictTup
import PyProof.ListMulRoad
import PyProof.FactsAll.tuple_2
import HandS.GenList
import KE.KDictDisplayH
import KE.KStateDown
import HandS.Defaults
import HandS.Head0
import HandS.Head1
import HandS.Head2
import HandS.HeadEnd
import HandS.HeadHook1
import HandS.HeadHook2
import Lean
import PySem.Challenge.RW_weightkeepers_k42_whole_papers_of_maps
set_option Elab.async false
set_option linter.all false
set_option maxRecDepth 100000
set_option maxHeartbeats 4000000
/-! The layer of this proof: what an expression evaluates to, told as data (PyData), while the heap only grows. -/
namespace WK
open PySem PySem.Spec PyProof.Rows L2
open Evl (Ex ex_l ex_t ex_rd sq_of st_of sz_of sz_lt fresh_back)

/-! ### words about values -/
abbrev VP := Hp → V → Prop
class Mono (P : VP) : Prop where
  mono : ∀ {H H' : Hp} {v : V}, Ex H H' → P H v → P H' v
/-- exactly this value -/
def XP (x : V) : VP := fun _ v => v = x
/-! ### data in the heap: every list and tuple of it is tracked -/
mutual
inductive Dp (K : PySem.W.Frag) (H : Hp) : V → PyData → Prop
  | non : Dp K H .non .none
  | bl (b : Bool) : Dp K H (.bl b) (.bool b)
  | int (i : Int) : Dp K H (.int i) (.int i)
  | str (x : Str) : Dp K H (.str x) (.str x)
  | lst {a : Addr} {xs : List V} {ds : List PyData} : H a = some (.lst xs) → DpAll K H xs ds → Dp K H (.ref a) (.list ds)
  | tup {a : Addr} {xs : List V} {ds : List PyData} : H a = some (.tup xs) → DpAll K H xs ds → Dp K H (.ref a) (.tuple ds)
inductive DpAll (K : PySem.W.Frag) (H : Hp) : List V → List PyData → Prop
  | nil : DpAll K H [] []
  | cons {v : V} {vs : List V} {d : PyData} {ds : List PyData} : Dp K H v d → DpAll K H vs ds → DpAll K H (v :: vs) (d :: ds)
end
mutual
theorem dp_l2 {K : PySem.W.Frag} {H : Hp} : ∀ (d : PyData) (v : V), Dp K H v d → L2.Dp K H v d
  | .none, _, .non => .non
  | .bool _, _, .bl b => .bl b
  | .int _, _, .int i => .int i
  | .str _, _, .str x => .str x
  | .list ds, _, .lst h a => .lst (sq_of h) (dpAll_l2 ds _ a)
  | .tuple ds, _, .tup h a => .tup (st_of h) (dpAll_l2 ds _ a)
theorem dpAll_l2 {K : PySem.W.Frag} {H : Hp} : ∀ (ds : List PyData) (vs : List V), DpAll K H vs ds → L2.DpAll K H vs ds
  | [], _, .nil => .nil
  | d :: ds, _, .cons h r => .cons (dp_l2 d _ h) (dpAll_l2 ds _ r)
end
def DP (K : PySem.W.Frag) (d : PyData) : VP := fun H v => Dp K H v d
mutual
theorem dp_keep {K : PySem.W.Frag} {H H' : Hp} (hl : ∀ a xs, H a = some (.lst xs) → H' a = some (.lst xs)) (ht : ∀ a xs, H a = some (.tup xs) → H' a = some (.tup xs)) : ∀ (d : PyData) (v : V), Dp K H v d → Dp K H' v d
  | .none, _, .non => .non
  | .bool _, _, .bl b => .bl b
  | .int _, _, .int i => .int i
  | .str _, _, .str x => .str x
  | .list ds, _, .lst h a => .lst (hl _ _ h) (dpAll_keep hl ht ds _ a)
  | .tuple ds, _, .tup h a => .tup (ht _ _ h) (dpAll_keep hl ht ds _ a)
theorem dpAll_keep {K : PySem.W.Frag} {H H' : Hp} (hl : ∀ a xs, H a = some (.lst xs) → H' a = some (.lst xs)) (ht : ∀ a xs, H a = some (.tup xs) → H' a = some (.tup xs)) : ∀ (ds : List PyData) (vs : List V), DpAll K H vs ds → DpAll K H' vs ds
  | [], _, .nil => .nil
  | d :: ds, _, .cons h r => .cons (dp_keep hl ht d _ h) (dpAll_keep hl ht ds _ r)
end
theorem dp_mono {K : PySem.W.Frag} {H H' : Hp} (e : Ex H H') {d : PyData} {v : V} (h : Dp K H v d) : Dp K H' v d := dp_keep (fun _ _ z => e _ _ z) (fun _ _ z => e _ _ z) d v h
theorem dpAll_mono {K : PySem.W.Frag} {H H' : Hp} (e : Ex H H') {ds : List PyData} {vs : List V} (h : DpAll K H vs ds) : DpAll K H' vs ds := dpAll_keep (fun _ _ z => e _ _ z) (fun _ _ z => e _ _ z) ds vs h
mutual
def tOnly : PyData → Bool
  | .list _ => false
  | .tuple ds => tOnlyAll ds
  | _ => true
def tOnlyAll : List PyData → Bool
  | [] => true
  | d :: ds => tOnly d && tOnlyAll ds
end
mutual
theorem dp_tkeep {K : PySem.W.Frag} {H H' : Hp} (ht : ∀ a xs, H a = some (.tup xs) → H' a = some (.tup xs)) : ∀ (d : PyData) (v : V), tOnly d = true → Dp K H v d → Dp K H' v d
  | .none, _, _, .non => .non
  | .bool _, _, _, .bl b => .bl b
  | .int _, _, _, .int i => .int i
  | .str _, _, _, .str x => .str x
  | .list _, _, o, _ => by simp [tOnly] at o
  | .tuple ds, _, o, .tup h a => .tup (ht _ _ h) (dpAll_tkeep ht ds _ (by simpa [tOnly] using o) a)
theorem dpAll_tkeep {K : PySem.W.Frag} {H H' : Hp} (ht : ∀ a xs, H a = some (.tup xs) → H' a = some (.tup xs)) : ∀ (ds : List PyData) (vs : List V), tOnlyAll ds = true → DpAll K H vs ds → DpAll K H' vs ds
  | [], _, _, .nil => .nil
  | d :: ds, _, o, .cons h r => by
    have o' : tOnly d = true ∧ tOnlyAll ds = true := by simpa [tOnlyAll] using o
    exact .cons (dp_tkeep ht d _ o'.1 h) (dpAll_tkeep ht ds _ o'.2 r)
end
/-- a store at a place that is no tuple leaves tuples -/
theorem tup_upd {H : Hp} {p : Addr} {o : HO} (hp : ∀ xs, H p ≠ some (.tup xs)) (a : Addr) (xs : List V) (h : H a = some (.tup xs)) : upd H p o a = some (.tup xs) := by
  have ne : a ≠ p := fun e => hp xs (e ▸ h)
  rw [upd_ne ne]
  exact h
theorem dp_upd {K : PySem.W.Frag} {H : Hp} {p : Addr} {o : HO} (hp : ∀ xs, H p ≠ some (.tup xs)) {d : PyData} {v : V} (hd : tOnly d = true) (h : Dp K H v d) : Dp K (upd H p o) v d := dp_tkeep (tup_upd hp) d v hd h
theorem dpAll_upd {K : PySem.W.Frag} {H : Hp} {p : Addr} {o : HO} (hp : ∀ xs, H p ≠ some (.tup xs)) {ds : List PyData} {vs : List V} (hd : tOnlyAll ds = true) (h : DpAll K H vs ds) : DpAll K (upd H p o) vs ds := dpAll_tkeep (tup_upd hp) ds vs hd h
theorem dp_updL {K : PySem.W.Frag} {H : Hp} {p : Addr} {ys : List V} {o : HO} (hp : H p = some (.lst ys)) {d : PyData} {v : V} (hd : tOnly d = true) (h : Dp K H v d) : Dp K (upd H p o) v d := dp_upd (fun xs q => by rw [hp] at q; cases q) hd h
theorem dpAll_updL {K : PySem.W.Frag} {H : Hp} {p : Addr} {ys : List V} {o : HO} (hp : H p = some (.lst ys)) {ds : List PyData} {vs : List V} (hd : tOnlyAll ds = true) (h : DpAll K H vs ds) : DpAll K (upd H p o) vs ds := dpAll_upd (fun xs q => by rw [hp] at q; cases q) hd h
instance (K : PySem.W.Frag) (d : PyData) : Mono (DP K d) := ⟨fun e h => dp_mono e h⟩
instance (x : V) : Mono (XP x) := ⟨fun _ h => h⟩

/-! ### DpAll -/
section
variable {K : PySem.W.Frag} {H : Hp}
theorem dpAll_len : ∀ {vs : List V} {ds : List PyData}, DpAll K H vs ds → vs.length = ds.length
  | _, _, .nil => rfl
  | _, _, .cons _ r => by
    show _ + 1 = _ + 1
    rw [dpAll_len r]
theorem dpAll_at : ∀ {vs : List V} {ds : List PyData} {i : Nat} {d : PyData}, DpAll K H vs ds → ds[i]? = some d → ∃ v, vs[i]? = some v ∧ Dp K H v d
  | _, _, _, _, .nil, h => by simp at h
  | _, _, 0, _, .cons a _, h => by
    have h' := Option.some.inj h
    subst h'
    exact ⟨_, rfl, a⟩
  | _, _, i + 1, _, .cons _ r, h => dpAll_at (i := i) r h
theorem dpAll_of {vs : List V} {ds : List PyData} (hl : vs.length = ds.length) (h : ∀ (i : Nat) (v : V) (d : PyData), vs[i]? = some v → ds[i]? = some d → Dp K H v d) : DpAll K H vs ds := by
  induction vs generalizing ds with
  | nil =>
    cases ds with
    | nil => exact .nil
    | cons d ds => simp at hl
  | cons v vs ih =>
    cases ds with
    | nil => simp at hl
    | cons d ds => exact .cons (h 0 v d rfl rfl) (ih (by simpa using hl) fun i x y a b => h (i + 1) x y a b)
theorem dpAll_snoc : ∀ {vs : List V} {ds : List PyData} {v : V} {d : PyData}, DpAll K H vs ds → Dp K H v d → DpAll K H (vs ++ [v]) (ds ++ [d])
  | _, _, _, _, .nil, h => .cons h .nil
  | _, _, _, _, .cons a r, h => .cons a (dpAll_snoc r h)
theorem dpAll_app : ∀ {vs ws : List V} {ds es : List PyData}, DpAll K H vs ds → DpAll K H ws es → DpAll K H (vs ++ ws) (ds ++ es)
  | _, _, _, _, .nil, h => h
  | _, _, _, _, .cons a r, h => .cons a (dpAll_app r h)
theorem dpAll_split : ∀ {ds es : List PyData} {vs : List V}, DpAll K H vs (ds ++ es) → ∃ us ws, vs = us ++ ws ∧ DpAll K H us ds ∧ DpAll K H ws es
  | [], _, vs, h => ⟨[], vs, rfl, .nil, h⟩
  | _ :: ds, es, _, .cons a r => by
    obtain ⟨us, ws, e, h1, h2⟩ := dpAll_split (ds := ds) (es := es) r
    exact ⟨_ :: us, ws, by rw [e]; rfl, .cons a h1, h2⟩
theorem dpAll_take : ∀ (n : Nat) {vs : List V} {ds : List PyData}, DpAll K H vs ds → DpAll K H (vs.take n) (ds.take n)
  | 0, _, _, _ => .nil
  | _ + 1, _, _, .nil => .nil
  | n + 1, _, _, .cons a r => .cons a (dpAll_take n r)
theorem dpAll_drop : ∀ (n : Nat) {vs : List V} {ds : List PyData}, DpAll K H vs ds → DpAll K H (vs.drop n) (ds.drop n)
  | 0, _, _, h => h
  | _ + 1, _, _, .nil => .nil
  | n + 1, _, _, .cons _ r => dpAll_drop n r
theorem dpAll_set : ∀ (n : Nat) {vs : List V} {ds : List PyData} {v : V} {d : PyData}, DpAll K H vs ds → Dp K H v d → DpAll K H (vs.set n v) (ds.set n d)
  | _, _, _, _, _, .nil, _ => .nil
  | 0, _, _, _, _, .cons _ r, h => .cons h r
  | n + 1, _, _, _, _, .cons a r, h => .cons a (dpAll_set n r h)
theorem dpAll_ints : ∀ (ns : List Int), DpAll K H (ns.map V.int) (ns.map PyData.int)
  | [] => .nil
  | n :: ns => .cons (.int n) (dpAll_ints ns)
theorem ints_of_dp : ∀ {vs : List V} {ns : List Int}, DpAll K H vs (ns.map PyData.int) → vs = ns.map V.int
  | _, [], .nil => rfl
  | _, n :: ns, .cons (.int _) r => by
    rw [ints_of_dp r] <;> rfl
/-- a word: a tuple of ints -/
abbrev wd (ns : List Int) : PyData := .tuple (ns.map PyData.int)
abbrev wds (rows : List (List Int)) : List PyData := rows.map wd
theorem tOnly_ints : ∀ ns : List Int, tOnlyAll (ns.map PyData.int) = true
  | [] => rfl
  | n :: ns => by
    show (true && tOnlyAll (ns.map PyData.int)) = true
    rw [tOnly_ints ns] <;> rfl
theorem tOnly_wd (ns : List Int) : tOnly (wd ns) = true := tOnly_ints ns
theorem tOnly_wds : ∀ rows : List (List Int), tOnlyAll (wds rows) = true
  | [] => rfl
  | r :: rows => by
    show (tOnly (wd r) && tOnlyAll (wds rows)) = true
    rw [tOnly_wd r, tOnly_wds rows] <;> rfl
theorem dp_int {v : V} {i : Int} (h : Dp K H v (.int i)) : v = .int i := by
  cases h
  rfl
theorem dp_bl {v : V} {b : Bool} (h : Dp K H v (.bool b)) : v = .bl b := by
  cases h
  rfl
theorem dp_str {v : V} {x : Str} (h : Dp K H v (.str x)) : v = .str x := by
  cases h
  rfl
theorem dp_tupX {v : V} {ds : List PyData} (h : Dp K H v (.tuple ds)) : ∃ a xs, v = .ref a ∧ H a = some (.tup xs) ∧ DpAll K H xs ds := by
  cases h with
  | tup h a => exact ⟨_, _, rfl, h, a⟩
theorem dp_lstX {v : V} {ds : List PyData} (h : Dp K H v (.list ds)) : ∃ a xs, v = .ref a ∧ H a = some (.lst xs) ∧ DpAll K H xs ds := by
  cases h with
  | lst h a => exact ⟨_, _, rfl, h, a⟩
theorem dp_tup {v : V} {ds : List PyData} (h : Dp K H v (.tuple ds)) : ∃ a xs, v = .ref a ∧ SqT K H a xs ∧ DpAll K H xs ds := by
  cases h with
  | tup h a => exact ⟨_, _, rfl, st_of h, a⟩
theorem dp_lst {v : V} {ds : List PyData} (h : Dp K H v (.list ds)) : ∃ a xs, v = .ref a ∧ SqL K H a xs ∧ DpAll K H xs ds := by
  cases h with
  | lst h a => exact ⟨_, _, rfl, sq_of h, a⟩
theorem dp_wd {v : V} {ns : List Int} (h : Dp K H v (wd ns)) : ∃ a, v = .ref a ∧ SqT K H a (ns.map V.int) := by
  obtain ⟨a, xs, e, h1, h2⟩ := dp_tup h
  rw [ints_of_dp h2] at h1
  exact ⟨a, e, h1⟩
theorem dp_wdX {v : V} {ns : List Int} (h : Dp K H v (wd ns)) : ∃ a, v = .ref a ∧ H a = some (.tup (ns.map V.int)) := by
  obtain ⟨a, xs, e, h1, h2⟩ := dp_tupX h
  rw [ints_of_dp h2] at h1
  exact ⟨a, e, h1⟩
theorem dp_of_wd {a : Addr} {ns : List Int} (h : H a = some (.tup (ns.map V.int))) : Dp K H (.ref a) (wd ns) := .tup h (dpAll_ints ns)
theorem atI_dp {xs : List V} {ds : List PyData} {i : Int} {d : PyData} (h : DpAll K H xs ds) (ha : atI ds i = some d) : ∃ v, atI xs i = some v ∧ Dp K H v d := by
  unfold atI at ha ⊢
  rw [dpAll_len h]
  cases hj : ixN ds.length i with
  | none => rw [hj] at ha; cases ha
  | some j =>
    rw [hj] at ha
    exact dpAll_at h ha
end

/-! ### evaluates -/
def EvP (te : TE) (σ : L2.St) (H : Hp) (P : VP) : Prop := ∀ H1, Ex H H1 → ∀ Q : VK, (∀ v H2, Ex H1 H2 → P H2 v → Q v H2) → te σ H1 Q
/-- a new object -/
def EvN (te : TE) (σ : L2.St) (H : Hp) (P : Hp → Addr → Prop) : Prop := ∀ H1, Ex H H1 → ∀ Q : VK, (∀ p H2, H1 p = none → Ex H1 H2 → P H2 p → Q (.ref p) H2) → te σ H1 Q
abbrev EvD (K : PySem.W.Frag) (te : TE) (σ : L2.St) (H : Hp) (d : PyData) : Prop := EvP te σ H (DP K d)
def EvB (tt : TT) (σ : L2.St) (H : Hp) (b : Bool) : Prop := ∀ H1, Ex H H1 → ∀ Q : Bool → Hp → Prop, (∀ H2, Ex H1 H2 → Q b H2) → tt σ H1 Q
def AllP : List VP → Hp → List V → Prop
  | [], _, [] => True
  | P :: Ps, H, v :: vs => P H v ∧ AllP Ps H vs
  | _, _, _ => False
def EvA (ta : TA) (σ : L2.St) (H : Hp) (Ps : List VP) : Prop := ∀ H1, Ex H H1 → ∀ Q : List V → Hp → Prop, (∀ vs H2, Ex H1 H2 → AllP Ps H2 vs → Q vs H2) → ta σ H1 Q
theorem allP1 {P : VP} {H : Hp} : ∀ {vs : List V}, AllP [P] H vs → ∃ a, vs = [a] ∧ P H a
  | [a], h => ⟨a, rfl, h.1⟩
  | [], h => h.elim
  | _ :: _ :: _, h => h.2.elim
theorem allP2 {P P2 : VP} {H : Hp} : ∀ {vs : List V}, AllP [P, P2] H vs → ∃ a b, vs = [a, b] ∧ P H a ∧ P2 H b
  | [a, b], h => ⟨a, b, rfl, h.1, h.2.1⟩
  | [], h => h.elim
  | [_], h => h.2.elim
  | _ :: _ :: _ :: _, h => h.2.2.elim
theorem allP3 {P P2 P3 : VP} {H : Hp} : ∀ {vs : List V}, AllP [P, P2, P3] H vs → ∃ a b c, vs = [a, b, c] ∧ P H a ∧ P2 H b ∧ P3 H c
  | [a, b, c], h => ⟨a, b, c, rfl, h.1, h.2.1, h.2.2.1⟩
  | [], h => h.elim
  | [_], h => h.2.elim
  | [_, _], h => h.2.2.elim
  | _ :: _ :: _ :: _ :: _, h => h.2.2.2.elim
theorem allP4 {P P2 P3 P4 : VP} {H : Hp} : ∀ {vs : List V}, AllP [P, P2, P3, P4] H vs → ∃ a b c d, vs = [a, b, c, d] ∧ P H a ∧ P2 H b ∧ P3 H c ∧ P4 H d
  | [a, b, c, d], h => ⟨a, b, c, d, rfl, h.1, h.2.1, h.2.2.1, h.2.2.2.1⟩
  | [], h => h.elim
  | [_], h => h.2.elim
  | [_, _], h => h.2.2.elim
  | [_, _, _], h => h.2.2.2.elim
  | _ :: _ :: _ :: _ :: _ :: _, h => h.2.2.2.2.elim
theorem allP_len : ∀ {Ps : List VP} {H : Hp} {vs : List V}, AllP Ps H vs → vs.length = Ps.length
  | [], _, [], _ => rfl
  | [], _, _ :: _, h => h.elim
  | _ :: _, _, [], h => h.elim
  | P :: Ps, H, v :: vs, h => by
    show vs.length + 1 = Ps.length + 1
    rw [allP_len h.2]

section
variable {K : PySem.W.Frag} {σ : L2.St} {H H' : Hp} {ta tb tc te : TE} {t u : TT} {P P2 R : VP} {d d2 : PyData} {i j : Int} {b b2 : Bool}
theorem EvP.mono (e : Ex H H') (h : EvP te σ H P) : EvP te σ H' P := fun H1 a Q q => h H1 (e.trans a) Q q
theorem EvN.mono {P : Hp → Addr → Prop} (e : Ex H H') (h : EvN te σ H P) : EvN te σ H' P := fun H1 a Q q => h H1 (e.trans a) Q q
theorem EvB.mono (e : Ex H H') (h : EvB t σ H b) : EvB t σ H' b := fun H1 a Q q => h H1 (e.trans a) Q q
theorem EvP.imp (h : EvP te σ H P) (hi : ∀ H v, P H v → R H v) : EvP te σ H R := fun H1 e Q q => h H1 e Q fun v H2 e2 p => q v H2 e2 (hi _ _ p)
theorem EvP.is (h : EvD K te σ H d) (e : d = d2) : EvD K te σ H d2 := e ▸ h
theorem EvN.p {PA : Hp → Addr → Prop} (h : EvN te σ H PA) (hi : ∀ H p, PA H p → R H (.ref p)) : EvP te σ H R := fun H1 e Q q => h H1 e Q fun p H2 _ e2 r => q _ H2 e2 (hi _ _ r)
theorem ev_var {n : Nat} {v : V} [Mono P] (h : σ[n]? = some (some v)) (p : P H v) : EvP (tVar n) σ H P := fun H1 e Q q => ⟨v, h, q v H1 (Ex.refl H1) (Mono.mono e p)⟩
theorem ed_var {n : Nat} {v : V} (h : σ[n]? = some (some v)) (p : Dp K H v d) : EvD K (tVar n) σ H d := ev_var h p
theorem ex_var {n : Nat} {v : V} (h : σ[n]? = some (some v)) : EvP (tVar n) σ H (XP v) := ev_var h rfl
theorem ed_int : EvD K (tC (.int i)) σ H (.int i) := fun H1 _ _ q => q _ H1 (Ex.refl H1) (.int i)
theorem ed_bl : EvD K (tC (.bl b)) σ H (.bool b) := fun H1 _ _ q => q _ H1 (Ex.refl H1) (.bl b)
theorem ed_non : EvD K (tC .non) σ H .none := fun H1 _ _ q => q _ H1 (Ex.refl H1) .non
theorem ed_str {x : Str} : EvD K (tC (.str x)) σ H (.str x) := fun H1 _ _ q => q _ H1 (Ex.refl H1) (.str x)
theorem ex_c {x : V} : EvP (tC x) σ H (XP x) := fun H1 _ _ q => q _ H1 (Ex.refl H1) rfl
theorem ev_op {r : R2} [Mono P] (ha : EvP ta σ H P) (hb : EvP tb σ H P2) (hr : ∀ x y H1, Ex H H1 → P H1 x → P2 H1 y → ∀ Q : VK, (∀ v H2, Ex H1 H2 → R H2 v → Q v H2) → r x y H1 Q) : EvP (tOp r ta tb) σ H R := fun H1 e Q q =>
  ha H1 e _ fun x H2 e2 p1 => hb H2 (e.trans e2) _ fun y H3 e3 p2 => hr x y H3 ((e.trans e2).trans e3) (Mono.mono e3 p1) p2 Q fun v H4 e4 p3 => q v H4 ((e2.trans e3).trans e4) p3
theorem en_op {r : R2} {R : Hp → Addr → Prop} [Mono P] (ha : EvP ta σ H P) (hb : EvP tb σ H P2) (hr : ∀ x y H1, Ex H H1 → P H1 x → P2 H1 y → ∀ Q : VK, (∀ p H2, H1 p = none → Ex H1 H2 → R H2 p → Q (.ref p) H2) → r x y H1 Q) : EvN (tOp r ta tb) σ H R := fun H1 e Q q =>
  ha H1 e _ fun x H2 e2 p1 => hb H2 (e.trans e2) _ fun y H3 e3 p2 => hr x y H3 ((e.trans e2).trans e3) (Mono.mono e3 p1) p2 Q fun p H4 hp e4 p3 => q p H4 (fresh_back (e2.trans e3) hp) ((e2.trans e3).trans e4) p3
theorem ed_add (ha : EvD K ta σ H (.int i)) (hb : EvD K tb σ H (.int j)) : EvD K (tOp (rI0 fun i j => .int (i + j)) ta tb) σ H (.int (i + j)) := ev_op ha hb fun x y H1 _ p1 p2 Q q => ⟨i, j, dp_int p1, dp_int p2, q _ H1 (Ex.refl H1) (.int _)⟩
theorem ed_sub (ha : EvD K ta σ H (.int i)) (hb : EvD K tb σ H (.int j)) : EvD K (tOp (rI0 fun i j => .int (i - j)) ta tb) σ H (.int (i - j)) := ev_op ha hb fun x y H1 _ p1 p2 Q q => ⟨i, j, dp_int p1, dp_int p2, q _ H1 (Ex.refl H1) (.int _)⟩
theorem ed_mul (hc : CMul i j) (ha : EvD K ta σ H (.int i)) (hb : EvD K tb σ H (.int j)) : EvD K (tOp (rI CMul fun i j => .int (i * j)) ta tb) σ H (.int (i * j)) := ev_op ha hb fun x y H1 _ p1 p2 Q q => ⟨i, j, dp_int p1, dp_int p2, hc, q _ H1 (Ex.refl H1) (.int _)⟩
theorem ed_mod (hc : 0 < j) (ha : EvD K ta σ H (.int i)) (hb : EvD K tb σ H (.int j)) : EvD K (tOp (rI (fun _ j => 0 < j) fun i j => .int (i % j)) ta tb) σ H (.int (i % j)) := ev_op ha hb fun x y H1 _ p1 p2 Q q => ⟨i, j, dp_int p1, dp_int p2, hc, q _ H1 (Ex.refl H1) (.int _)⟩
theorem ed_fdiv (hc : CDiv i j) (ha : EvD K ta σ H (.int i)) (hb : EvD K tb σ H (.int j)) : EvD K (tOp (rI CDiv fun i j => .int (i / j)) ta tb) σ H (.int (i / j)) := ev_op ha hb fun x y H1 _ p1 p2 Q q => ⟨i, j, dp_int p1, dp_int p2, hc, q _ H1 (Ex.refl H1) (.int _)⟩
theorem ed_neg (ha : EvD K ta σ H (.int i)) : EvD K (tUn (rU fun i => .int (-i)) ta) σ H (.int (-i)) := fun H1 e Q q => ha H1 e _ fun x H2 e2 p => ⟨i, dp_int p, q _ H2 e2 (.int _)⟩
theorem ed_lt (ha : EvD K ta σ H (.int i)) (hb : EvD K tb σ H (.int j)) : EvD K (tOp (rI0 fun i j => .bl (decide (i < j))) ta tb) σ H (.bool (decide (i < j))) := ev_op ha hb fun x y H1 _ p1 p2 Q q => ⟨i, j, dp_int p1, dp_int p2, q _ H1 (Ex.refl H1) (.bl _)⟩
theorem ed_gt (ha : EvD K ta σ H (.int i)) (hb : EvD K tb σ H (.int j)) : EvD K (tOp (rI0 fun i j => .bl (decide (j < i))) ta tb) σ H (.bool (decide (j < i))) := ev_op ha hb fun x y H1 _ p1 p2 Q q => ⟨i, j, dp_int p1, dp_int p2, q _ H1 (Ex.refl H1) (.bl _)⟩
theorem ed_le (ha : EvD K ta σ H (.int i)) (hb : EvD K tb σ H (.int j)) : EvD K (tOp (rI0 fun i j => .bl (decide (i ≤ j))) ta tb) σ H (.bool (decide (i ≤ j))) := ev_op ha hb fun x y H1 _ p1 p2 Q q => ⟨i, j, dp_int p1, dp_int p2, q _ H1 (Ex.refl H1) (.bl _)⟩
theorem ed_ge (ha : EvD K ta σ H (.int i)) (hb : EvD K tb σ H (.int j)) : EvD K (tOp (rI0 fun i j => .bl (decide (j ≤ i))) ta tb) σ H (.bool (decide (j ≤ i))) := ev_op ha hb fun x y H1 _ p1 p2 Q q => ⟨i, j, dp_int p1, dp_int p2, q _ H1 (Ex.refl H1) (.bl _)⟩
theorem dec_i (i j : Int) : decide (V.int i = V.int j) = decide (i = j) := by
  by_cases h : i = j
  · rw [decide_eq_true h, h, decide_eq_true rfl]
  · rw [decide_eq_false h, decide_eq_false fun q => h (V.int.inj q)]
theorem dec_b (i j : Bool) : decide (V.bl i = V.bl j) = decide (i = j) := by
  cases i <;> cases j <;> rfl
theorem dec_s (i j : Str) : decide (V.str i = V.str j) = decide (i = j) := by
  by_cases h : i = j
  · rw [decide_eq_true h, h, decide_eq_true rfl]
  · rw [decide_eq_false h, decide_eq_false fun q => h (V.str.inj q)]
theorem ed_eqI (ha : EvD K ta σ H (.int i)) (hb : EvD K tb σ H (.int j)) : EvD K (tOp rEq ta tb) σ H (.bool (decide (i = j))) := ev_op ha hb fun x y H1 _ p1 p2 Q q => by
  have e1 := dp_int p1
  have e2 := dp_int p2
  subst e1 e2
  refine ⟨rfl, ?_⟩
  rw [dec_i]
  exact q _ H1 (Ex.refl H1) (.bl _)
theorem ed_neI (ha : EvD K ta σ H (.int i)) (hb : EvD K tb σ H (.int j)) : EvD K (tOp rNe ta tb) σ H (.bool (!decide (i = j))) := ev_op ha hb fun x y H1 _ p1 p2 Q q => by
  have e1 := dp_int p1
  have e2 := dp_int p2
  subst e1 e2
  refine ⟨rfl, ?_⟩
  rw [dec_i]
  exact q _ H1 (Ex.refl H1) (.bl _)
theorem ed_eqB (ha : EvD K ta σ H (.bool b)) (hb : EvD K tb σ H (.bool b2)) : EvD K (tOp rEq ta tb) σ H (.bool (decide (b = b2))) := ev_op ha hb fun x y H1 _ p1 p2 Q q => by
  have e1 := dp_bl p1
  have e2 := dp_bl p2
  subst e1 e2
  refine ⟨rfl, ?_⟩
  rw [dec_b]
  exact q _ H1 (Ex.refl H1) (.bl _)
theorem ed_neB (ha : EvD K ta σ H (.bool b)) (hb : EvD K tb σ H (.bool b2)) : EvD K (tOp rNe ta tb) σ H (.bool (!decide (b = b2))) := ev_op ha hb fun x y H1 _ p1 p2 Q q => by
  have e1 := dp_bl p1
  have e2 := dp_bl p2
  subst e1 e2
  refine ⟨rfl, ?_⟩
  rw [dec_b]
  exact q _ H1 (Ex.refl H1) (.bl _)
theorem ed_eqS {x y : Str} (ha : EvD K ta σ H (.str x)) (hb : EvD K tb σ H (.str y)) : EvD K (tOp rEq ta tb) σ H (.bool (decide (x = y))) := ev_op ha hb fun v w H1 _ p1 p2 Q q => by
  have e1 := dp_str p1
  have e2 := dp_str p2
  subst e1 e2
  refine ⟨rfl, ?_⟩
  rw [dec_s]
  exact q _ H1 (Ex.refl H1) (.bl _)
theorem ed_neS {x y : Str} (ha : EvD K ta σ H (.str x)) (hb : EvD K tb σ H (.str y)) : EvD K (tOp rNe ta tb) σ H (.bool (!decide (x = y))) := ev_op ha hb fun v w H1 _ p1 p2 Q q => by
  have e1 := dp_str p1
  have e2 := dp_str p2
  subst e1 e2
  refine ⟨rfl, ?_⟩
  rw [dec_s]
  exact q _ H1 (Ex.refl H1) (.bl _)
theorem ed_eqD (s1 : SeqAt.shaped d = true) (s2 : SeqAt.shaped d2 = true) (ha : EvD K ta σ H d) (hb : EvD K tb σ H d2) : EvD K (tOp (rEqD K) ta tb) σ H (.bool (PyData.eqv d d2)) := ev_op ha hb fun x y H1 _ p1 p2 Q q => ⟨d, d2, dp_l2 d x p1, dp_l2 d2 y p2, s1, s2, q _ H1 (Ex.refl H1) (.bl _)⟩
theorem ed_neD (s1 : SeqAt.shaped d = true) (s2 : SeqAt.shaped d2 = true) (ha : EvD K ta σ H d) (hb : EvD K tb σ H d2) : EvD K (tOp (rNeD K) ta tb) σ H (.bool (!PyData.eqv d d2)) := ev_op ha hb fun x y H1 _ p1 p2 Q q => ⟨d, d2, dp_l2 d x p1, dp_l2 d2 y p2, s1, s2, q _ H1 (Ex.refl H1) (.bl _)⟩
theorem ed_ixL {ds : List PyData} (h : atI ds i = some d) (ha : EvD K ta σ H (.list ds)) (hb : EvD K tb σ H (.int i)) : EvD K (tOp (rIxL K) ta tb) σ H d := ev_op ha hb fun x y H1 _ p1 p2 Q q => by
  obtain ⟨a, xs, e, s, al⟩ := dp_lst p1
  obtain ⟨v, hv, hd⟩ := atI_dp al h
  exact ⟨a, xs, i, v, e, dp_int p2, s, hv, q v H1 (Ex.refl H1) hd⟩
theorem ed_ixT {ds : List PyData} (h : atI ds i = some d) (ha : EvD K ta σ H (.tuple ds)) (hb : EvD K tb σ H (.int i)) : EvD K (tOp (rIxT K) ta tb) σ H d := ev_op ha hb fun x y H1 _ p1 p2 Q q => by
  obtain ⟨a, xs, e, s, al⟩ := dp_tup p1
  obtain ⟨v, hv, hd⟩ := atI_dp al h
  exact ⟨a, xs, i, v, e, dp_int p2, s, hv, q v H1 (Ex.refl H1) hd⟩
/-- an item of a word -/
theorem at_int {ns : List Int} {n : Nat} {x : Int} (h : ns[n]? = some x) (e : i = (n : Int)) : atI (ns.map PyData.int) i = some (.int x) := by
  rw [e]
  refine atI_nat ?_
  rw [List.getElem?_map, h] <;> rfl
theorem at_wd {rows : List (List Int)} {n : Nat} {x : List Int} (h : rows[n]? = some x) (e : i = (n : Int)) : atI (wds rows) i = some (wd x) := by
  rw [e]
  refine atI_nat ?_
  rw [List.getElem?_map, h] <;> rfl

/-! ### tests -/
theorem eb_test (h : EvD K te σ H (.bool b)) : EvB (tTest te) σ H b := fun H1 e _ q => h H1 e _ fun v H2 e2 p => ⟨b, dp_bl p, q H2 e2⟩
theorem eb_B (h : EvD K te σ H (.bool b)) : EvB (tB te) σ H b := fun H1 e _ q => h H1 e _ fun v H2 e2 p => ⟨b, dp_bl p, q H2 e2⟩
theorem eb_and (h1 : EvB t σ H b) (h2 : b = true → EvB u σ H b2) : EvB (tAnd t u) σ H (b && b2) := fun H1 e Q q => h1 H1 e _ fun H2 e2 => by
  cases b with
  | true => exact h2 rfl H2 (e.trans e2) Q fun H3 e3 => q H3 (e2.trans e3)
  | false => exact q H2 e2
theorem eb_or (h1 : EvB t σ H b) (h2 : b = false → EvB u σ H b2) : EvB (tOr t u) σ H (b || b2) := fun H1 e Q q => h1 H1 e _ fun H2 e2 => by
  cases b with
  | true => exact q H2 e2
  | false => exact h2 rfl H2 (e.trans e2) Q fun H3 e3 => q H3 (e2.trans e3)
theorem eb_not (h1 : EvB t σ H b) : EvB (tNot t) σ H (!b) := fun H1 e _ q => h1 H1 e _ fun H2 e2 => q H2 e2
theorem EvB.is (h : EvB t σ H b) (e : b = b2) : EvB t σ H b2 := e ▸ h
theorem ed_andV (h1 : EvD K ta σ H (.bool b)) (h2 : b = true → EvD K tb σ H (.bool b2)) : EvD K (tAndV ta tb) σ H (.bool (b && b2)) := fun H1 e Q q => h1 H1 e _ fun v H2 e2 p => ⟨b, dp_bl p, by
  cases b with
  | true => exact h2 rfl H2 (e.trans e2) Q fun w H3 e3 p3 => q w H3 (e2.trans e3) p3
  | false => exact q _ H2 e2 (.bl _)⟩
theorem ed_orV (h1 : EvD K ta σ H (.bool b)) (h2 : b = false → EvD K tb σ H (.bool b2)) : EvD K (tOrV ta tb) σ H (.bool (b || b2)) := fun H1 e Q q => h1 H1 e _ fun v H2 e2 p => ⟨b, dp_bl p, by
  cases b with
  | true => exact q _ H2 e2 (.bl _)
  | false => exact h2 rfl H2 (e.trans e2) Q fun w H3 e3 p3 => q w H3 (e2.trans e3) p3⟩
theorem ed_notV (h1 : EvD K ta σ H (.bool b)) : EvD K (tNotV ta) σ H (.bool (!b)) := fun H1 e Q q => h1 H1 e _ fun v H2 e2 p => ⟨b, dp_bl p, q _ H2 e2 (.bl _)⟩

/-! ### arguments, calls -/
theorem ea_nil : EvA tNil σ H [] := fun H1 _ _ q => q [] H1 (Ex.refl H1) trivial
theorem ea_cons {tr : TA} {Ps : List VP} [Mono P] (h : EvP ta σ H P) (hr : EvA tr σ H Ps) : EvA (tCons ta tr) σ H (P :: Ps) := fun H1 e _ q =>
  h H1 e _ fun v H2 e2 p => hr H2 (e.trans e2) _ fun vs H3 e3 ps => q (v :: vs) H3 (e2.trans e3) ⟨Mono.mono e3 p, ps⟩
theorem EvA.mono {ta : TA} {Ps : List VP} (e : Ex H H') (h : EvA ta σ H Ps) : EvA ta σ H' Ps := fun H1 a Q q => h H1 (e.trans a) Q q
/-- a promise: arguments by words, what is asked, the answer's word; the heap only grows -/
def spOf {ι : Type} (ar : ι → List VP) (pre : ι → Prop) (res : ι → VP) : Sp := fun vs H Q _ => ∃ x : ι, AllP (ar x) H vs ∧ pre x ∧ ∀ v H', Ex H H' → res x H' v → Q v H'
theorem ev_call {ι : Type} {ar : ι → List VP} {pre : ι → Prop} {res : ι → VP} {E : XK} {ta : TA} (x : ι) (hp : pre x) (ha : EvA ta σ H (ar x)) : EvP (tCall (spOf ar pre res) [] E ta) σ H (res x) := fun H1 e Q q =>
  ha H1 e _ fun vs H2 e2 ps => by
    rw [List.append_nil]
    exact ⟨x, ps, hp, fun v H3 e3 p => q v H3 (e2.trans e3) p⟩
theorem spOf_len {ι : Type} {ar : ι → List VP} {pre : ι → Prop} {res : ι → VP} {n : Nat} (hn : ∀ x, (ar x).length = n) {vs : List V} {H : Hp} {Q : VK} {E : XK} (h : spOf ar pre res vs H Q E) : vs.length = n := by
  obtain ⟨x, ps, _⟩ := h
  rw [allP_len ps, hn]
theorem ev_cb {r : List V → Hp → VK → Prop} {ta : TA} {Ps : List VP} (ha : EvA ta σ H Ps) (hr : ∀ vs H1, Ex H H1 → AllP Ps H1 vs → ∀ Q : VK, (∀ v H2, Ex H1 H2 → R H2 v → Q v H2) → r vs H1 Q) : EvP (tCB r ta) σ H R := fun H1 e Q q =>
  ha H1 e _ fun vs H2 e2 ps => hr vs H2 (e.trans e2) ps Q fun v H3 e3 p => q v H3 (e2.trans e3) p
theorem en_cb {r : List V → Hp → VK → Prop} {ta : TA} {Ps : List VP} {R : Hp → Addr → Prop} (ha : EvA ta σ H Ps) (hr : ∀ vs H1, Ex H H1 → AllP Ps H1 vs → ∀ Q : VK, (∀ p H2, H1 p = none → Ex H1 H2 → R H2 p → Q (.ref p) H2) → r vs H1 Q) : EvN (tCB r ta) σ H R := fun H1 e Q q =>
  ha H1 e _ fun vs H2 e2 ps => hr vs H2 (e.trans e2) ps Q fun p H3 hp e3 pr => q p H3 (fresh_back e2 hp) (e2.trans e3) pr
end
end WK

set_option Elab.async false
set_option linter.all false
set_option maxRecDepth 100000
set_option maxHeartbeats 4000000
/-! More of the layer: built-in calls, comprehensions, statements, loops. -/
namespace WK
open PySem PySem.Spec PyProof.Rows L2
open Evl (Ex ex_l ex_t ex_rd sq_of st_of sz_of sz_lt fresh_back rLenS rListS)

section
variable {K : PySem.W.Frag} {σ : L2.St} {H H' : Hp} {ta tb tc te tl : TE} {t u : TT} {P P2 R : VP} {d d2 : PyData} {i j : Int} {b b2 : Bool}

theorem ex_of_new {H : Hp} {p : Addr} {o : HO} (h : H p = none) : Ex H (upd H p o) := Ex.new h
/-- list(x), tuple(x) of a list or a tuple -/
def rTupS (K : PySem.W.Frag) : List V → Hp → VK → Prop := fun xs H Q => ∃ p ys, xs = [.ref p] ∧ ((SqL K H p ys ∧ ∀ l, H l = none → Q (.ref l) (upd H l (.tup ys))) ∨ (SqT K H p ys ∧ Q (.ref p) H))
theorem ed_lenL {ds : List PyData} (ha : EvD K ta σ H (.list ds)) : EvD K (tCB (rLenS K) (tCons ta tNil)) σ H (.int (ds.length : Int)) := ev_cb (ea_cons ha ea_nil) fun vs H1 _ ps Q q => by
  obtain ⟨a, rfl, pa⟩ := allP1 ps
  obtain ⟨p, xs, rfl, s, al⟩ := dp_lst pa
  refine ⟨p, xs, rfl, .inl s, ?_⟩
  rw [dpAll_len al]
  exact q _ H1 (Ex.refl H1) (.int _)
theorem ed_lenT {ds : List PyData} (ha : EvD K ta σ H (.tuple ds)) : EvD K (tCB (rLenS K) (tCons ta tNil)) σ H (.int (ds.length : Int)) := ev_cb (ea_cons ha ea_nil) fun vs H1 _ ps Q q => by
  obtain ⟨a, rfl, pa⟩ := allP1 ps
  obtain ⟨p, xs, rfl, s, al⟩ := dp_tup pa
  refine ⟨p, xs, rfl, .inr s, ?_⟩
  rw [dpAll_len al]
  exact q _ H1 (Ex.refl H1) (.int _)
theorem ed_tupL {ds : List PyData} (hd : tOnlyAll ds = true) (ha : EvD K ta σ H (.list ds)) : EvD K (tCB (rTupS K) (tCons ta tNil)) σ H (.tuple ds) := ev_cb (ea_cons ha ea_nil) fun vs H1 _ ps Q q => by
  obtain ⟨a, rfl, pa⟩ := allP1 ps
  obtain ⟨p, xs, rfl, s, al⟩ := dp_lst pa
  exact ⟨p, xs, rfl, .inl ⟨s, fun l hl => q _ _ (ex_of_new hl) (.tup upd_same (dpAll_mono (ex_of_new hl) al))⟩⟩
theorem ed_tupT {ds : List PyData} (ha : EvD K ta σ H (.tuple ds)) : EvD K (tCB (rTupS K) (tCons ta tNil)) σ H (.tuple ds) := ev_cb (ea_cons ha ea_nil) fun vs H1 _ ps Q q => by
  obtain ⟨a, rfl, pa⟩ := allP1 ps
  have p0 := pa
  obtain ⟨p, xs, rfl, s, al⟩ := dp_tup pa
  exact ⟨p, xs, rfl, .inr ⟨s, q _ H1 (Ex.refl H1) p0⟩⟩
/-- a new list at p holds these data -/
def NL (K : PySem.W.Frag) (ds : List PyData) (H : Hp) (p : Addr) : Prop := ∃ xs, H p = some (.lst xs) ∧ DpAll K H xs ds
theorem NL.dp {ds : List PyData} {p : Addr} (h : NL K ds H p) : Dp K H (.ref p) (.list ds) := by
  obtain ⟨xs, h1, h2⟩ := h
  exact .lst h1 h2
theorem NL.mono {ds : List PyData} {p : Addr} (e : Ex H H') (h : NL K ds H p) : NL K ds H' p := by
  obtain ⟨xs, h1, h2⟩ := h
  exact ⟨xs, e _ _ h1, dpAll_mono e h2⟩
theorem EvN.ls {ds : List PyData} (h : EvN te σ H (NL K ds)) : EvD K te σ H (.list ds) := h.p fun _ _ => NL.dp
theorem EvN.is {ds es : List PyData} (h : EvN te σ H (NL K ds)) (e : ds = es) : EvN te σ H (NL K es) := e ▸ h
theorem en_listL {ds : List PyData} (ha : EvD K ta σ H (.list ds)) : EvN (tCB (rListS K) (tCons ta tNil)) σ H (NL K ds) := en_cb (ea_cons ha ea_nil) fun vs H1 _ ps Q q => by
  obtain ⟨a, rfl, pa⟩ := allP1 ps
  obtain ⟨p, xs, rfl, s, al⟩ := dp_lst pa
  exact ⟨p, xs, rfl, .inl s, fun l hl => q _ _ hl (ex_of_new hl) ⟨xs, upd_same, dpAll_mono (ex_of_new hl) al⟩⟩
theorem en_listT {ds : List PyData} (ha : EvD K ta σ H (.tuple ds)) : EvN (tCB (rListS K) (tCons ta tNil)) σ H (NL K ds) := en_cb (ea_cons ha ea_nil) fun vs H1 _ ps Q q => by
  obtain ⟨a, rfl, pa⟩ := allP1 ps
  obtain ⟨p, xs, rfl, s, al⟩ := dp_tup pa
  exact ⟨p, xs, rfl, .inr s, fun l hl => q _ _ hl (ex_of_new hl) ⟨xs, upd_same, dpAll_mono (ex_of_new hl) al⟩⟩
/-- displays -/
theorem ed_tup {ta : TA} {ds : List PyData} (h : EvA ta σ H (ds.map (DP K))) (hl : ds.length ≤ 100000) : EvD K (tTup ta) σ H (.tuple ds) := fun H1 e Q q => h H1 e _ fun vs H2 e2 ps => by
  have al : DpAll K H2 vs ds := by
    clear h hl q
    induction ds generalizing vs with
    | nil =>
      cases vs with
      | nil => exact .nil
      | cons a r => exact ps.elim
    | cons d ds ih =>
      cases vs with
      | nil => exact ps.elim
      | cons a r => exact .cons ps.1 (ih r ps.2)
  exact ⟨sz_of (by rw [dpAll_len al]; exact hl), fun p hp => q _ _ (e2.trans (ex_of_new hp)) (.tup upd_same (dpAll_mono (ex_of_new hp) al))⟩
theorem en_lst {ta : TA} {ds : List PyData} (h : EvA ta σ H (ds.map (DP K))) (hl : ds.length ≤ 100000) : EvN (tLst ta) σ H (NL K ds) := fun H1 e Q q => h H1 e _ fun vs H2 e2 ps => by
  have al : DpAll K H2 vs ds := by
    clear h hl q
    induction ds generalizing vs with
    | nil =>
      cases vs with
      | nil => exact .nil
      | cons a r => exact ps.elim
    | cons d ds ih =>
      cases vs with
      | nil => exact ps.elim
      | cons a r => exact .cons ps.1 (ih r ps.2)
  exact ⟨sz_of (by rw [dpAll_len al]; exact hl), fun p hp => q _ _ (fresh_back e2 hp) (e2.trans (ex_of_new hp)) ⟨vs, upd_same, dpAll_mono (ex_of_new hp) al⟩⟩
/-- [..] + [..] of two new lists -/
theorem en_cat {ds es : List PyData} (ha : EvN ta σ H (NL K ds)) (hb : EvN tb σ H (NL K es)) (hz : ds.length + es.length ≤ 100000) : EvN (tOp rCat ta tb) σ H (NL K (ds ++ es)) := fun H1 e Q q =>
  ha H1 e _ fun p H2 hp e2 a => hb H2 (e.trans e2) _ fun r H3 hr e3 b => by
    obtain ⟨xs, x1, x2⟩ := a.mono e3
    obtain ⟨ys, y1, y2⟩ := b
    exact ⟨p, r, xs, ys, rfl, rfl, x1, y1, sz_of (by rw [dpAll_len x2, dpAll_len y2]; exact hz), fun l hl =>
      q l _ (fresh_back (e2.trans e3) hl) ((e2.trans e3).trans (ex_of_new hl)) ⟨xs ++ ys, upd_same, dpAll_app (dpAll_mono (ex_of_new hl) x2) (dpAll_mono (ex_of_new hl) y2)⟩⟩
/-- x + [..], x a list that H holds -/
theorem en_catV {ds es : List PyData} {p : Addr} {xs : List V} (ha : EvP ta σ H (XP (.ref p))) (hx : H p = some (.lst xs)) (hd : DpAll K H xs ds) (hb : EvN tb σ H (NL K es)) (hz : ds.length + es.length ≤ 100000) : EvN (tOp rCat ta tb) σ H (NL K (ds ++ es)) := fun H1 e Q q =>
  ha H1 e _ fun v H2 e2 a => hb H2 (e.trans e2) _ fun r H3 hr e3 b => by
    have hv : v = .ref p := a
    subst hv
    have E := (e.trans e2).trans e3
    obtain ⟨ys, y1, y2⟩ := b
    exact ⟨p, r, xs, ys, rfl, rfl, E _ _ hx, y1, sz_of (by rw [dpAll_len hd, dpAll_len y2]; exact hz), fun l hl =>
      q l _ (fresh_back (e2.trans e3) hl) ((e2.trans e3).trans (ex_of_new hl)) ⟨xs ++ ys, upd_same, dpAll_app (dpAll_mono (E.trans (ex_of_new hl)) hd) (dpAll_mono (ex_of_new hl) y2)⟩⟩
/-- tuple + tuple -/
theorem ed_catT {ds es : List PyData} (ha : EvD K ta σ H (.tuple ds)) (hb : EvD K tb σ H (.tuple es)) (hz : ds.length + es.length ≤ 100000) : EvD K (tOp (rCatA K) ta tb) σ H (.tuple (ds ++ es)) := ev_op ha hb fun x y H1 _ p1 p2 Q q => by
  have q1 := p1
  have q2 := p2
  obtain ⟨a, xs, rfl, s1, al1⟩ := dp_tup p1
  obtain ⟨c, ys, rfl, s2, al2⟩ := dp_tup p2
  refine ⟨a, c, xs, ys, rfl, rfl, s1, s2, sz_of (by rw [dpAll_len al1, dpAll_len al2]; exact hz), fun h => ?_, fun _ h => ?_, fun _ _ p hp => ?_⟩
  · subst h
    cases al1
    exact q _ H1 (Ex.refl H1) q2
  · subst h
    cases al2
    rw [List.append_nil] at *
    exact q _ H1 (Ex.refl H1) q1
  · exact q _ _ (ex_of_new hp) (.tup upd_same (dpAll_app (dpAll_mono (ex_of_new hp) al1) (dpAll_mono (ex_of_new hp) al2)))
/-- [x] * n -/
theorem en_rep {n : Int} (ha : EvN ta σ H (NL K [d])) (hd : tOnly d = true) (hb : EvD K tb σ H (.int n)) (hn : 0 ≤ n ∧ n ≤ 100000) : EvN (tOp rRep ta tb) σ H (NL K (List.replicate n.toNat d)) := fun H1 e Q q =>
  ha H1 e _ fun p H2 hp e2 a => hb H2 (e.trans e2) _ fun r H3 e3 b => by
    have hr := dp_int b
    subst hr
    obtain ⟨xs, x1, x2⟩ := a.mono e3
    obtain ⟨x, rfl⟩ : ∃ x, xs = [x] := by
      have hl := dpAll_len x2
      cases xs with
      | nil => simp at hl
      | cons x r =>
        cases r with
        | nil => exact ⟨x, rfl⟩
        | cons y r => simp at hl
    refine ⟨p, n, [x], rfl, rfl, x1, by omega, by omega, sz_of (by show 1 * n.toNat ≤ 100000; omega), fun l hl => ?_⟩
    refine q l _ (fresh_back (e2.trans e3) hl) ((e2.trans e3).trans (ex_of_new hl)) ⟨_, upd_same, ?_⟩
    have hx : Dp K (upd H3 l (.lst (List.replicate n.toNat [x]).flatten)) x d := by
      cases x2 with
      | cons a _ => exact dp_mono (ex_of_new hl) a
    generalize upd H3 l (.lst (List.replicate n.toNat [x]).flatten) = G at hx
    generalize n.toNat = m
    induction m with
    | zero => exact .nil
    | succ m ih => exact .cons hx ih
/-- int(x) -/
def rInt1 : List V → Hp → VK → Prop := fun xs H Q => (∃ i, xs = [.int i] ∧ Q (.int i) H) ∨ ∃ k, xs = [.bl k] ∧ Q (.int (if k then 1 else 0)) H
theorem ed_intI (ha : EvD K ta σ H (.int i)) : EvD K (tCB rInt1 (tCons ta tNil)) σ H (.int i) := ev_cb (ea_cons ha ea_nil) fun vs H1 _ ps Q q => by
  obtain ⟨a, rfl, p⟩ := allP1 ps
  have e := dp_int p
  subst e
  exact .inl ⟨i, rfl, q _ H1 (Ex.refl H1) (.int _)⟩
theorem ed_intB (ha : EvD K ta σ H (.bool b)) : EvD K (tCB rInt1 (tCons ta tNil)) σ H (.int (if b then 1 else 0)) := ev_cb (ea_cons ha ea_nil) fun vs H1 _ ps Q q => by
  obtain ⟨a, rfl, p⟩ := allP1 ps
  have e := dp_bl p
  subst e
  exact .inr ⟨b, rfl, q _ H1 (Ex.refl H1) (.int _)⟩
/-- slices of tuples -/
theorem atV {α β : Type} (f : α → β) (xs : List α) (n : Nat) : (xs.map f).take n = (xs.take n).map f := List.map_take.symm
def cutD (ds : List PyData) (lo hi : Option Int) : List PyData := (ds.drop (HT.sIx ds.length 0 lo)).take (HT.sIx ds.length ds.length hi - HT.sIx ds.length 0 lo)
def EvO (to : TO) (σ : L2.St) (H : Hp) (o : Option Int) : Prop := ∀ H1, Ex H H1 → ∀ Q : Option Int → Hp → Prop, (∀ H2, Ex H1 H2 → Q o H2) → to σ H1 Q
theorem eo_none : EvO tNoPart σ H none := fun H1 _ _ q => q H1 (Ex.refl H1)
theorem eo_some (h : EvD K te σ H (.int i)) : EvO (tPart te) σ H (some i) := fun H1 e _ q => h H1 e _ fun v H2 e2 p => ⟨i, dp_int p, q H2 e2⟩
theorem ed_slT {ds : List PyData} {tlo thi : TO} {lo hi : Option Int} (ha : EvD K ta σ H (.tuple ds)) (h1 : EvO tlo σ H lo) (h2 : EvO thi σ H hi) : EvD K (tSl (rSlA K) ta tlo thi) σ H (.tuple (cutD ds lo hi)) := fun H1 e Q q =>
  ha H1 e _ fun v H2 e2 p => h1 H2 (e.trans e2) _ fun H3 e3 => h2 H3 ((e.trans e2).trans e3) _ fun H4 e4 => by
    have p' := dp_mono (e3.trans e4) p
    have E := (e2.trans e3).trans e4
    have p0 := p'
    obtain ⟨a, xs, rfl, s, al⟩ := dp_tup p'
    have hl := dpAll_len al
    have hc : DpAll K H4 (cutV xs lo hi) (cutD ds lo hi) := by
      unfold cutV cutD
      rw [hl]
      exact dpAll_take _ (dpAll_drop _ al)
    refine ⟨a, xs, rfl, s, fun hh => ?_, fun _ l hl => q _ _ (E.trans (ex_of_new hl)) (.tup upd_same (dpAll_mono (ex_of_new hl) hc))⟩
    have ec : cutD ds lo hi = ds := by
      unfold cutD
      rw [hl] at hh
      rw [hh.1, hh.2, List.drop_zero, Nat.sub_zero, List.take_length]
    rw [ec] at q
    exact q _ H4 E p0
theorem ed_slL {ds : List PyData} {tlo thi : TO} {lo hi : Option Int} (ha : EvD K ta σ H (.list ds)) (h1 : EvO tlo σ H lo) (h2 : EvO thi σ H hi) : EvN (tSl (rSlL K) ta tlo thi) σ H (NL K (cutD ds lo hi)) := fun H1 e Q q =>
  ha H1 e _ fun v H2 e2 p => h1 H2 (e.trans e2) _ fun H3 e3 => h2 H3 ((e.trans e2).trans e3) _ fun H4 e4 => by
    have p' := dp_mono (e3.trans e4) p
    have E := (e2.trans e3).trans e4
    obtain ⟨a, xs, rfl, s, al⟩ := dp_lst p'
    have hl := dpAll_len al
    have hc : DpAll K H4 (cutV xs lo hi) (cutD ds lo hi) := by
      unfold cutV cutD
      rw [hl]
      exact dpAll_take _ (dpAll_drop _ al)
    exact ⟨a, xs, rfl, s, fun l hl => q l _ (fresh_back E hl) (E.trans (ex_of_new hl)) ⟨_, upd_same, dpAll_mono (ex_of_new hl) hc⟩⟩
/-- x in xs, not in, of ints -/
theorem inV_ints (x : Int) : ∀ ns : List Int, inV (.int x) (ns.map V.int) = decide (x ∈ ns)
  | [] => rfl
  | n :: ns => by
    have ih := inV_ints x ns
    unfold inV at ih ⊢
    rw [List.map_cons, List.any_cons, ih]
    show ((n == x) || decide (x ∈ ns)) = decide (x ∈ n :: ns)
    by_cases h : x = n
    · subst h
      simp
    · have h' : (n == x) = false := by simpa using fun q => h q.symm
      rw [h', Bool.false_or]
      simp [h]
theorem flat_ints : ∀ ns : List Int, (ns.map V.int).all flatV = true
  | [] => rfl
  | n :: ns => by
    rw [List.map_cons, List.all_cons, flat_ints ns] <;> rfl
theorem ed_inT {ns : List Int} {neg : Bool} (ha : EvD K ta σ H (.int i)) (hb : EvD K tb σ H (wd ns)) : EvD K (tOp (rIn K neg) ta tb) σ H (.bool (if neg then !decide (i ∈ ns) else decide (i ∈ ns))) := ev_op ha hb fun x y H1 _ p1 p2 Q q => by
  have e := dp_int p1
  subst e
  obtain ⟨a, rfl, s⟩ := dp_wd p2
  refine ⟨a, _, rfl, .inr s, rfl, flat_ints ns, ?_⟩
  rw [inV_ints]
  exact q _ H1 (Ex.refl H1) (.bl _)

/-! ### comprehensions -/
def IsLc (K : PySem.W.Frag) (H : Hp) (Dl : Addr) (ds : List PyData) (H' : Hp) : Prop := H Dl = none ∧ Ex H H' ∧ NL K ds H' Dl
theorem lc_step {σ2 : L2.St} {Dl : Addr} {ds : List PyData} {fb : Bool} (hT : tOnlyAll ds = true) (p : IsLc K H Dl ds H') (hi : ds.length < 50000) (ht : EvB t σ2 H fb) (he : fb = true → EvD K te σ2 H d) (hd : tOnly d = true) {Nx : Hp → Prop}
    (n1 : ∀ H2, fb = true → IsLc K H Dl (ds ++ [d]) H2 → Nx H2) (n2 : ∀ H2, fb = false → IsLc K H Dl ds H2 → Nx H2) :
    t σ2 H' fun b H3 => if b = true then te σ2 H3 fun y H4 => ∃ acc, H4 Dl = some (.lst acc) ∧ acc.length < sizeLine ∧ Nx (upd H4 Dl (.lst (acc ++ [y]))) else Nx H3 := by
  obtain ⟨p1, p2, p3⟩ := p
  refine ht H' p2 _ fun H3 e3 => ?_
  cases fb with
  | true =>
    show te σ2 H3 _
    refine he rfl H3 (p2.trans e3) _ fun y H4 e4 py => ?_
    obtain ⟨xs, x1, x2⟩ := p3.mono (e3.trans e4)
    refine ⟨xs, x1, sz_lt (by rw [dpAll_len x2]; omega), n1 _ rfl ⟨p1, Ex.mut ((p2.trans e3).trans e4) p1, xs ++ [y], upd_same, dpAll_snoc (dpAll_updL x1 hT x2) (dp_updL x1 hd py)⟩⟩
  | false => exact n2 _ rfl ⟨p1, p2.trans e3, p3.mono e3⟩
theorem filter_snoc {α β : Type} (f : α → Bool) (g : α → β) (xs : List α) (x : α) : ((xs ++ [x]).filter f).map g = (xs.filter f).map g ++ if f x then [g x] else [] := by
  rw [List.filter_append, List.map_append]
  congr 1
  cases h : f x <;> simp [List.filter_cons, h]
theorem tOnly_map {α : Type} (g : α → PyData) (h : ∀ a, tOnly (g a) = true) : ∀ xs : List α, tOnlyAll (xs.map g) = true
  | [] => rfl
  | x :: xs => by
    show (tOnly (g x) && tOnlyAll (xs.map g)) = true
    rw [h x, tOnly_map g h xs] <;> rfl
theorem take_snoc {α : Type} {l : List α} {i : Nat} {x : α} (h : l[i]? = some x) : l.take (i + 1) = l.take i ++ [x] := by
  rw [List.take_add_one, h] <;> rfl
theorem en_lcR {ta : TA} {jx : Nat} {vs : List Nat} {n : Int} (f : Nat → Bool) (g : Nat → PyData) (hg : ∀ k, tOnly (g k) = true) (h : EvA ta σ H [DP K (.int n)]) (hn : 0 ≤ n ∧ n ≤ 40000) (hw : ∀ x, wipe ((wipe σ vs).set jx (some x)) vs = wipe σ vs)
    (ht : ∀ (k : Nat) H1, Ex H H1 → (k : Int) < n → EvB t ((wipe σ vs).set jx (some (.int (k : Int)))) H1 (f k)) (he : ∀ (k : Nat) H1, Ex H H1 → (k : Int) < n → f k = true → EvD K te ((wipe σ vs).set jx (some (.int (k : Int)))) H1 (g k)) :
    EvN (tLc (iRng1 ta) (gName jx) t te vs) σ H (NL K (((List.range n.toNat).filter f).map g)) := fun H0 e Q q => h H0 e _ fun vs1 H1 e1 ps => by
  obtain ⟨a, rfl, pa⟩ := allP1 ps
  have ea := dp_int pa
  subst ea
  refine ⟨n, rfl, by omega, by omega, fun Dl hD => ?_⟩
  refine lc_range (lo := 0) (n := n.toNat) (fun i => IsLc K H1 Dl (((List.range i).filter f).map g)) ⟨hD, Ex.new hD, [], upd_same, .nil⟩ (fun i H' hi p => ?_) fun H' p => q Dl H' (fresh_back e1 p.1) (e1.trans p.2.1) p.2.2
  have e0 : (0 : Int) + (i : Int) = (i : Int) := Int.zero_add _
  show wipe ((wipe σ vs).set jx (some (.int ((0 : Int) + (i : Int))))) vs = wipe σ vs ∧ t ((wipe σ vs).set jx (some (.int ((0 : Int) + (i : Int))))) H' fun b H3 => if b = true then te ((wipe σ vs).set jx (some (.int ((0 : Int) + (i : Int))))) H3 fun y H4 => ∃ acc, H4 Dl = some (.lst acc) ∧ acc.length < sizeLine ∧ IsLc K H1 Dl (((List.range (i + 1)).filter f).map g) (upd H4 Dl (.lst (acc ++ [y]))) else IsLc K H1 Dl (((List.range (i + 1)).filter f).map g) H3
  rw [e0]
  refine ⟨hw _, ?_⟩
  have hE : Ex H H1 := e.trans e1
  have hlt : (((List.range i).filter f).map g).length < 50000 := by
    rw [List.length_map]
    have := List.length_filter_le f (List.range i)
    rw [List.length_range] at this
    omega
  refine lc_step (d := g i) (fb := f i) (tOnly_map g hg _) p hlt (ht i H1 hE (by omega)) (fun hf => he i H1 hE (by omega) hf) (hg i) (fun H2 hf r => ?_) fun H2 hf r => ?_
  · rw [List.range_succ, filter_snoc, hf]
    exact r
  · rw [List.range_succ, filter_snoc, hf]
    show IsLc K H1 Dl (_ ++ []) H2
    rw [List.append_nil]
    exact r
theorem en_lcL {α : Type} {jx : Nat} {vs : List Nat} (emb : α → PyData) (as : List α) (f : α → Bool) (g : α → PyData) (hg : ∀ k, tOnly (g k) = true) (h : EvD K tl σ H (.list (as.map emb))) (hz : as.length ≤ 40000) (hw : ∀ x, wipe ((wipe σ vs).set jx (some x)) vs = wipe σ vs)
    (ht : ∀ (k : Nat) (x : V) (c : α) H1, Ex H H1 → as[k]? = some c → Dp K H1 x (emb c) → EvB t ((wipe σ vs).set jx (some x)) H1 (f c)) (he : ∀ (k : Nat) (x : V) (c : α) H1, Ex H H1 → as[k]? = some c → Dp K H1 x (emb c) → f c = true → EvD K te ((wipe σ vs).set jx (some x)) H1 (g c)) :
    EvN (tLc (iList K tl) (gName jx) t te vs) σ H (NL K ((as.filter f).map g)) := fun H0 e Q q => h H0 e _ fun v H1 e1 pv => by
  obtain ⟨a, xs, rfl, s, al⟩ := dp_lst pv
  have hlen : xs.length = as.length := by rw [dpAll_len al, List.length_map]
  refine ⟨a, rfl, ⟨xs, s⟩, fun Dl hD => ?_⟩
  refine lc_list (xs := xs) (fun i => IsLc K H1 Dl (((as.take i).filter f).map g)) ⟨hD, Ex.new hD, [], upd_same, .nil⟩ (fun i H' _ p => ex_l p.2.1 s) (fun i x H' hi p => ⟨hw x, ?_⟩) fun H' p => q Dl H' (fresh_back e1 p.1) (e1.trans p.2.1) (by
    have z := p.2.2
    rw [hlen, List.take_length] at z
    exact z)
  have hi' : i < as.length := by
    rw [← hlen]
    exact (List.getElem?_eq_some_iff.mp hi).1
  have hc : as[i]? = some as[i] := List.getElem?_eq_getElem hi'
  have hx : Dp K H1 x (emb as[i]) := by
    obtain ⟨v, h1, h2⟩ := dpAll_at al (i := i) (d := emb as[i]) (by rw [List.getElem?_map, hc] <;> rfl)
    rw [hi] at h1
    cases h1
    exact h2
  have hE : Ex H H1 := e.trans e1
  have hlt : (((as.take i).filter f).map g).length < 50000 := by
    rw [List.length_map]
    have h1 := List.length_filter_le f (as.take i)
    have h2 := List.length_take_le i as
    have h3 : (as.take i).length ≤ as.length := List.length_take_le' i as
    omega
  refine lc_step (d := g as[i]) (fb := f as[i]) (tOnly_map g hg _) p hlt (ht i x _ H1 hE hc hx) (fun hf => he i x _ H1 hE hc hx hf) (hg _) (fun H2 hf r => ?_) fun H2 hf r => ?_
  · rw [take_snoc hc, filter_snoc, hf]
    exact r
  · rw [take_snoc hc, filter_snoc, hf]
    show IsLc K H1 Dl (_ ++ []) H2
    rw [List.append_nil]
    exact r
theorem en_lcT {α : Type} {jx : Nat} {vs : List Nat} (emb : α → PyData) (as : List α) (f : α → Bool) (g : α → PyData) (hg : ∀ k, tOnly (g k) = true) (h : EvD K tl σ H (.tuple (as.map emb))) (hz : as.length ≤ 40000) (hw : ∀ x, wipe ((wipe σ vs).set jx (some x)) vs = wipe σ vs)
    (ht : ∀ (k : Nat) (x : V) (c : α) H1, Ex H H1 → as[k]? = some c → Dp K H1 x (emb c) → EvB t ((wipe σ vs).set jx (some x)) H1 (f c)) (he : ∀ (k : Nat) (x : V) (c : α) H1, Ex H H1 → as[k]? = some c → Dp K H1 x (emb c) → f c = true → EvD K te ((wipe σ vs).set jx (some x)) H1 (g c)) :
    EvN (tLc (iTup K tl) (gName jx) t te vs) σ H (NL K ((as.filter f).map g)) := fun H0 e Q q => h H0 e _ fun v H1 e1 pv => by
  obtain ⟨a, xs, rfl, s, al⟩ := dp_tup pv
  have hlen : xs.length = as.length := by rw [dpAll_len al, List.length_map]
  refine ⟨a, rfl, ⟨xs, s⟩, fun Dl hD => ?_⟩
  refine lc_tup (xs := xs) (fun i => IsLc K H1 Dl (((as.take i).filter f).map g)) ⟨hD, Ex.new hD, [], upd_same, .nil⟩ (fun i H' _ p => ex_t p.2.1 s) (fun i x H' hi p => ⟨hw x, ?_⟩) fun H' p => q Dl H' (fresh_back e1 p.1) (e1.trans p.2.1) (by
    have z := p.2.2
    rw [hlen, List.take_length] at z
    exact z)
  have hi' : i < as.length := by
    rw [← hlen]
    exact (List.getElem?_eq_some_iff.mp hi).1
  have hc : as[i]? = some as[i] := List.getElem?_eq_getElem hi'
  have hx : Dp K H1 x (emb as[i]) := by
    obtain ⟨v, h1, h2⟩ := dpAll_at al (i := i) (d := emb as[i]) (by rw [List.getElem?_map, hc] <;> rfl)
    rw [hi] at h1
    cases h1
    exact h2
  have hE : Ex H H1 := e.trans e1
  have hlt : (((as.take i).filter f).map g).length < 50000 := by
    rw [List.length_map]
    have h1 := List.length_filter_le f (as.take i)
    have h3 : (as.take i).length ≤ as.length := List.length_take_le' i as
    omega
  refine lc_step (d := g as[i]) (fb := f as[i]) (tOnly_map g hg _) p hlt (ht i x _ H1 hE hc hx) (fun hf => he i x _ H1 hE hc hx hf) (hg _) (fun H2 hf r => ?_) fun H2 hf r => ?_
  · rw [take_snoc hc, filter_snoc, hf]
    exact r
  · rw [take_snoc hc, filter_snoc, hf]
    show IsLc K H1 Dl (_ ++ []) H2
    rw [List.append_nil]
    exact r
theorem eb_yes : EvB tYes σ H true := fun H1 _ _ q => q H1 (Ex.refl H1)
theorem filter_yes {α : Type} (xs : List α) : xs.filter (fun _ => true) = xs := by simp

/-! ### statements -/
variable {D : Ends} {tz tu tw : TS} {g : TG}
theorem s_asg {n : Nat} (h : EvP te σ H P) (k : ∀ v H1, Ex H H1 → P H1 v → D.nx (σ.set n (some v)) H1) : tAsg te (gName n) D σ H := h H (Ex.refl H) _ fun v H1 e p => k v H1 e p
theorem q_asg {n : Nat} (h : EvP te σ H P) (k : ∀ v H1, Ex H H1 → P H1 v → tz D (σ.set n (some v)) H1) : tSeq (tAsg te (gName n)) tz D σ H := h H (Ex.refl H) _ fun v H1 e p => k v H1 e p
theorem s_asgN {n : Nat} {PA : Hp → Addr → Prop} (h : EvN te σ H PA) (k : ∀ p H1, H p = none → Ex H H1 → PA H1 p → D.nx (σ.set n (some (.ref p))) H1) : tAsg te (gName n) D σ H := h H (Ex.refl H) _ fun p H1 hp e pa => k p H1 hp e pa
theorem q_asgN {n : Nat} {PA : Hp → Addr → Prop} (h : EvN te σ H PA) (k : ∀ p H1, H p = none → Ex H H1 → PA H1 p → tz D (σ.set n (some (.ref p))) H1) : tSeq (tAsg te (gName n)) tz D σ H := h H (Ex.refl H) _ fun p H1 hp e pa => k p H1 hp e pa
theorem s_ret (h : EvP te σ H P) (k : ∀ v H1, Ex H H1 → P H1 v → D.rt v H1) : tRet te D σ H := h H (Ex.refl H) _ fun v H1 e p => k v H1 e p
theorem s_if (h : EvB t σ H b) (h1 : b = true → ∀ H1, Ex H H1 → tu D σ H1) (h2 : b = false → ∀ H1, Ex H H1 → tw D σ H1) : tIfS t tu tw D σ H := h H (Ex.refl H) _ fun H1 e => by
  cases b with
  | true => exact h1 rfl H1 e
  | false => exact h2 rfl H1 e
theorem s_when (h : EvB t σ H b) (h1 : b = true → ∀ H1, Ex H H1 → tu D σ H1) (h2 : b = false → ∀ H1, Ex H H1 → D.nx σ H1) : tIfS t tu tNext D σ H := s_if h h1 h2
theorem q_if (h : EvB t σ H b) (h1 : b = true → ∀ H1, Ex H H1 → tu { D with nx := tz D } σ H1) (h2 : b = false → ∀ H1, Ex H H1 → tw { D with nx := tz D } σ H1) : tSeq (tIfS t tu tw) tz D σ H := s_if (D := { D with nx := tz D }) h h1 h2
theorem q_when (h : EvB t σ H b) (h1 : b = true → ∀ H1, Ex H H1 → tu { D with nx := tz D } σ H1) (h2 : b = false → ∀ H1, Ex H H1 → tz D σ H1) : tSeq (tIfS t tu tNext) tz D σ H := s_if (D := { D with nx := tz D }) h h1 h2
theorem s_drop (h : EvP te σ H P) (k : ∀ v H1, Ex H H1 → P H1 v → D.nx σ H1) : tDrop te D σ H := h H (Ex.refl H) _ fun v H1 e p => k v H1 e p
/-- l.append(e) -/
theorem s_app {l : Addr} {xs : List V} (hl : H l = some (.lst xs)) (ha : EvP ta σ H (XP (.ref l))) (h : EvP te σ H P) (hz : xs.length < 100000) (k : ∀ v H1, Ex H H1 → P H1 v → D.nx σ (upd H1 l (.lst (xs ++ [v])))) :
    tDrop (tBM K "list" rAppend ta (tCons te tNil)) D σ H := ha H (Ex.refl H) _ fun w H1 e1 (pw : w = .ref l) => by
  subst pw
  exact ⟨Or.inl ⟨rfl, xs, sq_of (e1 l _ hl)⟩, h H1 e1 _ fun v H2 e2 p => ⟨l, xs, v, rfl, rfl, e2 l _ (e1 l _ hl), sz_lt hz, k v H2 (e1.trans e2) p⟩⟩
theorem q_app {l : Addr} {xs : List V} (hl : H l = some (.lst xs)) (ha : EvP ta σ H (XP (.ref l))) (h : EvP te σ H P) (hz : xs.length < 100000) (k : ∀ v H1, Ex H H1 → P H1 v → tz D σ (upd H1 l (.lst (xs ++ [v])))) :
    tSeq (tDrop (tBM K "list" rAppend ta (tCons te tNil))) tz D σ H := s_app (D := { D with nx := tz D }) hl ha h hz k
/-- l[i] = e -/
theorem s_setL {l : Addr} {xs : List V} {m : Nat} [Mono P] (hl : H l = some (.lst xs)) (h : EvP te σ H P) (ho : EvP ta σ H (XP (.ref l))) (hi : EvD K tb σ H (.int (m : Int))) (hm : m < xs.length) (k : ∀ v H1, Ex H H1 → P H1 v → D.nx σ (upd H1 l (.lst (xs.set m v)))) :
    tAsg te (gSub ta tb rSetL) D σ H := h H (Ex.refl H) _ fun v H1 e1 p => ho H1 e1 _ fun w H2 e2 (pw : w = .ref l) => hi H2 (e1.trans e2) _ fun z H3 e3 pz => by
  subst pw
  have ez := dp_int pz
  subst ez
  exact ⟨l, xs, (m : Int), m, rfl, rfl, ((e1.trans e2).trans e3) l _ hl, Evl.ixN_nat hm, k v H3 ((e1.trans e2).trans e3) (Mono.mono (e2.trans e3) p)⟩
theorem q_setL {l : Addr} {xs : List V} {m : Nat} [Mono P] (hl : H l = some (.lst xs)) (h : EvP te σ H P) (ho : EvP ta σ H (XP (.ref l))) (hi : EvD K tb σ H (.int (m : Int))) (hm : m < xs.length) (k : ∀ v H1, Ex H H1 → P H1 v → tz D σ (upd H1 l (.lst (xs.set m v)))) :
    tSeq (tAsg te (gSub ta tb rSetL)) tz D σ H := s_setL (D := { D with nx := tz D }) hl h ho hi hm k

/-! ### loops -/
theorem s_forR {ta : TA} {jx : Nat} {n : Int} (h : EvA ta σ H [DP K (.int n)]) (hn : 0 ≤ n ∧ n ≤ 100000) (Pv : Nat → L2.St → Hp → Prop) (h0 : ∀ H1, Ex H H1 → Pv 0 σ H1)
    (hs : ∀ (k : Nat) σ' H', (k : Int) < n → Pv k σ' H' → tu { D with nx := Pv (k + 1), ct := Pv (k + 1), bk := D.nx } (σ'.set jx (some (.int (k : Int)))) H') (hd : ∀ σ' H', Pv n.toNat σ' H' → D.nx σ' H') : tFor (iRng1 ta) (gName jx) tu D σ H :=
  h H (Ex.refl H) _ fun vs H1 e ps => by
    obtain ⟨a, rfl, pa⟩ := allP1 ps
    have ea := dp_int pa
    subst ea
    refine ⟨n, rfl, by omega, by omega, for_range (lo := 0) (n := n.toNat) Pv (h0 H1 e) (fun i σ' H' hi p => ?_) hd⟩
    have e0 : (0 : Int) + (i : Int) = (i : Int) := Int.zero_add _
    show tu { D with nx := Pv (i + 1), ct := Pv (i + 1), bk := D.nx } (σ'.set jx (some (.int ((0 : Int) + (i : Int))))) H'
    rw [e0]
    exact hs i σ' H' (by omega) p
theorem q_forR {ta : TA} {jx : Nat} {n : Int} (h : EvA ta σ H [DP K (.int n)]) (hn : 0 ≤ n ∧ n ≤ 100000) (Pv : Nat → L2.St → Hp → Prop) (h0 : ∀ H1, Ex H H1 → Pv 0 σ H1)
    (hs : ∀ (k : Nat) σ' H', (k : Int) < n → Pv k σ' H' → tu { D with nx := Pv (k + 1), ct := Pv (k + 1), bk := tz D } (σ'.set jx (some (.int (k : Int)))) H') (hd : ∀ σ' H', Pv n.toNat σ' H' → tz D σ' H') : tSeq (tFor (iRng1 ta) (gName jx) tu) tz D σ H :=
  s_forR (D := { D with nx := tz D }) h hn Pv h0 hs hd
/-- range(1, n) -/
theorem s_forR2 {ta : TA} {jx : Nat} {lo n : Int} (h : EvA ta σ H [DP K (.int lo), DP K (.int n)]) (hn : 0 ≤ lo ∧ lo ≤ 100000 ∧ -100000 ≤ n ∧ n ≤ 100000) (Pv : Nat → L2.St → Hp → Prop) (h0 : ∀ H1, Ex H H1 → Pv 0 σ H1)
    (hs : ∀ (k : Nat) σ' H', lo + (k : Int) < n → Pv k σ' H' → tu { D with nx := Pv (k + 1), ct := Pv (k + 1), bk := D.nx } (σ'.set jx (some (.int (lo + (k : Int))))) H') (hd : ∀ σ' H', Pv (n - lo).toNat σ' H' → D.nx σ' H') : tFor (iRng2 ta) (gName jx) tu D σ H :=
  h H (Ex.refl H) _ fun vs H1 e ps => by
    obtain ⟨a, c, rfl, pa, pc⟩ := allP2 ps
    have ea := dp_int pa
    have ec := dp_int pc
    subst ea ec
    exact ⟨lo, n, rfl, ⟨by omega, by omega, by omega, by omega⟩, for_range (lo := lo) (n := (n - lo).toNat) Pv (h0 H1 e) (fun i σ' H' hi p => hs i σ' H' (by omega) p) hd⟩
theorem q_forR2 {ta : TA} {jx : Nat} {lo n : Int} (h : EvA ta σ H [DP K (.int lo), DP K (.int n)]) (hn : 0 ≤ lo ∧ lo ≤ 100000 ∧ -100000 ≤ n ∧ n ≤ 100000) (Pv : Nat → L2.St → Hp → Prop) (h0 : ∀ H1, Ex H H1 → Pv 0 σ H1)
    (hs : ∀ (k : Nat) σ' H', lo + (k : Int) < n → Pv k σ' H' → tu { D with nx := Pv (k + 1), ct := Pv (k + 1), bk := tz D } (σ'.set jx (some (.int (lo + (k : Int))))) H') (hd : ∀ σ' H', Pv (n - lo).toNat σ' H' → tz D σ' H') : tSeq (tFor (iRng2 ta) (gName jx) tu) tz D σ H :=
  s_forR2 (D := { D with nx := tz D }) h hn Pv h0 hs hd
/-- over a list; Pv must keep it -/
theorem s_forL {P : VP} {jx : Nat} (h : EvP tl σ H P) (xs : V → Hp → List V) (hx : ∀ v H1, Ex H H1 → P H1 v → ∃ a, v = .ref a ∧ SqL K H1 a (xs v H1)) (Pv : V → Hp → Nat → L2.St → Hp → Prop) (h0 : ∀ v H1, Ex H H1 → P H1 v → Pv v H1 0 σ H1)
    (hl : ∀ a H1 k σ' H', P H1 (.ref a) → Pv (.ref a) H1 k σ' H' → SqL K H' a (xs (.ref a) H1))
    (hs : ∀ v H1 k x σ' H', Ex H H1 → P H1 v → (xs v H1)[k]? = some x → Pv v H1 k σ' H' → tu { D with nx := Pv v H1 (k + 1), ct := Pv v H1 (k + 1), bk := D.nx } (σ'.set jx (some x)) H') (hd : ∀ v H1 σ' H', Ex H H1 → P H1 v → Pv v H1 (xs v H1).length σ' H' → D.nx σ' H') :
    tFor (iList K tl) (gName jx) tu D σ H :=
  h H (Ex.refl H) _ fun v H1 e p => by
    obtain ⟨a, rfl, s⟩ := hx v H1 e p
    exact ⟨a, rfl, ⟨_, s⟩, for_list (xs := xs (.ref a) H1) (Pv (.ref a) H1) (h0 _ H1 e p) (fun i σ' H' _ q => hl a H1 i σ' H' p q) (fun i x σ' H' hi q => hs _ H1 i x σ' H' e p hi q) (fun σ' H' q => hd _ H1 σ' H' e p q)⟩
theorem s_forT {P : VP} {jx : Nat} (h : EvP tl σ H P) (xs : V → Hp → List V) (hx : ∀ v H1, Ex H H1 → P H1 v → ∃ a, v = .ref a ∧ SqT K H1 a (xs v H1)) (Pv : V → Hp → Nat → L2.St → Hp → Prop) (h0 : ∀ v H1, Ex H H1 → P H1 v → Pv v H1 0 σ H1)
    (hl : ∀ a H1 k σ' H', P H1 (.ref a) → Pv (.ref a) H1 k σ' H' → SqT K H' a (xs (.ref a) H1))
    (hs : ∀ v H1 k x σ' H', Ex H H1 → P H1 v → (xs v H1)[k]? = some x → Pv v H1 k σ' H' → tu { D with nx := Pv v H1 (k + 1), ct := Pv v H1 (k + 1), bk := D.nx } (σ'.set jx (some x)) H') (hd : ∀ v H1 σ' H', Ex H H1 → P H1 v → Pv v H1 (xs v H1).length σ' H' → D.nx σ' H') :
    tFor (iTup K tl) (gName jx) tu D σ H :=
  h H (Ex.refl H) _ fun v H1 e p => by
    obtain ⟨a, rfl, s⟩ := hx v H1 e p
    exact ⟨a, rfl, ⟨_, s⟩, for_tup (xs := xs (.ref a) H1) (Pv (.ref a) H1) (h0 _ H1 e p) (fun i σ' H' _ q => hl a H1 i σ' H' p q) (fun i x σ' H' hi q => hs _ H1 i x σ' H' e p hi q) (fun σ' H' q => hd _ H1 σ' H' e p q)⟩
end

section
variable {K : PySem.W.Frag} {σ : L2.St} {H H' : Hp} {te tl : TE} {D : Ends} {tz tu : TS} {v : V}
theorem toEv (h : EvP te σ H (XP v)) : Evl.Ev te σ H v := fun H1 e Q q => h H1 e Q fun v' H2 e2 hv => by
  have e : v' = v := hv
  rw [e]
  exact q H2 e2
/-- loops over a tuple, a list at a known place; the word Pv tells that it stands -/
theorem s_forTn {a : Addr} {xs : List V} {jx : Nat} (h : EvP tl σ H (XP (.ref a))) (hx : SqT K H a xs) (Pv : Nat → L2.St → Hp → Prop) (h0 : ∀ H1, Ex H H1 → Pv 0 σ H1) (hl : ∀ k σ' H', Pv k σ' H' → Ex H H')
    (hs : ∀ k x σ' H', xs[k]? = some x → Pv k σ' H' → tu { D with nx := Pv (k + 1), ct := Pv (k + 1), bk := D.nx } (σ'.set jx (some x)) H') (hd : ∀ σ' H', Pv xs.length σ' H' → D.nx σ' H') : tFor (iTup K tl) (gName jx) tu D σ H :=
  Evl.s_forT (toEv h) hx Pv h0 (fun k σ' H' _ p => ex_t (hl k σ' H' p) hx) hs hd
theorem q_forTn {a : Addr} {xs : List V} {jx : Nat} (h : EvP tl σ H (XP (.ref a))) (hx : SqT K H a xs) (Pv : Nat → L2.St → Hp → Prop) (h0 : ∀ H1, Ex H H1 → Pv 0 σ H1) (hl : ∀ k σ' H', Pv k σ' H' → Ex H H')
    (hs : ∀ k x σ' H', xs[k]? = some x → Pv k σ' H' → tu { D with nx := Pv (k + 1), ct := Pv (k + 1), bk := tz D } (σ'.set jx (some x)) H') (hd : ∀ σ' H', Pv xs.length σ' H' → tz D σ' H') : tSeq (tFor (iTup K tl) (gName jx) tu) tz D σ H :=
  s_forTn (D := { D with nx := tz D }) h hx Pv h0 hl hs hd
/-- the same, where more than Ex H is not known: the tuple stands at H0 already -/
theorem q_forT0 {H0 : Hp} {a : Addr} {xs : List V} {jx : Nat} (h : EvP tl σ H (XP (.ref a))) (e0 : Ex H0 H) (hx : SqT K H0 a xs) (Pv : Nat → L2.St → Hp → Prop) (h0 : ∀ H1, Ex H H1 → Pv 0 σ H1) (hl : ∀ k σ' H', Pv k σ' H' → Ex H0 H')
    (hs : ∀ k x σ' H', xs[k]? = some x → Pv k σ' H' → tu { D with nx := Pv (k + 1), ct := Pv (k + 1), bk := tz D } (σ'.set jx (some x)) H') (hd : ∀ σ' H', Pv xs.length σ' H' → tz D σ' H') : tSeq (tFor (iTup K tl) (gName jx) tu) tz D σ H :=
  Evl.s_forT (D := { D with nx := tz D }) (toEv h) (ex_t e0 hx) Pv h0 (fun k σ' H' _ p => ex_t (hl k σ' H' p) hx) hs hd
theorem q_forL0 {H0 : Hp} {a : Addr} {xs : List V} {jx : Nat} (h : EvP tl σ H (XP (.ref a))) (e0 : Ex H0 H) (hx : SqL K H0 a xs) (Pv : Nat → L2.St → Hp → Prop) (h0 : ∀ H1, Ex H H1 → Pv 0 σ H1) (hl : ∀ k σ' H', Pv k σ' H' → Ex H0 H')
    (hs : ∀ k x σ' H', xs[k]? = some x → Pv k σ' H' → tu { D with nx := Pv (k + 1), ct := Pv (k + 1), bk := tz D } (σ'.set jx (some x)) H') (hd : ∀ σ' H', Pv xs.length σ' H' → tz D σ' H') : tSeq (tFor (iList K tl) (gName jx) tu) tz D σ H :=
  Evl.s_forL (D := { D with nx := tz D }) (toEv h) (ex_l e0 hx) Pv h0 (fun k σ' H' _ p => ex_l (hl k σ' H' p) hx) hs hd
/-- over a new list; what H knows need not stand as long as the new list does -/
theorem s_forN {ds : List PyData} {jx : Nat} (h : EvN tl σ H (NL K ds)) (Pv : Addr → List V → Nat → L2.St → Hp → Prop) (h0 : ∀ p xs H1, H p = none → Ex H H1 → H1 p = some (.lst xs) → DpAll K H1 xs ds → Pv p xs 0 σ H1)
    (hl : ∀ p xs k σ' H', Pv p xs k σ' H' → H' p = some (.lst xs))
    (hs : ∀ p xs k x σ' H', xs.length = ds.length → xs[k]? = some x → Pv p xs k σ' H' → tu { D with nx := Pv p xs (k + 1), ct := Pv p xs (k + 1), bk := D.nx } (σ'.set jx (some x)) H') (hd : ∀ p xs σ' H', Pv p xs ds.length σ' H' → D.nx σ' H') : tFor (iList K tl) (gName jx) tu D σ H :=
  h H (Ex.refl H) _ fun p H1 hp e hn => by
    obtain ⟨xs, h1, h2⟩ := hn
    have hlen := dpAll_len h2
    exact ⟨p, rfl, ⟨xs, sq_of h1⟩, for_list (xs := xs) (Pv p xs) (h0 p xs H1 hp e h1 h2) (fun k σ' H' _ q => sq_of (hl p xs k σ' H' q)) (fun k x σ' H' hi q => hs p xs k x σ' H' hlen hi q) (fun σ' H' q => hd p xs σ' H' (hlen ▸ q))⟩
theorem q_forN {ds : List PyData} {jx : Nat} (h : EvN tl σ H (NL K ds)) (Pv : Addr → List V → Nat → L2.St → Hp → Prop) (h0 : ∀ p xs H1, H p = none → Ex H H1 → H1 p = some (.lst xs) → DpAll K H1 xs ds → Pv p xs 0 σ H1)
    (hl : ∀ p xs k σ' H', Pv p xs k σ' H' → H' p = some (.lst xs))
    (hs : ∀ p xs k x σ' H', xs.length = ds.length → xs[k]? = some x → Pv p xs k σ' H' → tu { D with nx := Pv p xs (k + 1), ct := Pv p xs (k + 1), bk := tz D } (σ'.set jx (some x)) H') (hd : ∀ p xs σ' H', Pv p xs ds.length σ' H' → tz D σ' H') : tSeq (tFor (iList K tl) (gName jx) tu) tz D σ H :=
  s_forN (D := { D with nx := tz D }) h Pv h0 hl hs hd
end

/-! ### rules with the written part K named -/
section
variable {X : Cx} {a b e o iter tg : Expr} {es : List Expr} {ta tb te tl to : TE} {t : TA} {pos cpos apos p p2 : Pos} {x : Str} {lo hi : Option Expr} {tlo thi : TO}
theorem kx_tup (K : PySem.W.Frag) (hK : X.K = K := by rfl) : IxR X (rIxT K) := hK ▸ ix_tup
theorem kx_list (K : PySem.W.Frag) (hK : X.K = K := by rfl) : IxR X (rIxL K) := hK ▸ ix_list
theorem kc_len (K : PySem.W.Frag) (hK : X.K = K := by rfl) : CallR X (.builtin "len") (rLenS K) := hK ▸ call_len_seq
theorem kc_list (K : PySem.W.Frag) (hK : X.K = K := by rfl) : CallR X (.type "list") (rListS K) := hK ▸ call_list_of
theorem kc_tuple (K : PySem.W.Frag) (hK : X.K = K := by rfl) : CallR X (.type "tuple") (rTupS K) := hK ▸ call_tuple_of
theorem kc_int1 : CallR X (.type "int") rInt1 := call_int1
theorem kc_isi (K : PySem.W.Frag) (hK : X.K = K := by rfl) : CallR X (.builtin "isinstance") (rIsi K) := hK ▸ call_isi
theorem kc_isiT (K : PySem.W.Frag) (hK : X.K = K := by rfl) : CallR X (.builtin "isinstance") (rIsiT K) := hK ▸ call_isiT
theorem ko_eqD (K : PySem.W.Frag) {k : Nat} (hr : Room k X.A) (hK : X.K = K := by rfl) : OpR X (compareOp .Eq) (rEqD K) := hK ▸ op_eqD hr.units
theorem ko_neD (K : PySem.W.Frag) {k : Nat} (hr : Room k X.A) (hK : X.K = K := by rfl) : OpR X (compareOp .NotEq) (rNeD K) := hK ▸ op_neD hr.units
theorem ko_in (K : PySem.W.Frag) (hK : X.K = K := by rfl) : OpR X (compareOp .In) (rIn K false) := hK ▸ op_in_seq
theorem ko_notIn (K : PySem.W.Frag) (hK : X.K = K := by rfl) : OpR X (compareOp .NotIn) (rIn K true) := hK ▸ op_notIn_seq
theorem ko_catA (K : PySem.W.Frag) (hK : X.K = K := by rfl) : OpR X (binaryOp .Add) (rCatA K) := hK ▸ op_catA
theorem ks_tup (K : PySem.W.Frag) (hK : X.K = K := by rfl) : SlR X (rSlA K) := hK ▸ sl_tupA
theorem ks_list (K : PySem.W.Frag) (hK : X.K = K := by rfl) : SlR X (rSlL K) := hK ▸ sl_list
theorem kpi_list (K : PySem.W.Frag) (hl : PE X iter tl) (hK : X.K = K := by rfl) : PI X tg iter (iList K tl) := hK ▸ pi_list hl
theorem kpi_tup (K : PySem.W.Frag) (hl : PE X iter tl) (hK : X.K = K := by rfl) : PI X tg iter (iTup K tl) := hK ▸ pi_tup hl
theorem kpe_fld (K : PySem.W.Frag) {f : Str} (he : PE X e te) (hb : attributeBase e f X.env (eval e X.env) = eval e X.env := by rfl) (hK : X.K = K := by rfl) : PE X (.Attribute e f pos) (tFld K te f) := hK ▸ pe_fld he hb
theorem kps_fld (K : PySem.W.Frag) {f : Str} {value : Expr} {tv : TE} {pos' : Pos} (ha : PE X o ta) (hv : PE X value tv) (hs : swapsWith value (some (.Attribute o f pos')) pos.line X.env = pure false := by rfl) (hK : X.K = K := by rfl) : PS X (.Assign [.Attribute o f pos'] value pos) (sFld K ta tv f) := hK ▸ ps_fld ha hv hs
theorem kpe_bm (K : PySem.W.Frag) {T id : String} {name : Str} {r : V → List V → Hp → VK → Prop} (pa : PlainAttrs T) (slot : Slot T name id) (hty : typeOf (.builtin id) = pure (.type "method_descriptor")) (hm : MtR X id r) (ho : PE X o to) (ha : PA X (e :: es) t)
    (hK : X.K = K := by rfl) (hbase : attributeBase o name X.env (eval o X.env) = eval o X.env := by rfl)
    (hfew : ((backTo cpos (starEach (e :: es) X.env)).all (fun x => !x.1) && (backToKw cpos (keywordEach [] X.env)).all (fun x => x.1.isSome) && decide ((e :: es).length + ([] : List Keyword).length + (if ([] : List Keyword).isEmpty then 0 else 1) < 30)) = true := by rfl)
    (hline : (apos.endLine == cpos.line) = true := by rfl) (hs : starEach (e :: es) X.env = (false, eval e X.env) :: starEach es X.env := by rfl) (hplain : (backTo cpos (starEach es X.env)).any (·.1) = false := by rfl) :
    PE X (.Call (.Attribute o name apos) (e :: es) [] cpos) (tBM K T r to t) := hK ▸ pe_bm pa slot hty hm ho ha hbase hfew hline hs hplain
end
end WK

set_option Elab.async false
set_option linter.all false
set_option maxRecDepth 100000
set_option maxHeartbeats 4000000
/-! The text of the program, and what the top leaves of it. -/
namespace WK
open PySem PySem.Spec PyProof.Rows L2
open Evl (Ex ex_l ex_t ex_rd sq_of st_of sz_of sz_lt fresh_back rLenS rListS)

def topS (i : Nat) : Stmt := PySem.Challenge.pw_weightkeepers_k42_whole_papers_of_maps.main.body.getD i (.Pass ⟨0, 0, 0, 0⟩)
abbrev s_is_integer : Stmt := topS 6
abbrev N_is_integer : List Str := ["value"]
theorem sc_is_integer : FnScope N_is_integer ["value"] (defScope s_is_integer) := ⟨rfl, rfl, rfl, by decide +kernel, rfl, by decide +kernel, by decide +kernel⟩
abbrev s_inverse : Stmt := topS 7
abbrev N_inverse : List Str := ["a", "p", "k"]
theorem sc_inverse : FnScope N_inverse ["a", "p"] (defScope s_inverse) := ⟨rfl, rfl, rfl, by decide +kernel, rfl, by decide +kernel, by decide +kernel⟩
abbrev s_power : Stmt := topS 8
abbrev N_power : List Str := ["a", "k", "total", "_"]
theorem sc_power : FnScope N_power ["a", "k"] (defScope s_power) := ⟨rfl, rfl, rfl, by decide +kernel, rfl, by decide +kernel, by decide +kernel⟩
abbrev s_is_word : Stmt := topS 10
abbrev N_is_word : List Str := ["value", "p", "n", "item"]
theorem sc_is_word : FnScope N_is_word ["value", "p", "n"] (defScope s_is_word) := ⟨rfl, rfl, rfl, by decide +kernel, rfl, by decide +kernel, by decide +kernel⟩
abbrev s_add : Stmt := topS 11
abbrev N_add : List Str := ["v", "w", "p", "k"]
theorem sc_add : FnScope N_add ["v", "w", "p"] (defScope s_add) := ⟨rfl, rfl, rfl, by decide +kernel, rfl, by decide +kernel, by decide +kernel⟩
abbrev s_scaled : Stmt := topS 12
abbrev N_scaled : List Str := ["v", "a", "p", "item"]
theorem sc_scaled : FnScope N_scaled ["v", "a", "p"] (defScope s_scaled) := ⟨rfl, rfl, rfl, by decide +kernel, rfl, by decide +kernel, by decide +kernel⟩
abbrev s_combine : Stmt := topS 13
abbrev N_combine : List Str := ["rows", "weights", "width", "p", "total", "k"]
theorem sc_combine : FnScope N_combine ["rows", "weights", "width", "p"] (defScope s_combine) := ⟨rfl, rfl, rfl, by decide +kernel, rfl, by decide +kernel, by decide +kernel⟩
abbrev s_reduced : Stmt := topS 14
abbrev N_reduced : List Str := ["rows", "width", "p", "rest", "found", "pivots", "at", "heads", "row", "head"]
theorem sc_reduced : FnScope N_reduced ["rows", "width", "p"] (defScope s_reduced) := ⟨rfl, rfl, rfl, by decide +kernel, rfl, by decide +kernel, by decide +kernel⟩
abbrev s_cleared : Stmt := topS 15
abbrev N_cleared : List Str := ["row", "head", "at", "p"]
theorem sc_cleared : FnScope N_cleared ["row", "head", "at", "p"] (defScope s_cleared) := ⟨rfl, rfl, rfl, by decide +kernel, rfl, by decide +kernel, by decide +kernel⟩
abbrev s_solve : Stmt := topS 16
abbrev N_solve : List Str := ["rows", "width", "right", "p", "wide", "word", "k", "table", "pivots"]
theorem sc_solve : FnScope N_solve ["rows", "width", "right", "p"] (defScope s_solve) := ⟨rfl, rfl, rfl, by decide +kernel, rfl, by decide +kernel, by decide +kernel⟩
abbrev s_coordinates : Stmt := topS 17
abbrev N_coordinates : List Str := ["rows", "word", "p", "columns", "at", "row"]
theorem sc_coordinates : FnScope N_coordinates ["rows", "word", "p"] (defScope s_coordinates) := ⟨rfl, rfl, rfl, by decide +kernel, rfl, by decide +kernel, by decide +kernel⟩
abbrev s_weight_of : Stmt := topS 19
abbrev N_weight_of : List Str := ["word", "total", "item"]
theorem sc_weight_of : FnScope N_weight_of ["word"] (defScope s_weight_of) := ⟨rfl, rfl, rfl, by decide +kernel, rfl, by decide +kernel, by decide +kernel⟩
abbrev s_is_monomial : Stmt := topS 20
abbrev N_is_monomial : List Str := ["p", "n", "places", "multiples", "seen", "k"]
theorem sc_is_monomial : FnScope N_is_monomial ["p", "n", "places", "multiples"] (defScope s_is_monomial) := ⟨rfl, rfl, rfl, by decide +kernel, rfl, by decide +kernel, by decide +kernel⟩
abbrev s_moved : Stmt := topS 21
abbrev N_moved : List Str := ["word", "p", "places", "multiples", "found", "k"]
theorem sc_moved : FnScope N_moved ["word", "p", "places", "multiples"] (defScope s_moved) := ⟨rfl, rfl, rfl, by decide +kernel, rfl, by decide +kernel, by decide +kernel⟩
abbrev s_image_of : Stmt := topS 22
abbrev N_image_of : List Str := ["a", "images", "word", "total", "rest", "k", "at", "factor", "i"]
theorem sc_image_of : FnScope N_image_of ["a", "images", "word"] (defScope s_image_of) := ⟨rfl, rfl, rfl, by decide +kernel, rfl, by decide +kernel, by decide +kernel⟩
abbrev s_takes_map : Stmt := topS 23
abbrev N_takes_map : List Str := ["a", "images", "paper", "k"]
theorem sc_takes_map : FnScope N_takes_map ["a", "images", "paper"] (defScope s_takes_map) := ⟨rfl, rfl, rfl, by decide +kernel, rfl, by decide +kernel, by decide +kernel⟩
abbrev s_weight : Stmt := topS 26
abbrev N_weight : List Str := ["word", "item"]
theorem sc_weight : FnScope N_weight ["word"] (defScope s_weight) := ⟨rfl, rfl, rfl, by decide +kernel, rfl, by decide +kernel, by decide +kernel⟩
abbrev s_check_prime : Stmt := topS 32
abbrev N_check_prime : List Str := ["p"]
theorem sc_check_prime : FnScope N_check_prime ["p"] (defScope s_check_prime) := ⟨rfl, rfl, rfl, by decide +kernel, rfl, by decide +kernel, by decide +kernel⟩
abbrev s_Code_init : Stmt := inClass (topS 33) 0
abbrev N_Code_init : List Str := ["self", "p", "n", "rows", "row", "table", "pivots"]
theorem sc_Code_init : FnScope N_Code_init ["self", "p", "n", "rows"] (defScope s_Code_init) := ⟨rfl, rfl, rfl, by decide +kernel, rfl, by decide +kernel, by decide +kernel⟩
abbrev s_Code_holds : Stmt := inClass (topS 33) 4
abbrev N_Code_holds : List Str := ["self", "value", "rest", "k"]
theorem sc_Code_holds : FnScope N_Code_holds ["self", "value"] (defScope s_Code_holds) := ⟨rfl, rfl, rfl, by decide +kernel, rfl, by decide +kernel, by decide +kernel⟩
abbrev s_Code_words : Stmt := inClass (topS 33) 5
abbrev N_Code_words : List Str := ["self", "found", "row", "word", "longer", "a"]
theorem sc_Code_words : GScope N_Code_words ["self"] (defScope s_Code_words) := ⟨rfl, rfl, rfl, by decide +kernel, rfl, by decide +kernel, by decide +kernel⟩
abbrev s_line : Stmt := topS 35
abbrev N_line : List Str := ["column", "p", "item", "a", "x"]
theorem sc_line : FnScope N_line ["column", "p"] (defScope s_line) := ⟨rfl, rfl, rfl, by decide +kernel, rfl, by decide +kernel, by decide +kernel⟩
abbrev s_columns_of : Stmt := topS 36
abbrev N_columns_of : List Str := ["words", "n", "at", "word"]
theorem sc_columns_of : FnScope N_columns_of ["words", "n"] (defScope s_columns_of) := ⟨rfl, rfl, rfl, by decide +kernel, rfl, by decide +kernel, by decide +kernel⟩
abbrev s_Monomial_init : Stmt := inClass (topS 38) 0
abbrev N_Monomial_init : List Str := ["self", "p", "places", "multiples", "value"]
theorem sc_Monomial_init : FnScope N_Monomial_init ["self", "p", "places", "multiples"] (defScope s_Monomial_init) := ⟨rfl, rfl, rfl, by decide +kernel, rfl, by decide +kernel, by decide +kernel⟩
abbrev s_multiple_of : Stmt := topS 40
abbrev N_multiple_of : List Str := ["one", "two", "p", "k"]
theorem sc_multiple_of : FnScope N_multiple_of ["one", "two", "p"] (defScope s_multiple_of) := ⟨rfl, rfl, rfl, by decide +kernel, rfl, by decide +kernel, by decide +kernel⟩
abbrev s_lines_of : Stmt := topS 41
abbrev N_lines_of : List Str := ["columns", "p", "found", "at", "key"]
theorem sc_lines_of : FnScope N_lines_of ["columns", "p"] (defScope s_lines_of) := ⟨rfl, rfl, rfl, by decide +kernel, rfl, by decide +kernel, by decide +kernel⟩
abbrev s_first_map : Stmt := topS 42
abbrev N_first_map : List Str := ["one", "two", "n", "p", "from_columns", "to_columns", "left", "places", "multiples", "column", "key", "at"]
theorem sc_first_map : FnScope N_first_map ["one", "two", "n", "p"] (defScope s_first_map) := ⟨rfl, rfl, rfl, by decide +kernel, rfl, by decide +kernel, by decide +kernel⟩
abbrev s_check_images : Stmt := topS 43
abbrev N_check_images : List Str := ["a", "images", "n", "word"]
theorem sc_check_images : FnScope N_check_images ["a", "images", "n"] (defScope s_check_images) := ⟨rfl, rfl, rfl, by decide +kernel, rfl, by decide +kernel, by decide +kernel⟩
abbrev s_changed_weight : Stmt := topS 44
abbrev N_changed_weight : List Str := ["a", "images", "word", "other"]
theorem sc_changed_weight : FnScope N_changed_weight ["a", "images"] (defScope s_changed_weight) := ⟨rfl, rfl, rfl, by decide +kernel, rfl, by decide +kernel, by decide +kernel⟩
abbrev s_extension : Stmt := topS 45
abbrev N_extension : List Str := ["a", "images"]
theorem sc_extension : FnScope N_extension ["a", "images"] (defScope s_extension) := ⟨rfl, rfl, rfl, by decide +kernel, rfl, by decide +kernel, by decide +kernel⟩
abbrev s_map_paper : Stmt := topS 47
abbrev N_map_paper : List Str := ["a", "images", "word", "found"]
theorem sc_map_paper : FnScope N_map_paper ["a", "images"] (defScope s_map_paper) := ⟨rfl, rfl, rfl, by decide +kernel, rfl, by decide +kernel, by decide +kernel⟩
abbrev s_law_state : Stmt := topS 49
abbrev N_law_state : List Str := ["_law_script", "_law_seed", "_law_total", "_law_cell"]
theorem sc_law_state : FnScope N_law_state ["_law_script"] (defScope s_law_state) := ⟨rfl, rfl, rfl, by decide +kernel, rfl, by decide +kernel, by decide +kernel⟩
abbrev s_law_take : Stmt := topS 50
abbrev N_law_take : List Str := ["_law_state_here", "_law_m", "_law_value"]
theorem sc_law_take : FnScope N_law_take ["_law_state_here", "_law_m"] (defScope s_law_take) := ⟨rfl, rfl, rfl, by decide +kernel, rfl, by decide +kernel, by decide +kernel⟩
abbrev s_law_sum : Stmt := topS 51
abbrev N_law_sum : List Str := ["_law_v", "_law_w", "_law_p", "_law_k"]
theorem sc_law_sum : FnScope N_law_sum ["_law_v", "_law_w", "_law_p"] (defScope s_law_sum) := ⟨rfl, rfl, rfl, by decide +kernel, rfl, by decide +kernel, by decide +kernel⟩
abbrev s_law_scaled : Stmt := topS 52
abbrev N_law_scaled : List Str := ["_law_v", "_law_a", "_law_p", "_law_x"]
theorem sc_law_scaled : FnScope N_law_scaled ["_law_v", "_law_a", "_law_p"] (defScope s_law_scaled) := ⟨rfl, rfl, rfl, by decide +kernel, rfl, by decide +kernel, by decide +kernel⟩
abbrev s_law_weight : Stmt := topS 53
abbrev N_law_weight : List Str := ["_law_word_here", "_law_x"]
theorem sc_law_weight : FnScope N_law_weight ["_law_word_here"] (defScope s_law_weight) := ⟨rfl, rfl, rfl, by decide +kernel, rfl, by decide +kernel, by decide +kernel⟩
abbrev s_law_all : Stmt := topS 54
abbrev N_law_all : List Str := ["_law_n", "_law_p", "_law_out", "_law_k", "_law_longer", "_law_word_here", "_law_a"]
theorem sc_law_all : FnScope N_law_all ["_law_n", "_law_p"] (defScope s_law_all) := ⟨rfl, rfl, rfl, by decide +kernel, rfl, by decide +kernel, by decide +kernel⟩
abbrev s_law_word : Stmt := topS 55
abbrev N_law_word : List Str := ["_law_state_here", "_law_n", "_law_p", "_law_k"]
theorem sc_law_word : FnScope N_law_word ["_law_state_here", "_law_n", "_law_p"] (defScope s_law_word) := ⟨rfl, rfl, rfl, by decide +kernel, rfl, by decide +kernel, by decide +kernel⟩
abbrev s_law_rows : Stmt := topS 56
abbrev N_law_rows : List Str := ["_law_state_here", "_law_n", "_law_p", "_law_most", "_law_rows_here", "_law_turn"]
theorem sc_law_rows : FnScope N_law_rows ["_law_state_here", "_law_n", "_law_p", "_law_most"] (defScope s_law_rows) := ⟨rfl, rfl, rfl, by decide +kernel, rfl, by decide +kernel, by decide +kernel⟩
abbrev s_law_arrangements : Stmt := topS 57
abbrev N_law_arrangements : List Str := ["_law_n", "_law_out", "_law_k", "_law_longer", "_law_row", "_law_x"]
theorem sc_law_arrangements : FnScope N_law_arrangements ["_law_n"] (defScope s_law_arrangements) := ⟨rfl, rfl, rfl, by decide +kernel, rfl, by decide +kernel, by decide +kernel⟩
abbrev s_law_multiples : Stmt := topS 58
abbrev N_law_multiples : List Str := ["_law_n", "_law_p", "_law_out", "_law_k", "_law_longer", "_law_row", "_law_a"]
theorem sc_law_multiples : FnScope N_law_multiples ["_law_n", "_law_p"] (defScope s_law_multiples) := ⟨rfl, rfl, rfl, by decide +kernel, rfl, by decide +kernel, by decide +kernel⟩
abbrev s_law_carried : Stmt := topS 59
abbrev N_law_carried : List Str := ["_law_word_here", "_law_places", "_law_multiples_here", "_law_p", "_law_out", "_law_k", "_law_x"]
theorem sc_law_carried : FnScope N_law_carried ["_law_word_here", "_law_places", "_law_multiples_here", "_law_p"] (defScope s_law_carried) := ⟨rfl, rfl, rfl, by decide +kernel, rfl, by decide +kernel, by decide +kernel⟩
abbrev s_law_drawn_map : Stmt := topS 60
abbrev N_law_drawn_map : List Str := ["_law_state_here", "_law_n", "_law_p", "_law_rest", "_law_places", "_law_k"]
theorem sc_law_drawn_map : FnScope N_law_drawn_map ["_law_state_here", "_law_n", "_law_p"] (defScope s_law_drawn_map) := ⟨rfl, rfl, rfl, by decide +kernel, rfl, by decide +kernel, by decide +kernel⟩
abbrev s_law_table : Stmt := topS 61
abbrev N_law_table : List Str := ["_law_rows_here", "_law_images", "_law_n", "_law_p", "_law_found", "_law_k", "_law_wider", "_law_word_here", "_law_a", "_law_key"]
theorem sc_law_table : FnScope N_law_table ["_law_rows_here", "_law_images", "_law_n", "_law_p"] (defScope s_law_table) := ⟨rfl, rfl, rfl, by decide +kernel, rfl, by decide +kernel, by decide +kernel⟩
abbrev s_law_doubled : Stmt := topS 62
abbrev N_law_doubled : List Str := ["_law_n", "_law_out", "_law_places", "_law_k"]
theorem sc_law_doubled : FnScope N_law_doubled ["_law_n"] (defScope s_law_doubled) := ⟨rfl, rfl, rfl, by decide +kernel, rfl, by decide +kernel, by decide +kernel⟩
abbrev s_law_spoilt : Stmt := topS 63
abbrev N_law_spoilt : List Str := ["_law_state_here", "_law_p", "_law_places", "_law_multiples_here", "_law_word_here", "_law_n", "_law_out", "_law_at", "_law_value"]
theorem sc_law_spoilt : FnScope N_law_spoilt ["_law_state_here", "_law_p", "_law_places", "_law_multiples_here", "_law_word_here"] (defScope s_law_spoilt) := ⟨rfl, rfl, rfl, by decide +kernel, rfl, by decide +kernel, by decide +kernel⟩
abbrev s_law_refuses : Stmt := topS 64
abbrev N_law_refuses : List Str := ["_law_code", "_law_images"]
theorem sc_law_refuses : FnScope N_law_refuses ["_law_code", "_law_images"] (defScope s_law_refuses) := ⟨rfl, rfl, rfl, by decide +kernel, rfl, by decide +kernel, by decide +kernel⟩
abbrev s_law : Stmt := topS 65
abbrev N_law : List Str := ["_law_script", "_law_state_here", "_law_p", "_law_n", "_law_code", "_law_rows_here", "_law_images", "_law_kind", "_law_table_here", "_law_changed", "_law_word_here", "_law_kept", "_law_one", "_law_paper", "_law_wrong", "_law_ones", "_law_data", "_law_places", "_law_multiples_here", "_law_k", "_law_at", "_law_fits", "_law_two", "_law_row", "_law_other"]
theorem sc_law : FnScope N_law ["_law_script"] (defScope s_law) := ⟨rfl, rfl, rfl, by decide +kernel, rfl, by decide +kernel, by decide +kernel⟩

/-- a def of the top -/
structure Fn (K : PySem.W.Frag) (mg : Str → Option Value) (x qual : Str) (st : Stmt) (ps : List Str) where
  f : Addr
  fd : FuncData
  F : Fun K x qual st f fd
  g : mg x = some (.ref f)
  b : Binds K fd ps []
/-- a method -/
structure FnM (K : PySem.W.Frag) (x qual : Str) (st : Stmt) (ps : List Str) where
  f : Addr
  fd : FuncData
  F : Fun K x qual st f fd
  b : Binds K fd ps []
structure Txt (K : PySem.W.Frag) (mg : Str → Option Value) where
  is_integer : Fn K mg "is_integer" "is_integer" s_is_integer ["value"]
  inverse : Fn K mg "inverse" "inverse" s_inverse ["a", "p"]
  power : Fn K mg "power" "power" s_power ["a", "k"]
  is_word : Fn K mg "is_word" "is_word" s_is_word ["value", "p", "n"]
  add : Fn K mg "add" "add" s_add ["v", "w", "p"]
  scaled : Fn K mg "scaled" "scaled" s_scaled ["v", "a", "p"]
  combine : Fn K mg "combine" "combine" s_combine ["rows", "weights", "width", "p"]
  reduced : Fn K mg "reduced" "reduced" s_reduced ["rows", "width", "p"]
  cleared : Fn K mg "cleared" "cleared" s_cleared ["row", "head", "at", "p"]
  solve : Fn K mg "solve" "solve" s_solve ["rows", "width", "right", "p"]
  coordinates : Fn K mg "coordinates" "coordinates" s_coordinates ["rows", "word", "p"]
  weight_of : Fn K mg "weight_of" "weight_of" s_weight_of ["word"]
  is_monomial : Fn K mg "is_monomial" "is_monomial" s_is_monomial ["p", "n", "places", "multiples"]
  moved : Fn K mg "moved" "moved" s_moved ["word", "p", "places", "multiples"]
  image_of : Fn K mg "image_of" "image_of" s_image_of ["a", "images", "word"]
  takes_map : Fn K mg "takes_map" "takes_map" s_takes_map ["a", "images", "paper"]
  weight : Fn K mg "weight" "weight" s_weight ["word"]
  check_prime : Fn K mg "check_prime" "check_prime" s_check_prime ["p"]
  Code_init : FnM K "__init__" "Code.__init__" s_Code_init ["self", "p", "n", "rows"]
  Code_holds : FnM K "holds" "Code.holds" s_Code_holds ["self", "value"]
  Code_words : FnM K "words" "Code.words" s_Code_words ["self"]
  line : Fn K mg "line" "line" s_line ["column", "p"]
  columns_of : Fn K mg "columns_of" "columns_of" s_columns_of ["words", "n"]
  Monomial_init : FnM K "__init__" "Monomial.__init__" s_Monomial_init ["self", "p", "places", "multiples"]
  multiple_of : Fn K mg "multiple_of" "multiple_of" s_multiple_of ["one", "two", "p"]
  lines_of : Fn K mg "lines_of" "lines_of" s_lines_of ["columns", "p"]
  first_map : Fn K mg "first_map" "first_map" s_first_map ["one", "two", "n", "p"]
  check_images : Fn K mg "check_images" "check_images" s_check_images ["a", "images", "n"]
  changed_weight : Fn K mg "changed_weight" "changed_weight" s_changed_weight ["a", "images"]
  extension : Fn K mg "extension" "extension" s_extension ["a", "images"]
  map_paper : Fn K mg "map_paper" "map_paper" s_map_paper ["a", "images"]
  law_state : Fn K mg "_law_state" "_law_state" s_law_state ["_law_script"]
  law_take : Fn K mg "_law_take" "_law_take" s_law_take ["_law_state_here", "_law_m"]
  law_sum : Fn K mg "_law_sum" "_law_sum" s_law_sum ["_law_v", "_law_w", "_law_p"]
  law_scaled : Fn K mg "_law_scaled" "_law_scaled" s_law_scaled ["_law_v", "_law_a", "_law_p"]
  law_weight : Fn K mg "_law_weight" "_law_weight" s_law_weight ["_law_word_here"]
  law_all : Fn K mg "_law_all" "_law_all" s_law_all ["_law_n", "_law_p"]
  law_word : Fn K mg "_law_word" "_law_word" s_law_word ["_law_state_here", "_law_n", "_law_p"]
  law_rows : Fn K mg "_law_rows" "_law_rows" s_law_rows ["_law_state_here", "_law_n", "_law_p", "_law_most"]
  law_arrangements : Fn K mg "_law_arrangements" "_law_arrangements" s_law_arrangements ["_law_n"]
  law_multiples : Fn K mg "_law_multiples" "_law_multiples" s_law_multiples ["_law_n", "_law_p"]
  law_carried : Fn K mg "_law_carried" "_law_carried" s_law_carried ["_law_word_here", "_law_places", "_law_multiples_here", "_law_p"]
  law_drawn_map : Fn K mg "_law_drawn_map" "_law_drawn_map" s_law_drawn_map ["_law_state_here", "_law_n", "_law_p"]
  law_table : Fn K mg "_law_table" "_law_table" s_law_table ["_law_rows_here", "_law_images", "_law_n", "_law_p"]
  law_doubled : Fn K mg "_law_doubled" "_law_doubled" s_law_doubled ["_law_n"]
  law_spoilt : Fn K mg "_law_spoilt" "_law_spoilt" s_law_spoilt ["_law_state_here", "_law_p", "_law_places", "_law_multiples_here", "_law_word_here"]
  law_refuses : Fn K mg "_law_refuses" "_law_refuses" s_law_refuses ["_law_code", "_law_images"]
  law : Fn K mg "law" "law" s_law ["_law_script"]
  z_len : mg "len" = none
  z_tuple : mg "tuple" = none
  z_list : mg "list" = none
  z_range : mg "range" = none
  z_isinstance : mg "isinstance" = none
  z_abs : mg "abs" = none
  z_int : mg "int" = none
  z_bool : mg "bool" = none
  z_sorted : mg "sorted" = none
  -- the constants
  aPRIMES : Addr
  gPRIMES : mg "PRIMES" = some (.ref aPRIMES)
  oPRIMES : ∀ H : Hp, SqT K H aPRIMES ([2, 3, 5, 7].map V.int)
  gMOST_LENGTH : ∃ t, mg "MOST_LENGTH" = some (.int 12 t)
  gMOST_WORDS : ∃ t, mg "MOST_WORDS" = some (.int 4096 t)
  -- the classes
  cCode : Addr
  g_Code : mg "Code" = some (.ref cCode)
  mk_Code : Mk K cCode Code_init.f
  cl_Code : Cls K cCode
  no_Code : ∀ f ∈ (["p", "n", "rows", "k", "_pivots"] : List Str), NoAttr K cCode f
  mt_holds : Meth K cCode "holds" Code_holds.f
  mt_words : Meth K cCode "words" Code_words.f
  cMon : Addr
  g_Monomial : mg "Monomial" = some (.ref cMon)
  mk_Monomial : Mk K cMon Monomial_init.f
  cl_Mon : Cls K cMon
  no_Mon : ∀ f ∈ (["p", "places", "multiples"] : List Str), NoAttr K cMon f
  cMal : Addr
  g_Mal : mg "Malformed" = some (.ref cMal)
  k_Mal : PySem.W.keepIn K (.ref cMal) = true
  b_Mal : PySem.W.subIn K (.ref cMal) (.type "BaseException") = some true
  t_Mal : PySem.W.typeIn K (.ref cMal) = some (.type "type")
  x_Mal : PySem.W.excIn K cMal [.type "ValueError", .type "Exception", .type "BaseException", .type "object"] "ValueError.__new__" = true
  e_Mal : PySem.W.exmOne K (.ref cMal) (.ref cMal) = some true

/-! ### isinstance -/
def tyName : PyData → String
  | .none => "NoneType"
  | .bool _ => "bool"
  | .int _ => "int"
  | .str _ => "str"
  | .list _ => "list"
  | .tuple _ => "tuple"
  | .dict _ => "dict"
section
variable {K : PySem.W.Frag} {σ : L2.St} {H H' : Hp} {ta tb tc te tl : TE} {t u : TT} {P P2 R : VP} {d d2 : PyData} {i j : Int} {b b2 : Bool}
theorem tyx_of_dp {v : V} (h : Dp K H v d) : TyX K H v (.type (tyName d)) := by
  cases h with
  | non => exact .base .non
  | bl b => exact .base (.bl b)
  | int i => exact .base (.int i)
  | str x => exact .base (.str x)
  | lst h _ => exact .base (.lst h)
  | tup h _ => exact .base (.tup h)
theorem ed_isi {n : String} (hk : kitB (tyName d) n = some b) (ha : EvD K ta σ H d) : EvD K (tCB (rIsi K) (tCons ta (tCons (tC (.ty n)) tNil))) σ H (.bool b) := ev_cb (ea_cons ha (ea_cons ex_c ea_nil)) fun vs H1 _ ps Q q => by
  obtain ⟨x, y, rfl, p1, rfl⟩ := allP2 ps
  exact ⟨x, .ty n, _, _, b, rfl, .ty n, tyx_of_dp p1, kit_ty hk, q _ H1 (Ex.refl H1) (.bl _)⟩
def isIntD : PyData → Bool
  | .int _ => true
  | _ => false
def isTupD : PyData → Bool
  | .tuple _ => true
  | _ => false
/-- data that are handed about here -/
def plainD : PyData → Bool
  | .dict _ => false
  | _ => true
def isInt0 : PyData → Bool
  | .int _ => true
  | .bool _ => true
  | _ => false
def isBool0 : PyData → Bool
  | .bool _ => true
  | _ => false
theorem kit_int (h : plainD d = true) : kitB (tyName d) "int" = some (isInt0 d) := by
  cases d with
  | none => exact (by decide +kernel : kitB "NoneType" "int" = some false)
  | bool b => exact (by decide +kernel : kitB "bool" "int" = some true)
  | int i => exact (by decide +kernel : kitB "int" "int" = some true)
  | str x => exact (by decide +kernel : kitB "str" "int" = some false)
  | list x => exact (by decide +kernel : kitB "list" "int" = some false)
  | tuple x => exact (by decide +kernel : kitB "tuple" "int" = some false)
  | dict x => exact (Bool.noConfusion h)
theorem kit_bool (h : plainD d = true) : kitB (tyName d) "bool" = some (isBool0 d) := by
  cases d with
  | none => exact (by decide +kernel : kitB "NoneType" "bool" = some false)
  | bool b => exact (by decide +kernel : kitB "bool" "bool" = some true)
  | int i => exact (by decide +kernel : kitB "int" "bool" = some false)
  | str x => exact (by decide +kernel : kitB "str" "bool" = some false)
  | list x => exact (by decide +kernel : kitB "list" "bool" = some false)
  | tuple x => exact (by decide +kernel : kitB "tuple" "bool" = some false)
  | dict x => exact (Bool.noConfusion h)
theorem kit_tuple (h : plainD d = true) : kitB (tyName d) "tuple" = some (isTupD d) := by
  cases d with
  | none => exact (by decide +kernel : kitB "NoneType" "tuple" = some false)
  | bool b => exact (by decide +kernel : kitB "bool" "tuple" = some false)
  | int i => exact (by decide +kernel : kitB "int" "tuple" = some false)
  | str x => exact (by decide +kernel : kitB "str" "tuple" = some false)
  | list x => exact (by decide +kernel : kitB "list" "tuple" = some false)
  | tuple x => exact (by decide +kernel : kitB "tuple" "tuple" = some true)
  | dict x => exact (Bool.noConfusion h)
end

section
variable {P : Program} {w : World} {K : PySem.W.Frag} {mg : Str → Option Value} {base : Heap}
/-! ### whole.py -/
def sp_is_integer (K : PySem.W.Frag) : Sp := spOf (fun d : PyData => [DP K d]) (fun d => plainD d = true) (fun d => DP K (.bool (isIntD d)))
theorem ok_is_integer (T : Txt K mg) : FnOk P w K mg base CX0 1 T.is_integer.f T.is_integer.fd ["value"] (sp_is_integer K) := by
  refine T.is_integer.F.ok sc_is_integer (fun vs H Q E h => spOf_len (n := 1) (fun _ => rfl) h) (fun cdv A outer s H vs Q E hr h => ?_)
  obtain ⟨d, ps, hp, k⟩ := h
  obtain ⟨v, rfl, pv0⟩ := allP1 ps
  refine ⟨_, (pss_one (ps_ret (pe_and (pe_callB (kc_isi K) (by rfl) T.z_isinstance (by decide +kernel) (pa_cons (pv 0) (pa_cons (pe_bltn (v := .ty "int") rfl T.z_int (by decide +kernel) rfl) pa_nil))) (pe_one (pe_not (pe_callB (kc_isi K) (by rfl) T.z_isinstance (by decide +kernel) (pa_cons (pv 0) (pa_cons (pe_bltn (v := .ty "bool") rfl T.z_bool (by decide +kernel) rfl) pa_nil)))))))), ?_⟩
  refine s_ret (P := DP K (.bool (isIntD d))) (EvP.is (ed_andV (ed_isi (kit_int hp) (ed_var rfl pv0)) fun _ => ed_notV (ed_isi (kit_bool hp) (ed_var rfl pv0))) ?_) (fun v H1 e p => k v H1 e p)
  cases d <;> rfl
end
end WK

set_option Elab.async false
set_option linter.all false
set_option maxRecDepth 100000
/-! The mirror: what each def reckons, over plain lists of whole numbers. -/
namespace WM
abbrev W := List Int
def addM (v w : W) (p : Int) : W := List.zipWith (fun x y => (x + y) % p) v w
def scaleM (v : W) (a p : Int) : W := v.map fun x => x * a % p
def zeroM (n : Nat) : W := List.replicate n 0
def combM (p : Int) (width : Nat) (rows : List W) (cs : W) : W := (List.zip rows cs).foldl (fun t rc => addM t (scaleM rc.1 rc.2 p) p) (zeroM width)
def invM (a p : Int) : Int := (((List.range (p - 1).toNat).map fun (k : Nat) => 1 + (k : Int)).find? fun k => a * k % p = 1).getD 0
def clearM (p : Int) (head : W) (at_ : Nat) (row : W) : W := addM row (scaleM head (-(row.getD at_ 0)) p) p
def redStep (p : Int) (s : List W × List W × List Nat) (at_ : Nat) : List W × List W × List Nat :=
  match s.1.find? (fun r => r.getD at_ 0 != 0) with
  | none => s
  | some h0 =>
    let head := scaleM h0 (invM (h0.getD at_ 0) p) p
    ((s.1.erase h0).map (clearM p head at_), s.2.1.map (clearM p head at_) ++ [head], s.2.2 ++ [at_])
def redM (p : Int) (width : Nat) (rows : List W) : List W × List W × List Nat := (List.range width).foldl (redStep p) (rows, [], [])
def weightM (w : W) : Nat := (w.filter fun x => x != 0).length
def movedM (p : Int) (word : W) (places : List Nat) (mults : W) : W :=
  (List.range word.length).foldl (fun f k => f.set (places.getD k 0) (word.getD k 0 * mults.getD k 0 % p)) (zeroM word.length)
def nw (ns : List Nat) : W := ns.map fun (n : Nat) => (n : Int)
def lineM (p : Int) (col : W) : W := match col.find? (fun x => x != 0) with
  | some x => scaleM col (invM x p) p
  | none => col
def colsM (words : List W) (n : Nat) : List W := (List.range n).map fun at_ => words.map fun w => w.getD at_ 0
def multM (p : Int) (one two : W) : Int := match (List.range one.length).find? (fun k => one.getD k 0 != 0) with
  | some k => two.getD k 0 * invM (one.getD k 0) p % p
  | none => 1
/-- the primes here, words over them -/
def Pr (p : Int) : Prop := p = 2 ∨ p = 3 ∨ p = 5
def WOk (p : Int) (n : Nat) (v : W) : Prop := v.length = n ∧ ∀ x ∈ v, 0 ≤ x ∧ x < p
theorem pr_pos {p : Int} (h : Pr p) : 1 < p ∧ p ≤ 5 := by
  rcases h with rfl | rfl | rfl <;> decide
theorem pr_inv {p : Int} (h : Pr p) {x : Int} (h0 : 0 ≤ x) (h1 : x < p) (hx : x ≠ 0) : ∃ k : Nat, (k : Int) < p - 1 ∧ x * (1 + (k : Int)) % p = 1 := by
  rcases h with rfl | rfl | rfl
  · have e : x = 1 := by omega
    subst e
    exact ⟨0, by decide, by decide⟩
  · have e : x = 1 ∨ x = 2 := by omega
    rcases e with rfl | rfl
    · exact ⟨0, by decide, by decide⟩
    · exact ⟨1, by decide, by decide⟩
  · have e : x = 1 ∨ x = 2 ∨ x = 3 ∨ x = 4 := by omega
    rcases e with rfl | rfl | rfl | rfl
    · exact ⟨0, by decide, by decide⟩
    · exact ⟨2, by decide, by decide⟩
    · exact ⟨1, by decide, by decide⟩
    · exact ⟨3, by decide, by decide⟩
end WM

set_option Elab.async false
set_option linter.all false
set_option maxRecDepth 100000
set_option maxHeartbeats 4000000
/-! Rules that the layer lacks: (x,) * n for any small n. -/
namespace WK
open PySem PySem.Spec PyProof.Rows L2
open Evl (Ex ex_l ex_t ex_rd sq_of st_of sz_of sz_lt fresh_back rLenS rListS)
/-- one item, no time -/
theorem tup_mul0 (l : Addr) (items : Array Value) (n : Nat) (dd : Option Addr) (sl : Array (Option Value)) (u : Tok) (hne : items.isEmpty = false) :
    Meets (Builtin.«tuple.__mul__» ⟨[.ref l, .int 0 u], []⟩) (fun _ R s => s.heap.get? l = some { cls := .type "tuple", dict := dd, data := .seq items n, slots := sl } ∧
      R (.ok (.ret (Value.ref s.heap.objs.size))) { s with heap := s.heap.push { cls := Value.type "tuple", data := Data.seq #[] }, toks := s.toks }) :=
  .of_wp fun prog w A R s h => by
    obtain ⟨hp, g, d, tk, os⟩ := s
    obtain ⟨hl, h⟩ := h
    have f1 := AutoSeq1.idx_int
    have c1 : (items.isEmpty || (0 : Int) == 1) = false := by rw [hne] <;> rfl
    have c2 : (decide ((0 : Int) ≤ 0) || items.isEmpty) = true := rfl
    wp_walk using wpAny_loadPart' hl
    repeat (first
      | (refine wpAny_ite_false (decide_eq_false (by rw [c1]; exact Bool.false_ne_true)) ?_; wp_walk using wpAny_loadPart' hl)
      | (refine wpAny_ite_true (decide_eq_true c2) ?_; wp_walk using wpAny_loadPart' hl))
    exact ⟨_, rfl, h⟩
theorem tup_mul1 (l : Addr) (items : Array Value) (n : Nat) (dd : Option Addr) (sl : Array (Option Value)) (u : Tok) :
    Meets (Builtin.«tuple.__mul__» ⟨[.ref l, .int 1 u], []⟩) (fun _ R s => s.heap.get? l = some { cls := .type "tuple", dict := dd, data := .seq items n, slots := sl } ∧
      R (.ok (.ret (Value.ref l))) s) :=
  .of_wp fun prog w A R s h => by
    obtain ⟨hp, g, d, tk, os⟩ := s
    obtain ⟨hl, h⟩ := h
    have f1 := AutoSeq1.idx_int
    have c1 : (items.isEmpty || (1 : Int) == 1) = true := by simp
    wp_walk using wpAny_loadPart' hl
    repeat (first
      | (refine wpAny_ite_true (decide_eq_true c1) ?_; wp_walk using wpAny_loadPart' hl))
    exact ⟨_, rfl, h⟩
def rRepZ (K : PySem.W.Frag) : R2 := fun x y H Q => ∃ l k v, x = .ref l ∧ y = .int k ∧ SqT K H l [v] ∧ 0 ≤ k ∧ k ≤ 1000 ∧ (k = 1 → Q (.ref l) H) ∧ (k ≠ 1 → ∀ p, H p = none → Q (.ref p) (upd H p (.tup (List.replicate k.toNat v))))
theorem rep_flat (v : V) : ∀ n : Nat, (List.replicate n [v]).flatten = List.replicate n v
  | 0 => rfl
  | n + 1 => by
    rw [List.replicate_succ, List.flatten_cons, rep_flat v n] <;> rfl
section
variable {X : Cx}
theorem op_repZ0 : OpR X (binaryOp .Mult) (rRepZ X.K) := by
  intro pins s σ H x y v u Q I rx ry h
  obtain ⟨l, k, z, rfl, rfl, hT, h1, h2, q1, q2⟩ := h
  by_cases hk : 2 ≤ k
  · refine op_repT pins s σ H _ _ v u Q I rx ry ⟨l, k, [z], rfl, rfl, hT, by simp, hk, h2, (by show 1 ≤ 1000; decide), fun p hp => ?_⟩
    rw [rep_flat]
    exact q2 (by omega) p hp
  · cases rx
    obtain ⟨t, rfl⟩ := ry
    obtain ⟨its, r, ⟨⟨cls, dd, data, sl⟩, ho, hc, n, hd⟩, hs⟩ := I.tuple hT
    simp only at hc hd
    subst hc hd
    obtain ⟨x1, e1, r1⟩ := Vals.one r
    subst e1
    by_cases h0 : k = 0
    · subst h0
      refine wpAny_binaryOp_repeat_ref (T := "tuple") (U := "int") (by decide) ⟨_, ho, rfl⟩ (fun s' => typeIs_int s' 0 t) noFill_tuple_mul F.fills_int_mul F.slot_int_rmul repeat_tuple F.slot_int_index.lookup
        (call_meets F.slot_int_rmul (typeIs_int s 0 t) F.entry_int_rmul (F.args_int_rmul_2 _ _) (int_rmul_tuple 0 t l [x1].toArray n dd sl)
          ⟨ho, rfl, ⟨_, ho, rfl⟩, call_meets F.slot_tuple_mul ⟨_, ho, rfl⟩ F.entry_tuple_mul (F.args_tuple_mul_2 _ _) (tup_mul0 l [x1].toArray n dd sl t rfl) ⟨ho, ?_⟩⟩)
      refine ⟨.ref s.heap.objs.size, _, I.laid (t' := s.toks) (o := .tup (List.replicate (0 : Int).toNat z)) (fun b ob q => Heap.get?_push_of_some _ q) (Nat.le_refl _) ?_, rfl, q2 (by decide) _ (I.hok.fresh (Nat.le_refl _))⟩
      exact ⟨Nat.zero_le _, [], .nil, IsTup.new _ _⟩
    · have hk1 : k = 1 := by omega
      subst hk1
      refine wpAny_binaryOp_repeat_ref (T := "tuple") (U := "int") (by decide) ⟨_, ho, rfl⟩ (fun s' => typeIs_int s' 1 t) noFill_tuple_mul F.fills_int_mul F.slot_int_rmul repeat_tuple F.slot_int_index.lookup
        (call_meets F.slot_int_rmul (typeIs_int s 1 t) F.entry_int_rmul (F.args_int_rmul_2 _ _) (int_rmul_tuple 1 t l [x1].toArray n dd sl)
          ⟨ho, rfl, ⟨_, ho, rfl⟩, call_meets F.slot_tuple_mul ⟨_, ho, rfl⟩ F.entry_tuple_mul (F.args_tuple_mul_2 _ _) (tup_mul1 l [x1].toArray n dd sl t) ⟨ho, ?_⟩⟩)
      exact ⟨.ref l, H, I, rfl, q1 rfl⟩
theorem op_repZ (K : PySem.W.Frag) (hK : X.K = K := by rfl) : OpR X (binaryOp .Mult) (rRepZ K) := hK ▸ op_repZ0
end
section
variable {K : PySem.W.Frag} {σ : L2.St} {H H' : Hp} {ta tb : TE} {d : PyData}
theorem ed_repZ {n : Nat} (ha : EvD K ta σ H (.tuple [d])) (hb : EvD K tb σ H (.int (n : Int))) (hn : n ≤ 1000) : EvD K (tOp (rRepZ K) ta tb) σ H (.tuple (List.replicate n d)) := ev_op ha hb fun x y H1 _ p1 p2 Q q => by
  have p0 := p1
  have ey := dp_int p2
  subst ey
  obtain ⟨a, xs, rfl, s, al⟩ := dp_tup p1
  cases al with
  | @cons z zs _ _ hv hr =>
    cases hr
    refine ⟨a, (n : Int), z, rfl, rfl, s, by omega, by omega, fun h1 => ?_, fun _ p hp => ?_⟩
    · have e : n = 1 := by omega
      subst e
      exact q _ H1 (Ex.refl H1) p0
    · rw [Int.toNat_natCast]
      refine q _ _ (ex_of_new hp) (.tup upd_same ?_)
      have hv' : Dp K (upd H1 p (.tup (List.replicate n z))) z d := dp_mono (ex_of_new hp) hv
      generalize upd H1 p (.tup (List.replicate n z)) = G at hv'
      have rep : ∀ m : Nat, DpAll K G (List.replicate m z) (List.replicate m d) := fun m => by
        induction m with
        | zero => exact .nil
        | succ m ih => exact .cons hv' ih
      exact rep n
end

/-! ### equality of words -/
theorem eqvAll_ints : ∀ u v : List Int, PyData.eqvAll (u.map PyData.int) (v.map PyData.int) = decide (u = v)
  | [], [] => by simp [PyData.eqvAll]
  | [], _ :: _ => by simp [PyData.eqvAll]
  | _ :: _, [] => by simp [PyData.eqvAll]
  | a :: u, b :: v => by
    have ih := eqvAll_ints u v
    simp only [List.map_cons, PyData.eqvAll, ih]
    by_cases h : a = b
    · subst h
      by_cases h2 : u = v
      · subst h2
        simp [PyData.eqv]
      · simp [PyData.eqv, h2]
    · simp [PyData.eqv, h]
theorem eqv_wd (u v : List Int) : PyData.eqv (wd u) (wd v) = decide (u = v) := by
  show PyData.eqv (.tuple _) (.tuple _) = _
  simp only [PyData.eqv]
  exact eqvAll_ints u v
theorem canLay_ints : ∀ u : List Int, PyData.canLayAll0 (u.map PyData.int) = true
  | [] => rfl
  | a :: u => by
    show (true && PyData.canLayAll0 (u.map PyData.int)) = true
    rw [canLay_ints u] <;> rfl
theorem depth_ints : ∀ u : List Int, PyData.depthAll (u.map PyData.int) ≤ 1
  | [] => by simp [PyData.depthAll]
  | a :: u => by
    have ih := depth_ints u
    simp only [List.map_cons, PyData.depthAll, PyData.depth]
    omega
theorem shaped_wd (u : List Int) : SeqAt.shaped (wd u) = true := by
  unfold SeqAt.shaped
  have h1 : (wd u).canLay0 = true := canLay_ints u
  have h2 : (wd u).depth ≤ 64 := by
    have := depth_ints u
    show PyData.depth (.tuple _) ≤ 64
    simp only [PyData.depth]
    omega
  rw [h1, decide_eq_true h2] <;> rfl
theorem canLay_wds : ∀ rows : List (List Int), PyData.canLayAll0 (wds rows) = true
  | [] => rfl
  | a :: u => by
    show ((wd a).canLay0 && PyData.canLayAll0 (wds u)) = true
    rw [canLay_wds u, show (wd a).canLay0 = true from canLay_ints a] <;> rfl
theorem depth_wds : ∀ u : List (List Int), PyData.depthAll (wds u) ≤ 2
  | [] => by simp [PyData.depthAll]
  | a :: u => by
    have ih := depth_wds u
    have h := depth_ints a
    show PyData.depthAll (PyData.tuple (a.map PyData.int) :: wds u) ≤ 2
    simp only [PyData.depthAll, PyData.depth]
    omega
theorem shaped_wdsL (u : List (List Int)) : SeqAt.shaped (.list (wds u)) = true := by
  unfold SeqAt.shaped
  have h1 : (PyData.list (wds u)).canLay0 = true := canLay_wds u
  have h2 : (PyData.list (wds u)).depth ≤ 64 := by
    have := depth_wds u
    simp only [PyData.depth]
    omega
  rw [h1, decide_eq_true h2] <;> rfl
theorem eqvAll_wds : ∀ u v : List (List Int), PyData.eqvAll (wds u) (wds v) = decide (u = v)
  | [], [] => by simp [PyData.eqvAll]
  | [], _ :: _ => by simp [PyData.eqvAll]
  | _ :: _, [] => by simp [PyData.eqvAll]
  | a :: u, b :: v => by
    have ih := eqvAll_wds u v
    show PyData.eqvAll (wd a :: wds u) (wd b :: wds v) = _
    rw [PyData.eqvAll, ih, eqv_wd]
    by_cases h : a = b
    · subst h
      simp
    · simp [h]
theorem eqv_wdsL (u v : List (List Int)) : PyData.eqv (.list (wds u)) (.list (wds v)) = decide (u = v) := by
  simp only [PyData.eqv]
  exact eqvAll_wds u v

/-! ### list.remove, items by their == -/
theorem rem_loopAt (l : Addr) (items : Array Value) (n : Nat) (x : Value) (e : Value → Bool) (j : Nat) (hj : j < items.size) (hit : e items[j] = true) (k : Nat) (hs1 : items.size ≤ sizeLine) :
    ∀ i : Nat, j - i = k → i ≤ j → (∀ m (hm : m < items.size), i ≤ m → m < j → e items[m] = false) → Meets (Builtin.«list.remove.loop» ⟨[.ref l, x, rawInt i], []⟩)
      (fun A R s => s.heap.get? l = some { cls := .type "list", dict := none, data := .seq items n, slots := #[] } ∧ (∀ y, y ∈ items → SeqAt.EqAt A.in1 s y x (e y)) ∧
        R (.ok (.ret .none)) { s with heap := s.heap.update l (Obj.mapSeq fun xs => xs.eraseIdxIfInBounds j) }) := by
  induction k with
  | zero =>
    intro i hk hij hno prog w A R s h
    obtain ⟨hp, g, d, tk, os⟩ := s
    obtain ⟨hl, he, h⟩ := h
    have hij' : i = j := by omega
    subst hij'
    wp_walk using wpAny_loadPart' hl
    have hi : items[((i : Nat) : Int).toNat]? = some items[i] := by simp [hj]
    rw [hi]
    refine wpAny_bind (he _ (Array.getElem_mem hj) prog w _ _ ?_)
    rw [hit]
    have hz' : (items.eraseIdxIfInBounds i).size ≤ sizeLine + 1 := Nat.le_trans (MeetsSeq.size_erased items _) (Nat.le_succ_of_le hs1)
    wp_walk using (wpAny_updateSeq hl rfl (hz := hs1) (_hz' := hz')), wpAny_loadPart' hl
    simpa using h
  | succ k ih =>
    intro i hk hij hno prog w A R s h
    obtain ⟨hp, g, d, tk, os⟩ := s
    obtain ⟨hl, he, h⟩ := h
    have hlt : i < items.size := by omega
    wp_walk using wpAny_loadPart' hl
    have hi : items[((i : Nat) : Int).toNat]? = some items[i] := by simp [hlt]
    have hc : ((i : Int) + 1) = ((i + 1 : Nat) : Int) := by push_cast; rfl
    rw [hi]
    refine wpAny_bind (he _ (Array.getElem_mem hlt) prog w _ _ ?_)
    rw [hno i hlt (Nat.le_refl _) (by omega)]
    wp_walk
    rw [hc]
    exact ⟨plainId_quiet MeetsSeq.plain_remove_loop _, codeAny_builtin MeetsSeq.entry_remove_loop (by
      rw [Around.under_plainId MeetsSeq.plain_remove_loop _]
      exact ih (i + 1) (by omega) (by omega) (fun m hm h1 h2 => hno m hm (by omega) h2) prog w A R _ ⟨hl, he, h⟩)⟩
theorem list_remAt (l : Addr) (items : Array Value) (n : Nat) (x : Value) (e : Value → Bool) (j : Nat) (hj : j < items.size)
    (hit : e items[j] = true) (hno : ∀ m (hm : m < items.size), m < j → e items[m] = false) (hs1 : items.size ≤ sizeLine) :
    Meets (Builtin.«list.remove» ⟨[.ref l, x], []⟩)
      (fun A R s => s.heap.get? l = some { cls := .type "list", dict := none, data := .seq items n, slots := #[] } ∧ (∀ y, y ∈ items → SeqAt.EqAt A.in1 s y x (e y)) ∧
        R (.ok (.ret .none)) { s with heap := s.heap.update l (Obj.mapSeq fun xs => xs.eraseIdxIfInBounds j) }) := by
  intro prog w A R s h
  obtain ⟨hp, g, d, tk, os⟩ := s
  obtain ⟨hl, he, h⟩ := h
  wp_walk using wpAny_loadPart' hl
  exact ⟨plainId_quiet MeetsSeq.plain_remove_loop _, codeAny_builtin MeetsSeq.entry_remove_loop (by
    rw [Around.under_plainId MeetsSeq.plain_remove_loop _]
    exact rem_loopAt l items n x e j hj hit _ hs1 0 rfl (Nat.zero_le _) (fun m hm _ h2 => hno m hm h2) prog w A R _ ⟨hl, he, h⟩)⟩
def rRemW (K : PySem.W.Frag) : V → List V → Hp → VK → Prop := fun x xs H Q => ∃ (a : Addr) (vs : List V) (y : V) (rows : List (List Int)) (r : List Int) (j : Nat), x = V.ref a ∧ xs = [y] ∧ H a = some (.lst vs) ∧ DpAll K H vs (wds rows) ∧ Dp K H y (wd r) ∧
  rows[j]? = some r ∧ (∀ (m : Nat) (r' : List Int), m < j → rows[m]? = some r' → r' ≠ r) ∧ Q .non (upd H a (.lst (vs.eraseIdx j)))
section
variable {X : Cx}
theorem mt_remW0 (hu : X.A.units + 65 < cLine) : MtR X "list.remove" (rRemW X.K) := by
  intro pins s σ H x xs v us Q I rx rxs h
  obtain ⟨a, vs, y, rows, r, j, rfl, rfl, hH, al, hy, hz, hno, q⟩ := h
  cases rx
  obtain ⟨uy, rfl, ry⟩ := rxs.one
  obtain ⟨bs, r1⟩ := L2.Dp.reads I (wd r) y uy (dp_l2 _ _ hy) ry
  obtain ⟨z, its, n, rv, hlen, he⟩ := I.lstM hH
  obtain ⟨as, h4⟩ := L2.Dp.readsAll I (wds rows) _ its (dpAll_l2 _ _ al) rv
  have hxs : PyData.canLayAll0 (wds rows) = true := canLay_wds rows
  have hroom : X.A.units + 1 + min (PyData.depthAll (wds rows)) (wd r).depth < cLine := by
    have h1 : (wd r).depth ≤ 2 := by
      have := depth_ints r
      show PyData.depth (.tuple _) ≤ 2
      simp only [PyData.depth]
      omega
    omega
  have hn : its.length = (wds rows).length := SeqAt.ReadsAll.length _ its as h4
  have hn2 : its.length = rows.length := by rw [hn, List.length_map]
  have hmap : its.map (SeqAt.readOf s.heap) = wds rows := SeqAt.readsAll_map (wds rows) its as hxs h4
  obtain ⟨hjd, _⟩ := List.getElem?_eq_some_iff.mp hz
  have hj : j < its.toArray.size := by simpa [hn2] using hjd
  have at_ : ∀ (m : Nat) (hm : m < its.toArray.size) (r' : List Int), rows[m]? = some r' → SeqAt.readOf s.heap its.toArray[m] = wd r' := by
    intro m hm r' hr'
    have hml : m < its.length := by simpa using hm
    have e0 : (wds rows)[m]? = some (wd r') := by rw [List.getElem?_map, hr'] <;> rfl
    rw [← hmap, List.getElem?_map, List.getElem?_eq_getElem hml] at e0
    have e1 : SeqAt.readOf s.heap its[m] = wd r' := Option.some.inj (show some (SeqAt.readOf s.heap its[m]) = some (wd r') from e0)
    simpa using e1
  refine call_meets PySem.F.slot_list_remove ⟨_, he, rfl⟩ PySem.F.entry_list_remove (PySem.F.args_list_remove_2 _ _)
    (list_remAt a its.toArray n uy (fun u => PyData.eqv (SeqAt.readOf s.heap u) (wd r)) j hj ?_ ?_ (by rw [List.size_toArray, ← hlen]; exact z)) ⟨he, SeqAt.items_eqAt (vs := its.toArray) (show ReadsAll s.heap its.toArray.toList (wds rows) as from h4) r1 hxs (canLay_ints r) hroom, ?_⟩
  · show PyData.eqv (SeqAt.readOf s.heap its.toArray[j]) (wd r) = true
    rw [at_ j hj r hz, eqv_wd, decide_eq_true rfl]
  · intro m hm hmj
    have hmd : m < rows.length := by omega
    have hz' : rows[m]? = some rows[m] := List.getElem?_eq_getElem hmd
    show PyData.eqv (SeqAt.readOf s.heap its.toArray[m]) (wd r) = false
    rw [at_ m hm _ hz', eqv_wd]
    exact decide_eq_false (hno m _ hmj hz')
  · refine ⟨.non, _, I.lset (its' := its.eraseIdx j) hH he ?_ (rv.eraseIdx j) ?_, rfl, q⟩
    · show its.toArray.eraseIdxIfInBounds j = (its.eraseIdx j).toArray
      rw [List.eraseIdxIfInBounds_toArray]
    · have := len_erase vs j
      omega
theorem mt_remW (K : PySem.W.Frag) {k : Nat} (hr : Room k X.A) (hK : X.K = K := by rfl) : MtR X "list.remove" (rRemW K) := hK ▸ mt_remW0 (by have := hr.un; omega)
end
end WK

set_option Elab.async false
set_option linter.all false
set_option maxRecDepth 100000
set_option maxHeartbeats 4000000
/-! The small defs. -/
namespace WK
open PySem PySem.Spec PyProof.Rows L2 WM
open Evl (Ex ex_l ex_t ex_rd sq_of st_of sz_of sz_lt fresh_back rLenS rListS)

theorem getD_at {α : Type} {l : List α} {k : Nat} (d : α) (h : k < l.length) : l[k]? = some (l.getD k d) := by
  rw [List.getD_eq_getElem?_getD, List.getElem?_eq_getElem h] <;> rfl
theorem range_getD {α : Type} (l : List α) (d : α) : (List.range l.length).map (fun k => l.getD k d) = l := by
  apply List.ext_getElem?
  intro i
  by_cases h : i < l.length
  · rw [List.getElem?_map, List.getElem?_range h, getD_at d h] <;> rfl
  · rw [List.getElem?_eq_none (by simpa using h), List.getElem?_eq_none (by omega)]
theorem addM_range {v w : W} {p : Int} (h : w.length = v.length) : ((List.range v.length).filter fun _ => true).map (fun k => PyData.int ((v.getD k 0 + w.getD k 0) % p)) = (addM v w p).map PyData.int := by
  rw [filter_yes]
  apply List.ext_getElem?
  intro i
  unfold addM
  by_cases hi : i < v.length
  · rw [List.getElem?_map, List.getElem?_range hi, List.getElem?_map, List.getElem?_zipWith, getD_at 0 hi, getD_at 0 (h ▸ hi : i < w.length)] <;> rfl
  · rw [List.getElem?_eq_none (by simpa using hi), List.getElem?_eq_none (by rw [List.length_map, List.length_zipWith]; omega)]
theorem addM_len {v w : W} {p : Int} (h : w.length = v.length) : (addM v w p).length = v.length := by
  unfold addM
  rw [List.length_zipWith, h, Nat.min_self]
theorem scaleM_len {v : W} {a p : Int} : (scaleM v a p).length = v.length := by
  unfold scaleM
  rw [List.length_map]

section
variable {P : Program} {w : World} {K : PySem.W.Frag} {mg : Str → Option Value} {base : Heap}
/-! ### whole.py -/
def sp_inverse (K : PySem.W.Frag) : Sp := spOf (fun x : Int × Int => [DP K (.int x.1), DP K (.int x.2)]) (fun x => 1 < x.2 ∧ x.2 ≤ 100 ∧ ∃ k : Nat, (k : Int) < x.2 - 1 ∧ x.1 * (1 + (k : Int)) % x.2 = 1) (fun x => DP K (.int (invM x.1 x.2)))
theorem invM_at {a p : Int} {k : Nat} (hk : (k : Int) < p - 1) (h : a * (1 + (k : Int)) % p = 1) (hn : ∀ j : Nat, j < k → ¬ a * (1 + (j : Int)) % p = 1) : invM a p = 1 + (k : Int) := by
  have hlt : k < (p - 1).toNat := by omega
  unfold invM
  have e : List.range (p - 1).toNat = List.range k ++ k :: (List.range' (k + 1) ((p - 1).toNat - k - 1)) := by
    have h1 : (p - 1).toNat = k + (((p - 1).toNat - k - 1) + 1) := by omega
    rw [List.range_eq_range', List.range_eq_range']
    rw [show List.range' 0 (p - 1).toNat = List.range' 0 (k + (((p - 1).toNat - k - 1) + 1)) from congrArg (fun m => List.range' 0 m) h1, ← List.range'_append_1, List.range'_succ, Nat.zero_add]
  rw [e, List.map_append, List.find?_append]
  have h1 : ((List.range k).map fun (k : Nat) => 1 + (k : Int)).find? (fun k => decide (a * k % p = 1)) = none := by
    rw [List.find?_eq_none]
    intro x hx
    obtain ⟨j, hj, rfl⟩ := List.mem_map.mp hx
    simpa using hn j (List.mem_range.mp hj)
  rw [h1, List.map_cons, List.find?_cons, show decide (a * (1 + (k : Int)) % p = 1) = true from decide_eq_true h] <;> rfl
theorem ok_inverse (T : Txt K mg) : FnOk P w K mg base CX0 1 T.inverse.f T.inverse.fd ["a", "p"] (sp_inverse K) := by
  refine T.inverse.F.ok sc_inverse (fun vs H Q E h => spOf_len (n := 2) (fun _ => rfl) h) (fun cdv A outer s H vs Q E hr h => ?_)
  obtain ⟨⟨a, p⟩, ps, ⟨hp1, hp2, kk, hk1, hk2⟩, k⟩ := h
  obtain ⟨va, vp, rfl, pa, pp⟩ := allP2 ps
  refine ⟨_, (pss_cons (ps_for PassesOwn.never rfl (pi_range2 (by rfl) T.z_range (pa_cons pe_int (pa_cons (pv 1) pa_nil))) (pg_name (i := 2) sc_inverse.nd rfl (Or.inl rfl)) (pss_one (ps_if (pt_cmpR op_eq (pe_op op_mod (pe_op op_mul (pv 0) (pv 2)) (pv 1)) pe_int (nomark _)) (pss_one (ps_ret (pv 2))) pss_nil)))
      (pss_one ps_never)), ?_⟩
  refine q_forR2 (lo := 1) (n := p) (ea_cons ed_int (ea_cons (ed_var rfl pp) ea_nil)) ⟨by decide, by decide, by omega, by omega⟩
    (fun i σ H' => ∃ z, σ = [some va, some vp, z] ∧ Ex H H' ∧ ∀ j : Nat, j < i → ¬ a * (1 + (j : Int)) % p = 1) (fun H1 e => ⟨_, rfl, e, fun j hj => absurd hj (Nat.not_lt_zero _)⟩) (fun i σ H' hi h => ?_) (fun σ H' h => ?_)
  · obtain ⟨z, rfl, e, hn⟩ := h
    refine s_when (b := decide (a * (1 + (i : Int)) % p = 1)) (eb_test (ed_eqI (ed_mod (by omega) (ed_mul (.inr ⟨by omega, by omega⟩) (ed_var rfl (dp_mono e pa)) (ed_var rfl (.int _))) (ed_var rfl (dp_mono e pp))) ed_int)) (fun hb H1 e1 => ?_) (fun hb H1 e1 => ?_)
    · refine s_ret (P := DP K (.int (1 + (i : Int)))) (ed_var rfl (.int _)) fun v H2 e2 pv => k v H2 ((e.trans e1).trans e2) ?_
      show Dp K H2 v (.int (invM a p))
      rw [invM_at (k := i) (by omega) (of_decide_eq_true hb) hn]
      exact pv
    · refine ⟨_, rfl, e.trans e1, fun j hj => ?_⟩
      by_cases hji : j = i
      · subst hji
        exact of_decide_eq_false hb
      · exact hn j (by omega)
  · obtain ⟨z, rfl, e, hn⟩ := h
    exact absurd hk2 (hn kk (by omega))
def sp_power (K : PySem.W.Frag) : Sp := spOf (fun x : Int × Nat => [DP K (.int x.1), DP K (.int (x.2 : Int))]) (fun x => 0 ≤ x.1 ∧ x.1 ≤ 7 ∧ x.2 ≤ 12) (fun x => DP K (.int (x.1 ^ x.2)))
theorem ok_power (T : Txt K mg) : FnOk P w K mg base CX0 1 T.power.f T.power.fd ["a", "k"] (sp_power K) := by
  refine T.power.F.ok sc_power (fun vs H Q E h => spOf_len (n := 2) (fun _ => rfl) h) (fun cdv A outer s H vs Q E hr h => ?_)
  obtain ⟨⟨a, m⟩, ps, ⟨h0, h1, h2⟩, k⟩ := h
  obtain ⟨va, vk, rfl, pa, pk⟩ := allP2 ps
  refine ⟨_, (pss_cons (ps_set (i := 2) sc_power.nd rfl (Or.inl rfl) pe_int)
      (pss_cons (ps_for PassesOwn.never rfl (pi_range1 (by rfl) T.z_range (pa_cons (pv 1) pa_nil)) (pg_name (i := 3) sc_power.nd rfl (Or.inl rfl)) (pss_one (ps_set (i := 2) sc_power.nd rfl (Or.inl rfl) (pe_op op_mul (pv 2) (pv 0)))))
      (pss_one (ps_ret (pv 2))))), ?_⟩
  refine q_asg (P := DP K (.int 1)) ed_int fun v H1 e1 pv => ?_
  refine q_forR (n := (m : Int)) (ea_cons (ed_var rfl (dp_mono e1 pk)) ea_nil) ⟨by omega, by have : m ≤ 12 := h2; omega⟩
    (fun i σ H' => ∃ t z, σ = [some va, some vk, some t, z] ∧ Ex H H' ∧ Dp K H' t (.int (a ^ i))) (fun H2 e2 => ⟨_, _, rfl, e1.trans e2, by rw [Int.pow_zero]; exact dp_mono e2 pv⟩) (fun i σ H' hi h => ?_) (fun σ H' h => ?_)
  · obtain ⟨t, z, rfl, e, pt⟩ := h
    have pa' : 0 ≤ a ∧ a ≤ 7 := ⟨h0, h1⟩
    refine s_asg (P := DP K (.int (a ^ i * a))) (ed_mul (.inr ⟨by omega, by omega⟩) (ed_var rfl pt) (ed_var rfl (dp_mono e pa))) fun v H2 e2 pv2 => ⟨_, _, rfl, e.trans e2, ?_⟩
    rw [Int.pow_succ]
    exact pv2
  · obtain ⟨t, z, rfl, e, pt⟩ := h
    refine s_ret (P := DP K (.int (a ^ m))) (ed_var rfl (by simpa using pt)) fun v H2 e2 pv2 => k v H2 (e.trans e2) pv2

/-! ### linear.py -/
def sp_add (K : PySem.W.Frag) : Sp := spOf (fun x : W × W × Int => [DP K (wd x.1), DP K (wd x.2.1), DP K (.int x.2.2)]) (fun x => x.2.1.length = x.1.length ∧ x.1.length ≤ 1000 ∧ 0 < x.2.2) (fun x => DP K (wd (addM x.1 x.2.1 x.2.2)))
theorem ok_add (T : Txt K mg) : FnOk P w K mg base CX0 1 T.add.f T.add.fd ["v", "w", "p"] (sp_add K) := by
  refine T.add.F.ok sc_add (fun vs H Q E h => spOf_len (n := 3) (fun _ => rfl) h) (fun cdv A outer s H vs Q E hr h => ?_)
  obtain ⟨⟨v, u, p⟩, ps, ⟨hl, hz, hp⟩, k⟩ := h
  obtain ⟨vv, vu, vp, rfl, pv0, pu, pp⟩ := allP3 ps
  have hl' : u.length = v.length := hl
  have hz' : v.length ≤ 1000 := hz
  refine ⟨_, (pss_one (ps_ret (pe_callTy (kc_tuple K) (by rfl) T.z_tuple (by decide +kernel) (pa_cons (pe_lc (own := [("k", 3)]) (g := gName 3) rfl sc_add.nd (pi_range1 (by rfl) T.z_range (pa_cons (pe_callB (kc_len K) (by rfl) T.z_len PySem.boot_len (pa_cons (pv 0) pa_nil)) pa_nil)) (blkOk_by (own := [("k", 3)]) (N := N_add) (sc := (defScope s_add)) (by decide +kernel)) (fun _ _ _ _ _ => pg_name (i := 3) sc_add.nd rfl (Or.inl rfl)) (fun _ _ _ _ _ => pts_nil) (fun _ _ _ _ _ => (pe_op op_mod (pe_op op_add (pe_ix (kx_tup K) (pv 0) (pv 3) (fun _ _ => rfl)) (pe_ix (kx_tup K) (pv 1) (pv 3) (fun _ _ => rfl))) (pv 2)))) pa_nil)))), ?_⟩
  refine s_ret (P := DP K (wd (addM v u p))) (ed_tupL (tOnly_ints _) (EvN.ls (EvN.is (en_lcR (n := (v.length : Int)) (fun _ => true) (fun k => .int ((v.getD k 0 + u.getD k 0) % p)) (fun _ => rfl) (ea_cons ?_ ea_nil) ⟨by omega, by omega⟩ (fun _ => rfl) (fun _ _ _ _ => eb_yes) (fun i H1 e hi _ => ?_)) ?_))) (fun v H1 e p => k v H1 e p)
  · have q := ed_lenT (ed_var (σ := start N_add [vv, vu, vp]) (n := 0) rfl pv0)
    rw [List.length_map] at q
    exact q
  · have hi' : i < v.length := by omega
    exact ed_mod hp (ed_add (ed_ixT (at_int (getD_at 0 hi') rfl) (ed_var rfl (dp_mono e pv0)) (ed_var rfl (.int _))) (ed_ixT (at_int (getD_at 0 (hl'.symm ▸ hi')) rfl) (ed_var rfl (dp_mono e pu)) (ed_var rfl (.int _)))) (ed_var rfl (dp_mono e pp))
  · exact addM_range hl'
def sp_scaled (K : PySem.W.Frag) : Sp := spOf (fun x : W × Int × Int => [DP K (wd x.1), DP K (.int x.2.1), DP K (.int x.2.2)]) (fun x => x.1.length ≤ 1000 ∧ -1000 ≤ x.2.1 ∧ x.2.1 ≤ 1000 ∧ 0 < x.2.2) (fun x => DP K (wd (scaleM x.1 x.2.1 x.2.2)))
theorem ok_scaled (T : Txt K mg) : FnOk P w K mg base CX0 1 T.scaled.f T.scaled.fd ["v", "a", "p"] (sp_scaled K) := by
  refine T.scaled.F.ok sc_scaled (fun vs H Q E h => spOf_len (n := 3) (fun _ => rfl) h) (fun cdv A outer s H vs Q E hr h => ?_)
  obtain ⟨⟨v, a, p⟩, ps, ⟨hz, ha1, ha2, hp⟩, k⟩ := h
  obtain ⟨vv, va, vp, rfl, pv0, pa, pp⟩ := allP3 ps
  have hz' : v.length ≤ 1000 := hz
  have hb : -1000 ≤ a ∧ a ≤ 1000 := ⟨ha1, ha2⟩
  refine ⟨_, (pss_one (ps_ret (pe_callTy (kc_tuple K) (by rfl) T.z_tuple (by decide +kernel) (pa_cons (pe_lc (own := [("item", 3)]) (g := gName 3) rfl sc_scaled.nd (kpi_tup K (pv 0)) (blkOk_by (own := [("item", 3)]) (N := N_scaled) (sc := (defScope s_scaled)) (by decide +kernel)) (fun _ _ _ _ _ => pg_name (i := 3) sc_scaled.nd rfl (Or.inl rfl)) (fun _ _ _ _ _ => pts_nil) (fun _ _ _ _ _ => (pe_op op_mod (pe_op op_mul (pv 3) (pv 1)) (pv 2)))) pa_nil)))), ?_⟩
  refine s_ret (P := DP K (wd (scaleM v a p))) (ed_tupL (tOnly_ints _) (EvN.ls (EvN.is (en_lcT PyData.int v (fun _ => true) (fun x => .int (x * a % p)) (fun _ => rfl) (ed_var rfl pv0) (by omega) (fun _ => rfl) (fun _ _ _ _ _ _ _ => eb_yes) (fun i x c H1 e hi px _ => ?_)) ?_))) (fun v H1 e p => k v H1 e p)
  · exact ed_mod hp (ed_mul (.inr ⟨by omega, by omega⟩) (ed_var rfl px) (ed_var rfl (dp_mono e pa))) (ed_var rfl (dp_mono e pp))
  · rw [filter_yes]
    unfold scaleM
    rw [List.map_map] <;> rfl
end
end WK

set_option Elab.async false
set_option linter.all false
set_option maxRecDepth 100000
set_option maxHeartbeats 4000000
namespace WK
open PySem PySem.Spec PyProof.Rows L2 WM
open Evl (Ex ex_l ex_t ex_rd sq_of st_of sz_of sz_lt fresh_back rLenS rListS)

/-- an item of a word, as is_word asks -/
def okItem (p : Int) : PyData → Bool
  | .int i => decide (0 ≤ i) && decide (i < p)
  | _ => false
def isWordD (p : Int) (n : Nat) : PyData → Bool
  | .tuple ds => ds.length == n && ds.all (okItem p)
  | _ => false
def itemsPlain : PyData → Bool
  | .tuple ds => ds.all plainD
  | .dict _ => false
  | _ => true
theorem plain_of_items {d : PyData} (h : itemsPlain d = true) : plainD d = true := by
  cases d <;> first | rfl | exact Bool.noConfusion h
theorem getD_all {α : Type} {f : α → Bool} {l : List α} {k : Nat} {x : α} (h : l.all f = true) (hk : l[k]? = some x) : f x = true := List.all_eq_true.mp h x (List.mem_of_getElem? hk)
theorem all_take {α : Type} {f : α → Bool} {l : List α} {k : Nat} {x : α} (h : (l.take k).all f = true) (hk : l[k]? = some x) (hx : f x = true) : (l.take (k + 1)).all f = true := by
  rw [take_snoc hk, List.all_append, h, List.all_cons, hx] <;> rfl
theorem all_no {α : Type} {f : α → Bool} {l : List α} {k : Nat} {x : α} (hk : l[k]? = some x) (hx : f x = false) : l.all f = false := by
  cases h : l.all f with
  | false => rfl
  | true => rw [getD_all h hk] at hx; cases hx
theorem isInt_of {d : PyData} (h : isIntD d = true) : ∃ i, d = .int i := by
  cases d <;> first | exact ⟨_, rfl⟩ | exact Bool.noConfusion h

section
variable {P : Program} {w : World} {K : PySem.W.Frag} {mg : Str → Option Value} {base : Heap}
def sp_is_word (K : PySem.W.Frag) : Sp := spOf (fun x : PyData × Int × Nat => [DP K x.1, DP K (.int x.2.1), DP K (.int (x.2.2 : Int))]) (fun x => itemsPlain x.1 = true) (fun x => DP K (.bool (isWordD x.2.1 x.2.2 x.1)))
theorem ok_is_word (T : Txt K mg) : FnOk P w K mg base CX0 2 T.is_word.f T.is_word.fd ["value", "p", "n"] (sp_is_word K) := by
  refine T.is_word.F.ok sc_is_word (fun vs H Q E h => spOf_len (n := 3) (fun _ => rfl) h) (fun cdv A outer s H vs Q E hr h => ?_)
  obtain ⟨⟨d, p, n⟩, ps, hp, k⟩ := h
  dsimp only at ps hp k
  obtain ⟨vv, vp, vn, rfl, pd, pp, pn⟩ := allP3 ps
  refine ⟨_, (pss_cons (ps_if (PW.pt (pw_or (pt_not (pt_val (pe_callB (kc_isi K) (by rfl) T.z_isinstance (by decide +kernel) (pa_cons (pv 0) (pa_cons (pe_bltn (v := .ty "tuple") rfl T.z_tuple (by decide +kernel) rfl) pa_nil))))) (pw_or1 (pt_cmpR op_ne (pe_callB (kc_len K) (by rfl) T.z_len PySem.boot_len (pa_cons (pv 0) pa_nil)) (pv 2) (nomark _))))) (pss_one (ps_ret pe_bl)) pss_nil)
      (pss_cons (ps_for PassesOwn.never rfl (kpi_tup K (pv 0)) (pg_name (i := 3) sc_is_word.nd rfl (Or.inl rfl)) (pss_one (ps_if (PW.pt (pw_or (pt_not (pt_val (pe_call (ok_is_integer T) (hr.mono (by decide)) (by rfl) T.is_integer.g T.is_integer.F.kp T.is_integer.b .nil pass0 (pa_cons (pv 3) pa_nil)))) (pw_or (pt_cmpR op_lt (pv 3) pe_int (nomark _)) (pw_or1 (pt_cmpR op_ge (pv 3) (pv 1) (nomark _)))))) (pss_one (ps_ret pe_bl)) pss_nil)))
      (pss_one (ps_ret pe_bl)))), ?_⟩
  have isi : EvB _ (start N_is_word [vv, vp, vn]) H _ := eb_not (eb_B (ed_isi (kit_tuple (plain_of_items hp)) (ed_var (K := K) (n := 0) rfl pd)))
  by_cases ht : isTupD d = true
  · obtain ⟨ds, rfl⟩ : ∃ ds, d = .tuple ds := by
      cases d <;> first | exact ⟨_, rfl⟩ | exact Bool.noConfusion ht
    refine q_when (b := !decide ((ds.length : Int) = (n : Int))) (EvB.is (eb_or isi fun _ => eb_test (ed_neI (ed_lenT (ed_var rfl pd)) (ed_var rfl pn))) (by rw [ht, Bool.not_true, Bool.false_or])) (fun hb H1 e1 => ?_) (fun hb H1 e1 => ?_)
    · refine s_ret (P := DP K (.bool false)) ed_bl fun v H2 e2 pv => k v H2 (e1.trans e2) ?_
      have hl : ¬ ds.length = n := fun q => by simp [q] at hb
      show Dp K H2 v (.bool ((ds.length == n) && ds.all (okItem p)))
      rw [show (ds.length == n) = false by simpa using hl]
      exact pv
    · have hl : ds.length = n := by
        have q : decide ((ds.length : Int) = (n : Int)) = true := by simpa using hb
        exact Int.ofNat.inj (of_decide_eq_true q)
      obtain ⟨a, xs, rfl, sT, al⟩ := dp_tup pd
      have hlen := dpAll_len al
      refine q_forTn (a := a) (xs := xs) (ex_var rfl) (ex_t e1 sT) (fun i σ' H' => ∃ z, σ' = [some (.ref a), some vp, some vn, z] ∧ Ex H1 H' ∧ (ds.take i).all (okItem p) = true)
        (fun H2 e2 => ⟨_, rfl, e2, rfl⟩) (fun i σ' H' ⟨_, _, e, _⟩ => e) (fun i x σ' H' hi h => ?_) (fun σ' H' h => ?_)
      · obtain ⟨z, rfl, e2, ha⟩ := h
        have hi' : i < ds.length := by
          rw [← hlen]
          exact (List.getElem?_eq_some_iff.mp hi).1
        have hdi : ds[i]? = some ds[i] := List.getElem?_eq_getElem hi'
        have px : Dp K H' x ds[i] := by
          obtain ⟨v, h1, h2⟩ := dpAll_at al hdi
          rw [hi] at h1
          cases h1
          exact dp_mono (e1.trans e2) h2
        have plx : plainD ds[i] = true := getD_all hp hdi
        refine s_when (b := !okItem p ds[i]) ?_ (fun hb H2 e3 => ?_) (fun hb H2 e3 => ?_)
        · have hint : EvB _ [some (.ref a), some vp, some vn, some x] H' _ := eb_not (eb_B (ev_call (ar := fun d : PyData => [DP K d]) (pre := fun d => plainD d = true) (res := fun d => DP K (.bool (isIntD d))) (E := E0) ds[i] plx (ea_cons (ed_var (n := 3) rfl px) ea_nil)))
          by_cases hI : isIntD ds[i] = true
          · obtain ⟨j, hj⟩ := isInt_of hI
            rw [hj] at px
            refine EvB.is (eb_or hint fun _ => eb_or (eb_test (ed_lt (ed_var rfl px) ed_int)) fun _ => eb_test (ed_ge (ed_var rfl px) (ed_var rfl (dp_mono (e1.trans e2) pp)))) ?_
            rw [hI, hj]
            show (!true || (decide (j < 0) || decide (p ≤ j))) = !(decide (0 ≤ j) && decide (j < p))
            by_cases h1 : j < 0
            · simp [h1, show ¬ (0 ≤ j) by omega]
            · by_cases h2 : p ≤ j
              · simp [h2, show ¬ (j < p) by omega]
              · simp [h1, h2, show 0 ≤ j by omega, show j < p by omega]
          · refine EvB.is (b := true) (EvB.is (eb_or (b2 := false) hint fun q => ?_) (by simp [hI])) ?_
            · simp [hI] at q
            · cases hq : ds[i] <;> first | rfl | (rw [hq] at hI; exact absurd rfl hI)
        · refine s_ret (P := DP K (.bool false)) ed_bl fun v H3 e4 pv => k v H3 (((e1.trans e2).trans e3).trans e4) ?_
          have : ds.all (okItem p) = false := all_no hdi (by simpa using hb)
          show Dp K H3 v (.bool ((ds.length == n) && ds.all (okItem p)))
          rw [this, Bool.and_false]
          exact pv
        · exact ⟨_, rfl, e2.trans e3, all_take ha hdi (by simpa using hb)⟩
      · obtain ⟨z, rfl, e2, ha⟩ := h
        rw [hlen, List.take_length] at ha
        refine s_ret (P := DP K (.bool true)) ed_bl fun v H3 e4 pv => k v H3 ((e1.trans e2).trans e4) ?_
        show Dp K H3 v (.bool ((ds.length == n) && ds.all (okItem p)))
        rw [ha, hl, beq_self_eq_true]
        exact pv
  · have ht' : isTupD d = false := by simpa using ht
    refine q_when (b := true) (EvB.is (eb_or (b2 := false) isi fun q => ?_) (by rw [ht'] <;> rfl)) (fun hb H1 e1 => ?_) (fun hb => by cases hb)
    · rw [ht'] at q
      cases q
    · refine s_ret (P := DP K (.bool false)) ed_bl fun v H2 e2 pv => k v H2 (e1.trans e2) ?_
      cases d <;> first | exact pv | exact absurd rfl ht

/-! ### weights -/
def sp_weight_of (K : PySem.W.Frag) : Sp := spOf (fun x : W => [DP K (wd x)]) (fun _ => True) (fun x => DP K (.int (weightM x : Int)))
theorem weightM_snoc {v : W} {i : Nat} {x : Int} (h : v[i]? = some x) : weightM (v.take (i + 1)) = weightM (v.take i) + if x = 0 then 0 else 1 := by
  unfold weightM
  rw [take_snoc h, List.filter_append, List.length_append]
  congr 1
  by_cases hx : x = 0
  · subst hx
    rfl
  · rw [if_neg hx, List.filter_cons, if_pos (by simpa using hx)] <;> rfl
theorem at_of_map {v : W} {i : Nat} {x : V} (h : (v.map V.int)[i]? = some x) : ∃ y, v[i]? = some y ∧ x = .int y := by
  rw [List.getElem?_map] at h
  cases hv : v[i]? with
  | none => rw [hv] at h; cases h
  | some y =>
    rw [hv] at h
    exact ⟨y, rfl, (Option.some.inj h).symm⟩
theorem ok_weight_of (T : Txt K mg) : FnOk P w K mg base CX0 1 T.weight_of.f T.weight_of.fd ["word"] (sp_weight_of K) := by
  refine T.weight_of.F.ok sc_weight_of (fun vs H Q E h => spOf_len (n := 1) (fun _ => rfl) h) (fun cdv A outer s H vs Q E hr h => ?_)
  obtain ⟨v, ps, _, k⟩ := h
  dsimp only at ps k
  obtain ⟨vv, rfl, pv0⟩ := allP1 ps
  obtain ⟨a, rfl, sT⟩ := dp_wd pv0
  refine ⟨_, (pss_cons (ps_set (i := 1) sc_weight_of.nd rfl (Or.inl rfl) pe_int)
      (pss_cons (ps_for PassesOwn.never rfl (kpi_tup K (pv 0)) (pg_name (i := 2) sc_weight_of.nd rfl (Or.inl rfl)) (pss_one (ps_if (pt_cmpR op_ne (pv 2) pe_int (nomark _)) (pss_one (ps_set (i := 1) sc_weight_of.nd rfl (Or.inl rfl) (pe_op op_add (pv 1) pe_int))) pss_nil)))
      (pss_one (ps_ret (pv 1))))), ?_⟩
  refine q_asg (P := DP K (.int 0)) ed_int fun v0 H1 e1 p0 => ?_
  refine q_forTn (a := a) (ex_var rfl) (ex_t e1 sT) (fun i σ' H' => ∃ t z, σ' = [some (.ref a), some t, z] ∧ Ex H1 H' ∧ Dp K H' t (.int (weightM (v.take i) : Int)))
    (fun H2 e2 => ⟨_, _, rfl, e2, dp_mono e2 p0⟩) (fun i σ' H' ⟨_, _, _, e, _⟩ => e) (fun i x σ' H' hi h => ?_) (fun σ' H' h => ?_)
  · obtain ⟨t, z, rfl, e2, pt⟩ := h
    obtain ⟨y, hy, rfl⟩ := at_of_map hi
    have hs := weightM_snoc hy
    refine s_when (b := !decide (y = 0)) (eb_test (K := K) (ed_neI (ed_var rfl (.int _)) ed_int)) (fun hb H2 e3 => ?_) (fun hb H2 e3 => ?_)
    · have hy0 : ¬ y = 0 := by simpa using hb
      rw [if_neg hy0] at hs
      refine s_asg (P := DP K (.int ((weightM (v.take i) : Int) + 1))) (ed_add (ed_var rfl (dp_mono e3 pt)) ed_int) fun v1 H3 e4 p1 => ⟨_, _, rfl, (e2.trans e3).trans e4, ?_⟩
      rw [hs]
      exact p1
    · have hy0 : y = 0 := by simpa using hb
      rw [if_pos hy0] at hs
      refine ⟨_, _, rfl, e2.trans e3, ?_⟩
      rw [hs]
      exact dp_mono e3 pt
  · obtain ⟨t, z, rfl, e2, pt⟩ := h
    rw [List.length_map, List.take_length] at pt
    exact s_ret (P := DP K (.int (weightM v : Int))) (ed_var rfl pt) fun v1 H3 e4 p1 => k v1 H3 ((e1.trans e2).trans e4) p1
def sp_weight (K : PySem.W.Frag) : Sp := spOf (fun x : W => [DP K (wd x)]) (fun x => x.length ≤ 1000) (fun x => DP K (.int (weightM x : Int)))
theorem ok_weight (T : Txt K mg) : FnOk P w K mg base CX0 1 T.weight.f T.weight.fd ["word"] (sp_weight K) := by
  refine T.weight.F.ok sc_weight (fun vs H Q E h => spOf_len (n := 1) (fun _ => rfl) h) (fun cdv A outer s H vs Q E hr h => ?_)
  obtain ⟨v, ps, hz, k⟩ := h
  dsimp only at ps hz k
  obtain ⟨vv, rfl, pv0⟩ := allP1 ps
  refine ⟨_, (pss_one (ps_ret (pe_callB (kc_len K) (by rfl) T.z_len PySem.boot_len (pa_cons (pe_lc (own := [("item", 1)]) (g := gName 1) rfl sc_weight.nd (kpi_tup K (pv 0)) (blkOk_by (own := [("item", 1)]) (N := N_weight) (sc := (defScope s_weight)) (by decide +kernel)) (fun _ _ _ _ _ => pg_name (i := 1) sc_weight.nd rfl (Or.inl rfl)) (fun _ _ _ _ _ => (pts_one (pt_cmpR op_ne (pv 1) pe_int (nomark _)))) (fun _ _ _ _ _ => (pv 1))) pa_nil)))), ?_⟩
  refine s_ret (P := DP K (.int (weightM v : Int))) (EvP.is (ed_lenL (EvN.ls (en_lcT PyData.int v (fun x => x != 0) PyData.int (fun _ => rfl) (ed_var rfl pv0) (by omega) (fun _ => rfl) (fun i x c H1 e hi px => ?_) (fun i x c H1 e hi px _ => ed_var rfl px)))) ?_) (fun v1 H1 e p1 => k v1 H1 e p1)
  · exact EvB.is (eb_test (ed_neI (ed_var rfl px) ed_int)) (by rfl)
  · rw [List.length_map] <;> rfl

/-! ### combine, cleared -/
def isW (n : Nat) (v : W) : Prop := v.length = n
def sp_combine (K : PySem.W.Frag) : Sp := spOf (fun x : List W × W × Nat × Int => [DP K (.tuple (wds x.1)), DP K (wd x.2.1), DP K (.int (x.2.2.1 : Int)), DP K (.int x.2.2.2)])
  (fun x => x.2.1.length = x.1.length ∧ x.1.length ≤ 100 ∧ (∀ r ∈ x.1, r.length = x.2.2.1) ∧ x.2.2.1 ≤ 100 ∧ (∀ c ∈ x.2.1, -1000 ≤ c ∧ c ≤ 1000) ∧ 0 < x.2.2.2) (fun x => DP K (wd (combM x.2.2.2 x.2.2.1 x.1 x.2.1)))
theorem zip_take_snoc {α β : Type} {xs : List α} {ys : List β} {i : Nat} {x : α} {y : β} (hx : xs[i]? = some x) (hy : ys[i]? = some y) : (List.zip xs ys).take (i + 1) = (List.zip xs ys).take i ++ [(x, y)] := by
  refine take_snoc ?_
  rw [List.getElem?_zip_eq_some]
  exact ⟨hx, hy⟩
theorem combM_take_len {p : Int} {n : Nat} {rows : List W} {cs : W} (hr : ∀ r ∈ rows, r.length = n) (i : Nat) : (((List.zip rows cs).take i).foldl (fun t rc => addM t (scaleM rc.1 rc.2 p) p) (zeroM n)).length = n := by
  have key : ∀ (l : List (W × Int)) (t : W), t.length = n → (∀ rc ∈ l, rc.1.length = n) → (l.foldl (fun t rc => addM t (scaleM rc.1 rc.2 p) p) t).length = n := by
    intro l
    induction l with
    | nil => intro t ht _; exact ht
    | cons a l ih =>
      intro t ht hl
      refine ih _ ?_ fun rc h => hl rc (List.mem_cons_of_mem _ h)
      have ha : a.1.length = n := hl a List.mem_cons_self
      rw [addM_len (by rw [scaleM_len, ha, ht]), ht]
  refine key _ _ (by simp [zeroM]) fun rc h => ?_
  have := List.mem_of_mem_take h
  exact hr _ (List.of_mem_zip this).1
theorem combM_len {p : Int} {n : Nat} {rows : List W} {cs : W} (hr : ∀ r ∈ rows, r.length = n) : (combM p n rows cs).length = n := by
  have := combM_take_len (p := p) (cs := cs) hr (List.zip rows cs).length
  rw [List.take_length] at this
  exact this
theorem ok_combine (T : Txt K mg) : FnOk P w K mg base CX0 2 T.combine.f T.combine.fd ["rows", "weights", "width", "p"] (sp_combine K) := by
  refine T.combine.F.ok sc_combine (fun vs H Q E h => spOf_len (n := 4) (fun _ => rfl) h) (fun cdv A outer s H vs Q E hr h => ?_)
  obtain ⟨⟨rows, cs, n, p⟩, ps, ⟨hlen, hz, hrow, hn, hc, hp⟩, k⟩ := h
  dsimp only at ps hlen hz hrow hn hc hp k
  obtain ⟨vr, vc, vn, vp, rfl, pr, pc, pn, pp⟩ := allP4 ps
  refine ⟨_, (pss_cons (ps_set (i := 4) sc_combine.nd rfl (Or.inl rfl) (pe_op (op_repZ K) (pe_tup (pa_cons pe_int pa_nil)) (pv 2)))
      (pss_cons (ps_for PassesOwn.never rfl (pi_range1 (by rfl) T.z_range (pa_cons (pe_callB (kc_len K) (by rfl) T.z_len PySem.boot_len (pa_cons (pv 0) pa_nil)) pa_nil)) (pg_name (i := 5) sc_combine.nd rfl (Or.inl rfl)) (pss_one (ps_set (i := 4) sc_combine.nd rfl (Or.inl rfl) (pe_call (ok_add T) (hr.mono (by decide)) (by rfl) T.add.g T.add.F.kp T.add.b .nil pass0 (pa_cons (pv 4) (pa_cons (pe_call (ok_scaled T) (hr.mono (by decide)) (by rfl) T.scaled.g T.scaled.F.kp T.scaled.b .nil pass0 (pa_cons (pe_ix (kx_tup K) (pv 0) (pv 5) (fun _ _ => rfl)) (pa_cons (pe_ix (kx_tup K) (pv 1) (pv 5) (fun _ _ => rfl)) (pa_cons (pv 3) pa_nil)))) (pa_cons (pv 3) pa_nil)))))))
      (pss_one (ps_ret (pv 4))))), ?_⟩
  refine q_asg (P := DP K (wd (zeroM n))) (EvP.is (ed_repZ (ed_tup (ds := [.int 0]) (ea_cons ed_int ea_nil) (by decide)) (ed_var rfl pn) (by omega)) ?_) fun v0 H1 e1 p0 => ?_
  · unfold zeroM
    rw [wd, List.map_replicate]
  have el : EvD K _ _ H1 _ := ed_lenT (ed_var (σ := (start N_combine [vr, vc, vn, vp]).set 4 (some v0)) (n := 0) rfl (dp_mono e1 pr))
  rw [List.length_map] at el
  refine q_forR (n := (rows.length : Int)) (ea_cons el ea_nil) ⟨by omega, by omega⟩
    (fun i σ' H' => ∃ t z, σ' = [some vr, some vc, some vn, some vp, some t, z] ∧ Ex H H' ∧ Dp K H' t (wd (((List.zip rows cs).take i).foldl (fun t rc => addM t (scaleM rc.1 rc.2 p) p) (zeroM n))))
    (fun H2 e2 => ⟨_, _, rfl, e1.trans e2, dp_mono e2 p0⟩) (fun i σ' H' hi h => ?_) (fun σ' H' h => ?_)
  · obtain ⟨t, z, rfl, e, pt⟩ := h
    have hi' : i < rows.length := by omega
    have hri : rows[i]? = some rows[i] := List.getElem?_eq_getElem hi'
    have hci : cs[i]? = some (cs[i]'(by omega)) := List.getElem?_eq_getElem (by omega)
    have rl : rows[i].length = n := hrow _ (List.getElem_mem hi')
    have cb := hc _ (List.getElem_mem (show i < cs.length by omega))
    refine s_asg (P := DP K (wd (addM _ (scaleM rows[i] (cs[i]'(by omega)) p) p))) (ev_call (ι := W × W × Int) (_, scaleM rows[i] (cs[i]'(by omega)) p, p) ⟨?_, ?_, hp⟩ (ea_cons (ed_var rfl pt) (ea_cons (ev_call (ι := W × Int × Int) (rows[i], cs[i]'(by omega), p) ⟨by show rows[i].length ≤ 1000; omega, cb.1, cb.2, hp⟩
      (ea_cons (ed_ixT (at_wd hri rfl) (ed_var rfl (dp_mono e pr)) (ed_var rfl (.int _))) (ea_cons (ed_ixT (at_int hci rfl) (ed_var rfl (dp_mono e pc)) (ed_var rfl (.int _))) (ea_cons (ed_var rfl (dp_mono e pp)) ea_nil)))) (ea_cons (ed_var rfl (dp_mono e pp)) ea_nil)))) fun v1 H2 e2 p1 => ⟨_, _, rfl, e.trans e2, ?_⟩
    · show (scaleM rows[i] _ p).length = _
      rw [scaleM_len, rl, combM_take_len hrow]
    · show List.length _ ≤ 1000
      rw [combM_take_len hrow]
      omega
    · rw [zip_take_snoc hri hci, List.foldl_append]
      exact p1
  · obtain ⟨t, z, rfl, e, pt⟩ := h
    have et : (List.zip rows cs).take ((rows.length : Int)).toNat = List.zip rows cs := by
      refine List.take_of_length_le ?_
      rw [List.length_zip]
      omega
    rw [et] at pt
    exact s_ret (P := DP K (wd (combM p n rows cs))) (ed_var rfl pt) fun v1 H2 e2 p1 => k v1 H2 (e.trans e2) p1
def sp_cleared (K : PySem.W.Frag) : Sp := spOf (fun x : W × W × Nat × Int => [DP K (wd x.1), DP K (wd x.2.1), DP K (.int (x.2.2.1 : Int)), DP K (.int x.2.2.2)])
  (fun x => x.2.1.length = x.1.length ∧ x.1.length ≤ 100 ∧ x.2.2.1 < x.1.length ∧ (∀ c ∈ x.1, -1000 ≤ c ∧ c ≤ 1000) ∧ 0 < x.2.2.2) (fun x => DP K (wd (clearM x.2.2.2 x.2.1 x.2.2.1 x.1)))
theorem ok_cleared (T : Txt K mg) : FnOk P w K mg base CX0 2 T.cleared.f T.cleared.fd ["row", "head", "at", "p"] (sp_cleared K) := by
  refine T.cleared.F.ok sc_cleared (fun vs H Q E h => spOf_len (n := 4) (fun _ => rfl) h) (fun cdv A outer s H vs Q E hr h => ?_)
  obtain ⟨⟨row, hd, n, p⟩, ps, ⟨hlen, hz, hn, hc, hp⟩, k⟩ := h
  dsimp only at ps hlen hz hn hc hp k
  obtain ⟨vr, vh, vn, vp, rfl, pr, ph, pn, pp⟩ := allP4 ps
  refine ⟨_, (pss_one (ps_ret (pe_call (ok_add T) (hr.mono (by decide)) (by rfl) T.add.g T.add.F.kp T.add.b .nil pass0 (pa_cons (pv 0) (pa_cons (pe_call (ok_scaled T) (hr.mono (by decide)) (by rfl) T.scaled.g T.scaled.F.kp T.scaled.b .nil pass0 (pa_cons (pv 1) (pa_cons (pe_un un_neg (pe_ix (kx_tup K) (pv 0) (pv 2) (fun _ _ => rfl))) (pa_cons (pv 3) pa_nil)))) (pa_cons (pv 3) pa_nil)))))), ?_⟩
  have hg : row[n]? = some (row.getD n 0) := getD_at 0 hn
  have hb := hc _ (List.mem_of_getElem? hg)
  refine s_ret (P := DP K (wd (clearM p hd n row))) (ev_call (ι := W × W × Int) (row, scaleM hd (-(row.getD n 0)) p, p) ⟨?_, ?_, hp⟩ (ea_cons (ed_var rfl pr) (ea_cons (ev_call (ι := W × Int × Int) (hd, -(row.getD n 0), p) ⟨?_, ?_, ?_, hp⟩
    (ea_cons (ed_var rfl ph) (ea_cons (ed_neg (ed_ixT (at_int hg rfl) (ed_var rfl pr) (ed_var rfl pn))) (ea_cons (ed_var rfl pp) ea_nil)))) (ea_cons (ed_var rfl pp) ea_nil)))) (fun v1 H1 e p1 => k v1 H1 e p1)
  · show (scaleM hd _ p).length = row.length
    rw [scaleM_len, hlen]
  · show row.length ≤ 1000
    omega
  · show hd.length ≤ 1000
    omega
  · show -1000 ≤ -(row.getD n 0)
    omega
  · show -(row.getD n 0) ≤ 1000
    omega
end
end WK

set_option Elab.async false
set_option linter.all false
set_option maxRecDepth 100000
set_option maxHeartbeats 4000000
namespace WK
open PySem PySem.Spec PyProof.Rows L2 WM
open Evl (Ex ex_l ex_t ex_rd sq_of st_of sz_of sz_lt fresh_back rLenS rListS)
/-- the scope of a comprehension that a body begins with -/
def lcOf : List Stmt → Scope
  | .Return (some (.ListComp _ _ sc _)) _ :: _ => sc
  | .Assign _ (.ListComp _ _ sc _) _ :: _ => sc
  | _ => { kind := .function, names := [], isGenerator := false, isCoroutine := false }
theorem nw_at {ns : List Nat} {k : Nat} (h : k < ns.length) : (nw ns)[k]? = some ((ns.getD k 0 : Nat) : Int) := by
  unfold nw
  rw [List.getElem?_map, getD_at 0 h] <;> rfl
theorem nw_len (ns : List Nat) : (nw ns).length = ns.length := by
  unfold nw
  rw [List.length_map]
theorem map_set_int (v : W) (n : Nat) (x : Int) : (v.map V.int).set n (.int x) = (v.set n x).map V.int := by
  rw [List.map_set]
section
variable {P : Program} {w : World} {K : PySem.W.Frag} {mg : Str → Option Value} {base : Heap}
/-! ### moved -/
def sp_moved (K : PySem.W.Frag) : Sp := spOf (fun x : W × Int × List Nat × W => [DP K (wd x.1), DP K (.int x.2.1), DP K (wd (nw x.2.2.1)), DP K (wd x.2.2.2)])
  (fun x => x.2.2.1.length = x.1.length ∧ x.2.2.2.length = x.1.length ∧ x.1.length ≤ 100 ∧ (∀ q ∈ x.2.2.1, q < x.1.length) ∧ (∀ c ∈ x.2.2.2, -1000 ≤ c ∧ c ≤ 1000) ∧ 0 < x.2.1) (fun x => DP K (wd (movedM x.2.1 x.1 x.2.2.1 x.2.2.2)))
abbrev movGo (p : Int) (word : W) (places : List Nat) (mults : W) (i : Nat) : W := (List.range i).foldl (fun f k => f.set (places.getD k 0) (word.getD k 0 * mults.getD k 0 % p)) (zeroM word.length)
theorem movGo_len (p : Int) (word : W) (places : List Nat) (mults : W) (i : Nat) : (movGo p word places mults i).length = word.length := by
  induction i with
  | zero =>
    show (zeroM word.length).length = _
    unfold zeroM
    rw [List.length_replicate]
  | succ i ih =>
    unfold movGo at ih ⊢
    rw [List.range_succ, List.foldl_append]
    show (List.set _ _ _).length = _
    rw [List.length_set]
    exact ih
theorem movGo_succ (p : Int) (word : W) (places : List Nat) (mults : W) (i : Nat) : movGo p word places mults (i + 1) = (movGo p word places mults i).set (places.getD i 0) (word.getD i 0 * mults.getD i 0 % p) := by
  unfold movGo
  rw [List.range_succ, List.foldl_append] <;> rfl
theorem ok_moved (T : Txt K mg) : FnOk P w K mg base CX0 1 T.moved.f T.moved.fd ["word", "p", "places", "multiples"] (sp_moved K) := by
  refine T.moved.F.ok sc_moved (fun vs H Q E h => spOf_len (n := 4) (fun _ => rfl) h) (fun cdv A outer s H vs Q E hr h => ?_)
  obtain ⟨⟨v, p, pl, mu⟩, ps, ⟨h1, h2, hz, hpl, hmu, hp⟩, k⟩ := h
  dsimp only at ps h1 h2 hz hpl hmu hp k
  obtain ⟨vv, vp, vl, vm, rfl, pv0, pp, pl0, pm⟩ := allP4 ps
  refine ⟨_, (pss_cons (ps_set (i := 4) sc_moved.nd rfl (Or.inl rfl) (pe_op op_rep (pe_lst (pa_cons pe_int pa_nil)) (pe_callB (kc_len K) (by rfl) T.z_len PySem.boot_len (pa_cons (pv 0) pa_nil))))
      (pss_cons (ps_for PassesOwn.never rfl (pi_range1 (by rfl) T.z_range (pa_cons (pe_callB (kc_len K) (by rfl) T.z_len PySem.boot_len (pa_cons (pv 0) pa_nil)) pa_nil)) (pg_name (i := 5) sc_moved.nd rfl (Or.inl rfl)) (pss_one (ps_asg (pe_op op_mod (pe_op op_mul (pe_ix (kx_tup K) (pv 0) (pv 5) (fun _ _ => rfl)) (pe_ix (kx_tup K) (pv 3) (pv 5) (fun _ _ => rfl))) (pv 1)) (pg_sub (pv 4) (pe_ix (kx_tup K) (pv 2) (pv 5) (fun _ _ => rfl)) set_list))))
      (pss_one (ps_ret (pe_callTy (kc_tuple K) (by rfl) T.z_tuple (by decide +kernel) (pa_cons (pv 4) pa_nil)))))), ?_⟩
  have el0 : EvD K _ _ H _ := ed_lenT (ed_var (σ := start N_moved [vv, vp, vl, vm]) (n := 0) rfl pv0)
  rw [List.length_map] at el0
  refine q_asgN (en_rep (d := .int 0) (n := (v.length : Int)) (en_lst (ds := [.int 0]) (ea_cons ed_int ea_nil) (by decide)) rfl el0 ⟨by omega, by omega⟩) fun f H1 hf e1 hn => ?_
  obtain ⟨xs, hx, hxd⟩ := hn
  have exs : xs = (movGo p v pl mu 0).map V.int := by
    refine ints_of_dp (K := K) (H := H1) ?_
    rw [Int.toNat_natCast] at hxd
    show DpAll K H1 xs ((zeroM v.length).map PyData.int)
    unfold zeroM
    rw [List.map_replicate]
    exact hxd
  rw [exs] at hx
  have el : EvD K _ _ H1 _ := ed_lenT (ed_var (σ := (start N_moved [vv, vp, vl, vm]).set 4 (some (.ref f))) (n := 0) rfl (dp_mono e1 pv0))
  rw [List.length_map] at el
  refine q_forR (n := (v.length : Int)) (ea_cons el ea_nil) ⟨by omega, by omega⟩
    (fun i σ' H' => ∃ z, σ' = [some vv, some vp, some vl, some vm, some (.ref f), z] ∧ Ex H H' ∧ H' f = some (.lst ((movGo p v pl mu i).map V.int)))
    (fun H2 e2 => ⟨_, rfl, e1.trans e2, e2 _ _ hx⟩) (fun i σ' H' hi h => ?_) (fun σ' H' h => ?_)
  · obtain ⟨z, rfl, e, hL⟩ := h
    have hi' : i < v.length := by omega
    have hq : pl.getD i 0 < v.length := hpl _ (List.mem_of_getElem? (getD_at 0 (by omega)))
    have hm := hmu _ (List.mem_of_getElem? (getD_at (l := mu) 0 (show i < mu.length by omega)))
    refine s_setL (m := pl.getD i 0) (P := DP K (.int (v.getD i 0 * mu.getD i 0 % p))) hL (ed_mod hp (ed_mul (.inr ⟨by omega, by omega⟩) (ed_ixT (at_int (getD_at 0 hi') rfl) (ed_var rfl (dp_mono e pv0)) (ed_var rfl (.int _)))
      (ed_ixT (at_int (getD_at 0 (by omega)) rfl) (ed_var rfl (dp_mono e pm)) (ed_var rfl (.int _)))) (ed_var rfl (dp_mono e pp))) (ex_var rfl)
      (ed_ixT (at_int (nw_at (by omega)) rfl) (ed_var rfl (dp_mono e pl0)) (ed_var rfl (.int _))) (by rw [List.length_map, movGo_len]; exact hq) fun v1 H2 e2 p1 => ⟨_, rfl, Ex.mut (e.trans e2) hf, ?_⟩
    rw [dp_int p1, map_set_int, movGo_succ]
    exact upd_same
  · obtain ⟨z, rfl, e, hL⟩ := h
    rw [Int.toNat_natCast] at hL
    exact s_ret (P := DP K (wd (movedM p v pl mu))) (ed_tupL (tOnly_ints _) (ed_var rfl (.lst hL (dpAll_ints _)))) fun v1 H2 e2 p1 => k v1 H2 (e.trans e2) p1

/-! ### check_prime -/
theorem ed_ref {σ : L2.St} {H : Hp} {a : Addr} {d : PyData} (h : Dp K H (.ref a) d) : EvD K (tC (.ref a)) σ H d := fun H1 e _ q => q _ H1 (Ex.refl H1) (dp_mono e h)
def sp_check_prime (K : PySem.W.Frag) : Sp := spOf (fun p : Int => [DP K (.int p)]) (fun p => p ∈ ([2, 3, 5, 7] : List Int)) (fun _ => XP .non)
theorem ok_check_prime (T : Txt K mg) : FnOk P w K mg base CX0 2 T.check_prime.f T.check_prime.fd ["p"] (sp_check_prime K) := by
  refine T.check_prime.F.ok sc_check_prime (fun vs H Q E h => spOf_len (n := 1) (fun _ => rfl) h) (fun cdv A outer s H vs Q E hr h => ?_)
  obtain ⟨p, ps, hp, k⟩ := h
  dsimp only at ps hp k
  obtain ⟨vp, rfl, pp⟩ := allP1 ps
  refine ⟨_, (pss_one (ps_if (PW.pt (pw_or (pt_not (pt_val (pe_call (ok_is_integer T) (hr.mono (by decide)) (by rfl) T.is_integer.g T.is_integer.F.kp T.is_integer.b .nil pass0 (pa_cons (pv 0) pa_nil)))) (pw_or1 (pt_cmpR (ko_notIn K) (pv 0) (pe_glob (v := .ref T.aPRIMES) rfl T.gPRIMES rfl) (by rfl))))) (pss_one ps_never) pss_nil)), ?_⟩
  refine s_when (b := false) (EvB.is (eb_or (eb_not (eb_B (ev_call (ι := PyData) (.int p) (show plainD (.int p) = true from rfl) (ea_cons (ed_var rfl pp) ea_nil)))) fun _ => eb_test (K := K) (EvP.is (d := .bool (!decide (p ∈ ([2, 3, 5, 7] : List Int)))) ?_ rfl)) ?_) (fun hb => by cases hb) (fun _ H1 e1 => k _ H1 e1 rfl)
  · refine ev_op (P := DP K (.int p)) (P2 := XP (.ref T.aPRIMES)) (ed_var rfl pp) ex_c fun x y H1 _ p1 p2 Q q => ?_
    have ex := dp_int p1
    have ey : y = .ref T.aPRIMES := p2
    subst ex ey
    refine ⟨T.aPRIMES, _, rfl, .inr (T.oPRIMES H1), rfl, flat_ints _, ?_⟩
    rw [inV_ints]
    exact q _ H1 (Ex.refl H1) (.bl _)
  · show (!true || !decide (p ∈ ([2, 3, 5, 7] : List Int))) = false
    rw [decide_eq_true hp] <;> rfl

/-! ### line, columns_of, multiple_of -/
def sp_line (K : PySem.W.Frag) : Sp := spOf (fun x : W × Int => [DP K (wd x.1), DP K (.int x.2)]) (fun x => Pr x.2 ∧ WOk x.2 x.1.length x.1 ∧ x.1.length ≤ 100) (fun x => DP K (wd (lineM x.2 x.1)))
theorem find_first {α : Type} {f : α → Bool} : ∀ {l : List α} {i : Nat} {x : α}, l[i]? = some x → f x = true → (∀ j y, j < i → l[j]? = some y → f y = false) → l.find? f = some x
  | [], _, _, h, _, _ => by simp at h
  | a :: l, 0, x, h, hx, _ => by
    have e : a = x := Option.some.inj h
    subst e
    rw [List.find?_cons, hx]
  | a :: l, i + 1, x, h, hx, hn => by
    rw [List.find?_cons, hn 0 a (Nat.succ_pos _) rfl]
    exact find_first (l := l) (i := i) h hx fun j y hj hy => hn (j + 1) y (Nat.succ_lt_succ hj) hy
theorem find_none {α : Type} {f : α → Bool} {l : List α} (h : ∀ (j : Nat) (y : α), l[j]? = some y → f y = false) : l.find? f = none := by
  rw [List.find?_eq_none]
  intro x hx
  obtain ⟨j, hj⟩ := List.mem_iff_getElem?.mp hx
  simp [h j x hj]
theorem ok_line (T : Txt K mg) : FnOk P w K mg base CX0 2 T.line.f T.line.fd ["column", "p"] (sp_line K) := by
  refine T.line.F.ok sc_line (fun vs H Q E h => spOf_len (n := 2) (fun _ => rfl) h) (fun cdv A outer s H vs Q E hr h => ?_)
  obtain ⟨⟨v, p⟩, ps, ⟨hp, hw, hz⟩, k⟩ := h
  dsimp only at ps hp hw hz k
  obtain ⟨vv, vp, rfl, pv0, pp⟩ := allP2 ps
  obtain ⟨a, rfl, sT⟩ := dp_wd pv0
  have hp5 := pr_pos hp
  refine ⟨_, (pss_cons (ps_for PassesOwn.never rfl (kpi_tup K (pv 0)) (pg_name (i := 2) sc_line.nd rfl (Or.inl rfl)) (pss_one (ps_if (pt_cmpR op_ne (pv 2) pe_int (nomark _)) (pss_cons (ps_set (i := 3) sc_line.nd rfl (Or.inr rfl) (pe_call (ok_inverse T) (hr.mono (by decide)) (by rfl) T.inverse.g T.inverse.F.kp T.inverse.b .nil pass0 (pa_cons (pv 2) (pa_cons (pv 1) pa_nil))))
      (pss_one (ps_ret (pe_callTy (kc_tuple K) (by rfl) T.z_tuple (by decide +kernel) (pa_cons (pe_lc (own := [("x", 4)]) (g := gName 4) rfl sc_line.nd (kpi_tup K (pv 0)) (blkOk_by (own := [("x", 4)]) (N := N_line) (sc := (defScope s_line)) (by decide +kernel)) (fun _ _ _ _ _ => pg_name (i := 4) sc_line.nd rfl (Or.inl rfl)) (fun _ _ _ _ _ => pts_nil) (fun _ _ _ _ _ => (pe_op op_mod (pe_op op_mul (pv 4) (pv 3)) (pv 1)))) pa_nil))))) pss_nil)))
      (pss_one (ps_ret (pe_callTy (kc_tuple K) (by rfl) T.z_tuple (by decide +kernel) (pa_cons (pv 0) pa_nil))))), ?_⟩
  refine q_forTn (a := a) (ex_var rfl) sT (fun i σ' H' => ∃ z z3 z4, σ' = [some (.ref a), some vp, z, z3, z4] ∧ Ex H H' ∧ ∀ j y, j < i → v[j]? = some y → (y != 0) = false)
    (fun H2 e2 => ⟨_, _, _, rfl, e2, fun j y hj => absurd hj (Nat.not_lt_zero _)⟩) (fun i σ' H' ⟨_, _, _, _, e, _⟩ => e) (fun i x σ' H' hi h => ?_) (fun σ' H' h => ?_)
  · obtain ⟨z, z3, z4, rfl, e, hn⟩ := h
    obtain ⟨y, hy, rfl⟩ := at_of_map hi
    have hyb := hw.2 y (List.mem_of_getElem? hy)
    refine s_when (b := !decide (y = 0)) (eb_test (K := K) (ed_neI (ed_var rfl (.int _)) ed_int)) (fun hb H2 e2 => ?_) (fun hb H2 e2 => ?_)
    · have hy0 : ¬ y = 0 := by simpa using hb
      have hl : lineM p v = scaleM v (invM y p) p := by
        unfold lineM
        rw [find_first hy (by simpa using hy0) hn]
      have hinv : -1000 ≤ invM y p ∧ invM y p ≤ 1000 := by
        obtain ⟨kk, hk1, hk2⟩ := pr_inv hp hyb.1 hyb.2 hy0
        unfold invM
        cases hf : (((List.range (p - 1).toNat).map fun (k : Nat) => 1 + (k : Int)).find? fun k => decide (y * k % p = 1)) with
        | none => decide
        | some z =>
          obtain ⟨m, hm, rfl⟩ := List.mem_map.mp (List.mem_of_find?_eq_some hf)
          have := List.mem_range.mp hm
          show -1000 ≤ 1 + (m : Int) ∧ 1 + (m : Int) ≤ 1000
          omega
      refine q_asg (P := DP K (.int (invM y p))) (ev_call (ι := Int × Int) (y, p) ⟨hp5.1, by show p ≤ 100; omega, pr_inv hp hyb.1 hyb.2 hy0⟩ (ea_cons (ed_var rfl (.int _)) (ea_cons (ed_var rfl (dp_mono (e.trans e2) pp)) ea_nil))) fun v1 H3 e3 p1 => ?_
      refine s_ret (P := DP K (wd (lineM p v))) (ed_tupL (tOnly_ints _) (EvN.ls (EvN.is (en_lcT PyData.int v (fun _ => true) (fun x => .int (x * invM y p % p)) (fun _ => rfl) (ed_var rfl (dp_mono ((e.trans e2).trans e3) pv0)) (by omega) (fun _ => rfl) (fun _ _ _ _ _ _ _ => eb_yes) (fun i x c H1 e4 hi px _ => ?_)) ?_))) (fun v2 H4 e4 p2 => k v2 H4 (((e.trans e2).trans e3).trans e4) p2)
      · exact ed_mod (by omega) (ed_mul (.inr ⟨by omega, by omega⟩) (ed_var rfl px) (ed_var rfl (dp_mono e4 p1))) (ed_var rfl (dp_mono (((e.trans e2).trans e3).trans e4) pp))
      · rw [filter_yes, hl]
        unfold scaleM
        rw [List.map_map] <;> rfl
    · refine ⟨_, _, _, rfl, e.trans e2, fun j y' hj hy' => ?_⟩
      by_cases hji : j = i
      · subst hji
        rw [hy] at hy'
        cases hy'
        simpa using hb
      · exact hn j y' (by omega) hy'
  · obtain ⟨z, z3, z4, rfl, e, hn⟩ := h
    rw [List.length_map] at hn
    have hl : lineM p v = v := by
      unfold lineM
      rw [find_none fun j y hy => hn j y (List.getElem?_eq_some_iff.mp hy).1 hy]
    refine s_ret (P := DP K (wd (lineM p v))) (EvP.is (ed_tupT (ed_var rfl (dp_mono e pv0))) (by rw [hl])) (fun v2 H4 e4 p2 => k v2 H4 (e.trans e4) p2)
def sp_columns_of (K : PySem.W.Frag) : Sp := spOf (fun x : List W × Nat => [DP K (.tuple (wds x.1)), DP K (.int (x.2 : Int))]) (fun x => (∀ r ∈ x.1, r.length = x.2) ∧ x.2 ≤ 100 ∧ x.1.length ≤ 100) (fun x => DP K (.list (wds (colsM x.1 x.2))))
theorem ok_columns_of (T : Txt K mg) : FnOk P w K mg base CX0 1 T.columns_of.f T.columns_of.fd ["words", "n"] (sp_columns_of K) := by
  refine T.columns_of.F.ok sc_columns_of (fun vs H Q E h => spOf_len (n := 2) (fun _ => rfl) h) (fun cdv A outer s H vs Q E hr h => ?_)
  obtain ⟨⟨rows, n⟩, ps, ⟨hrow, hn, hz⟩, k⟩ := h
  dsimp only at ps hrow hn hz k
  obtain ⟨vr, vn, rfl, pr, pn⟩ := allP2 ps
  refine ⟨_, (pss_one (ps_ret (pe_lc (own := [("at", 2)]) (g := gName 2) rfl sc_columns_of.nd (pi_range1 (by rfl) T.z_range (pa_cons (pv 1) pa_nil)) (blkOk_by (own := [("at", 2)]) (N := N_columns_of) (sc := (defScope s_columns_of)) (by decide +kernel)) (fun _ _ _ _ _ => pg_name (i := 2) sc_columns_of.nd rfl (Or.inr rfl)) (fun _ _ _ _ _ => pts_nil) (fun _ _ _ _ _ => (pe_callTy (kc_tuple K) (by rfl) T.z_tuple (by decide +kernel) (pa_cons (pe_lc (own := [("word", 3)]) (g := gName 3) rfl sc_columns_of.nd (kpi_tup K (pv 0)) (blkOk_by (own := [("word", 3)]) (N := N_columns_of) (by kernel_rfl)) (fun _ _ _ _ _ => pg_name (i := 3) sc_columns_of.nd rfl (Or.inl rfl)) (fun _ _ _ _ _ => pts_nil) (fun _ _ _ _ _ => (pe_ix (kx_tup K) (pv 3) (pv 2) (fun _ _ => rfl)))) pa_nil)))))), ?_⟩
  refine s_ret (P := DP K (.list (wds (colsM rows n)))) (EvN.ls (EvN.is (en_lcR (n := (n : Int)) (fun _ => true) (fun k => wd (rows.map fun w => w.getD k 0)) (fun _ => tOnly_wd _) (ea_cons (ed_var rfl pn) ea_nil) ⟨by omega, by omega⟩ (fun _ => rfl) (fun _ _ _ _ => eb_yes) (fun i H1 e hi _ => ?_)) ?_)) (fun v H1 e p => k v H1 e p)
  · refine ed_tupL (tOnly_ints _) (EvN.ls (EvN.is (en_lcT wd rows (fun _ => true) (fun w => .int (w.getD i 0)) (fun _ => rfl) (ed_var rfl (dp_mono e pr)) (by omega) (fun _ => rfl) (fun _ _ _ _ _ _ _ => eb_yes) (fun j x c H2 e2 hj px _ => ?_)) ?_))
    · have hc : c.length = n := hrow c (List.mem_of_getElem? hj)
      exact ed_ixT (at_int (getD_at 0 (by omega)) rfl) (ed_var rfl px) (ed_var rfl (.int _))
    · rw [filter_yes, List.map_map] <;> rfl
  · rw [filter_yes, Int.toNat_natCast]
    unfold colsM wds
    rw [List.map_map] <;> rfl
def sp_multiple_of (K : PySem.W.Frag) : Sp := spOf (fun x : W × W × Int => [DP K (wd x.1), DP K (wd x.2.1), DP K (.int x.2.2)]) (fun x => Pr x.2.2 ∧ WOk x.2.2 x.1.length x.1 ∧ WOk x.2.2 x.1.length x.2.1 ∧ x.1.length ≤ 100) (fun x => DP K (.int (multM x.2.2 x.1 x.2.1)))
theorem ok_multiple_of (T : Txt K mg) : FnOk P w K mg base CX0 2 T.multiple_of.f T.multiple_of.fd ["one", "two", "p"] (sp_multiple_of K) := by
  refine T.multiple_of.F.ok sc_multiple_of (fun vs H Q E h => spOf_len (n := 3) (fun _ => rfl) h) (fun cdv A outer s H vs Q E hr h => ?_)
  obtain ⟨⟨u, v, p⟩, ps, ⟨hp, hu, hv, hz⟩, k⟩ := h
  dsimp only at ps hp hu hv hz k
  obtain ⟨vu, vv, vp, rfl, pu, pv0, pp⟩ := allP3 ps
  have hp5 := pr_pos hp
  refine ⟨_, (pss_cons (ps_for PassesOwn.never rfl (pi_range1 (by rfl) T.z_range (pa_cons (pe_callB (kc_len K) (by rfl) T.z_len PySem.boot_len (pa_cons (pv 0) pa_nil)) pa_nil)) (pg_name (i := 3) sc_multiple_of.nd rfl (Or.inl rfl)) (pss_one (ps_if (pt_cmpR op_ne (pe_ix (kx_tup K) (pv 0) (pv 3) (fun _ _ => rfl)) pe_int (nomark _)) (pss_one (ps_ret (pe_op op_mod (pe_op op_mul (pe_ix (kx_tup K) (pv 1) (pv 3) (fun _ _ => rfl)) (pe_call (ok_inverse T) (hr.mono (by decide)) (by rfl) T.inverse.g T.inverse.F.kp T.inverse.b .nil pass0 (pa_cons (pe_ix (kx_tup K) (pv 0) (pv 3) (fun _ _ => rfl)) (pa_cons (pv 2) pa_nil)))) (pv 2)))) pss_nil)))
      (pss_one (ps_ret pe_int))), ?_⟩
  have el : EvD K _ _ H _ := ed_lenT (ed_var (σ := start N_multiple_of [vu, vv, vp]) (n := 0) rfl pu)
  rw [List.length_map] at el
  refine q_forR (n := (u.length : Int)) (ea_cons el ea_nil) ⟨by omega, by omega⟩
    (fun i σ' H' => ∃ z, σ' = [some vu, some vv, some vp, z] ∧ Ex H H' ∧ ∀ j y, j < i → (List.range u.length)[j]? = some y → (u.getD y 0 != 0) = false)
    (fun H2 e2 => ⟨_, rfl, e2, fun j y hj => absurd hj (Nat.not_lt_zero _)⟩) (fun i σ' H' hi h => ?_) (fun σ' H' h => ?_)
  · obtain ⟨z, rfl, e, hn⟩ := h
    have hi' : i < u.length := by omega
    have hvl : v.length = u.length := hv.1
    have hyb := hu.2 _ (List.mem_of_getElem? (getD_at 0 hi'))
    have hvb := hv.2 _ (List.mem_of_getElem? (getD_at (l := v) 0 (show i < v.length by omega)))
    refine s_when (b := !decide (u.getD i 0 = 0)) (eb_test (K := K) (ed_neI (ed_ixT (at_int (getD_at 0 hi') rfl) (ed_var rfl (dp_mono e pu)) (ed_var rfl (.int _))) ed_int)) (fun hb H2 e2 => ?_) (fun hb H2 e2 => ?_)
    · have hy0 : ¬ u.getD i 0 = 0 := by simpa using hb
      have hl : multM p u v = v.getD i 0 * invM (u.getD i 0) p % p := by
        unfold multM
        rw [find_first (l := List.range u.length) (i := i) (List.getElem?_range hi') (by simpa using hy0) hn]
      refine s_ret (P := DP K (.int (multM p u v))) (EvP.is (ed_mod (by omega) (ed_mul (.inl ⟨by omega, by omega⟩) (ed_ixT (at_int (getD_at 0 (by omega)) rfl) (ed_var rfl (dp_mono (e.trans e2) pv0)) (ed_var rfl (.int _)))
        (ev_call (ι := Int × Int) (u.getD i 0, p) ⟨hp5.1, by show p ≤ 100; omega, pr_inv hp hyb.1 hyb.2 hy0⟩ (ea_cons (ed_ixT (at_int (getD_at 0 hi') rfl) (ed_var rfl (dp_mono (e.trans e2) pu)) (ed_var rfl (.int _))) (ea_cons (ed_var rfl (dp_mono (e.trans e2) pp)) ea_nil)))) (ed_var rfl (dp_mono (e.trans e2) pp))) (by rw [hl])) fun v1 H3 e3 p1 => k v1 H3 ((e.trans e2).trans e3) p1
    · refine ⟨_, rfl, e.trans e2, fun j y hj hy => ?_⟩
      by_cases hji : j = i
      · subst hji
        rw [List.getElem?_range hi'] at hy
        cases hy
        simpa using hb
      · exact hn j y (by omega) hy
  · obtain ⟨z, rfl, e, hn⟩ := h
    rw [Int.toNat_natCast] at hn
    have hl : multM p u v = 1 := by
      unfold multM
      rw [find_none fun j y hy => hn j y (by simpa using (List.getElem?_eq_some_iff.mp hy).1) hy]
    exact s_ret (P := DP K (.int (multM p u v))) (EvP.is ed_int (by rw [hl])) fun v1 H3 e3 p1 => k v1 H3 (e.trans e3) p1
end
end WK

set_option Elab.async false
set_option linter.all false
set_option maxRecDepth 100000
set_option maxHeartbeats 4000000
/-! Dicts: keys ints (seen), keys words, values words. -/
namespace WK
open PySem PySem.Spec PyProof.Rows L2 WM
open Evl (Ex ex_l ex_t ex_rd sq_of st_of sz_of sz_lt fresh_back rLenS rListS)

section
variable {K : PySem.W.Frag} {σ : L2.St} {H H' : Hp} {ta tb tc te td ty tv : TE} {P : VP} {D : Ends} {tz : TS} {d : PyData}
/-! ### keys ints -/
theorem ed_dinK {sd : Addr} {kvs : List (Key × V)} {a : Int} (hd : H sd = some (.dK kvs)) (hy : EvD K ty σ H (.int a)) (hx : EvP td σ H (XP (.ref sd))) : EvD K (tDIn ty td) σ H (.bool (valV kvs (Sum.inl a)).isSome) := fun H1 e Q q =>
  hy H1 e _ fun y H2 e2 p1 => hx H2 (e.trans e2) _ fun x H3 e3 (p2 : x = .ref sd) => by
    have ey := dp_int p1
    subst ey p2
    exact ⟨sd, _, rfl, DGet.k (k := Sum.inl a) (((e.trans e2).trans e3) _ _ hd), q _ H3 (e2.trans e3) (.bl _)⟩
theorem s_dputK {sd : Addr} {kvs : List (Key × V)} {a : Int} [Mono P] (hd : H sd = some (.dK kvs)) (hz : kvs.length < 100000) (hv : EvP tv σ H P) (hx : EvP td σ H (XP (.ref sd))) (hy : EvD K ty σ H (.int a)) (k : ∀ v H1, Ex H H1 → P H1 v → D.nx σ (upd H1 sd (.dK (putK kvs (Sum.inl a) v)))) :
    sDPut td ty tv D σ H := hv H (Ex.refl H) _ fun v H1 e1 p => hx H1 e1 _ fun x H2 e2 (p2 : x = .ref sd) => hy H2 (e1.trans e2) _ fun y H3 e3 p3 => by
  have ey := dp_int p3
  subst ey p2
  exact ⟨sd, _, rfl, DPut.k (k := Sum.inl a) (((e1.trans e2).trans e3) _ _ hd) (sz_lt hz), k v H3 ((e1.trans e2).trans e3) (Mono.mono (e2.trans e3) p)⟩
theorem en_dnewK : EvN tDNewK σ H (fun H p => H p = some (.dK [])) := fun H1 e Q q p hp => q p _ hp (ex_of_new hp) upd_same
theorem en_dnewT : EvN tDNewT σ H (fun H p => H p = some (.dT [])) := fun H1 e Q q p hp => q p _ hp (ex_of_new hp) upd_same

/-! ### keys words -/
abbrev kk (ns : W) : List Key := ns.map Sum.inl
theorem kk_map (ns : W) : (kk ns).map kV = ns.map V.int := by
  unfold kk
  rw [List.map_map] <;> rfl
theorem kk_inj : ∀ {a b : W}, kk a = kk b → a = b
  | [], [], _ => rfl
  | [], _ :: _, h => by cases h
  | _ :: _, [], h => by cases h
  | x :: a, y :: b, h => by
    have h' := List.cons.inj (show (Sum.inl x : Key) :: kk a = Sum.inl y :: kk b from h)
    rw [Sum.inl.inj h'.1, kk_inj h'.2]
theorem kk_eq (a b : W) : decide (kk a = kk b) = decide (a = b) := by
  by_cases h : a = b
  · subst h
    simp
  · rw [decide_eq_false h, decide_eq_false fun q => h (kk_inj q)]
/-- a table: keys words, values words -/
abbrev Tab := List (W × W)
def tabGet (t : Tab) (k : W) : Option W := (t.find? fun e => decide (e.1 = k)).map (·.2)
def tabPut (t : Tab) (k v : W) : Tab := if (t.any fun e => decide (e.1 = k)) = true then t.map (fun e => if e.1 = k then (e.1, v) else e) else t ++ [(k, v)]
def KTab (K : PySem.W.Frag) (H : Hp) : List (List Key × V) → Tab → Prop
  | [], [] => True
  | kv :: kvs, e :: t => (kv.1 = kk e.1 ∧ Dp K H kv.2 (wd e.2)) ∧ KTab K H kvs t
  | _, _ => False
theorem KTab.keep (hk : ∀ d v, tOnly d = true → Dp K H v d → Dp K H' v d) : ∀ {kvs : List (List Key × V)} {t : Tab}, KTab K H kvs t → KTab K H' kvs t
  | [], [], _ => trivial
  | _ :: _, _ :: _, h => ⟨⟨h.1.1, hk _ _ (tOnly_wd _) h.1.2⟩, KTab.keep hk h.2⟩
  | [], _ :: _, h => h.elim
  | _ :: _, [], h => h.elim
theorem KTab.mono {kvs : List (List Key × V)} {t : Tab} (e : Ex H H') (h : KTab K H kvs t) : KTab K H' kvs t := h.keep fun _ _ _ q => dp_mono e q
theorem KTab.len : ∀ {kvs : List (List Key × V)} {t : Tab}, KTab K H kvs t → kvs.length = t.length
  | [], [], _ => rfl
  | _ :: _, _ :: _, h => by
    rw [List.length_cons, List.length_cons, KTab.len h.2]
  | [], _ :: _, h => h.elim
  | _ :: _, [], h => h.elim
theorem KTab.get (k : W) : ∀ {kvs : List (List Key × V)} {t : Tab}, KTab K H kvs t → (match valV kvs (kk k), tabGet t k with | some v, some x => Dp K H v (wd x) | none, none => True | _, _ => False)
  | [], [], _ => trivial
  | kv :: kvs, e :: t, h => by
    by_cases hk : e.1 = k
    · rw [valV_pos (by rw [h.1.1, hk])]
      unfold tabGet
      rw [List.find?_cons, decide_eq_true hk]
      exact h.1.2
    · rw [valV_neg (by rw [h.1.1]; exact fun q => hk (kk_inj q))]
      have ih := KTab.get k h.2
      unfold tabGet at ih ⊢
      rw [List.find?_cons, decide_eq_false hk]
      exact ih
  | [], _ :: _, h => h.elim
  | _ :: _, [], h => h.elim
theorem KTab.isSome (k : W) {kvs : List (List Key × V)} {t : Tab} (h : KTab K H kvs t) : (valV kvs (kk k)).isSome = (tabGet t k).isSome := by
  have g := h.get k
  cases h1 : valV kvs (kk k) <;> cases h2 : tabGet t k <;> rw [h1, h2] at g <;> first | rfl | exact g.elim
theorem KTab.any (k : W) : ∀ {kvs : List (List Key × V)} {t : Tab}, KTab K H kvs t → (kvs.any fun kv => decide (kv.1 = kk k)) = t.any fun e => decide (e.1 = k)
  | [], [], _ => rfl
  | kv :: kvs, e :: t, h => by
    rw [List.any_cons, List.any_cons, KTab.any k h.2, h.1.1, kk_eq]
  | [], _ :: _, h => h.elim
  | _ :: _, [], h => h.elim
theorem KTab.app : ∀ {kvs more : List (List Key × V)} {t u : Tab}, KTab K H kvs t → KTab K H more u → KTab K H (kvs ++ more) (t ++ u)
  | [], _, [], _, _, h2 => h2
  | _ :: _, _, _ :: _, _, h, h2 => ⟨h.1, KTab.app h.2 h2⟩
  | [], _, _ :: _, _, h, _ => h.elim
  | _ :: _, _, [], _, h, _ => h.elim
theorem KTab.repl (k : W) {v : V} {x : W} (hv : Dp K H v (wd x)) : ∀ {kvs : List (List Key × V)} {t : Tab}, KTab K H kvs t → KTab K H (kvs.map fun kv => if kv.1 = kk k then (kv.1, v) else kv) (t.map fun e => if e.1 = k then (e.1, x) else e)
  | [], [], _ => trivial
  | kv :: kvs, e :: t, h => by
    refine ⟨?_, KTab.repl k hv h.2⟩
    by_cases hk : e.1 = k
    · have h1 : kv.1 = kk k := by rw [h.1.1, hk]
      dsimp only
      rw [if_pos hk, if_pos h1]
      exact ⟨h.1.1, hv⟩
    · have h1 : ¬ kv.1 = kk k := by
        rw [h.1.1]
        exact fun q => hk (kk_inj q)
      dsimp only
      rw [if_neg hk, if_neg h1]
      exact h.1
  | [], _ :: _, h => h.elim
  | _ :: _, [], h => h.elim
theorem KTab.put (k : W) {v : V} {x : W} {kvs : List (List Key × V)} {t : Tab} (hv : Dp K H v (wd x)) (h : KTab K H kvs t) : KTab K H (putK kvs (kk k) v) (tabPut t k x) := by
  unfold putK tabPut
  rw [h.any k]
  by_cases ha : (t.any fun e => decide (e.1 = k)) = true
  · rw [if_pos ha, if_pos ha]
    exact h.repl k hv
  · rw [if_neg ha, if_neg ha]
    exact h.app ⟨⟨rfl, hv⟩, trivial⟩
theorem tabPut_len (t : Tab) (k v : W) : (tabPut t k v).length ≤ t.length + 1 := by
  unfold tabPut
  split
  · rw [List.length_map]
    omega
  · rw [List.length_append, List.length_singleton]
    exact Nat.le_refl _
/-- the dict at p holds the table t -/
def DT (K : PySem.W.Frag) (t : Tab) (H : Hp) (p : Addr) : Prop := ∃ kvs, H p = some (.dT kvs) ∧ KTab K H kvs t
theorem DT.mono {t : Tab} {p : Addr} (e : Ex H H') (h : DT K t H p) : DT K t H' p := by
  obtain ⟨kvs, h1, h2⟩ := h
  exact ⟨kvs, e _ _ h1, h2.mono e⟩
instance (K : PySem.W.Frag) (t : Tab) (p : Addr) : Mono (fun H v => v = .ref p ∧ DT K t H p) := ⟨fun e h => ⟨h.1, h.2.mono e⟩⟩
theorem dget_of {t : Tab} {p b : Addr} {k : W} {kvs : List (List Key × V)} (h1 : H p = some (.dT kvs)) (hb : H b = some (.tup (k.map V.int))) : DGet H p (.ref b) (valV kvs (kk k)) := DGet.t h1 (by rw [kk_map]; exact hb)
/-- k in d -/
theorem ed_dinT {p : Addr} {t : Tab} {k : W} (hd : DT K t H p) (hy : EvD K ty σ H (wd k)) (hx : EvP td σ H (XP (.ref p))) : EvD K (tDIn ty td) σ H (.bool (tabGet t k).isSome) := fun H1 e Q q =>
  hy H1 e _ fun y H2 e2 p1 => hx H2 (e.trans e2) _ fun x H3 e3 (p2 : x = .ref p) => by
    subst p2
    obtain ⟨b, rfl, hb⟩ := dp_wdX p1
    obtain ⟨kvs, h1, h2⟩ := hd.mono ((e.trans e2).trans e3)
    refine ⟨p, _, rfl, dget_of (t := t) h1 (e3 _ _ hb), ?_⟩
    rw [h2.isSome k]
    exact q _ H3 (e2.trans e3) (.bl _)
/-- d[k] -/
theorem ed_dgetT {p : Addr} {t : Tab} {k x : W} (hd : DT K t H p) (hg : tabGet t k = some x) (hx : EvP td σ H (XP (.ref p))) (hy : EvD K ty σ H (wd k)) : EvD K (tDGet td ty) σ H (wd x) := fun H1 e Q q =>
  hx H1 e _ fun z H2 e2 (p2 : z = .ref p) => hy H2 (e.trans e2) _ fun y H3 e3 p1 => by
    subst p2
    obtain ⟨b, rfl, hb⟩ := dp_wdX p1
    obtain ⟨kvs, h1, h2⟩ := hd.mono ((e.trans e2).trans e3)
    have g := h2.get k
    rw [hg] at g
    cases hv : valV kvs (kk k) with
    | none => rw [hv] at g; exact g.elim
    | some v =>
      rw [hv] at g
      refine ⟨p, v, rfl, ?_, q v H3 (e2.trans e3) g⟩
      rw [← hv]
      exact dget_of (t := t) h1 hb
/-- d.get(k, x) -/
theorem ed_dget2T {p : Addr} {t : Tab} {k x : W} (hd : DT K t H p) (hx : EvP td σ H (XP (.ref p))) (hy : EvD K ty σ H (wd k)) (hz : EvD K tc σ H (wd x)) : EvD K (tDGet2 td ty tc) σ H (wd ((tabGet t k).getD x)) := fun H1 e Q q =>
  hx H1 e _ fun z H2 e2 (p2 : z = .ref p) => by
    subst p2
    obtain ⟨kv0, h0, _⟩ := hd.mono (e.trans e2)
    refine ⟨p, rfl, .inr ⟨kv0, .inl h0⟩, ?_⟩
    refine hy H2 (e.trans e2) _ fun y H3 e3 p1 => hz H3 ((e.trans e2).trans e3) _ fun c H4 e4 p3 => ?_
    obtain ⟨b, rfl, hb⟩ := dp_wdX p1
    obtain ⟨kvs, h1, h2⟩ := hd.mono (((e.trans e2).trans e3).trans e4)
    refine ⟨_, dget_of (t := t) (k := k) h1 (e4 _ _ hb), ?_⟩
    have g := h2.get k
    have E := (e2.trans e3).trans e4
    cases hv : valV kvs (kk k) with
    | none =>
      cases ht : tabGet t k with
      | none =>
        rw [ht] at q
        exact q _ H4 E p3
      | some x' =>
        rw [hv, ht] at g
        exact g.elim
    | some v =>
      cases ht : tabGet t k with
      | none =>
        rw [hv, ht] at g
        exact g.elim
      | some x' =>
        rw [hv, ht] at g
        rw [ht] at q
        exact q _ H4 E g
/-- d[k] = v -/
theorem s_dputT {p : Addr} {t : Tab} {k x : W} (hd : DT K t H p) (hlen : t.length < 90000) (hv : EvD K tv σ H (wd x)) (hx : EvP td σ H (XP (.ref p))) (hy : EvD K ty σ H (wd k)) (kk' : ∀ o H1, Ex H H1 → (∀ xs, H1 p ≠ some (.tup xs)) → DT K (tabPut t k x) (upd H1 p o) p → D.nx σ (upd H1 p o)) :
    sDPut td ty tv D σ H := hv H (Ex.refl H) _ fun v H1 e1 pv => hx H1 e1 _ fun z H2 e2 (p2 : z = .ref p) => hy H2 (e1.trans e2) _ fun y H3 e3 p3 => by
  subst p2
  obtain ⟨b, rfl, hb⟩ := dp_wdX p3
  obtain ⟨kvs, h1, h2⟩ := hd.mono ((e1.trans e2).trans e3)
  have hl := h2.len
  have nt : ∀ xs, H3 p ≠ some (.tup xs) := fun xs q => by rw [h1] at q; cases q
  refine ⟨p, _, rfl, DPut.t (k := kk k) h1 (by rw [kk_map]; exact hb) (sz_lt (by omega)), kk' _ H3 ((e1.trans e2).trans e3) nt ?_⟩
  exact ⟨_, upd_same, (h2.keep fun d v hd q => dp_upd nt hd q).put k (dp_upd nt (tOnly_wd x) (dp_mono (e2.trans e3) pv))⟩
end

/-! ### is_monomial -/
def monoGo (p n : Int) : List Int → List (PyData × PyData) → Bool
  | _, [] => true
  | seen, (.int a, .int m) :: r => !(decide (a < 0) || (decide (n ≤ a) || (decide (a ∈ seen) || (decide (m < 1) || decide (p ≤ m))))) && monoGo p n (a :: seen) r
  | _, _ :: _ => false
def isMonoD (p : Int) (n : Nat) : PyData → PyData → Bool
  | .tuple ds, .tuple es => ds.length == n && es.length == n && monoGo p n [] (ds.zip es)
  | _, _ => false
section
variable {P : Program} {w : World} {K : PySem.W.Frag} {mg : Str → Option Value} {base : Heap}
def sp_is_monomial (K : PySem.W.Frag) : Sp := spOf (fun x : Int × Nat × PyData × PyData => [DP K (.int x.1), DP K (.int (x.2.1 : Int)), DP K x.2.2.1, DP K x.2.2.2]) (fun x => itemsPlain x.2.2.1 = true ∧ itemsPlain x.2.2.2 = true ∧ x.2.1 ≤ 100) (fun x => DP K (.bool (isMonoD x.1 x.2.1 x.2.2.1 x.2.2.2)))
theorem tup_or (d : PyData) : (∃ ds, d = .tuple ds) ∨ isTupD d = false := by
  cases d <;> first | exact .inl ⟨_, rfl⟩ | exact .inr rfl
theorem ok_is_monomial (T : Txt K mg) : FnOk P w K mg base CX0 2 T.is_monomial.f T.is_monomial.fd ["p", "n", "places", "multiples"] (sp_is_monomial K) := by
  refine T.is_monomial.F.ok sc_is_monomial (fun vs H Q E h => spOf_len (n := 4) (fun _ => rfl) h) (fun cdv A outer s H vs Q E hr h => ?_)
  obtain ⟨⟨p, n, d1, d2⟩, ps, ⟨hp1, hp2, hn⟩, k⟩ := h
  dsimp only at ps hp1 hp2 hn k
  obtain ⟨vp, vn, v1, v2, rfl, pp, pn, pd1, pd2⟩ := allP4 ps
  refine ⟨_, (pss_cons (ps_if (PW.pt (pw_or (pt_not (pt_val (pe_callB (kc_isi K) (by rfl) T.z_isinstance (by decide +kernel) (pa_cons (pv 2) (pa_cons (pe_bltn (v := .ty "tuple") rfl T.z_tuple (by decide +kernel) rfl) pa_nil))))) (pw_or (pt_not (pt_val (pe_callB (kc_isi K) (by rfl) T.z_isinstance (by decide +kernel) (pa_cons (pv 3) (pa_cons (pe_bltn (v := .ty "tuple") rfl T.z_tuple (by decide +kernel) rfl) pa_nil))))) (pw_or (pt_cmpR op_ne (pe_callB (kc_len K) (by rfl) T.z_len PySem.boot_len (pa_cons (pv 2) pa_nil)) (pv 1) (nomark _)) (pw_or1 (pt_cmpR op_ne (pe_callB (kc_len K) (by rfl) T.z_len PySem.boot_len (pa_cons (pv 3) pa_nil)) (pv 1) (nomark _))))))) (pss_one (ps_ret pe_bl)) pss_nil)
      (pss_cons (ps_set (i := 4) sc_is_monomial.nd rfl (Or.inl rfl) pe_dnewK)
      (pss_cons (ps_for PassesOwn.never rfl (pi_range1 (by rfl) T.z_range (pa_cons (pv 1) pa_nil)) (pg_name (i := 5) sc_is_monomial.nd rfl (Or.inl rfl)) (pss_cons (ps_if (PW.pt (pw_or (pt_not (pt_val (pe_call (ok_is_integer T) (hr.mono (by decide)) (by rfl) T.is_integer.g T.is_integer.F.kp T.is_integer.b .nil pass0 (pa_cons (pe_ix (kx_tup K) (pv 2) (pv 5) (fun _ _ => rfl)) pa_nil)))) (pw_or1 (pt_not (pt_val (pe_call (ok_is_integer T) (hr.mono (by decide)) (by rfl) T.is_integer.g T.is_integer.F.kp T.is_integer.b .nil pass0 (pa_cons (pe_ix (kx_tup K) (pv 3) (pv 5) (fun _ _ => rfl)) pa_nil))))))) (pss_one (ps_ret pe_bl)) pss_nil)
      (pss_cons (ps_if (PW.pt (pw_or (pt_cmpR op_lt (pe_ix (kx_tup K) (pv 2) (pv 5) (fun _ _ => rfl)) pe_int (nomark _)) (pw_or (pt_cmpR op_ge (pe_ix (kx_tup K) (pv 2) (pv 5) (fun _ _ => rfl)) (pv 1) (nomark _)) (pw_or (pt_cmp (pc_din (hu_of hr) (pe_ix (kx_tup K) (pv 2) (pv 5) (fun _ _ => rfl)) (pv 4))) (pw_or (pt_cmpR op_lt (pe_ix (kx_tup K) (pv 3) (pv 5) (fun _ _ => rfl)) pe_int (nomark _)) (pw_or1 (pt_cmpR op_ge (pe_ix (kx_tup K) (pv 3) (pv 5) (fun _ _ => rfl)) (pv 0) (nomark _)))))))) (pss_one (ps_ret pe_bl)) pss_nil)
      (pss_one (ps_dput (hu_of hr) (pv 4) (pe_ix (kx_tup K) (pv 2) (pv 5) (fun _ _ => rfl)) pe_bl rfl)))))
      (pss_one (ps_ret pe_bl))))), ?_⟩
  have isi1 : EvB _ (start N_is_monomial [vp, vn, v1, v2]) H _ := eb_not (eb_B (ed_isi (kit_tuple (plain_of_items hp1)) (ed_var (K := K) (n := 2) rfl pd1)))
  have isi2 : EvB _ (start N_is_monomial [vp, vn, v1, v2]) H _ := eb_not (eb_B (ed_isi (kit_tuple (plain_of_items hp2)) (ed_var (K := K) (n := 3) rfl pd2)))
  have no : ∀ {H1 : Hp}, Ex H H1 → isMonoD p n d1 d2 = false → tRet (tC (.bl false)) { nx := fun _ H' => Q .non H', rt := Q } (start N_is_monomial [vp, vn, v1, v2]) H1 := fun {H1} e1 hf =>
    s_ret (P := DP K (.bool false)) ed_bl fun v H2 e2 pv => k v H2 (e1.trans e2) (by rw [hf]; exact pv)
  rcases tup_or d1 with ⟨ds, rfl⟩ | h1
  · rcases tup_or d2 with ⟨es, rfl⟩ | h2
    · refine q_when (b := !(ds.length == n && es.length == n)) (EvB.is (eb_or isi1 fun _ => eb_or isi2 fun _ => eb_or (eb_test (ed_neI (ed_lenT (ed_var rfl pd1)) (ed_var rfl pn))) fun _ => eb_test (ed_neI (ed_lenT (ed_var rfl pd2)) (ed_var rfl pn))) ?_) (fun hb H1 e1 => no e1 ?_) (fun hb H1 e1 => ?_)
      · show (false || (false || (!decide ((ds.length : Int) = (n : Int)) || !decide ((es.length : Int) = (n : Int))))) = _
        rw [Bool.false_or, Bool.false_or, Bool.not_and]
        congr 1 <;> congr 1 <;> (rw [Bool.eq_iff_iff]; simp; omega)
      · show (ds.length == n && es.length == n && _) = false
        rw [show (ds.length == n && es.length == n) = false by cases hq : (ds.length == n && es.length == n) with
          | true => rw [hq] at hb; cases hb
          | false => rfl] <;> rfl
      · have hl : (ds.length == n && es.length == n) = true := by simpa using hb
        obtain ⟨hl1, hl2⟩ : ds.length = n ∧ es.length = n := by simpa using hl
        refine q_asgN (PA := fun H p => H p = some (.dK [])) en_dnewK fun sd H2 hsd e2 hd => ?_
        have hfr : H sd = none := fresh_back e1 hsd
        refine q_forR (n := (n : Int)) (ea_cons (ed_var rfl (dp_mono (e1.trans e2) pn)) ea_nil) ⟨by omega, by omega⟩
          (fun i σ' H' => ∃ kvs seen z, σ' = [some vp, some vn, some v1, some v2, some (.ref sd), z] ∧ Ex H H' ∧ H' sd = some (.dK kvs) ∧ (∀ a : Int, (valV kvs (Sum.inl a)).isSome = decide (a ∈ seen)) ∧ kvs.length ≤ i ∧ monoGo p n [] (ds.zip es) = monoGo p n seen ((ds.zip es).drop i))
          (fun H3 e3 => ⟨[], [], _, rfl, (e1.trans e2).trans e3, e3 _ _ hd, fun a => by simp [valV], Nat.le_refl _, rfl⟩) (fun i σ' H' hi h => ?_) (fun σ' H' h => ?_)
        · obtain ⟨kvs, seen, z, rfl, e, hk, hs, hlen, hgo⟩ := h
          have hi' : i < n := by omega
          have g1 : ds[i]? = some (ds[i]'(by omega)) := List.getElem?_eq_getElem _
          have g2 : es[i]? = some (es[i]'(by omega)) := List.getElem?_eq_getElem _
          have pl1 : plainD (ds[i]'(by omega)) = true := getD_all hp1 g1
          have pl2 : plainD (es[i]'(by omega)) = true := getD_all hp2 g2
          have hdrop : (ds.zip es).drop i = (ds[i]'(by omega), es[i]'(by omega)) :: (ds.zip es).drop (i + 1) := by
            rw [List.drop_eq_getElem_cons (by rw [List.length_zip]; omega), List.getElem_zip]
          generalize hx1 : ds[i]'(by omega) = x1 at g1 pl1 hdrop
          generalize hx2 : es[i]'(by omega) = x2 at g2 pl2 hdrop
          rw [hdrop] at hgo
          have at1 : ∀ {H3 : Hp}, Ex H' H3 → EvD K _ [some vp, some vn, some v1, some v2, some (.ref sd), some (.int (i : Int))] H3 x1 := fun {H3} e3 => ed_ixT (atI_nat g1) (ed_var (n := 2) rfl (dp_mono (e.trans e3) pd1)) (ed_var (n := 5) rfl (.int _))
          have at2 : ∀ {H3 : Hp}, Ex H' H3 → EvD K _ [some vp, some vn, some v1, some v2, some (.ref sd), some (.int (i : Int))] H3 x2 := fun {H3} e3 => ed_ixT (atI_nat g2) (ed_var (n := 3) rfl (dp_mono (e.trans e3) pd2)) (ed_var (n := 5) rfl (.int _))
          have isI1 : EvB _ [some vp, some vn, some v1, some v2, some (.ref sd), some (.int (i : Int))] H' _ := eb_not (eb_B (ev_call (ι := PyData) (ar := fun d => [DP K d]) (pre := fun d => plainD d = true) (res := fun d => DP K (.bool (isIntD d))) (E := E0) x1 pl1 (ea_cons (at1 (Ex.refl _)) ea_nil)))
          have isI2 : EvB _ [some vp, some vn, some v1, some v2, some (.ref sd), some (.int (i : Int))] H' _ := eb_not (eb_B (ev_call (ι := PyData) (ar := fun d => [DP K d]) (pre := fun d => plainD d = true) (res := fun d => DP K (.bool (isIntD d))) (E := E0) x2 pl2 (ea_cons (at2 (Ex.refl _)) ea_nil)))
          have noL : ∀ {H3 : Hp} {σ3 : L2.St} {DD : Ends}, Ex H' H3 → DD.rt = Q → monoGo p n seen ((x1, x2) :: (ds.zip es).drop (i + 1)) = false → tRet (tC (.bl false)) DD σ3 H3 := fun {H3 σ3 DD} e3 hD hf =>
            s_ret (P := DP K (.bool false)) ed_bl fun v H4 e4 pv => by
              rw [hD]
              refine k v H4 ((e.trans e3).trans e4) ?_
              show Dp K H4 v (.bool (ds.length == n && es.length == n && monoGo p n [] (ds.zip es)))
              rw [hgo, hf, Bool.and_false]
              exact pv
          refine q_when (b := !(isIntD x1 && isIntD x2)) (EvB.is (eb_or isI1 fun _ => isI2) (by rw [Bool.not_and])) (fun hb H3 e3 => ?_) (fun hb H3 e3 => ?_)
          · refine noL e3 rfl ?_
            cases x1 <;> first | rfl | (cases x2 <;> first | rfl | exact Bool.noConfusion hb)
          · have hii : (isIntD x1 && isIntD x2) = true := by simpa using hb
            obtain ⟨hi1, hi2⟩ : isIntD x1 = true ∧ isIntD x2 = true := by simpa using hii
            obtain ⟨a, rfl⟩ := isInt_of hi1
            obtain ⟨m, rfl⟩ := isInt_of hi2
            refine q_when (b := (decide (a < 0) || (decide ((n : Int) ≤ a) || (decide (a ∈ seen) || (decide (m < 1) || decide (p ≤ m)))))) ?_ (fun hb H4 e4 => ?_) (fun hb H4 e4 => ?_)
            · refine EvB.is (eb_or (eb_test (ed_lt (at1 e3) ed_int)) fun _ => eb_or (eb_test (ed_ge (at1 e3) (ed_var rfl (dp_mono (e.trans e3) pn)))) fun _ => eb_or (eb_B (ed_dinK (e3 _ _ hk) (at1 e3) (ex_var rfl))) fun _ => eb_or (eb_test (ed_lt (at2 e3) ed_int)) fun _ => eb_test (ed_ge (at2 e3) (ed_var rfl (dp_mono (e.trans e3) pp)))) ?_
              rw [hs a]
            · refine noL (e3.trans e4) rfl ?_
              show (!(_) && _) = false
              rw [hb] <;> rfl
            · refine s_dputK (P := DP K (.bool true)) ((e3.trans e4) _ _ hk) (by omega) ed_bl (ex_var rfl) (at1 (e3.trans e4)) fun v H5 e5 p5 => ⟨_, a :: seen, _, rfl, Ex.mut ((e.trans (e3.trans e4)).trans e5) hfr, upd_same, fun c => ?_, ?_, ?_⟩
              · rw [valV_put]
                by_cases hc : c = a
                · subst hc
                  simp
                · have hc' : ¬ (Sum.inl c : Key) = Sum.inl a := fun q => hc (Sum.inl.inj q)
                  rw [if_neg hc', hs c]
                  simp [hc]
              · have := length_putK kvs (Sum.inl a : Key) v
                omega
              · rw [hgo]
                show (!(_) && monoGo p n (a :: seen) _) = _
                rw [hb] <;> rfl
        · obtain ⟨kvs, seen, z, rfl, e, hk, hs, hlen, hgo⟩ := h
          have hdr : (ds.zip es).drop ((n : Int)).toNat = [] := by
            rw [List.drop_eq_nil_iff, List.length_zip]
            omega
          rw [hdr] at hgo
          refine s_ret (P := DP K (.bool true)) ed_bl fun v H4 e4 pv => k v H4 (e.trans e4) ?_
          show Dp K H4 v (.bool (ds.length == n && es.length == n && monoGo p n [] (ds.zip es)))
          rw [hgo, hl]
          exact pv
    · refine q_when (b := true) (EvB.is (eb_or isi1 fun _ => eb_or (b2 := false) isi2 fun q => ?_) ?_) (fun hb H1 e1 => no e1 ?_) (fun hb => by cases hb)
      · rw [h2] at q
        cases q
      · rw [h2] <;> rfl
      · cases d2 <;> first | rfl | exact Bool.noConfusion h2
  · refine q_when (b := true) (EvB.is (eb_or (b2 := false) isi1 fun q => ?_) ?_) (fun hb H1 e1 => no e1 ?_) (fun hb => by cases hb)
    · rw [h1] at q
      cases q
    · rw [h1] <;> rfl
    · cases d1 <;> first | rfl | exact Bool.noConfusion h1
end
end WK

set_option Elab.async false
set_option linter.all false
set_option maxRecDepth 100000
set_option maxHeartbeats 4000000
/-! Promises with a new object; fields; lines_of. -/
namespace WK
open PySem PySem.Spec PyProof.Rows L2 WM
open Evl (Ex ex_l ex_t ex_rd sq_of st_of sz_of sz_lt fresh_back rLenS rListS)

section
variable {K : PySem.W.Frag} {σ : L2.St} {H H' : Hp} {ta tb tc te td ty tv to : TE} {P : VP} {D : Ends} {tz : TS} {d : PyData}
/-- a promise whose answer is a new object -/
def spNew {ι : Type} (ar : ι → List VP) (pre : ι → Prop) (res : ι → Hp → Addr → Prop) : Sp := fun vs H Q _ => ∃ x : ι, AllP (ar x) H vs ∧ pre x ∧ ∀ p H', H p = none → Ex H H' → res x H' p → Q (.ref p) H'
theorem en_call {ι : Type} {ar : ι → List VP} {pre : ι → Prop} {res : ι → Hp → Addr → Prop} {E : XK} {ta : TA} (x : ι) (hp : pre x) (ha : EvA ta σ H (ar x)) : EvN (tCall (spNew ar pre res) [] E ta) σ H (res x) := fun H1 e Q q =>
  ha H1 e _ fun vs H2 e2 ps => by
    rw [List.append_nil]
    exact ⟨x, ps, hp, fun v H3 hv e3 p => q v H3 (fresh_back e2 hv) (e2.trans e3) p⟩
theorem spNew_len {ι : Type} {ar : ι → List VP} {pre : ι → Prop} {res : ι → Hp → Addr → Prop} {n : Nat} (hn : ∀ x, (ar x).length = n) {vs : List V} {H : Hp} {Q : VK} {E : XK} (h : spNew ar pre res vs H Q E) : vs.length = n := by
  obtain ⟨x, ps, _⟩ := h
  rw [allP_len ps, hn]
/-- o.f -/
theorem ed_fld {a C dx : Addr} {fs : List (Str × V)} {f : Str} {v : V} (ha : EvP ta σ H (XP (.ref a))) (h : H a = some (.ins C dx fs)) (c : Cls K C) (n : NoAttr K C f) (l : fs.lookup f = some v) (pv : Dp K H v d) : EvD K (tFld K ta f) σ H d := fun H1 e Q q =>
  ha H1 e _ fun x H2 e2 hx => ⟨a, C, dx, fs, v, hx, (e.trans e2) _ _ h, c, n, l, q v H2 e2 (dp_mono (e.trans e2) pv)⟩
/-- o.f = v -/
theorem s_fld {a C dx : Addr} {fs : List (Str × V)} {f : Str} [Mono P] (hv : EvP tv σ H P) (ha : EvP ta σ H (XP (.ref a))) (h : H a = some (.ins C dx fs)) (c : Cls K C) (n : NoAttr K C f) (hl : fs.length < 1000) (k : ∀ v H1, Ex H H1 → P H1 v → D.nx σ (upd H1 a (.ins C dx (putF f v fs)))) : sFld K ta tv f D σ H :=
  hv H (Ex.refl H) _ fun v H1 e1 p => ha H1 e1 _ fun x H2 e2 hx => ⟨a, C, dx, fs, hx, (e1.trans e2) _ _ h, c, n, hl, k v H2 (e1.trans e2) (Mono.mono e2 p)⟩
theorem q_fld {a C dx : Addr} {fs : List (Str × V)} {f : Str} [Mono P] (hv : EvP tv σ H P) (ha : EvP ta σ H (XP (.ref a))) (h : H a = some (.ins C dx fs)) (c : Cls K C) (n : NoAttr K C f) (hl : fs.length < 1000) (k : ∀ v H1, Ex H H1 → P H1 v → tz D σ (upd H1 a (.ins C dx (putF f v fs)))) : tSeq (sFld K ta tv f) tz D σ H :=
  s_fld (D := { D with nx := tz D }) hv ha h c n hl k
/-- x, y = e -/
theorem q_asg2 {i j : Nat} {d1 d2 : PyData} (h : EvD K te σ H (.tuple [d1, d2])) (k : ∀ v1 v2 H1, Ex H H1 → Dp K H1 v1 d1 → Dp K H1 v2 d2 → tz D ((σ.set i (some v1)).set j (some v2)) H1) : tSeq (tAsg te (gTup K 2 (gCons (gName i) (gCons (gName j) gNil)))) tz D σ H := h H (Ex.refl H) _ fun v H1 e p => by
  obtain ⟨a, xs, rfl, s, al⟩ := dp_tup p
  cases al with
  | cons p1 r =>
    cases r with
    | cons p2 r =>
      cases r
      exact ⟨a, _, rfl, s, rfl, _, _, rfl, _, _, rfl, rfl, k _ _ H1 e p1 p2⟩
/-- e as a statement of no value -/
theorem q_drop (h : EvP te σ H P) (k : ∀ v H1, Ex H H1 → P H1 v → tz D σ H1) : tSeq (tDrop te) tz D σ H := s_drop (D := { D with nx := tz D }) h k
/-- an instance's object is no tuple -/
theorem nt_ins {a C dx : Addr} {fs : List (Str × V)} (h : H a = some (.ins C dx fs)) : ∀ xs, H a ≠ some (.tup xs) := fun xs q => by rw [h] at q; cases q
theorem nt_lst {a : Addr} {ys : List V} (h : H a = some (.lst ys)) : ∀ xs, H a ≠ some (.tup xs) := fun xs q => by rw [h] at q; cases q
theorem DT.at {t : Tab} {p : Addr} (h : DT K t H p) : ∃ kvs, H p = some (.dT kvs) := by
  obtain ⟨kvs, h1, _⟩ := h
  exact ⟨kvs, h1⟩
theorem DT.updL {t : Tab} {p l : Addr} {ys : List V} {o : HO} (hl : H l = some (.lst ys)) (h : DT K t H p) : DT K t (upd H l o) p := by
  obtain ⟨kvs, h1, h2⟩ := h
  have ne : p ≠ l := fun e => by rw [e, hl] at h1; cases h1
  exact ⟨kvs, by rw [upd_ne ne]; exact h1, h2.keep fun d v hd q => dp_updL hl hd q⟩
end

theorem kpg_tup (K : PySem.W.Frag) {X : Cx} {pos : Pos} {es : List Expr} {k : Nat} {t : TGs} {n : Nat} (hc : X.calm = true) (h : PGs X es t) (hK : X.K = K := by rfl)
    (hn : (assignEach es X.env).length = n := by rfl) (hst : (assignEach es X.env).findIdx? (·.1) = none := by rfl) : PG X (.Tuple es k pos) (gTup K n t) := hK ▸ pg_tup hc h hn hst

/-! ### lines_of -/
def TabOk (n : Nat) (t : Tab) : Prop := ∀ e ∈ t, e.2.length ≤ n ∧ ∀ x ∈ e.2, 0 ≤ x ∧ x < (n : Int)
theorem TabOk.get {n : Nat} {t : Tab} (h : TabOk n t) {k x : W} (g : tabGet t k = some x) : x.length ≤ n ∧ ∀ y ∈ x, 0 ≤ y ∧ y < (n : Int) := by
  unfold tabGet at g
  obtain ⟨e, he, rfl⟩ := Option.map_eq_some_iff.mp g
  exact h e (List.mem_of_find?_eq_some he)
theorem TabOk.getD {n : Nat} {t : Tab} (h : TabOk n t) (k : W) : ((tabGet t k).getD []).length ≤ n ∧ ∀ y ∈ (tabGet t k).getD [], 0 ≤ y ∧ y < (n : Int) := by
  cases g : tabGet t k with
  | none => exact ⟨Nat.zero_le _, fun y hy => by cases hy⟩
  | some x => exact h.get g
theorem TabOk.put {n : Nat} {t : Tab} (h : TabOk n t) {k v : W} (hv : v.length ≤ n ∧ ∀ y ∈ v, 0 ≤ y ∧ y < (n : Int)) : TabOk n (tabPut t k v) := by
  unfold tabPut
  split
  · intro e he
    obtain ⟨e0, h0, rfl⟩ := List.mem_map.mp he
    by_cases hk : e0.1 = k
    · simp only [hk, if_true]
      exact hv
    · simp only [hk, if_false]
      exact h e0 h0
  · intro e he
    rcases List.mem_append.mp he with he | he
    · exact h e he
    · rw [List.mem_singleton.mp he]
      exact hv
theorem TabOk.up {n m : Nat} {t : Tab} (hnm : n ≤ m) (h : TabOk n t) : TabOk m t := fun e he => ⟨Nat.le_trans (h e he).1 hnm, fun x hx => by
  have := (h e he).2 x hx
  omega⟩
def linesStep (p : Int) (cols : List W) (t : Tab) (k : Nat) : Tab := tabPut t (lineM p (cols.getD k [])) ((tabGet t (lineM p (cols.getD k []))).getD [] ++ [(k : Int)])
def linesM (p : Int) (cols : List W) : Tab := (List.range cols.length).foldl (linesStep p cols) []
abbrev linesGo (p : Int) (cols : List W) (i : Nat) : Tab := (List.range i).foldl (linesStep p cols) []
theorem linesGo_succ (p : Int) (cols : List W) (i : Nat) : linesGo p cols (i + 1) = linesStep p cols (linesGo p cols i) i := by
  unfold linesGo
  rw [List.range_succ, List.foldl_append] <;> rfl
theorem linesGo_ok (p : Int) (cols : List W) : ∀ i, TabOk i (linesGo p cols i) ∧ (linesGo p cols i).length ≤ i
  | 0 => ⟨fun e he => absurd (show e ∈ ([] : Tab) from he) (List.not_mem_nil), Nat.le_refl _⟩
  | i + 1 => by
    obtain ⟨h1, h2⟩ := linesGo_ok p cols i
    rw [linesGo_succ]
    have g := h1.getD (lineM p (cols.getD i []))
    refine ⟨(h1.up (Nat.le_succ i)).put ⟨?_, fun y hy => ?_⟩, ?_⟩
    · rw [List.length_append, List.length_singleton]
      omega
    · rcases List.mem_append.mp hy with hy | hy
      · have := g.2 y hy
        omega
      · rw [List.mem_singleton.mp hy]
        omega
    · have := tabPut_len (linesGo p cols i) (lineM p (cols.getD i [])) ((tabGet (linesGo p cols i) (lineM p (cols.getD i []))).getD [] ++ [(i : Int)])
      unfold linesStep
      omega
section
variable {P : Program} {w : World} {K : PySem.W.Frag} {mg : Str → Option Value} {base : Heap}
def sp_lines_of (K : PySem.W.Frag) : Sp := spNew (fun x : List W × Int => [DP K (.list (wds x.1)), DP K (.int x.2)]) (fun x => Pr x.2 ∧ x.1.length ≤ 100 ∧ ∀ c ∈ x.1, WOk x.2 c.length c ∧ c.length ≤ 100) (fun x => DT K (linesM x.2 x.1))
theorem ok_lines_of (T : Txt K mg) : FnOk P w K mg base CX0 3 T.lines_of.f T.lines_of.fd ["columns", "p"] (sp_lines_of K) := by
  refine T.lines_of.F.ok sc_lines_of (fun vs H Q E h => spNew_len (n := 2) (fun _ => rfl) h) (fun cdv A outer s H vs Q E hr h => ?_)
  obtain ⟨⟨cols, p⟩, ps, ⟨hp, hz, hc⟩, k⟩ := h
  dsimp only at ps hp hz hc k
  obtain ⟨vc, vp, rfl, pc, pp⟩ := allP2 ps
  refine ⟨_, (pss_cons (ps_set (i := 2) sc_lines_of.nd rfl (Or.inl rfl) pe_dnewT)
      (pss_cons (ps_for PassesOwn.never rfl (pi_range1 (by rfl) T.z_range (pa_cons (pe_callB (kc_len K) (by rfl) T.z_len PySem.boot_len (pa_cons (pv 0) pa_nil)) pa_nil)) (pg_name (i := 3) sc_lines_of.nd rfl (Or.inl rfl)) (pss_cons (ps_set (i := 4) sc_lines_of.nd rfl (Or.inl rfl) (pe_call (ok_line T) (hr.mono (by decide)) (by rfl) T.line.g T.line.F.kp T.line.b .nil pass0 (pa_cons (pe_ix (kx_list K) (pv 0) (pv 3) (fun _ _ => rfl)) (pa_cons (pv 1) pa_nil))))
      (pss_one (ps_dput (hu_of hr) (pv 2) (pv 4) (pe_op (ko_catA K) (pe_dget2 (hu_of hr) (pv 2) (pv 4) (pe_tup pa_nil) ⟨rfl, rfl, rfl, rfl⟩) (pe_tup (pa_cons (pv 3) pa_nil))) rfl))))
      (pss_one (ps_ret (pv 2))))), ?_⟩
  refine q_asgN (PA := fun H p => H p = some (.dT [])) en_dnewT fun d H1 hd e1 h1 => ?_
  have el : EvD K _ _ H1 _ := ed_lenL (ed_var (σ := (start N_lines_of [vc, vp]).set 2 (some (.ref d))) (n := 0) rfl (dp_mono e1 pc))
  rw [List.length_map] at el
  refine q_forR (n := (cols.length : Int)) (ea_cons el ea_nil) ⟨by omega, by omega⟩
    (fun i σ' H' => ∃ z z2, σ' = [some vc, some vp, some (.ref d), z, z2] ∧ Ex H H' ∧ DT K (linesGo p cols i) H' d)
    (fun H2 e2 => ⟨_, _, rfl, e1.trans e2, ⟨[], e2 _ _ h1, trivial⟩⟩) (fun i σ' H' hi h => ?_) (fun σ' H' h => ?_)
  · obtain ⟨z, z2, rfl, e, hD⟩ := h
    have hi' : i < cols.length := by omega
    have hci : cols[i]? = some (cols.getD i []) := getD_at [] hi'
    obtain ⟨hw, hcl⟩ := hc _ (List.mem_of_getElem? hci)
    obtain ⟨tk, tl⟩ := linesGo_ok p cols i
    refine q_asg (P := DP K (wd (lineM p (cols.getD i [])))) (ev_call (ι := W × Int) (cols.getD i [], p) ⟨hp, hw, hcl⟩ (ea_cons (ed_ixL (at_wd hci rfl) (ed_var rfl (dp_mono e pc)) (ed_var rfl (.int _))) (ea_cons (ed_var rfl (dp_mono e pp)) ea_nil))) fun v H2 e2 pv => ?_
    have hD2 := hD.mono e2
    refine s_dputT (t := linesGo p cols i) (k := lineM p (cols.getD i [])) (x := (tabGet (linesGo p cols i) (lineM p (cols.getD i []))).getD [] ++ [(i : Int)]) hD2 (by omega)
      (EvP.is (ed_catT (ed_dget2T (x := []) hD2 (ex_var rfl) (ed_var rfl pv) (ed_tup (ds := []) ea_nil (by decide))) (ed_tup (ds := [.int (i : Int)]) (ea_cons (ed_var rfl (.int _)) ea_nil) (by show 1 ≤ 100000; decide)) ?_) ?_) (ex_var rfl) (ed_var rfl pv) fun o H3 e3 nt q => ?_
    · rw [List.length_map]
      have := (tk.getD (lineM p (cols.getD i []))).1
      show _ + 1 ≤ _
      omega
    · show PyData.tuple _ = PyData.tuple _
      rw [List.map_append] <;> rfl
    · refine ⟨_, _, rfl, Ex.mut ((e.trans e2).trans e3) hd, ?_⟩
      rw [linesGo_succ]
      exact q
  · obtain ⟨z, z2, rfl, e, hD⟩ := h
    rw [Int.toNat_natCast] at hD
    exact s_ret (P := fun H v => v = .ref d ∧ DT K (linesM p cols) H d) (ev_var rfl ⟨rfl, hD⟩) fun v H2 e2 ⟨hv, hq⟩ => by
      subst hv
      exact k d H2 hd (e.trans e2) hq
end
end WK

set_option Elab.async false
set_option linter.all false
set_option maxRecDepth 100000
set_option maxHeartbeats 4000000
/-! reduced, solve, coordinates. -/
namespace WK
open PySem PySem.Spec PyProof.Rows L2 WM
open Evl (Ex ex_l ex_t ex_rd sq_of st_of sz_of sz_lt fresh_back rLenS rListS)

section
variable {K : PySem.W.Frag} {σ : L2.St} {H H' : Hp} {ta tb tc te td ty tv to : TE} {P : VP} {D : Ends} {tz : TS} {d : PyData}
theorem dpAll_erase : ∀ (n : Nat) {vs : List V} {ds : List PyData}, DpAll K H vs ds → DpAll K H (vs.eraseIdx n) (ds.eraseIdx n)
  | _, _, _, .nil => .nil
  | 0, _, _, .cons _ r => r
  | n + 1, _, _, .cons a r => .cons a (dpAll_erase n r)
theorem wds_erase : ∀ (rows : List W) (j : Nat), (wds rows).eraseIdx j = wds (rows.eraseIdx j)
  | [], _ => rfl
  | _ :: _, 0 => rfl
  | r :: rows, j + 1 => congrArg (wd r :: ·) (wds_erase rows j)
theorem NL.at {ds : List PyData} {p : Addr} (h : NL K ds H p) : ∃ xs, H p = some (.lst xs) := by
  obtain ⟨xs, h1, _⟩ := h
  exact ⟨xs, h1⟩
theorem NL.updL {ds : List PyData} {p l : Addr} {ys : List V} {o : HO} (hn : p ≠ l) (hl : H l = some (.lst ys)) (ht : tOnlyAll ds = true) (h : NL K ds H p) : NL K ds (upd H l o) p := by
  obtain ⟨xs, h1, h2⟩ := h
  exact ⟨xs, by rw [upd_ne hn]; exact h1, dpAll_updL hl ht h2⟩
/-- l.append(e), the list known by its data -/
theorem s_appD {l : Addr} {ds : List PyData} (hl : NL K ds H l) (ht : tOnlyAll ds = true) (ha : EvP ta σ H (XP (.ref l))) (h : EvD K te σ H d) (hd : tOnly d = true) (hz : ds.length < 100000) (k : ∀ ys o H1, Ex H H1 → H1 l = some (.lst ys) → NL K (ds ++ [d]) (upd H1 l o) l → D.nx σ (upd H1 l o)) :
    tDrop (tBM K "list" rAppend ta (tCons te tNil)) D σ H := by
  obtain ⟨xs, h1, h2⟩ := hl
  refine s_app (P := DP K d) h1 ha h (by rw [dpAll_len h2]; exact hz) fun v H1 e p => k xs _ H1 e (e _ _ h1) ⟨_, upd_same, dpAll_snoc (dpAll_updL (e _ _ h1) ht (dpAll_mono e h2)) (dp_updL (e _ _ h1) hd p)⟩
theorem q_appD {l : Addr} {ds : List PyData} (hl : NL K ds H l) (ht : tOnlyAll ds = true) (ha : EvP ta σ H (XP (.ref l))) (h : EvD K te σ H d) (hd : tOnly d = true) (hz : ds.length < 100000) (k : ∀ ys o H1, Ex H H1 → H1 l = some (.lst ys) → NL K (ds ++ [d]) (upd H1 l o) l → tz D σ (upd H1 l o)) :
    tSeq (tDrop (tBM K "list" rAppend ta (tCons te tNil))) tz D σ H := s_appD (D := { D with nx := tz D }) hl ht ha h hd hz k
/-- l.remove(e), words -/
theorem q_rem {l : Addr} {rows : List W} {r : W} {j : Nat} (hl : NL K (wds rows) H l) (hj : rows[j]? = some r) (hno : ∀ (m : Nat) (r' : W), m < j → rows[m]? = some r' → r' ≠ r) (ha : EvP ta σ H (XP (.ref l))) (h : EvD K te σ H (wd r))
    (k : ∀ ys o H1, Ex H H1 → H1 l = some (.lst ys) → NL K (wds (rows.eraseIdx j)) (upd H1 l o) l → tz D σ (upd H1 l o)) : tSeq (tDrop (tBM K "list" (rRemW K) ta (tCons te tNil))) tz D σ H := by
  obtain ⟨xs, h1, h2⟩ := hl
  exact ha H (Ex.refl H) _ fun w H1 e1 (pw : w = .ref l) => by
    subst pw
    refine ⟨Or.inl ⟨rfl, xs, sq_of (e1 l _ h1)⟩, h H1 e1 _ fun v H2 e2 p => ?_⟩
    have E := e1.trans e2
    refine ⟨l, xs, v, rows, r, j, rfl, rfl, E _ _ h1, dpAll_mono E h2, p, hj, hno, k xs _ H2 E (E _ _ h1) ⟨_, upd_same, ?_⟩⟩
    have q : DpAll K H2 (xs.eraseIdx j) (wds (rows.eraseIdx j)) := by
      have q0 := dpAll_erase j (dpAll_mono E h2)
      rw [wds_erase] at q0
      exact q0
    exact dpAll_updL (E _ _ h1) (tOnly_wds _) q
end

/-! ### words stay words -/
theorem emod_ok {p : Int} (hp : 0 < p) (x : Int) : 0 ≤ x % p ∧ x % p < p := ⟨Int.emod_nonneg _ (by omega), Int.emod_lt_of_pos _ hp⟩
theorem wok_add {p : Int} {n : Nat} {v u : W} (hp : 0 < p) (h1 : v.length = n) (h2 : u.length = n) : WOk p n (addM v u p) := by
  refine ⟨by rw [addM_len (by omega), h1], fun x hx => ?_⟩
  unfold addM at hx
  obtain ⟨a, b, rfl⟩ : ∃ a b, x = (a + b) % p := by
    clear h1 h2
    induction v generalizing u with
    | nil => simp at hx
    | cons y v ih =>
      cases u with
      | nil => simp at hx
      | cons z u =>
        rw [List.zipWith_cons_cons] at hx
        rcases List.mem_cons.mp hx with h | h
        · exact ⟨y, z, h⟩
        · exact ih h
  exact emod_ok hp _
theorem wok_scale {p : Int} {n : Nat} {v : W} {a : Int} (hp : 0 < p) (h1 : v.length = n) : WOk p n (scaleM v a p) := by
  refine ⟨by rw [scaleM_len, h1], fun x hx => ?_⟩
  unfold scaleM at hx
  obtain ⟨y, _, rfl⟩ := List.mem_map.mp hx
  exact emod_ok hp _
theorem wok_clear {p : Int} {n : Nat} {hd row : W} {i : Nat} (hp : 0 < p) (h1 : hd.length = n) (h2 : row.length = n) : WOk p n (clearM p hd i row) := wok_add hp h2 (by rw [scaleM_len, h1])
theorem wok_b {p : Int} {n : Nat} {v : W} (hp : p ≤ 7) (h : WOk p n v) : ∀ c ∈ v, -1000 ≤ c ∧ c ≤ 1000 := fun c hc => by
  have := h.2 c hc
  omega

/-! ### reduced -/
abbrev redGo (p : Int) (rows : List W) (i : Nat) : List W × List W × List Nat := (List.range i).foldl (redStep p) (rows, [], [])
theorem redGo_succ (p : Int) (rows : List W) (i : Nat) : redGo p rows (i + 1) = redStep p (redGo p rows i) i := by
  unfold redGo
  rw [List.range_succ, List.foldl_append] <;> rfl
def RedOk (p : Int) (n i : Nat) (s : List W × List W × List Nat) : Prop := (∀ r ∈ s.1, WOk p n r) ∧ (∀ r ∈ s.2.1, WOk p n r) ∧ s.2.1.length ≤ i ∧ s.2.2.length = s.2.1.length ∧ ∀ x ∈ s.2.2, x < i
theorem redStep_ok {p : Int} {n i : Nat} {s : List W × List W × List Nat} (hp : 0 < p) (h : RedOk p n i s) : RedOk p n (i + 1) (redStep p s i) ∧ (redStep p s i).1.length ≤ s.1.length := by
  obtain ⟨h1, h2, h3, h4, h5⟩ := h
  unfold redStep
  cases hf : s.1.find? (fun r => r.getD i 0 != 0) with
  | none => exact ⟨⟨h1, h2, Nat.le_succ_of_le h3, h4, fun x hx => Nat.lt_succ_of_lt (h5 x hx)⟩, Nat.le_refl _⟩
  | some h0 =>
    have hm := List.mem_of_find?_eq_some hf
    have l0 := (h1 _ hm).1
    refine ⟨⟨fun r hr => ?_, fun r hr => ?_, ?_, ?_, fun x hx => ?_⟩, ?_⟩
    · obtain ⟨q, hq, rfl⟩ := List.mem_map.mp hr
      exact wok_clear hp (by rw [scaleM_len, l0]) (h1 _ (List.mem_of_mem_erase hq)).1
    · rcases List.mem_append.mp hr with hr | hr
      · obtain ⟨q, hq, rfl⟩ := List.mem_map.mp hr
        exact wok_clear hp (by rw [scaleM_len, l0]) (h2 _ hq).1
      · rw [List.mem_singleton.mp hr]
        exact wok_scale hp l0
    · show List.length (_ ++ _) ≤ _
      rw [List.length_append, List.length_map, List.length_singleton]
      omega
    · show List.length (_ ++ _) = List.length (_ ++ _)
      rw [List.length_append, List.length_append, List.length_map, List.length_singleton, List.length_singleton, h4]
    · rcases List.mem_append.mp hx with hx | hx
      · exact Nat.lt_succ_of_lt (h5 x hx)
      · rw [List.mem_singleton.mp hx]
        exact Nat.lt_succ_self i
    · show (List.map _ _).length ≤ _
      rw [List.length_map]
      exact List.length_erase_le
theorem redGo_ok {p : Int} {n : Nat} {rows : List W} (hp : 0 < p) (h : ∀ r ∈ rows, WOk p n r) : ∀ i, RedOk p n i (redGo p rows i) ∧ (redGo p rows i).1.length ≤ rows.length
  | 0 => ⟨⟨h, fun r hr => absurd (show r ∈ ([] : List W) from hr) List.not_mem_nil, Nat.le_refl _, rfl, fun r hr => absurd (show r ∈ ([] : List Nat) from hr) List.not_mem_nil⟩, Nat.le_refl _⟩
  | i + 1 => by
    obtain ⟨h1, h2⟩ := redGo_ok hp h i
    rw [redGo_succ]
    obtain ⟨q1, q2⟩ := redStep_ok hp h1
    exact ⟨q1, by omega⟩
theorem erase_at {l : List W} {j : Nat} {x : W} (h : l[j]? = some x) (hn : ∀ (m : Nat) (y : W), m < j → l[m]? = some y → y ≠ x) : l.erase x = l.eraseIdx j := by
  induction l generalizing j with
  | nil => simp at h
  | cons a l ih =>
    cases j with
    | zero =>
      have e : a = x := Option.some.inj h
      rw [e, List.erase_cons_head] <;> rfl
    | succ j =>
      have ha : a ≠ x := hn 0 a (Nat.succ_pos _) rfl
      rw [List.erase_cons_tail (by simpa using ha), List.eraseIdx_cons_succ, ih h fun m y hm hy => hn (m + 1) y (Nat.succ_lt_succ hm) hy]
theorem find_at {α : Type} {f : α → Bool} : ∀ {l : List α} {x : α}, l.find? f = some x → ∃ j : Nat, l[j]? = some x ∧ f x = true ∧ ∀ (m : Nat) (y : α), m < j → l[m]? = some y → f y = false
  | [], _, h => by simp at h
  | a :: l, x, h => by
    rw [List.find?_cons] at h
    cases ha : f a with
    | true =>
      rw [ha] at h
      have e : a = x := Option.some.inj h
      subst e
      exact ⟨0, rfl, ha, fun m y hm => absurd hm (Nat.not_lt_zero _)⟩
    | false =>
      rw [ha] at h
      obtain ⟨j, h1, h2, h3⟩ := find_at h
      refine ⟨j + 1, h1, h2, fun m y hm hy => ?_⟩
      cases m with
      | zero =>
        have e : a = y := Option.some.inj hy
        rw [← e]
        exact ha
      | succ m => exact h3 m y (by omega) hy
theorem inv_b {p : Int} (hp : Pr p) (x : Int) : -1000 ≤ invM x p ∧ invM x p ≤ 1000 := by
  have h5 := pr_pos hp
  unfold invM
  cases hf : (((List.range (p - 1).toNat).map fun (k : Nat) => 1 + (k : Int)).find? fun k => decide (x * k % p = 1)) with
  | none => decide
  | some z =>
    obtain ⟨m, hm, rfl⟩ := List.mem_map.mp (List.mem_of_find?_eq_some hf)
    have := List.mem_range.mp hm
    show -1000 ≤ 1 + (m : Int) ∧ 1 + (m : Int) ≤ 1000
    omega
section
variable {P : Program} {w : World} {K : PySem.W.Frag} {mg : Str → Option Value} {base : Heap}
def sp_reduced (K : PySem.W.Frag) : Sp := spOf (fun x : List W × Nat × Int => [DP K (.list (wds x.1)), DP K (.int (x.2.1 : Int)), DP K (.int x.2.2)]) (fun x => Pr x.2.2 ∧ x.1.length ≤ 100 ∧ x.2.1 ≤ 100 ∧ ∀ r ∈ x.1, WOk x.2.2 x.2.1 r)
  (fun x => DP K (.tuple [.tuple (wds (redM x.2.2 x.2.1 x.1).2.1), wd (nw (redM x.2.2 x.2.1 x.1).2.2)]))
theorem ok_reduced (T : Txt K mg) : FnOk P w K mg base CX0 3 T.reduced.f T.reduced.fd ["rows", "width", "p"] (sp_reduced K) := by
  refine T.reduced.F.ok sc_reduced (fun vs H Q E h => spOf_len (n := 3) (fun _ => rfl) h) (fun cdv A outer s H vs Q E hr h => ?_)
  obtain ⟨⟨rows, n, p⟩, ps, ⟨hp, hz, hn, hw⟩, k⟩ := h
  dsimp only at ps hp hz hn hw k
  obtain ⟨vr, vn, vp, rfl, pr, pn, pp⟩ := allP3 ps
  have hp5 := pr_pos hp
  refine ⟨_, (pss_cons (ps_setLc (i := 3) (own := [("row", 8)]) (g := gName 8) rfl sc_reduced.nd rfl rfl (sw_true rfl rfl rfl (by decide +kernel)) (kpi_list K (pv 0)) (blkOk_by (own := [("row", 8)]) (N := N_reduced) (sc := (defScope s_reduced)) (by decide +kernel)) (fun _ _ _ _ _ => pg_name (i := 8) sc_reduced.nd rfl (Or.inl rfl)) (fun _ _ _ _ _ => pts_nil) (fun _ _ _ _ _ => (pe_callTy (kc_tuple K) (by rfl) T.z_tuple (by decide +kernel) (pa_cons (pv 8) pa_nil))))
      (pss_cons (ps_set (i := 4) sc_reduced.nd rfl (Or.inl rfl) (pe_lst pa_nil))
      (pss_cons (ps_set (i := 5) sc_reduced.nd rfl (Or.inl rfl) (pe_lst pa_nil))
      (pss_cons (ps_for PassesOwn.never rfl (pi_range1 (by rfl) T.z_range (pa_cons (pv 1) pa_nil)) (pg_name (i := 6) sc_reduced.nd rfl (Or.inr rfl)) (pss_cons (ps_setLc (i := 7) (own := [("row", 8)]) (g := gName 8) rfl sc_reduced.nd rfl rfl (sw_true rfl rfl rfl (by decide +kernel)) (kpi_list K (pv 3)) (blkOk_by (own := [("row", 8)]) (N := N_reduced) (sc := (defScope s_reduced)) (by decide +kernel)) (fun _ _ _ _ _ => pg_name (i := 8) sc_reduced.nd rfl (Or.inl rfl)) (fun _ _ _ _ _ => (pts_one (pt_cmpR op_ne (pe_ix (kx_tup K) (pv 8) (pv 6) (fun _ _ => rfl)) pe_int (nomark _)))) (fun _ _ _ _ _ => (pv 8)))
      (pss_one (ps_if (pt_cmpR op_gt (pe_callB (kc_len K) (by rfl) T.z_len PySem.boot_len (pa_cons (pv 7) pa_nil)) pe_int (nomark _)) (pss_cons (ps_set (i := 9) sc_reduced.nd rfl (Or.inr rfl) (pe_call (ok_scaled T) (hr.mono (by decide)) (by rfl) T.scaled.g T.scaled.F.kp T.scaled.b .nil pass0 (pa_cons (pe_ix (kx_list K) (pv 7) pe_int (fun _ _ => rfl)) (pa_cons (pe_call (ok_inverse T) (hr.mono (by decide)) (by rfl) T.inverse.g T.inverse.F.kp T.inverse.b .nil pass0 (pa_cons (pe_ix (kx_tup K) (pe_ix (kx_list K) (pv 7) pe_int (fun _ _ => rfl)) (pv 6) (fun _ _ => rfl)) (pa_cons (pv 2) pa_nil))) (pa_cons (pv 2) pa_nil)))))
      (pss_cons (ps_expr (kpe_bm K PySem.F.plainAttrs_list PySem.F.slot_list_remove PySem.F.type_list_remove (mt_remW K hr) (pv 3) (pa_cons (pe_ix (kx_list K) (pv 7) pe_int (fun _ _ => rfl)) pa_nil)))
      (pss_cons (ps_setLc (i := 3) (own := [("row", 8)]) (g := gName 8) rfl sc_reduced.nd rfl rfl (sw_true rfl rfl rfl (by decide +kernel)) (kpi_list K (pv 3)) (blkOk_by (own := [("row", 8)]) (N := N_reduced) (sc := (defScope s_reduced)) (by decide +kernel)) (fun _ _ _ _ _ => pg_name (i := 8) sc_reduced.nd rfl (Or.inl rfl)) (fun _ _ _ _ _ => pts_nil) (fun _ _ _ _ _ => (pe_call (ok_cleared T) (hr.mono (by decide)) (by rfl) T.cleared.g T.cleared.F.kp T.cleared.b .nil pass0 (pa_cons (pv 8) (pa_cons (pv 9) (pa_cons (pv 6) (pa_cons (pv 2) pa_nil)))))))
      (pss_cons (ps_set (i := 4) sc_reduced.nd rfl (Or.inl rfl) (pe_op op_cat (pe_lc (own := [("row", 8)]) (g := gName 8) rfl sc_reduced.nd (kpi_list K (pv 4)) (blkOk_by (own := [("row", 8)]) (N := N_reduced) (sc := (defScope s_reduced)) (by decide +kernel)) (fun _ _ _ _ _ => pg_name (i := 8) sc_reduced.nd rfl (Or.inl rfl)) (fun _ _ _ _ _ => pts_nil) (fun _ _ _ _ _ => (pe_call (ok_cleared T) (hr.mono (by decide)) (by rfl) T.cleared.g T.cleared.F.kp T.cleared.b .nil pass0 (pa_cons (pv 8) (pa_cons (pv 9) (pa_cons (pv 6) (pa_cons (pv 2) pa_nil))))))) (pe_lst (pa_cons (pv 9) pa_nil))))
      (pss_one (ps_expr (kpe_bm K PySem.F.plainAttrs_list PySem.F.slot_list_append PySem.F.type_list_append mt_append (pv 5) (pa_cons (pv 6) pa_nil)))))))) pss_nil))))
      (pss_one (ps_ret (pe_tup (pa_cons (pe_callTy (kc_tuple K) (by rfl) T.z_tuple (by decide +kernel) (pa_cons (pv 4) pa_nil)) (pa_cons (pe_callTy (kc_tuple K) (by rfl) T.z_tuple (by decide +kernel) (pa_cons (pv 5) pa_nil)) pa_nil))))))))), ?_⟩
  refine q_asgN (PA := NL K (wds rows)) (EvN.is (en_lcL wd rows (fun _ => true) wd tOnly_wd (ed_var rfl pr) (by omega) (fun _ => rfl) (fun _ _ _ _ _ _ _ => eb_yes) (fun i x c H1 e hi px _ => ed_tupT (ed_var rfl px))) (by rw [filter_yes])) fun r H1 hr0 e1 n1 => ?_
  refine q_asgN (PA := NL K []) (en_lst (ds := []) ea_nil (by decide)) fun f H2 hf0 e2 n2 => ?_
  refine q_asgN (PA := NL K []) (en_lst (ds := []) ea_nil (by decide)) fun v H3 hv0 e3 n3 => ?_
  have ne1 : r ≠ f := fun q => by
    obtain ⟨xs, h⟩ := n1.at
    rw [q, hf0] at h
    cases h
  have ne2 : r ≠ v := fun q => by
    obtain ⟨xs, h⟩ := (n1.mono e2).at
    rw [q, hv0] at h
    cases h
  have ne3 : f ≠ v := fun q => by
    obtain ⟨xs, h⟩ := n2.at
    rw [q, hv0] at h
    cases h
  have hv00 : H v = none := fresh_back (e1.trans e2) hv0
  refine q_forR (n := (n : Int)) (ea_cons (ed_var rfl (dp_mono ((e1.trans e2).trans e3) pn)) ea_nil) ⟨by omega, by omega⟩
    (fun i σ' H' => ∃ r f z z2 z3 z4, σ' = [some vr, some vn, some vp, some (.ref r), some (.ref f), some (.ref v), z, z2, z3, z4] ∧ Ex H H' ∧ H r = none ∧ r ≠ f ∧ r ≠ v ∧ f ≠ v ∧ NL K (wds (redGo p rows i).1) H' r ∧ NL K (wds (redGo p rows i).2.1) H' f ∧ NL K ((nw (redGo p rows i).2.2).map PyData.int) H' v)
    (fun H4 e4 => ⟨r, f, _, _, _, _, rfl, ((e1.trans e2).trans e3).trans e4, hr0, ne1, ne2, ne3, n1.mono ((e2.trans e3).trans e4), n2.mono (e3.trans e4), n3.mono e4⟩) (fun i σ' H' hi h => ?_) (fun σ' H' h => ?_)
  · obtain ⟨r, f, z, z2, z3, z4, rfl, e, hr0, ne1, ne2, ne3, n1, n2, n3⟩ := h
    have hi' : i < n := by omega
    obtain ⟨⟨q1, q2, q3, q4, q5⟩, q6⟩ := redGo_ok (i := i) (show 0 < p by omega) hw
    have hst := redGo_succ p rows i
    generalize hS : redGo p rows i = S at n1 n2 n3 q1 q2 q3 q4 q5 q6 hst
    obtain ⟨A, B, C⟩ := S
    dsimp only at n1 n2 n3 q1 q2 q3 q4 q5 q6
    refine q_asgN (PA := NL K (wds (A.filter fun r => r.getD i 0 != 0))) (en_lcL wd A (fun r => r.getD i 0 != 0) wd tOnly_wd (ed_var rfl n1.dp) (by omega) (fun _ => rfl) (fun j x c H4 e4 hj px => ?_) (fun j x c H4 e4 hj px _ => ed_var rfl px)) fun h H4 hh e4 n4 => ?_
    · have hcl := (q1 c (List.mem_of_getElem? hj)).1
      exact EvB.is (eb_test (K := K) (ed_neI (ed_ixT (at_int (getD_at 0 (by omega)) rfl) (ed_var rfl px) (ed_var rfl (.int _))) ed_int)) rfl
    have fl : (A.filter fun r => r.getD i 0 != 0).length ≤ A.length := List.length_filter_le _ _
    have el : EvD K _ _ H4 _ := ed_lenL (ed_var (σ := [some vr, some vn, some vp, some (.ref r), some (.ref f), some (.ref v), some (.int (i : Int)), some (.ref h), z3, z4]) (n := 7) rfl n4.dp)
    rw [List.length_map] at el
    refine s_when (b := decide ((0 : Int) < ((A.filter fun r => r.getD i 0 != 0).length : Int))) (eb_test (K := K) (ed_gt el ed_int)) (fun hb H5 e5 => ?_) (fun hb H5 e5 => ?_)
    · have hpos : 0 < (A.filter fun r => r.getD i 0 != 0).length := by
        have := of_decide_eq_true hb
        omega
      obtain ⟨h0, hh0⟩ : ∃ h0, A.find? (fun r => r.getD i 0 != 0) = some h0 := by
        cases hq : A.find? (fun r => r.getD i 0 != 0) with
        | some h0 => exact ⟨h0, rfl⟩
        | none =>
          rw [List.find?_eq_none] at hq
          have : A.filter (fun r => r.getD i 0 != 0) = [] := List.filter_eq_nil_iff.mpr hq
          rw [this] at hpos
          cases hpos
      have hhd : (A.filter fun r => r.getD i 0 != 0)[0]? = some h0 := by
        rw [← List.head?_eq_getElem?, List.head?_filter, hh0]
      obtain ⟨j, hj, hj0, hjn⟩ := find_at hh0
      have hno : ∀ (m : Nat) (r' : W), m < j → A[m]? = some r' → r' ≠ h0 := fun m r' hm hr' q => by
        have := hjn m r' hm hr'
        rw [q, hj0] at this
        cases this
      have w0 := q1 h0 (List.mem_of_getElem? hj)
      have l0 : h0.length = n := w0.1
      have g0 : h0[i]? = some (h0.getD i 0) := getD_at 0 (by omega)
      have b0 := w0.2 _ (List.mem_of_getElem? g0)
      have nz : ¬ h0.getD i 0 = 0 := by simpa using hj0
      have ib := inv_b hp (h0.getD i 0)
      have hstep : redStep p (A, B, C) i = (((A.erase h0).map (clearM p (scaleM h0 (invM (h0.getD i 0) p) p) i)), B.map (clearM p (scaleM h0 (invM (h0.getD i 0) p) p) i) ++ [scaleM h0 (invM (h0.getD i 0) p) p], C ++ [i]) := by
        unfold redStep
        dsimp only
        rw [hh0]
      rw [hstep, erase_at hj hno] at hst
      generalize hH : scaleM h0 (invM (h0.getD i 0) p) p = hd at hst
      have lhd : hd.length = n := by rw [← hH, scaleM_len, l0]
      have E5 := e.trans (e4.trans e5)
      have headE : ∀ {H6 : Hp} {σ : L2.St}, σ[7]? = some (some (.ref h)) → Ex H5 H6 → EvD K _ σ H6 (wd h0) := fun {H6 σ} hσ e6 => ed_ixL (at_wd hhd rfl) (ed_var hσ (n4.mono (e5.trans e6)).dp) ed_int
      refine q_asg (P := DP K (wd hd)) (EvP.is (ev_call (ι := W × Int × Int) (h0, invM (h0.getD i 0) p, p) ⟨by show h0.length ≤ 1000; omega, ib.1, ib.2, by show 0 < p; omega⟩ (ea_cons (headE rfl (Ex.refl _)) (ea_cons (ev_call (ι := Int × Int) (h0.getD i 0, p) ⟨hp5.1, by show p ≤ 100; omega, pr_inv hp b0.1 b0.2 nz⟩
        (ea_cons (ed_ixT (at_int g0 rfl) (headE rfl (Ex.refl _)) (ed_var rfl (.int _))) (ea_cons (ed_var rfl (dp_mono E5 pp)) ea_nil))) (ea_cons (ed_var rfl (dp_mono E5 pp)) ea_nil)))) (by rw [← hH])) fun vh H6 e6 ph => ?_
      refine q_rem (rows := A) (r := h0) (j := j) (n1.mono ((e4.trans e5).trans e6)) hj hno (ex_var rfl) (headE rfl e6) fun ys o H7 e7 hy n7 => ?_
      have E7 : Ex H (upd H7 r o) := Ex.mut ((E5.trans e6).trans e7) hr0
      have p7 : Dp K (upd H7 r o) vh (wd hd) := dp_updL hy (tOnly_wd _) (dp_mono e7 ph)
      have f7 : NL K (wds B) (upd H7 r o) f := (n2.mono (((e4.trans e5).trans e6).trans e7)).updL (Ne.symm ne1) hy (tOnly_wds _)
      have v7 : NL K ((nw C).map PyData.int) (upd H7 r o) v := (n3.mono (((e4.trans e5).trans e6).trans e7)).updL (Ne.symm ne2) hy (tOnly_ints _)
      have el7 : (A.eraseIdx j).length ≤ A.length := List.length_eraseIdx_le _ _
      have hwE : ∀ q ∈ A.eraseIdx j, WOk p n q := fun q hq => q1 q (List.mem_of_mem_eraseIdx hq)
      refine q_asgN (PA := NL K (wds ((A.eraseIdx j).map (clearM p hd i)))) (EvN.is (en_lcL wd (A.eraseIdx j) (fun _ => true) (fun q => wd (clearM p hd i q)) (fun _ => tOnly_wd _) (ed_var rfl n7.dp) (by omega) (fun _ => rfl) (fun _ _ _ _ _ _ _ => eb_yes) (fun m x c H8 e8 hm px _ => ?_)) ?_) fun r2 H8 hr8 e8 n8 => ?_
      · have wc := hwE c (List.mem_of_getElem? hm)
        exact ev_call (ι := W × W × Nat × Int) (c, hd, i, p) ⟨by show hd.length = c.length; rw [lhd, wc.1], by show c.length ≤ 100; rw [wc.1]; exact hn, by show i < c.length; rw [wc.1]; exact hi', wok_b (by omega) wc, by show 0 < p; omega⟩
          (ea_cons (ed_var rfl px) (ea_cons (ed_var rfl (dp_mono e8 p7)) (ea_cons (ed_var rfl (.int _)) (ea_cons (ed_var rfl (dp_mono (E7.trans e8) pp)) ea_nil))))
      · rw [filter_yes]
        unfold wds
        rw [List.map_map] <;> rfl
      refine q_asgN (PA := NL K (wds (B.map (clearM p hd i) ++ [hd]))) (EvN.is (en_cat (ds := wds (B.map (clearM p hd i))) (es := [wd hd]) (EvN.is (en_lcL wd B (fun _ => true) (fun q => wd (clearM p hd i q)) (fun _ => tOnly_wd _) (ed_var rfl (f7.mono e8).dp) (by omega) (fun _ => rfl) (fun _ _ _ _ _ _ _ => eb_yes) (fun m x c H9 e9 hm px _ => ?_)) ?_)
        (en_lst (ds := [wd hd]) (ea_cons (ed_var rfl (dp_mono e8 p7)) ea_nil) (by show 1 ≤ 100000; decide)) ?_) ?_) fun f2 H9 hf9 e9 n9 => ?_
      · have wc := q2 c (List.mem_of_getElem? hm)
        exact ev_call (ι := W × W × Nat × Int) (c, hd, i, p) ⟨by show hd.length = c.length; rw [lhd, wc.1], by show c.length ≤ 100; rw [wc.1]; exact hn, by show i < c.length; rw [wc.1]; exact hi', wok_b (by omega) wc, by show 0 < p; omega⟩
          (ea_cons (ed_var rfl px) (ea_cons (ed_var rfl (dp_mono (e8.trans e9) p7)) (ea_cons (ed_var rfl (.int _)) (ea_cons (ed_var rfl (dp_mono ((E7.trans e8).trans e9) pp)) ea_nil))))
      · rw [filter_yes]
        unfold wds
        rw [List.map_map] <;> rfl
      · show (List.map _ _).length + 1 ≤ 100000
        rw [List.length_map, List.length_map]
        omega
      · show (List.map _ _) ++ _ = List.map _ _
        rw [List.map_append] <;> rfl
      have v9 := v7.mono (e8.trans e9)
      refine s_appD (ds := (nw C).map PyData.int) v9 (tOnly_ints _) (ex_var rfl) (d := .int (i : Int)) (ed_var rfl (.int _)) rfl ?_ fun ys o H10 e10 hy10 n10 => ?_
      · rw [List.length_map, nw_len]
        omega
      · have a1 : r2 ≠ v := fun q => by
          obtain ⟨xs, h⟩ := v7.at
          rw [← q, hr8] at h
          cases h
        have a2 : f2 ≠ v := fun q => by
          obtain ⟨xs, h⟩ := (v7.mono e8).at
          rw [← q, hf9] at h
          cases h
        have a3 : r2 ≠ f2 := fun q => by
          obtain ⟨xs, h⟩ := n8.at
          rw [q, hf9] at h
          cases h
        refine ⟨r2, f2, _, _, _, _, rfl, Ex.mut ((E7.trans (e8.trans e9)).trans e10) hv00, fresh_back E7 hr8, a3, a1, a2, ?_, ?_, ?_⟩
        · rw [hst]
          exact (n8.mono (e9.trans e10)).updL a1 hy10 (tOnly_wds _)
        · rw [hst]
          exact (n9.mono e10).updL a2 hy10 (tOnly_wds _)
        · rw [hst]
          unfold nw at n10 ⊢
          rw [List.map_append, List.map_append]
          exact n10
    · have hnil : A.find? (fun r => r.getD i 0 != 0) = none := by
        have h0 : (A.filter fun r => r.getD i 0 != 0).length = 0 := by
          have := of_decide_eq_false hb
          omega
        rw [List.find?_eq_none]
        exact List.filter_eq_nil_iff.mp (List.eq_nil_of_length_eq_zero h0)
      have hstep : redStep p (A, B, C) i = (A, B, C) := by
        unfold redStep
        dsimp only
        rw [hnil]
      rw [hstep] at hst
      have E := e4.trans e5
      refine ⟨r, f, _, _, _, _, rfl, e.trans E, hr0, ne1, ne2, ne3, ?_, ?_, ?_⟩
      · rw [hst]
        exact n1.mono E
      · rw [hst]
        exact n2.mono E
      · rw [hst]
        exact n3.mono E
  · obtain ⟨r, f, z, z2, z3, z4, rfl, e, hr0, ne1, ne2, ne3, n1, n2, n3⟩ := h
    rw [Int.toNat_natCast] at n1 n2 n3
    exact s_ret (P := DP K (.tuple [.tuple (wds (redM p n rows).2.1), wd (nw (redM p n rows).2.2)])) (ed_tup (ds := [.tuple (wds (redM p n rows).2.1), wd (nw (redM p n rows).2.2)])
      (ea_cons (ed_tupL (tOnly_wds _) (ed_var rfl n2.dp)) (ea_cons (ed_tupL (tOnly_ints _) (ed_var rfl n3.dp)) ea_nil)) (by show 2 ≤ 100000; decide)) fun v1 H4 e4 p1 => k v1 H4 (e.trans e4) p1
end
end WK

set_option Elab.async false
set_option linter.all false
set_option maxRecDepth 100000
set_option maxHeartbeats 4000000
/-! solve, coordinates. -/
namespace WK
open PySem PySem.Spec PyProof.Rows L2 WM
open Evl (Ex ex_l ex_t ex_rd sq_of st_of sz_of sz_lt fresh_back rLenS rListS)
/-- a list of ints -/
abbrev lw (ns : W) : PyData := .list (ns.map PyData.int)
section
variable {K : PySem.W.Frag} {σ : L2.St} {H H' : Hp} {ta tb tc te td ty tv to : TE} {P : VP} {D : Ends} {tz : TS} {d : PyData}
def Cl (H : Hp) (Dl : Addr) : List Addr → List W → Prop
  | [], [] => True
  | b :: bs, g :: gs => (b ≠ Dl ∧ H b = some (.lst (g.map V.int))) ∧ Cl H Dl bs gs
  | _, _ => False
theorem Cl.mono {Dl : Addr} (e : Ex H H') : ∀ {bs : List Addr} {gs : List W}, Cl H Dl bs gs → Cl H' Dl bs gs
  | [], [], _ => trivial
  | _ :: _, _ :: _, h => ⟨⟨h.1.1, e _ _ h.1.2⟩, Cl.mono e h.2⟩
  | [], _ :: _, h => h.elim
  | _ :: _, [], h => h.elim
theorem Cl.upd {Dl : Addr} {o : HO} : ∀ {bs : List Addr} {gs : List W}, Cl H Dl bs gs → Cl (L2.upd H Dl o) Dl bs gs
  | [], [], _ => trivial
  | _ :: _, _ :: _, h => ⟨⟨h.1.1, by rw [upd_ne h.1.1]; exact h.1.2⟩, Cl.upd h.2⟩
  | [], _ :: _, h => h.elim
  | _ :: _, [], h => h.elim
theorem Cl.snoc {Dl b : Addr} {g : W} (hb : b ≠ Dl) (h1 : H b = some (.lst (g.map V.int))) : ∀ {bs : List Addr} {gs : List W}, Cl H Dl bs gs → Cl H Dl (bs ++ [b]) (gs ++ [g])
  | [], [], _ => ⟨⟨hb, h1⟩, trivial⟩
  | _ :: _, _ :: _, h => ⟨h.1, Cl.snoc hb h1 h.2⟩
  | [], _ :: _, h => h.elim
  | _ :: _, [], h => h.elim
theorem Cl.len {Dl : Addr} : ∀ {bs : List Addr} {gs : List W}, Cl H Dl bs gs → bs.length = gs.length
  | [], [], _ => rfl
  | _ :: _, _ :: _, h => by
    rw [List.length_cons, List.length_cons, Cl.len h.2]
  | [], _ :: _, h => h.elim
  | _ :: _, [], h => h.elim
theorem Cl.dp {Dl : Addr} : ∀ {bs : List Addr} {gs : List W}, Cl H Dl bs gs → DpAll K H (bs.map V.ref) (gs.map lw)
  | [], [], _ => .nil
  | _ :: _, _ :: _, h => .cons (.lst h.1.2 (dpAll_ints _)) (Cl.dp h.2)
  | [], _ :: _, h => h.elim
  | _ :: _, [], h => h.elim
def IsLcL (H : Hp) (Dl : Addr) (gs : List W) (H' : Hp) : Prop := H Dl = none ∧ Ex H H' ∧ ∃ bs, H' Dl = some (.lst (bs.map V.ref)) ∧ Cl H' Dl bs gs
/-- [[..] for k in range(n)] -/
theorem en_lcRL {ta : TA} {jx : Nat} {vs : List Nat} {n : Int} (g : Nat → W) (h : EvA ta σ H [DP K (.int n)]) (hn : 0 ≤ n ∧ n ≤ 40000) (hw : ∀ x, wipe ((wipe σ vs).set jx (some x)) vs = wipe σ vs)
    (he : ∀ (k : Nat) H1, Ex H H1 → (k : Int) < n → EvN te ((wipe σ vs).set jx (some (.int (k : Int)))) H1 (NL K ((g k).map PyData.int))) :
    EvN (tLc (iRng1 ta) (gName jx) tYes te vs) σ H (fun H' p => Dp K H' (.ref p) (.list (((List.range n.toNat).map g).map lw))) := fun H0 e Q q => h H0 e _ fun vs1 H1 e1 ps => by
  obtain ⟨a, rfl, pa⟩ := allP1 ps
  have ea := dp_int pa
  subst ea
  refine ⟨n, rfl, by omega, by omega, fun Dl hD => ?_⟩
  refine lc_range (lo := 0) (n := n.toNat) (fun i => IsLcL H1 Dl ((List.range i).map g)) ⟨hD, Ex.new hD, [], upd_same, trivial⟩ (fun i H' hi p => ?_) fun H' p => q Dl H' (fresh_back e1 p.1) (e1.trans p.2.1) (by
    obtain ⟨_, _, bs, hb, hc⟩ := p
    exact .lst hb hc.dp)
  have e0 : (0 : Int) + (i : Int) = (i : Int) := Int.zero_add _
  show wipe ((wipe σ vs).set jx (some (.int ((0 : Int) + (i : Int))))) vs = wipe σ vs ∧ tYes ((wipe σ vs).set jx (some (.int ((0 : Int) + (i : Int))))) H' fun b H3 => if b = true then te ((wipe σ vs).set jx (some (.int ((0 : Int) + (i : Int))))) H3 fun y H4 => ∃ acc, H4 Dl = some (.lst acc) ∧ acc.length < sizeLine ∧ IsLcL H1 Dl ((List.range (i + 1)).map g) (upd H4 Dl (.lst (acc ++ [y]))) else IsLcL H1 Dl ((List.range (i + 1)).map g) H3
  rw [e0]
  refine ⟨hw _, ?_⟩
  obtain ⟨p1, p2, bs, hb, hc⟩ := p
  show te _ H' _
  refine he i H' ((e.trans e1).trans p2) (by omega) H' (Ex.refl _) _ fun b H4 hbn e4 hn4 => ?_
  obtain ⟨xs, x1, x2⟩ := hn4
  rw [ints_of_dp x2] at x1
  have nb : b ≠ Dl := fun q => by rw [q, hb] at hbn; cases hbn
  have lb := hc.len
  rw [List.length_map, List.length_range] at lb
  refine ⟨bs.map V.ref, e4 _ _ hb, sz_lt (by rw [List.length_map, lb]; omega), p1, Ex.mut (p2.trans e4) p1, bs ++ [b], ?_, ?_⟩
  · rw [List.map_append]
    exact upd_same
  · rw [List.range_succ, List.map_append]
    exact Cl.snoc nb (by rw [upd_ne nb]; exact x1) (hc.mono e4).upd
end

/-! ### solve -/
def wideM (p : Int) (cols : List W) (right : W) : List W := List.zipWith (fun c x => c ++ [x % p]) cols right
abbrev slvGo (width : Nat) (tb : List W) (piv : List Nat) (i : Nat) : W := (List.range i).foldl (fun f k => f.set (piv.getD k 0) ((tb.getD k []).getD width 0)) (zeroM width)
def solveM (p : Int) (width : Nat) (cols : List W) (right : W) : W := slvGo width (redM p (width + 1) (wideM p cols right)).2.1 (redM p (width + 1) (wideM p cols right)).2.2 (redM p (width + 1) (wideM p cols right)).2.2.length
def solvable (p : Int) (width : Nat) (cols : List W) (right : W) : Prop := width ∉ (redM p (width + 1) (wideM p cols right)).2.2
theorem slvGo_len (width : Nat) (tb : List W) (piv : List Nat) (i : Nat) : (slvGo width tb piv i).length = width := by
  induction i with
  | zero =>
    show (zeroM width).length = _
    unfold zeroM
    rw [List.length_replicate]
  | succ i ih =>
    unfold slvGo at ih ⊢
    rw [List.range_succ, List.foldl_append]
    show (List.set _ _ _).length = _
    rw [List.length_set]
    exact ih
theorem slvGo_succ (width : Nat) (tb : List W) (piv : List Nat) (i : Nat) : slvGo width tb piv (i + 1) = (slvGo width tb piv i).set (piv.getD i 0) ((tb.getD i []).getD width 0) := by
  unfold slvGo
  rw [List.range_succ, List.foldl_append] <;> rfl
theorem wide_ok {p : Int} {width : Nat} {cols : List W} {right : W} (hp : 0 < p) (h : ∀ c ∈ cols, WOk p width c) : ∀ r ∈ wideM p cols right, WOk p (width + 1) r := by
  unfold wideM
  induction cols generalizing right with
  | nil => simp
  | cons c cols ih =>
    cases right with
    | nil => simp
    | cons x right =>
      intro r hr
      rw [List.zipWith_cons_cons] at hr
      rcases List.mem_cons.mp hr with rfl | hr
      · have hc := h c List.mem_cons_self
        refine ⟨by rw [List.length_append, hc.1] <;> rfl, fun y hy => ?_⟩
        rcases List.mem_append.mp hy with hy | hy
        · exact hc.2 y hy
        · rw [List.mem_singleton.mp hy]
          exact emod_ok hp x
      · exact ih (fun c hc => h c (List.mem_cons_of_mem _ hc)) r hr
theorem nw_mem {n : Nat} {ns : List Nat} : ((n : Int) ∈ nw ns) ↔ n ∈ ns := by
  unfold nw
  rw [List.mem_map]
  constructor
  · rintro ⟨m, hm, e⟩
    have : m = n := by omega
    rw [← this]
    exact hm
  · exact fun h => ⟨n, h, rfl⟩
theorem at_lw {rows : List (List Int)} {n : Nat} {x : List Int} {i : Int} (h : rows[n]? = some x) (e : i = (n : Int)) : atI (rows.map lw) i = some (lw x) := by
  rw [e]
  refine atI_nat ?_
  rw [List.getElem?_map, h] <;> rfl
section
variable {P : Program} {w : World} {K : PySem.W.Frag} {mg : Str → Option Value} {base : Heap}
def sp_solve (K : PySem.W.Frag) : Sp := spOf (fun x : List W × Nat × W × Int => [DP K (.list (x.1.map lw)), DP K (.int (x.2.1 : Int)), DP K (wd x.2.2.1), DP K (.int x.2.2.2)])
  (fun x => Pr x.2.2.2 ∧ x.2.2.1.length = x.1.length ∧ x.1.length ≤ 90 ∧ x.2.1 ≤ 90 ∧ (∀ c ∈ x.1, WOk x.2.2.2 x.2.1 c) ∧ solvable x.2.2.2 x.2.1 x.1 x.2.2.1) (fun x => DP K (wd (solveM x.2.2.2 x.2.1 x.1 x.2.2.1)))
theorem ok_solve (T : Txt K mg) : FnOk P w K mg base CX0 4 T.solve.f T.solve.fd ["rows", "width", "right", "p"] (sp_solve K) := by
  refine T.solve.F.ok sc_solve (fun vs H Q E h => spOf_len (n := 4) (fun _ => rfl) h) (fun cdv A outer s H vs Q E hr h => ?_)
  obtain ⟨⟨cols, n, right, p⟩, ps, ⟨hp, hl, hz, hn, hc, hs⟩, k⟩ := h
  dsimp only at ps hp hl hz hn hc hs k
  obtain ⟨vr, vn, vt, vp, rfl, pr, pn, pt, pp⟩ := allP4 ps
  have hp5 := pr_pos hp
  refine ⟨_, (pss_cons (ps_setLc (i := 4) (own := [("k", 6)]) (g := gName 6) rfl sc_solve.nd rfl rfl (sw_true rfl rfl rfl (by decide +kernel)) (pi_range1 (by rfl) T.z_range (pa_cons (pe_callB (kc_len K) (by rfl) T.z_len PySem.boot_len (pa_cons (pv 0) pa_nil)) pa_nil)) (blkOk_by (own := [("k", 6)]) (N := N_solve) (sc := (defScope s_solve)) (by decide +kernel)) (fun _ _ _ _ _ => pg_name (i := 6) sc_solve.nd rfl (Or.inl rfl)) (fun _ _ _ _ _ => pts_nil) (fun _ _ _ _ _ => (pe_op (ko_catA K) (pe_callTy (kc_tuple K) (by rfl) T.z_tuple (by decide +kernel) (pa_cons (pe_ix (kx_list K) (pv 0) (pv 6) (fun _ _ => rfl)) pa_nil)) (pe_tup (pa_cons (pe_op op_mod (pe_ix (kx_tup K) (pv 2) (pv 6) (fun _ _ => rfl)) (pv 3)) pa_nil)))))
      (pss_cons (ps_asg (pe_call (ok_reduced T) (hr.mono (by decide)) (by rfl) T.reduced.g T.reduced.F.kp T.reduced.b .nil pass0 (pa_cons (pv 4) (pa_cons (pe_op op_add (pv 1) pe_int) (pa_cons (pv 3) pa_nil)))) (kpg_tup K (n := 2) rfl (pgs_cons (pg_name (i := 7) sc_solve.nd rfl (Or.inl rfl)) (pgs_cons (pg_name (i := 8) sc_solve.nd rfl (Or.inl rfl)) pgs_nil))))
      (pss_cons (ps_if (pt_cmpR (ko_in K) (pv 1) (pv 8) (by rfl)) (pss_one (ps_ret pe_non)) pss_nil)
      (pss_cons (ps_set (i := 5) sc_solve.nd rfl (Or.inl rfl) (pe_op op_rep (pe_lst (pa_cons pe_int pa_nil)) (pv 1)))
      (pss_cons (ps_for PassesOwn.never rfl (pi_range1 (by rfl) T.z_range (pa_cons (pe_callB (kc_len K) (by rfl) T.z_len PySem.boot_len (pa_cons (pv 8) pa_nil)) pa_nil)) (pg_name (i := 6) sc_solve.nd rfl (Or.inl rfl)) (pss_one (ps_asg (pe_ix (kx_tup K) (pe_ix (kx_tup K) (pv 7) (pv 6) (fun _ _ => rfl)) (pv 1) (fun _ _ => rfl)) (pg_sub (pv 5) (pe_ix (kx_tup K) (pv 8) (pv 6) (fun _ _ => rfl)) set_list))))
      (pss_one (ps_ret (pe_callTy (kc_tuple K) (by rfl) T.z_tuple (by decide +kernel) (pa_cons (pv 5) pa_nil))))))))), ?_⟩
  have el : EvD K _ _ H _ := ed_lenL (ed_var (σ := start N_solve [vr, vn, vt, vp]) (n := 0) rfl pr)
  rw [List.length_map] at el
  refine q_asgN (PA := NL K (wds (wideM p cols right))) (EvN.is (en_lcR (n := (cols.length : Int)) (fun _ => true) (fun k => wd (cols.getD k [] ++ [right.getD k 0 % p])) (fun _ => tOnly_wd _) (ea_cons el ea_nil) ⟨by omega, by omega⟩ (fun _ => rfl) (fun _ _ _ _ => eb_yes) (fun i H1 e hi _ => ?_)) ?_) fun wl H1 hw1 e1 n1 => ?_
  · have hi' : i < cols.length := by omega
    have g := hc _ (List.mem_of_getElem? (getD_at [] hi'))
    refine EvP.is (ed_catT (ed_tupL (tOnly_ints _) (ed_ixL (at_lw (getD_at [] hi') rfl) (ed_var rfl (dp_mono e pr)) (ed_var rfl (.int _)))) (ed_tup (ds := [.int (right.getD i 0 % p)]) (ea_cons (ed_mod (by omega) (ed_ixT (at_int (getD_at 0 (by omega)) rfl) (ed_var rfl (dp_mono e pt)) (ed_var rfl (.int _))) (ed_var rfl (dp_mono e pp))) ea_nil) (by show 1 ≤ 100000; decide)) ?_) ?_
    · rw [List.length_map, g.1]
      show n + 1 ≤ 100000
      omega
    · show PyData.tuple _ = PyData.tuple _
      rw [List.map_append] <;> rfl
  · rw [filter_yes, Int.toNat_natCast]
    unfold wideM wds
    apply List.ext_getElem?
    intro i
    by_cases hi : i < cols.length
    · rw [List.getElem?_map, List.getElem?_range hi, List.getElem?_map, List.getElem?_zipWith, getD_at [] hi, getD_at 0 (hl.symm ▸ hi : i < right.length)] <;> rfl
    · rw [List.getElem?_eq_none (by simpa using hi), List.getElem?_eq_none (by rw [List.length_map, List.length_zipWith]; omega)]
  have ww := wide_ok (right := right) (show 0 < p by omega) hc
  have lwd : (wideM p cols right).length = cols.length := by
    unfold wideM
    rw [List.length_zipWith]
    omega
  obtain ⟨⟨_, r2, r3, r4, r5⟩, _⟩ := redGo_ok (i := n + 1) (show 0 < p by omega) ww
  have hs' : n ∉ (redGo p (wideM p cols right) (n + 1)).2.2 := hs
  have hM : solveM p n cols right = slvGo n (redGo p (wideM p cols right) (n + 1)).2.1 (redGo p (wideM p cols right) (n + 1)).2.2 (redGo p (wideM p cols right) (n + 1)).2.2.length := rfl
  have hR : ∀ {H2 : Hp} {σ : L2.St}, σ[4]? = some (some (.ref wl)) → σ[1]? = some (some vn) → σ[3]? = some (some vp) → Ex H1 H2 → EvD K _ σ H2 _ := fun {H2 σ} a1 a2 a3 e2 => ev_call (ι := List W × Nat × Int) (ar := fun x => [DP K (.list (wds x.1)), DP K (.int (x.2.1 : Int)), DP K (.int x.2.2)]) (E := E0) (pre := fun x => Pr x.2.2 ∧ x.1.length ≤ 100 ∧ x.2.1 ≤ 100 ∧ ∀ r ∈ x.1, WOk x.2.2 x.2.1 r) (res := fun x => DP K (.tuple [.tuple (wds (redM x.2.2 x.2.1 x.1).2.1), wd (nw (redM x.2.2 x.2.1 x.1).2.2)])) (wideM p cols right, n + 1, p) ⟨hp, by show (wideM p cols right).length ≤ 100; omega, by show n + 1 ≤ 100; omega, ww⟩
    (ea_cons (ed_var a1 (n1.mono e2).dp) (ea_cons (EvP.is (ed_add (ed_var a2 (dp_mono (e1.trans e2) pn)) (ed_int (i := 1))) rfl) (ea_cons (ed_var a3 (dp_mono (e1.trans e2) pp)) ea_nil)))
  refine q_asg2 (d1 := .tuple (wds (redGo p (wideM p cols right) (n + 1)).2.1)) (d2 := wd (nw (redGo p (wideM p cols right) (n + 1)).2.2)) (hR rfl rfl rfl (Ex.refl _)) fun v1 v2 H2 e2 p1 p2 => ?_
  generalize redGo p (wideM p cols right) (n + 1) = S at p1 p2 r2 r3 r4 r5 hs' hM
  obtain ⟨S0, tb, piv⟩ := S
  dsimp only at p1 p2 r2 r3 r4 r5 hs' hM
  refine q_when (b := false) (EvB.is (eb_test (K := K) (ed_inT (neg := false) (ed_var rfl (dp_mono (e1.trans e2) pn)) (ed_var rfl p2))) ?_) (fun hb => by cases hb) (fun _ H3 e3 => ?_)
  · rw [if_neg (by decide)]
    exact decide_eq_false fun q => hs' (nw_mem.mp q)
  have E3 := (e1.trans e2).trans e3
  refine q_asgN (PA := NL K ((zeroM n).map PyData.int)) (EvN.is (en_rep (d := .int 0) (n := (n : Int)) (en_lst (ds := [.int 0]) (ea_cons ed_int ea_nil) (by show 1 ≤ 100000; decide)) rfl (ed_var rfl (dp_mono E3 pn)) ⟨by omega, by omega⟩) ?_) fun l H4 hl4 e4 n4 => ?_
  · unfold zeroM
    rw [List.map_replicate, Int.toNat_natCast]
  obtain ⟨xs, x1, x2⟩ := n4
  rw [ints_of_dp x2] at x1
  have elp : EvD K _ _ H4 _ := ed_lenT (ed_var (σ := [some vr, some vn, some vt, some vp, some (.ref wl), some (.ref l), none, some v1, some v2]) (n := 8) rfl (dp_mono (e3.trans e4) p2))
  rw [List.length_map, nw_len] at elp
  have hlH : H l = none := fresh_back E3 hl4
  refine q_forR (n := (piv.length : Int)) (ea_cons elp ea_nil) ⟨by omega, by omega⟩
    (fun i σ' H' => ∃ z, σ' = [some vr, some vn, some vt, some vp, some (.ref wl), some (.ref l), z, some v1, some v2] ∧ Ex H2 H' ∧ H' l = some (.lst ((slvGo n tb piv i).map V.int)))
    (fun H5 e5 => ⟨_, rfl, (e3.trans e4).trans e5, e5 _ _ x1⟩) (fun i σ' H' hi h => ?_) (fun σ' H' h => ?_)
  · obtain ⟨z, rfl, e, hL⟩ := h
    have hi' : i < piv.length := by omega
    have hit : i < tb.length := by omega
    have gt := r2 _ (List.mem_of_getElem? (getD_at [] hit))
    have gp := r5 _ (List.mem_of_getElem? (getD_at 0 hi'))
    have gn : piv.getD i 0 ≠ n := fun q => hs' (q ▸ List.mem_of_getElem? (getD_at 0 hi'))
    refine s_setL (m := piv.getD i 0) (P := DP K (.int ((tb.getD i []).getD n 0))) hL (ed_ixT (at_int (getD_at 0 (by rw [gt.1]; omega)) rfl) (ed_ixT (at_wd (getD_at [] hit) rfl) (ed_var rfl (dp_mono e p1)) (ed_var rfl (.int _))) (ed_var rfl (dp_mono ((e1.trans e2).trans e) pn))) (ex_var rfl)
      (ed_ixT (at_int (nw_at hi') rfl) (ed_var rfl (dp_mono e p2)) (ed_var rfl (.int _))) (by rw [List.length_map, slvGo_len]; omega) fun v3 H5 e5 p5 => ⟨_, rfl, Ex.mut (e.trans e5) (fresh_back e3 hl4), ?_⟩
    rw [dp_int p5, map_set_int, slvGo_succ]
    exact upd_same
  · obtain ⟨z, rfl, e, hL⟩ := h
    rw [Int.toNat_natCast, ← hM] at hL
    exact s_ret (P := DP K (wd (solveM p n cols right))) (ed_tupL (tOnly_ints _) (ed_var rfl (.lst hL (dpAll_ints _)))) fun v3 H5 e5 p5 => k v3 H5 (((e1.trans e2).trans e).trans e5) p5

/-! ### coordinates -/
theorem cols_ok {p : Int} {n : Nat} {rows : List W} (h : ∀ r ∈ rows, WOk p n r) : ∀ c ∈ colsM rows n, WOk p rows.length c := by
  intro c hc
  unfold colsM at hc
  obtain ⟨i, hi, rfl⟩ := List.mem_map.mp hc
  have hi' := List.mem_range.mp hi
  refine ⟨by rw [List.length_map], fun x hx => ?_⟩
  obtain ⟨r, hr, rfl⟩ := List.mem_map.mp hx
  have hw := h r hr
  exact hw.2 _ (List.mem_of_getElem? (getD_at 0 (by rw [hw.1]; exact hi')))
theorem cols_len (rows : List W) (n : Nat) : (colsM rows n).length = n := by
  unfold colsM
  rw [List.length_map, List.length_range]
def sp_coordinates (K : PySem.W.Frag) : Sp := spOf (fun x : List W × W × Int => [DP K (.tuple (wds x.1)), DP K (wd x.2.1), DP K (.int x.2.2)])
  (fun x => Pr x.2.2 ∧ x.1.length ≤ 90 ∧ x.2.1.length ≤ 90 ∧ (∀ r ∈ x.1, WOk x.2.2 x.2.1.length r) ∧ solvable x.2.2 x.1.length (colsM x.1 x.2.1.length) x.2.1) (fun x => DP K (wd (solveM x.2.2 x.1.length (colsM x.1 x.2.1.length) x.2.1)))
theorem ok_coordinates (T : Txt K mg) : FnOk P w K mg base CX0 5 T.coordinates.f T.coordinates.fd ["rows", "word", "p"] (sp_coordinates K) := by
  refine T.coordinates.F.ok sc_coordinates (fun vs H Q E h => spOf_len (n := 3) (fun _ => rfl) h) (fun cdv A outer s H vs Q E hr h => ?_)
  obtain ⟨⟨rows, u, p⟩, ps, ⟨hp, hz, hn, hc, hs⟩, k⟩ := h
  dsimp only at ps hp hz hn hc hs k
  obtain ⟨vr, vu, vp, rfl, pr, pu, pp⟩ := allP3 ps
  refine ⟨_, (pss_cons (ps_setLc (i := 3) (own := [("at", 4)]) (g := gName 4) rfl sc_coordinates.nd rfl rfl (sw_true rfl rfl rfl (by decide +kernel)) (pi_range1 (by rfl) T.z_range (pa_cons (pe_callB (kc_len K) (by rfl) T.z_len PySem.boot_len (pa_cons (pv 1) pa_nil)) pa_nil)) (blkOk_by (own := [("at", 4)]) (N := N_coordinates) (sc := (defScope s_coordinates)) (by decide +kernel)) (fun _ _ _ _ _ => pg_name (i := 4) sc_coordinates.nd rfl (Or.inr rfl)) (fun _ _ _ _ _ => pts_nil) (fun _ _ _ _ _ => (pe_lc (own := [("row", 5)]) (g := gName 5) rfl sc_coordinates.nd (kpi_tup K (pv 0)) (blkOk_by (own := [("row", 5)]) (N := N_coordinates) (by kernel_rfl)) (fun _ _ _ _ _ => pg_name (i := 5) sc_coordinates.nd rfl (Or.inl rfl)) (fun _ _ _ _ _ => pts_nil) (fun _ _ _ _ _ => (pe_ix (kx_tup K) (pv 5) (pv 4) (fun _ _ => rfl))))))
      (pss_one (ps_ret (pe_call (ok_solve T) (hr.mono (by decide)) (by rfl) T.solve.g T.solve.F.kp T.solve.b .nil pass0 (pa_cons (pv 3) (pa_cons (pe_callB (kc_len K) (by rfl) T.z_len PySem.boot_len (pa_cons (pv 0) pa_nil)) (pa_cons (pv 1) (pa_cons (pv 2) pa_nil)))))))), ?_⟩
  have el : EvD K _ _ H _ := ed_lenT (ed_var (σ := start N_coordinates [vr, vu, vp]) (n := 1) rfl pu)
  rw [List.length_map] at el
  refine q_asgN (PA := fun H' p => Dp K H' (.ref p) (.list ((colsM rows u.length).map lw))) (en_lcRL (n := (u.length : Int)) (fun k => rows.map fun w => w.getD k 0) (ea_cons el ea_nil) ⟨by omega, by omega⟩ (fun _ => rfl) (fun i H1 e hi => ?_)) fun l H1 hl e1 n1 => ?_
  · refine EvN.is (en_lcT wd rows (fun _ => true) (fun w => .int (w.getD i 0)) (fun _ => rfl) (ed_var rfl (dp_mono e pr)) (by omega) (fun _ => rfl) (fun _ _ _ _ _ _ _ => eb_yes) (fun j x c H2 e2 hj px _ => ?_)) ?_
    · have hcl := (hc c (List.mem_of_getElem? hj)).1
      exact ed_ixT (at_int (getD_at 0 (by omega)) rfl) (ed_var rfl px) (ed_var rfl (.int _))
    · rw [filter_yes, List.map_map] <;> rfl
  · have el1 : EvD K _ _ H1 _ := ed_lenT (ed_var (σ := [some vr, some vu, some vp, some (.ref l), none, none]) (n := 0) rfl (dp_mono e1 pr))
    rw [List.length_map] at el1
    refine s_ret (P := DP K (wd (solveM p rows.length (colsM rows u.length) u))) (ev_call (ι := List W × Nat × W × Int) (colsM rows u.length, rows.length, u, p) ⟨hp, by show u.length = _; rw [cols_len], by show (colsM rows u.length).length ≤ 90; rw [cols_len]; exact hn, hz, cols_ok hc, hs⟩
      (ea_cons (ed_var rfl n1) (ea_cons el1 (ea_cons (ed_var rfl (dp_mono e1 pu)) (ea_cons (ed_var rfl (dp_mono e1 pp)) ea_nil))))) (fun v H2 e2 p2 => k v H2 (e1.trans e2) p2)
end
end WK

set_option Elab.async false
set_option linter.all false
set_option maxRecDepth 100000
set_option maxHeartbeats 4000000
/-! sorted of a tuple of ints; sorted of a list of words of one length. -/
namespace PyProof.Rows
open PySem PySem.Spec
section
variable {prog : Program} {w : World} {A : Around} {E : Value → Shared → Prop} {s : Shared}
theorem collect_tup {l : Addr} {vs : List Value} {Q : List Value → Shared → Prop} (hl : s.heap.IsTuple l vs.toArray)
    (h : Q vs { s with heap := (s.heap.push (seqObj "list" #[] 0)).update s.heap.objs.size (Obj.mapSeq (· ++ vs.toArray)) }) (hsz : vs.length ≤ sizeLine := by size_fits) :
    wpAny (model prog w) A (collect (.ref l)) Q E s := by
  obtain ⟨o, ho, hc, n, hd⟩ := id hl
  unfold collect
  refine wpAny_bind (wpAny_runValue (codeAny_builtin entry_proto_collect' ?_))
  show wpAny _ _ (do again (.builtin "list.__iadd__" ⟨[← newList [], .ref l], []⟩)) _ _ s
  refine wpAny_bind (wpAny_newList (wpAny_pure ⟨Code.quiet_builtin _ (by decide +kernel), codeAny_builtin entry_list_iadd' ?_⟩))
  show wpAny _ _ (Builtin.List.listExtendWith (.ref s.heap.objs.size) (.ref l) (.ref s.heap.objs.size)) _ _ { s with heap := s.heap.push (seqObj "list" #[] 0) }
  unfold Builtin.List.listExtendWith
  have ho' : (s.heap.push (seqObj "list" #[] 0)).get? l = some o := Heap.get?_push_of_some _ ho
  refine wpAny_bind (wpAny_typeOf (T := "tuple") ⟨o, ho', hc⟩ ?_)
  have ht : (Value.type "tuple" == Value.type "tuple") = true := by rfl
  rw [if_pos (by rw [ht]; simp)]
  refine wpAny_bind (listItems_at ho' hd ?_)
  refine wpAny_bind (listItems_at (xs := #[]) (n := 0) (Heap.get?_push_size _ rfl) rfl ?_)
  rw [if_neg (by simp)]
  refine wpAny_bind (listUpdate_at (xs := #[]) (n := 0) (Heap.get?_push_size _ rfl) rfl ?_ (Nat.zero_le _) (by show (#[] ++ vs.toArray).size ≤ sizeLine + 1; simp only [Array.size_append, List.size_toArray, List.length_nil]; omega))
  refine wpAny_pure ?_
  show wpAny (model prog w) A (do
      let o ← load s.heap.objs.size
      match o.data with
      | .seq xs _ => pure xs.toList
      | _ => unsupported "internal:collect") Q E { s with heap := (s.heap.push (seqObj "list" #[] 0)).update s.heap.objs.size (Obj.mapSeq (· ++ vs.toArray)) }
  refine wpAny_bind (wpAny_load (get?_update_seq (Heap.get?_push_size _ rfl) _) ?_)
  show wpAny _ _ (pure ((#[] : Array Value) ++ vs.toArray).toList) Q E _
  rw [show ((#[] : Array Value) ++ vs.toArray).toList = vs by simp]
  exact wpAny_pure h
theorem sorted_intsT {l : Addr} {vs : List Value} {ns : List Int} {Q : Value → Shared → Prop} (hl : s.heap.IsTuple l vs.toArray) (hI : IntsAre vs ns) (h64 : vs.length < 64)
    (h : ∀ (out : Array Value) (ns' : List Int), IntsAre out.toList ns' → ns'.Perm ns → ns'.Pairwise (· ≤ ·) → Q (.ref (s.heap.objs.size + 1)) { s with heap := sortedAll s.heap vs out }) :
    wpAny (model prog w) A (call (.builtin "sorted") [.ref l]) Q E s := by
  refine Calls.call_function_entry kind_sorted plain_sorted entry_sorted (args_sorted1 _) ?_
  unfold Builtin.«sorted»
  refine wpAny_bind (m := checkCount "sorted" 1 1 _) (wpAny_pure ?_)
  refine wpAny_bind (collect_tup hl ?_)
  refine wpAny_bind (wpAny_newList ?_)
  have hsz : ((s.heap.push (seqObj "list" #[] 0)).update s.heap.objs.size (Obj.mapSeq (· ++ vs.toArray))).objs.size = s.heap.objs.size + 1 := by
    rw [Heap.size_update, size_push']
  have hoL : (((s.heap.push (seqObj "list" #[] 0)).update s.heap.objs.size (Obj.mapSeq (· ++ vs.toArray))).push (seqObj "list" vs.toArray 0)).get? (s.heap.objs.size + 1) = some (seqObj "list" vs.toArray 0) := by
    rw [← hsz]; exact Heap.get?_push_size _ rfl
  show wpAny _ _ _ _ _ { s with heap := ((s.heap.push (seqObj "list" #[] 0)).update s.heap.objs.size (Obj.mapSeq (· ++ vs.toArray))).push (seqObj "list" vs.toArray 0) }
  rw [hsz]
  refine wpAny_bind (wpAny_holding (wpAny_call_entry slot_list_sort ⟨_, hoL, rfl⟩ entry_list_sort (list_sort_tree hoL hI h64 fun out ns' a1 a2 a3 => ⟨_, rfl, ?_⟩) (args_list_sort _)))
  exact wpAny_pure ⟨_, rfl, h out ns' a1 a2 a3⟩
end
end PyProof.Rows
namespace WK
open PySem PySem.Spec PyProof.Rows L2
open Evl (Ex ex_l ex_t ex_rd sq_of st_of sz_of sz_lt fresh_back rLenS rListS)
def rSortTI (K : PySem.W.Frag) : List V → Hp → VK → Prop := fun vs H Q => ∃ (a : Addr) (ns : List Int), vs = [V.ref a] ∧ SqT K H a (ns.map V.int) ∧ ns.length < 64 ∧
  ∀ (ns' : List Int) (p : Addr), ns'.Perm ns → ns'.Pairwise (· ≤ ·) → H p = none → Q (.ref p) (upd H p (.lst (ns'.map V.int)))
def rSortW (K : PySem.W.Frag) : List V → Hp → VK → Prop := fun vs H Q => ∃ (a : Addr) (xs : List V) (d : Nat) (B : Int), vs = [V.ref a] ∧ SqL K H a xs ∧ xs.length < 64 ∧ (∀ x ∈ xs, ∃ ns, TupI K H x ns ∧ ns.length = d ∧ TS.Bd B ns) ∧ (d = 0 → xs.length ≤ 1) ∧
  ∀ (ys : List V) (p : Addr), ys.Perm xs → ys.Pairwise (fun x y => ∀ n m, TupI K H x n → TupI K H y m → TS.code B n ≤ TS.code B m) → H p = none → Q (.ref p) (upd H p (.lst ys))
section
variable {X : Cx}
theorem cr_sortTI : CallR X (.builtin "sorted") (rSortTI X.K) := by
  intro pins s σ H vs us Q I r h
  obtain ⟨a, ns, rfl, hs, h64, q⟩ := h
  obtain ⟨its, rv, hl, _⟩ := I.tuple hs
  rw [Vals.ref1 r]
  have hi := rv.ints
  refine PyProof.Rows.sorted_intsT hl hi (by rw [hi.length]; exact h64) fun out ns' h1 h2 h3 => ?_
  obtain ⟨ep, he'⟩ := PyProof.Rows.sortedAll_at s.heap its out
  have hlen : (ns'.map V.int).length ≤ sizeLine := by rw [List.length_map, h2.length_eq]; exact small64 h64
  exact ⟨.ref _, upd H (s.heap.objs.size + 1) (.lst (ns'.map V.int)), I.laid (t' := s.toks) (fun _ _ => PyProof.Rows.sortedAll_old) (Nat.le_succ _) ⟨hlen, out.toList, ep, vals_of_ints h1, he'⟩, rfl, q ns' _ h2 h3 (I.hok.fresh (Nat.le_succ _))⟩
theorem cr_sortW : CallR X (.builtin "sorted") (rSortW X.K) := by
  intro pins s σ H vs us Q I r h
  obtain ⟨a, xs, d, B, rfl, hs, h64, hx, h0, q⟩ := h
  by_cases hd : 1 ≤ d
  · exact cr_sortT (d := d) (B := B) hd pins s σ H _ us Q I r ⟨a, xs, rfl, hs, h64, hx, q⟩
  · have h1 : xs.length ≤ 1 := h0 (by omega)
    obtain ⟨its, rv, hl, hz⟩ := I.list hs
    rw [Vals.ref1 r]
    have hlr := rv.length
    refine Srt.sorted_any hl.isList (by omega) (fun h2 => absurd h2 (by omega)) fun out h2 => ?_
    have eo : out = its := by
      have l2 := h2.length_eq
      cases its with
      | nil => exact List.eq_nil_of_length_eq_zero (by simpa using l2)
      | cons z zs =>
        have : zs = [] := List.eq_nil_of_length_eq_zero (by rw [List.length_cons] at hlr; omega)
        subst this
        exact List.perm_singleton.mp h2
    subst eo
    obtain ⟨ep, he'⟩ := PyProof.Rows.sortedAll_at s.heap out out.toArray
    refine ⟨.ref _, upd H (s.heap.objs.size + 1) (.lst xs), I.laid (t' := s.toks) (fun _ _ => PyProof.Rows.sortedAll_old) (Nat.le_succ _) ⟨hz, out, ep, rv, he'⟩, rfl, q xs _ (List.Perm.refl _) ?_ (I.hok.fresh (Nat.le_succ _))⟩
    cases xs with
    | nil => exact List.Pairwise.nil
    | cons x r =>
      have : r = [] := List.eq_nil_of_length_eq_zero (by rw [List.length_cons] at h1; omega)
      subst this
      exact List.pairwise_singleton _ _
theorem kc_sortTI (K : PySem.W.Frag) (hK : X.K = K := by rfl) : CallR X (.builtin "sorted") (rSortTI K) := hK ▸ cr_sortTI
theorem kc_sortW (K : PySem.W.Frag) (hK : X.K = K := by rfl) : CallR X (.builtin "sorted") (rSortW K) := hK ▸ cr_sortW
end
section
variable {K : PySem.W.Frag} {σ : L2.St} {H H' : Hp} {ta tb : TE} {d : PyData}
theorem en_sortTI {ns : List Int} (ha : EvD K ta σ H (wd ns)) (h64 : ns.length < 64) : EvN (tCB (rSortTI K) (tCons ta tNil)) σ H (fun H' p => ∃ ns' : List Int, ns'.Perm ns ∧ ns'.Pairwise (· ≤ ·) ∧ NL K (ns'.map PyData.int) H' p) := en_cb (ea_cons ha ea_nil) fun vs H1 _ ps Q q => by
  obtain ⟨a, rfl, pa⟩ := allP1 ps
  obtain ⟨p, rfl, s⟩ := dp_wd pa
  exact ⟨p, ns, rfl, s, h64, fun ns' l h1 h2 hl => q l _ hl (ex_of_new hl) ⟨ns', h1, h2, _, upd_same, dpAll_ints _⟩⟩
/-- words of one length, sorted -/
theorem dpAll_perm {H : Hp} {xs ys : List V} {ws : List (List Int)} (hp : ys.Perm xs) (h : DpAll K H xs (wds ws)) : ∃ ws', ws'.Perm ws ∧ DpAll K H ys (wds ws') := by
  induction hp generalizing ws with
  | nil => exact ⟨ws, List.Perm.refl _, h⟩
  | cons x _ ih =>
    cases ws with
    | nil => cases h
    | cons w ws =>
      cases h with
      | cons a r =>
        obtain ⟨ws', p, q⟩ := ih r
        exact ⟨w :: ws', p.cons w, .cons a q⟩
  | swap x y l =>
    cases ws with
    | nil => cases h
    | cons w ws =>
      cases ws with
      | nil =>
        cases h with
        | cons a r => cases r
      | cons w2 ws =>
        cases h with
        | cons a r =>
          cases r with
          | cons b r => exact ⟨w2 :: w :: ws, List.Perm.swap _ _ _, .cons b (.cons a r)⟩
  | trans _ _ ih1 ih2 =>
    obtain ⟨w1, p1, q1⟩ := ih2 h
    obtain ⟨w2, p2, q2⟩ := ih1 q1
    exact ⟨w2, p2.trans p1, q2⟩
theorem dpAll_mem {H : Hp} {xs : List V} {ws : List (List Int)} (h : DpAll K H xs (wds ws)) {x : V} (hx : x ∈ xs) : ∃ w ∈ ws, Dp K H x (wd w) := by
  obtain ⟨i, hi⟩ := List.mem_iff_getElem?.mp hx
  have hl := dpAll_len h
  rw [List.length_map] at hl
  have hil : i < ws.length := by
    have := (List.getElem?_eq_some_iff.mp hi).1
    omega
  obtain ⟨v, h1, h2⟩ := dpAll_at h (i := i) (d := wd ws[i]) (by rw [List.getElem?_map, List.getElem?_eq_getElem hil] <;> rfl)
  rw [hi] at h1
  cases h1
  exact ⟨_, List.getElem_mem hil, h2⟩
theorem pw_dp {H : Hp} {B : Int} : ∀ {ys : List V} {ws : List (List Int)}, DpAll K H ys (wds ws) → ys.Pairwise (fun x y => ∀ n m, TupI K H x n → TupI K H y m → TS.code B n ≤ TS.code B m) → ws.Pairwise (fun a b => TS.code B a ≤ TS.code B b)
  | _, [], _, _ => List.Pairwise.nil
  | _, w :: ws, .cons a r, h => by
    rw [List.pairwise_cons] at h ⊢
    refine ⟨fun w2 hw2 => ?_, pw_dp r h.2⟩
    obtain ⟨i, hi⟩ := List.mem_iff_getElem?.mp hw2
    obtain ⟨v, h1, h2⟩ := dpAll_at r (i := i) (d := wd w2) (by rw [List.getElem?_map, hi] <;> rfl)
    obtain ⟨b, rfl, hb⟩ := dp_wd a
    obtain ⟨c, rfl, hc⟩ := dp_wd h2
    exact h.1 _ (List.mem_of_getElem? h1) w w2 ⟨b, rfl, hb⟩ ⟨c, rfl, hc⟩
theorem en_sortW {ws : List (List Int)} {d : Nat} {B : Int} (ha : EvD K ta σ H (.list (wds ws))) (h64 : ws.length < 64) (hw : ∀ w ∈ ws, w.length = d ∧ TS.Bd B w) (h0 : d = 0 → ws.length ≤ 1) :
    EvN (tCB (rSortW K) (tCons ta tNil)) σ H (fun H' p => ∃ ws' : List (List Int), ws'.Perm ws ∧ ws'.Pairwise (fun a b => TS.code B a ≤ TS.code B b) ∧ NL K (wds ws') H' p) := en_cb (ea_cons ha ea_nil) fun vs H1 _ ps Q q => by
  obtain ⟨a, rfl, pa⟩ := allP1 ps
  obtain ⟨p, xs, rfl, s, al⟩ := dp_lst pa
  have hl := dpAll_len al
  rw [List.length_map] at hl
  refine ⟨p, xs, d, B, rfl, s, by omega, fun x hx => ?_, fun h => by rw [hl]; exact h0 h, fun ys l h1 h2 hn => ?_⟩
  · obtain ⟨w, hw1, hw2⟩ := dpAll_mem al hx
    obtain ⟨b, rfl, hb⟩ := dp_wd hw2
    exact ⟨w, ⟨b, rfl, hb⟩, hw w hw1⟩
  · obtain ⟨ws', p1, p2⟩ := dpAll_perm h1 al
    exact q l _ hn (ex_of_new hn) ⟨ws', p1, pw_dp p2 h2, ys, upd_same, dpAll_mono (ex_of_new hn) p2⟩
end
end WK

set_option Elab.async false
set_option linter.all false
set_option maxRecDepth 100000
set_option maxHeartbeats 4000000
/-! Monomial, first_map. -/
namespace WK
open PySem PySem.Spec PyProof.Rows L2 WM
open Evl (Ex ex_l ex_t ex_rd sq_of st_of sz_of sz_lt fresh_back rLenS rListS)

theorem shaped_lw (u : List Int) : SeqAt.shaped (lw u) = true := by
  unfold SeqAt.shaped
  have h1 : (lw u).canLay0 = true := canLay_ints u
  have h2 : (lw u).depth ≤ 64 := by
    have := depth_ints u
    show PyData.depth (.list _) ≤ 64
    simp only [PyData.depth]
    omega
  rw [h1, decide_eq_true h2] <;> rfl
theorem eqv_lw (u v : List Int) : PyData.eqv (lw u) (lw v) = decide (u = v) := by
  show PyData.eqv (.list _) (.list _) = _
  simp only [PyData.eqv]
  exact eqvAll_ints u v
section
variable {K : PySem.W.Frag} {σ : L2.St} {H H' : Hp} {ta tb tc te td ty tv to : TE} {P : VP} {D : Ends} {tz : TS} {d : PyData}
/-- list(range(n)) -/
theorem en_listRg {n : Nat} (ha : EvD K ta σ H (.int (n : Int))) (hn : n ≤ 1000) : EvN (tLstRg (tRg1 ta)) σ H (NL K ((nw (List.range n)).map PyData.int)) := fun H1 e Q q => ha H1 e _ fun v H2 e2 p => by
  have ev := dp_int p
  subst ev
  refine ⟨(n : Int), rfl, ⟨by omega, by omega, by omega, by omega, by omega⟩, fun l hl => q l _ (fresh_back e2 hl) (e2.trans (ex_of_new hl)) ⟨_, upd_same, ?_⟩⟩
  have e0 : rgV 0 (n : Int) = (nw (List.range n)).map V.int := by
    unfold rgV nw
    rw [List.map_map, show ((n : Int) - 0).toNat = n by omega]
    refine List.map_congr_left fun i _ => ?_
    show V.int (0 + (i : Int)) = V.int (i : Int)
    rw [Int.zero_add]
  rw [e0]
  exact dpAll_ints _
/-- an __init__'s promise -/
def spInit {ι : Type} (C : Addr) (ar : ι → List VP) (pre : ι → Prop) (res : ι → Hp → Addr → Prop) : Sp := fun vs H Q _ => ∃ x a dx r, vs = V.ref a :: r ∧ AllP (ar x) H r ∧ H a = some (.ins C dx []) ∧ pre x ∧ ∀ H', (∀ b o, b ≠ a → H b = some o → H' b = some o) → res x H' a → Q .non H'
theorem spInit_len {ι : Type} {C : Addr} {ar : ι → List VP} {pre : ι → Prop} {res : ι → Hp → Addr → Prop} {n : Nat} (hn : ∀ x, (ar x).length = n) {vs : List V} {H : Hp} {Q : VK} {E : XK} (h : spInit C ar pre res vs H Q E) : vs.length = n + 1 := by
  obtain ⟨x, a, dx, r, rfl, ps, _⟩ := h
  rw [List.length_cons, allP_len ps, hn]
theorem en_make {ι : Type} {C : Addr} {ar : ι → List VP} {pre : ι → Prop} {res : ι → Hp → Addr → Prop} {E : XK} {ta : TA} (hm : ∀ x H H' vs, Ex H H' → AllP (ar x) H vs → AllP (ar x) H' vs) (x : ι) (hp : pre x) (ha : EvA ta σ H (ar x)) : EvN (tMake C (spInit C ar pre res) [] E ta) σ H (res x) := fun H1 e Q q =>
  ha H1 e _ fun vs H2 e2 ps => by
    rw [List.append_nil]
    intro a dx h1 h2 hne
    have hne' : a ≠ dx := Ne.symm hne
    have e3 : Ex H2 (upd (upd H2 dx (.own a)) a (.ins C dx [])) := (ex_of_new h2).trans (ex_of_new (by rw [upd_ne hne']; exact h1))
    refine ⟨x, a, dx, vs, rfl, hm x _ _ vs e3 ps, upd_same, hp, fun H' hk r => ⟨rfl, q a H' (fresh_back e2 h1) (e2.trans fun b o hb => ?_) r⟩⟩
    exact hk b o (fun q => by rw [q, h1] at hb; cases hb) (e3 b o hb)
/-- what a store at a leaves -/
theorem keep_upd {H H1 : Hp} {a : Addr} {o : HO} (h : ∀ b u, b ≠ a → H b = some u → H1 b = some u) : ∀ b u, b ≠ a → H b = some u → upd H1 a o b = some u := fun b u hb q => by
  rw [upd_ne hb]
  exact h b u hb q
theorem keep_ex {H H1 H2 : Hp} {a : Addr} (h : ∀ b u, b ≠ a → H b = some u → H1 b = some u) (e : Ex H1 H2) : ∀ b u, b ≠ a → H b = some u → H2 b = some u := fun b u hb q => e b u (h b u hb q)
end

/-! ### Monomial -/
def MonAt (K : PySem.W.Frag) (C : Addr) (p : Int) (pl mu : W) (H : Hp) (a : Addr) : Prop := ∃ dx vl vm, H a = some (.ins C dx [("p", .int p), ("places", vl), ("multiples", vm)]) ∧ Dp K H vl (wd pl) ∧ Dp K H vm (wd mu)
def monOk (p : Int) (pl mu : W) : Prop := ∃ ps : List Nat, pl = nw ps ∧ ps.Perm (List.range mu.length) ∧ mu.length < 64 ∧ ∀ m ∈ mu, 1 ≤ m ∧ m < p
section
variable {P : Program} {w : World} {K : PySem.W.Frag} {mg : Str → Option Value} {base : Heap}
def sp_Mon (K : PySem.W.Frag) (C : Addr) : Sp := spInit C (fun x : Int × W × W => [DP K (.int x.1), DP K (wd x.2.1), DP K (wd x.2.2)]) (fun x => x.1 ∈ ([2, 3, 5, 7] : List Int) ∧ monOk x.1 x.2.1 x.2.2) (fun x => MonAt K C x.1 x.2.1 x.2.2)
theorem mono3 {d1 d2 d3 : PyData} {H H' : Hp} {vs : List V} (e : Ex H H') (h : AllP [DP K d1, DP K d2, DP K d3] H vs) : AllP [DP K d1, DP K d2, DP K d3] H' vs := by
  obtain ⟨a, b, c, rfl, h1, h2, h3⟩ := allP3 h
  exact ⟨dp_mono e h1, dp_mono e h2, dp_mono e h3, trivial⟩
theorem sorted_nw {ns' : List Int} {ps : List Nat} {n : Nat} (h1 : ns'.Perm (nw ps)) (h2 : ns'.Pairwise (· ≤ ·)) (h3 : ps.Perm (List.range n)) : ns' = nw (List.range n) := by
  have hp : ns'.Perm (nw (List.range n)) := h1.trans (h3.map _)
  refine List.Perm.eq_of_pairwise (le := (· ≤ ·)) (fun a b _ _ x y => by omega) h2 ?_ hp
  unfold nw
  rw [List.pairwise_map]
  refine List.Pairwise.imp (fun {a b} h => ?_) List.pairwise_lt_range
  omega
theorem ok_Monomial_init (T : Txt K mg) : FnOk P w K mg base CX0 3 T.Monomial_init.f T.Monomial_init.fd ["self", "p", "places", "multiples"] (sp_Mon K T.cMon) := by
  refine T.Monomial_init.F.ok sc_Monomial_init (fun vs H Q E h => spInit_len (n := 3) (fun _ => rfl) h) (fun cdv A outer s H vs Q E hr h => ?_)
  obtain ⟨⟨p, pl, mu⟩, a, dx, r, rfl, ps, hA, ⟨hp, ⟨pn, rfl, hperm, h64, hmu⟩⟩, k⟩ := h
  dsimp only at ps hp hperm h64 hmu k
  obtain ⟨vp, vl, vm, rfl, pp, pl0, pm⟩ := allP3 ps
  have hlen : pn.length = mu.length := by
    have := hperm.length_eq
    rw [List.length_range] at this
    exact this
  refine ⟨_, (pss_cons (ps_expr (pe_call (ok_check_prime T) (hr.mono (by decide)) (by rfl) T.check_prime.g T.check_prime.F.kp T.check_prime.b .nil pass0 (pa_cons (pv 1) pa_nil)))
      (pss_cons (ps_if (PW.pt (pw_or (pt_not (pt_val (pe_callB (kc_isi K) (by rfl) T.z_isinstance (by decide +kernel) (pa_cons (pv 2) (pa_cons (pe_bltn (v := .ty "tuple") rfl T.z_tuple (by decide +kernel) rfl) pa_nil))))) (pw_or (pt_not (pt_val (pe_callB (kc_isi K) (by rfl) T.z_isinstance (by decide +kernel) (pa_cons (pv 3) (pa_cons (pe_bltn (v := .ty "tuple") rfl T.z_tuple (by decide +kernel) rfl) pa_nil))))) (pw_or1 (pt_cmpR op_ne (pe_callB (kc_len K) (by rfl) T.z_len PySem.boot_len (pa_cons (pv 2) pa_nil)) (pe_callB (kc_len K) (by rfl) T.z_len PySem.boot_len (pa_cons (pv 3) pa_nil)) (nomark _)))))) (pss_one ps_never) pss_nil)
      (pss_cons (ps_for PassesOwn.never rfl (kpi_tup K (pv 2)) (pg_name (i := 4) sc_Monomial_init.nd rfl (Or.inl rfl)) (pss_one (ps_if (pt_not (pt_val (pe_call (ok_is_integer T) (hr.mono (by decide)) (by rfl) T.is_integer.g T.is_integer.F.kp T.is_integer.b .nil pass0 (pa_cons (pv 4) pa_nil)))) (pss_one ps_never) pss_nil)))
      (pss_cons (ps_if (pt_cmpR (ko_neD K hr) (pe_callB (kc_sortTI K) (by rfl) T.z_sorted (by decide +kernel) (pa_cons (pv 2) pa_nil)) (pe_listRg rfl (by rfl) T.z_list (prg_1 (by rfl) T.z_range (pe_callB (kc_len K) (by rfl) T.z_len PySem.boot_len (pa_cons (pv 2) pa_nil)))) (nomark _)) (pss_one ps_never) pss_nil)
      (pss_cons (ps_for PassesOwn.never rfl (kpi_tup K (pv 3)) (pg_name (i := 4) sc_Monomial_init.nd rfl (Or.inl rfl)) (pss_one (ps_if (PW.pt (pw_or (pt_not (pt_val (pe_call (ok_is_integer T) (hr.mono (by decide)) (by rfl) T.is_integer.g T.is_integer.F.kp T.is_integer.b .nil pass0 (pa_cons (pv 4) pa_nil)))) (pw_or (pt_cmpR op_lt (pv 4) pe_int (nomark _)) (pw_or1 (pt_cmpR op_ge (pv 4) (pv 1) (nomark _)))))) (pss_one ps_never) pss_nil)))
      (pss_cons (kps_fld K (pv 0) (pv 1))
      (pss_cons (kps_fld K (pv 0) (pv 2))
      (pss_one (kps_fld K (pv 0) (pv 3)))))))))), ?_⟩
  refine q_drop (P := XP .non) (ev_call (ι := Int) p hp (ea_cons (ed_var rfl pp) ea_nil)) fun _ H1 e1 _ => ?_
  have isi : ∀ {d : PyData} {i : Nat} {v : V} {ds : List PyData}, d = .tuple ds → [some (V.ref a), some vp, some vl, some vm, none][i]? = some (some v) → Dp K H v d → EvB (tNot (tB (tCB (rIsi K) (tCons (tVar i) (tCons (tC (.ty "tuple")) tNil))))) [some (V.ref a), some vp, some vl, some vm, none] H1 false := fun {d i v ds} hd hi hv => by
    subst hd
    exact EvB.is (eb_not (eb_B (ed_isi (K := K) (kit_tuple (d := .tuple ds) rfl) (ed_var (K := K) (n := i) hi (dp_mono e1 hv))))) rfl
  refine q_when (b := false) (EvB.is (eb_or (isi rfl (i := 2) rfl pl0) fun _ => eb_or (isi rfl (i := 3) rfl pm) fun _ => eb_test (K := K) (ed_neI (ed_lenT (ed_var rfl (dp_mono e1 pl0))) (ed_lenT (ed_var rfl (dp_mono e1 pm))))) ?_) (fun hb => by cases hb) (fun _ H2 e2 => ?_)
  · rw [List.length_map, List.length_map, nw_len, hlen, decide_eq_true rfl] <;> rfl
  have E2 := e1.trans e2
  obtain ⟨al, rfl, sl⟩ := dp_wd pl0
  refine q_forTn (a := al) (ex_var rfl) (ex_t E2 sl) (fun i σ' H' => ∃ z, σ' = [some (V.ref a), some vp, some (.ref al), some vm, z] ∧ Ex H2 H') (fun H3 e3 => ⟨_, rfl, e3⟩) (fun i σ' H' ⟨_, _, e⟩ => e) (fun i x σ' H' hi h => ?_) (fun σ' H' h => ?_)
  · obtain ⟨z, rfl, e⟩ := h
    obtain ⟨y, hy, rfl⟩ := at_of_map hi
    refine s_when (b := false) (EvB.is (eb_not (eb_B (K := K) (ev_call (ι := PyData) (ar := fun d => [DP K d]) (pre := fun d => plainD d = true) (res := fun d => DP K (.bool (isIntD d))) (E := E0) (.int y) rfl (ea_cons (ed_var rfl (.int _)) ea_nil)))) rfl) (fun hb => by cases hb) (fun _ H4 e4 => ⟨_, rfl, e.trans e4⟩)
  obtain ⟨z, rfl, e3⟩ := h
  have E3 := E2.trans e3
  have el : EvD K _ _ H' _ := ed_lenT (ed_var (σ := [some (V.ref a), some vp, some (.ref al), some vm, z]) (n := 2) rfl (dp_mono E3 pl0))
  rw [List.length_map, nw_len, hlen] at el
  refine q_when (b := false) (?_ : EvB _ _ _ _) (fun hb => by cases hb) (fun _ H4 e4 => ?_)
  · refine EvB.is (eb_test (K := K) (b := !decide (nw (List.range mu.length) = nw (List.range mu.length))) ?_) (by rw [decide_eq_true rfl] <;> rfl)
    refine EvP.is (ed_neD (shaped_lw _) (shaped_lw _) (d := lw (nw (List.range mu.length))) (d2 := lw (nw (List.range mu.length))) ?_ (EvN.ls (en_listRg el (by omega)))) (by rw [eqv_lw])
    refine EvN.p (en_sortTI (ed_var rfl (dp_mono E3 pl0)) (by rw [nw_len]; omega)) fun H5 q hq => ?_
    obtain ⟨ns', h1, h2, h3⟩ := hq
    rw [sorted_nw h1 h2 hperm] at h3
    exact h3.dp
  have E4 := E3.trans e4
  obtain ⟨am, rfl, sm⟩ := dp_wd pm
  refine q_forTn (a := am) (ex_var rfl) (ex_t E4 sm) (fun i σ' H' => ∃ z, σ' = [some (V.ref a), some vp, some (.ref al), some (.ref am), z] ∧ Ex H4 H') (fun H5 e5 => ⟨_, rfl, e5⟩) (fun i σ' H' ⟨_, _, e⟩ => e) (fun i x σ' H' hi h => ?_) (fun σ' H' h => ?_)
  · obtain ⟨z, rfl, e⟩ := h
    obtain ⟨y, hy, rfl⟩ := at_of_map hi
    have hb := hmu y (List.mem_of_getElem? hy)
    refine s_when (b := false) (EvB.is (eb_or (eb_not (eb_B (K := K) (ev_call (ι := PyData) (ar := fun d => [DP K d]) (pre := fun d => plainD d = true) (res := fun d => DP K (.bool (isIntD d))) (E := E0) (.int y) rfl (ea_cons (ed_var rfl (.int _)) ea_nil)))) fun _ => eb_or (eb_test (K := K) (ed_lt (ed_var rfl (.int y)) ed_int)) fun _ => eb_test (K := K) (ed_ge (ed_var rfl (.int y)) (ed_var rfl (dp_mono (E4.trans e) pp)))) ?_) (fun hb => by cases hb) (fun _ H5 e5 => ⟨_, rfl, e.trans e5⟩)
    rw [decide_eq_false (show ¬ y < 1 by omega), decide_eq_false (show ¬ p ≤ y by omega)] <;> rfl
  obtain ⟨z, rfl, e5⟩ := h
  have E5 := E4.trans e5
  have hA5 := E5 _ _ hA
  refine q_fld (P := DP K (.int p)) (ed_var rfl (dp_mono E5 pp)) (ex_var rfl) hA5 T.cl_Mon (T.no_Mon "p" (by decide)) (by decide) fun v1 H6 e6 p6 => ?_
  have k6 : ∀ b u, b ≠ a → H b = some u → upd H6 a (.ins T.cMon dx (putF "p" v1 [])) b = some u := keep_upd (keep_ex (fun b u _ q => q) (E5.trans e6))
  have pl6 : Dp K (upd H6 a (.ins T.cMon dx (putF "p" v1 []))) (.ref al) (wd (nw pn)) := dp_upd (nt_ins (e6 _ _ hA5)) (tOnly_wd _) (dp_mono (E5.trans e6) pl0)
  have pm6 : Dp K (upd H6 a (.ins T.cMon dx (putF "p" v1 []))) (.ref am) (wd mu) := dp_upd (nt_ins (e6 _ _ hA5)) (tOnly_wd _) (dp_mono (E5.trans e6) pm)
  have ev1 := dp_int p6
  subst ev1
  generalize hG6 : upd H6 a (.ins T.cMon dx (putF "p" (.int p) [])) = G6 at k6 pl6 pm6
  have hA6 : G6 a = some (.ins T.cMon dx [("p", .int p)]) := by rw [← hG6]; exact upd_same
  refine q_fld (P := DP K (wd (nw pn))) (ed_var rfl pl6) (ex_var rfl) hA6 T.cl_Mon (T.no_Mon "places" (by decide)) (by show 1 < 1000; decide) fun v2 H7 e7 p7 => ?_
  have k7 := keep_upd (o := .ins T.cMon dx (putF "places" v2 [("p", .int p)])) (keep_ex k6 e7)
  have pl7 := dp_upd (o := .ins T.cMon dx (putF "places" v2 [("p", .int p)])) (nt_ins (e7 _ _ hA6)) (tOnly_wd _) p7
  have pm7 := dp_upd (o := .ins T.cMon dx (putF "places" v2 [("p", .int p)])) (nt_ins (e7 _ _ hA6)) (tOnly_wd _) (dp_mono e7 pm6)
  generalize hG7 : upd H7 a (.ins T.cMon dx (putF "places" v2 [("p", .int p)])) = G7 at k7 pl7 pm7
  have hA7 : G7 a = some (.ins T.cMon dx [("p", .int p), ("places", v2)]) := by rw [← hG7]; exact upd_same
  refine s_fld (P := DP K (wd mu)) (ed_var rfl pm7) (ex_var rfl) hA7 T.cl_Mon (T.no_Mon "multiples" (by decide)) (by show 2 < 1000; decide) fun v3 H8 e8 p8 => ?_
  exact k _ (keep_upd (keep_ex k7 e8)) ⟨dx, v2, v3, upd_same, dp_upd (nt_ins (e8 _ _ hA7)) (tOnly_wd _) (dp_mono e8 pl7), dp_upd (nt_ins (e8 _ _ hA7)) (tOnly_wd _) p8⟩
end
end WK

set_option Elab.async false
set_option linter.all false
set_option maxRecDepth 100000
set_option maxHeartbeats 4000000
/-! first_map. -/
namespace WK
open PySem PySem.Spec PyProof.Rows L2 WM
open Evl (Ex ex_l ex_t ex_rd sq_of st_of sz_of sz_lt fresh_back rLenS rListS)
section
variable {K : PySem.W.Frag} {σ : L2.St} {H H' : Hp} {ta tb tc te td ty tv to : TE} {P : VP} {D : Ends} {tz : TS} {d : PyData}
theorem q_dputT {p : Addr} {t : Tab} {k x : W} (hd : DT K t H p) (hlen : t.length < 90000) (hv : EvD K tv σ H (wd x)) (hx : EvP td σ H (XP (.ref p))) (hy : EvD K ty σ H (wd k)) (kk' : ∀ o H1, Ex H H1 → (∀ xs, H1 p ≠ some (.tup xs)) → DT K (tabPut t k x) (upd H1 p o) p → tz D σ (upd H1 p o)) :
    tSeq (sDPut td ty tv) tz D σ H := s_dputT (D := { D with nx := tz D }) hd hlen hv hx hy kk'
/-- xs[1:] -/
theorem cut1 (ds : List PyData) : cutD ds (some 1) none = ds.drop 1 := by
  unfold cutD
  have h1 : HT.sIx ds.length 0 (some 1) = min 1 ds.length := HT.sIx_nat ds.length 0 1
  rw [h1, HT.sIx_none]
  cases ds with
  | nil => rfl
  | cons a r =>
    rw [show min 1 (a :: r).length = 1 by rw [List.length_cons]; omega]
    exact List.take_of_length_le (by rw [List.length_drop]; exact Nat.le_refl _)
theorem NL.updT {ds : List PyData} {p l : Addr} {kvs : List (List Key × V)} {o : HO} (hl : H l = some (.dT kvs)) (ht : tOnlyAll ds = true) (h : NL K ds H p) : NL K ds (upd H l o) p := by
  obtain ⟨xs, h1, h2⟩ := h
  have ne : p ≠ l := fun e => by rw [e, hl] at h1; cases h1
  exact ⟨xs, by rw [upd_ne ne]; exact h1, dpAll_upd (fun ys q => by rw [hl] at q; cases q) ht h2⟩
end
def firstGo (p : Int) (tcs : List W) : List W → Tab → W → W → Option (W × W)
  | [], _, pl, mu => some (pl, mu)
  | c :: r, left, pl, mu => match tabGet left (lineM p c) with
    | some (a :: as) => firstGo p tcs r (tabPut left (lineM p c) as) (pl ++ [a]) (mu ++ [multM p c (tcs.getD a.toNat [])])
    | _ => none
def firstM (p : Int) (n : Nat) (one two : List W) : Option (W × W) := firstGo p (colsM two n) (colsM one n) (linesM p (colsM two n)) [] []
theorem firstGo_cons {p : Int} {tcs : List W} {c : W} {r : List W} {left : Tab} {pl mu : W} {z : W × W} (h : firstGo p tcs (c :: r) left pl mu = some z) :
    ∃ a as, tabGet left (lineM p c) = some (a :: as) ∧ firstGo p tcs r (tabPut left (lineM p c) as) (pl ++ [a]) (mu ++ [multM p c (tcs.getD a.toNat [])]) = some z := by
  unfold firstGo at h
  cases hg : tabGet left (lineM p c) with
  | none => rw [hg] at h; cases h
  | some x =>
    rw [hg] at h
    cases x with
    | nil => cases h
    | cons a as => exact ⟨a, as, rfl, h⟩
theorem tabPut_same {t : Tab} {k v x : W} (h : tabGet t k = some x) : (tabPut t k v).length = t.length := by
  unfold tabPut
  have ha : (t.any fun e => decide (e.1 = k)) = true := by
    unfold tabGet at h
    obtain ⟨e, he, _⟩ := Option.map_eq_some_iff.mp h
    rw [List.any_eq_true]
    exact ⟨e, List.mem_of_find?_eq_some he, by simpa using List.find?_some he⟩
  rw [if_pos ha, List.length_map]
section
variable {P : Program} {w : World} {K : PySem.W.Frag} {mg : Str → Option Value} {base : Heap}
def sp_first_map (K : PySem.W.Frag) (C : Addr) : Sp := spNew (fun x : List W × List W × Nat × Int × W × W => [DP K (.tuple (wds x.1)), DP K (.tuple (wds x.2.1)), DP K (.int (x.2.2.1 : Int)), DP K (.int x.2.2.2.1)])
  (fun x => Pr x.2.2.2.1 ∧ x.1.length ≤ 90 ∧ x.2.1.length = x.1.length ∧ x.2.2.1 ≤ 60 ∧ (∀ r ∈ x.1, WOk x.2.2.2.1 x.2.2.1 r) ∧ (∀ r ∈ x.2.1, WOk x.2.2.2.1 x.2.2.1 r) ∧ firstM x.2.2.2.1 x.2.2.1 x.1 x.2.1 = some (x.2.2.2.2.1, x.2.2.2.2.2) ∧ monOk x.2.2.2.1 x.2.2.2.2.1 x.2.2.2.2.2) (fun x => MonAt K C x.2.2.2.1 x.2.2.2.2.1 x.2.2.2.2.2)
theorem ok_first_map (T : Txt K mg) : FnOk P w K mg base CX0 5 T.first_map.f T.first_map.fd ["one", "two", "n", "p"] (sp_first_map K T.cMon) := by
  refine T.first_map.F.ok sc_first_map (fun vs H Q E h => spNew_len (n := 4) (fun _ => rfl) h) (fun cdv A outer s H vs Q E hr h => ?_)
  obtain ⟨⟨one, two, n, p, plF, muF⟩, ps, ⟨hp, hz, hl2, hn, h1, h2, hF, hM⟩, k⟩ := h
  dsimp only at ps hp hz hl2 hn h1 h2 hF hM k
  obtain ⟨vo, vt, vn, vp, rfl, po, pt, pn, pp⟩ := allP4 ps
  have hp5 := pr_pos hp
  have c1 := cols_ok h1
  have c2 := cols_ok h2
  have lc1 := cols_len one n
  have lc2 := cols_len two n
  refine ⟨_, (pss_cons (ps_set (i := 4) sc_first_map.nd rfl (Or.inl rfl) (pe_call (ok_columns_of T) (hr.mono (by decide)) (by rfl) T.columns_of.g T.columns_of.F.kp T.columns_of.b .nil pass0 (pa_cons (pv 0) (pa_cons (pv 2) pa_nil))))
      (pss_cons (ps_set (i := 5) sc_first_map.nd rfl (Or.inl rfl) (pe_call (ok_columns_of T) (hr.mono (by decide)) (by rfl) T.columns_of.g T.columns_of.F.kp T.columns_of.b .nil pass0 (pa_cons (pv 1) (pa_cons (pv 2) pa_nil))))
      (pss_cons (ps_set (i := 6) sc_first_map.nd rfl (Or.inl rfl) (pe_call (ok_lines_of T) (hr.mono (by decide)) (by rfl) T.lines_of.g T.lines_of.F.kp T.lines_of.b .nil pass0 (pa_cons (pv 5) (pa_cons (pv 3) pa_nil))))
      (pss_cons (ps_set (i := 7) sc_first_map.nd rfl (Or.inl rfl) (pe_lst pa_nil))
      (pss_cons (ps_set (i := 8) sc_first_map.nd rfl (Or.inl rfl) (pe_lst pa_nil))
      (pss_cons (ps_for PassesOwn.never rfl (kpi_list K (pv 4)) (pg_name (i := 9) sc_first_map.nd rfl (Or.inl rfl)) (pss_cons (ps_set (i := 10) sc_first_map.nd rfl (Or.inl rfl) (pe_call (ok_line T) (hr.mono (by decide)) (by rfl) T.line.g T.line.F.kp T.line.b .nil pass0 (pa_cons (pv 9) (pa_cons (pv 3) pa_nil))))
      (pss_cons (ps_if (pt_cmpR op_eq (pe_callB (kc_len K) (by rfl) T.z_len PySem.boot_len (pa_cons (pe_dget2 (hu_of hr) (pv 6) (pv 10) (pe_tup pa_nil) ⟨rfl, rfl, rfl, rfl⟩) pa_nil)) pe_int (nomark _)) (pss_one (ps_ret pe_non)) pss_nil)
      (pss_cons (ps_set (i := 11) sc_first_map.nd rfl (Or.inl rfl) (pe_ix (kx_tup K) (pe_dget (hu_of hr) (pv 6) (pv 10) (fun _ _ => rfl)) pe_int (fun _ _ => rfl)))
      (pss_cons (ps_dput (hu_of hr) (pv 6) (pv 10) (pe_slice (ks_tup K) (pe_dget (hu_of hr) (pv 6) (pv 10) (fun _ _ => rfl)) (po_some pe_int) po_none) rfl)
      (pss_cons (ps_expr (kpe_bm K PySem.F.plainAttrs_list PySem.F.slot_list_append PySem.F.type_list_append mt_append (pv 7) (pa_cons (pv 11) pa_nil)))
      (pss_one (ps_expr (kpe_bm K PySem.F.plainAttrs_list PySem.F.slot_list_append PySem.F.type_list_append mt_append (pv 8) (pa_cons (pe_call (ok_multiple_of T) (hr.mono (by decide)) (by rfl) T.multiple_of.g T.multiple_of.F.kp T.multiple_of.b .nil pass0 (pa_cons (pv 9) (pa_cons (pe_ix (kx_list K) (pv 5) (pv 11) (fun _ _ => rfl)) (pa_cons (pv 3) pa_nil)))) pa_nil))))))))))
      (pss_one (ps_ret (pe_make T.mk_Monomial (ok_Monomial_init T) (hr.mono (by decide)) rfl T.g_Monomial T.Monomial_init.b .nil pass0 (pa_cons (pv 3) (pa_cons (pe_callTy (kc_tuple K) (by rfl) T.z_tuple (by decide +kernel) (pa_cons (pv 7) pa_nil)) (pa_cons (pe_callTy (kc_tuple K) (by rfl) T.z_tuple (by decide +kernel) (pa_cons (pv 8) pa_nil)) pa_nil)))))))))))), ?_⟩
  refine q_asg (P := DP K (.list (wds (colsM one n)))) (ev_call (ι := List W × Nat) (one, n) ⟨fun r hr => (h1 r hr).1, by show n ≤ 100; omega, by show one.length ≤ 100; omega⟩ (ea_cons (ed_var rfl po) (ea_cons (ed_var rfl pn) ea_nil))) fun vf H1 e1 pf => ?_
  refine q_asg (P := DP K (.list (wds (colsM two n)))) (ev_call (ι := List W × Nat) (two, n) ⟨fun r hr => (h2 r hr).1, by show n ≤ 100; omega, by show two.length ≤ 100; omega⟩ (ea_cons (ed_var rfl (dp_mono e1 pt)) (ea_cons (ed_var rfl (dp_mono e1 pn)) ea_nil))) fun vc H2 e2 pc => ?_
  refine q_asgN (PA := DT K (linesM p (colsM two n))) (en_call (ι := List W × Int) (colsM two n, p) ⟨hp, by show (colsM two n).length ≤ 100; omega, fun c hc => ⟨by rw [(c2 c hc).1]; exact c2 c hc, by rw [(c2 c hc).1]; omega⟩⟩ (ea_cons (ed_var rfl pc) (ea_cons (ed_var rfl (dp_mono (e1.trans e2) pp)) ea_nil))) fun lf H3 hlf e3 dl => ?_
  refine q_asgN (PA := NL K []) (en_lst (ds := []) ea_nil (by decide)) fun pa H4 hpa e4 n4 => ?_
  refine q_asgN (PA := NL K []) (en_lst (ds := []) ea_nil (by decide)) fun ma H5 hma e5 n5 => ?_
  have ne : pa ≠ ma := fun q => by
    obtain ⟨xs, h⟩ := n4.at
    rw [q, hma] at h
    cases h
  have pf2 := dp_mono e2 pf
  obtain ⟨fc, xs, rfl, sf, alf⟩ := dp_lst pf2
  have hlx := dpAll_len alf
  rw [List.length_map, lc1] at hlx
  have hpa2 : H2 pa = none := fresh_back e3 hpa
  have hma2 : H2 ma = none := fresh_back (e3.trans e4) hma
  have tk0 := linesGo_ok p (colsM two n) (colsM two n).length
  rw [lc2] at tk0
  refine q_forL0 (H0 := H2) (a := fc) (xs := xs) (ex_var rfl) ((e3.trans e4).trans e5) sf
    (fun i σ' H' => ∃ z9 z10 z11 left pl mu, σ' = [some vo, some vt, some vn, some vp, some (.ref fc), some vc, some (.ref lf), some (.ref pa), some (.ref ma), z9, z10, z11] ∧ Ex H2 H' ∧ DT K left H' lf ∧ NL K (pl.map PyData.int) H' pa ∧ NL K (mu.map PyData.int) H' ma ∧ TabOk n left ∧ left.length ≤ n ∧ pl.length = i ∧ mu.length = i ∧ firstGo p (colsM two n) ((colsM one n).drop i) left pl mu = some (plF, muF))
    (fun H6 e6 => ⟨_, _, _, linesM p (colsM two n), [], [], rfl, ((e3.trans e4).trans e5).trans e6, dl.mono ((e4.trans e5).trans e6), n4.mono (e5.trans e6), n5.mono e6, by
      have := tk0.1
      unfold linesM
      rw [lc2]
      exact this, by
      have := tk0.2
      unfold linesM
      rw [lc2]
      exact this, rfl, rfl, hF⟩) (fun i σ' H' h => ?_) (fun i x σ' H' hi h => ?_) (fun σ' H' h => ?_)
  · obtain ⟨_, _, _, _, _, _, _, e, _⟩ := h
    exact e
  · obtain ⟨z9, z10, z11, left, pl, mu, rfl, e, hD, nP, nU, tk, tl, lp, lm, hgo⟩ := h
    have hi' : i < (colsM one n).length := by
      have := (List.getElem?_eq_some_iff.mp hi).1
      omega
    have hci : (colsM one n)[i]? = some ((colsM one n).getD i []) := getD_at [] hi'
    generalize hcc : (colsM one n).getD i [] = c at hci
    have px : Dp K H2 x (wd c) := by
      obtain ⟨v, a1, a2⟩ := dpAll_at alf (i := i) (d := wd c) (by rw [List.getElem?_map, hci] <;> rfl)
      rw [hi] at a1
      cases a1
      exact a2
    have wc := c1 c (List.mem_of_getElem? hci)
    rw [List.drop_eq_getElem_cons hi', (List.getElem?_eq_some_iff.mp hci).2] at hgo
    obtain ⟨a, as, hg, hgo⟩ := firstGo_cons hgo
    have tka := tk.get hg
    have ha := tka.2 a List.mem_cons_self
    obtain ⟨m, rfl⟩ : ∃ m : Nat, a = (m : Int) := ⟨a.toNat, by omega⟩
    have hm : m < n := by omega
    refine q_asg (P := DP K (wd (lineM p c))) (ev_call (ι := W × Int) (c, p) ⟨hp, by rw [wc.1]; exact wc, by show c.length ≤ 100; rw [wc.1]; omega⟩ (ea_cons (ed_var rfl (dp_mono e px)) (ea_cons (ed_var rfl (dp_mono ((e1.trans e2).trans e) pp)) ea_nil))) fun vk H6 e6 pk => ?_
    have hD6 := hD.mono e6
    refine q_when (b := false) (EvB.is (eb_test (K := K) (ed_eqI (ed_lenT (ed_dget2T (x := []) hD6 (ex_var rfl) (ed_var rfl pk) (ed_tup (ds := []) ea_nil (by decide)))) ed_int)) ?_) (fun hb => by cases hb) (fun _ H7 e7 => ?_)
    · rw [hg]
      exact decide_eq_false (by
        show ¬ (((m : Int) :: as).map PyData.int).length = ((0 : Int))
        rw [List.length_map, List.length_cons]
        omega)
    have hD7 := hD6.mono e7
    refine q_asg (P := DP K (.int (m : Int))) (ed_ixT (at_int (ns := (m : Int) :: as) (n := 0) rfl rfl) (ed_dgetT hD7 hg (ex_var rfl) (ed_var rfl (dp_mono e7 pk))) ed_int) fun va H8 e8 pa8 => ?_
    have eva := dp_int pa8
    subst eva
    have hD8 := hD7.mono e8
    refine q_dputT (t := left) (k := lineM p c) (x := as) hD8 (by omega) (EvP.is (ed_slT (ed_dgetT hD8 hg (ex_var rfl) (ed_var rfl (dp_mono (e7.trans e8) pk))) (eo_some (ed_int (K := K))) eo_none) (by rw [cut1] <;> rfl)) (ex_var rfl) (ed_var rfl (dp_mono (e7.trans e8) pk)) fun o H9 e9 nt9 hD9 => ?_
    have E9 := e.trans (((e6.trans e7).trans e8).trans e9)
    obtain ⟨kvs9, hd9⟩ := (hD8.mono e9).at
    have X9 : Ex H2 (upd H9 lf o) := Ex.mut E9 hlf
    have nP9 : NL K (pl.map PyData.int) (upd H9 lf o) pa := (nP.mono (((e6.trans e7).trans e8).trans e9)).updT hd9 (tOnly_ints _)
    have nU9 : NL K (mu.map PyData.int) (upd H9 lf o) ma := (nU.mono (((e6.trans e7).trans e8).trans e9)).updT hd9 (tOnly_ints _)
    generalize upd H9 lf o = G9 at hD9 X9 nP9 nU9
    refine q_appD (ds := pl.map PyData.int) (d := .int (m : Int)) nP9 (tOnly_ints _) (ex_var rfl) (ed_var rfl (.int _)) rfl (by rw [List.length_map]; omega) fun ys o10 H10 e10 hy10 n10 => ?_
    have X10 : Ex H2 (upd H10 pa o10) := Ex.mut (X9.trans e10) hpa2
    have nU10 : NL K (mu.map PyData.int) (upd H10 pa o10) ma := (nU9.mono e10).updL (Ne.symm ne) hy10 (tOnly_ints _)
    have hD10 := (hD9.mono e10).updL (o := o10) hy10
    generalize upd H10 pa o10 = G10 at n10 X10 nU10 hD10
    have htc : (colsM two n)[m]? = some ((colsM two n).getD m []) := getD_at [] (by omega)
    have w2 := c2 _ (List.mem_of_getElem? htc)
    refine s_appD (ds := mu.map PyData.int) (d := .int (multM p c ((colsM two n).getD m []))) nU10 (tOnly_ints _) (ex_var rfl) (ev_call (ι := W × W × Int) (c, (colsM two n).getD m [], p) ⟨hp, by rw [wc.1]; exact wc, by rw [wc.1, ← hl2]; exact w2, by show c.length ≤ 100; rw [wc.1]; omega⟩
      (ea_cons (ed_var rfl (dp_mono X10 px)) (ea_cons (ed_ixL (at_wd htc rfl) (ed_var rfl (dp_mono X10 pc)) (ed_var rfl (.int _))) (ea_cons (ed_var rfl (dp_mono ((e1.trans e2).trans X10) pp)) ea_nil)))) rfl (by rw [List.length_map]; omega) fun ys o11 H11 e11 hy11 n11 => ?_
    refine ⟨_, _, _, tabPut left (lineM p c) as, pl ++ [(m : Int)], mu ++ [multM p c ((colsM two n).getD m [])], rfl, Ex.mut (X10.trans e11) hma2, (hD10.mono e11).updL hy11, ?_, ?_, tk.put ⟨?_, fun y hy => tka.2 y (List.mem_cons_of_mem _ hy)⟩, by rw [tabPut_same hg]; exact tl, ?_, ?_, hgo⟩
    · rw [List.map_append]
      exact (n10.mono e11).updL ne hy11 (by
        have := tOnly_ints (pl ++ [(m : Int)])
        rw [List.map_append] at this
        exact this)
    · rw [List.map_append]
      exact n11
    · have := tka.1
      rw [List.length_cons] at this
      omega
    · rw [List.length_append, lp] <;> rfl
    · rw [List.length_append, lm] <;> rfl
  · obtain ⟨z9, z10, z11, left, pl, mu, rfl, e, hD, nP, nU, tk, tl, lp, lm, hgo⟩ := h
    rw [hlx, List.drop_of_length_le (by omega)] at hgo
    obtain ⟨rfl, rfl⟩ : pl = plF ∧ mu = muF := by
      have : some (pl, mu) = some (plF, muF) := hgo
      cases this
      exact ⟨rfl, rfl⟩
    have hpp : p ∈ ([2, 3, 5, 7] : List Int) := by
      rcases hp with rfl | rfl | rfl <;> decide
    exact s_ret (P := fun H' v => ∃ a, v = .ref a ∧ H a = none ∧ MonAt K T.cMon p pl mu H' a) (fun H6 e6 Q q => en_make (ι := Int × W × W) (ar := fun x => [DP K (.int x.1), DP K (wd x.2.1), DP K (wd x.2.2)]) (pre := fun x => x.1 ∈ ([2, 3, 5, 7] : List Int) ∧ monOk x.1 x.2.1 x.2.2) (res := fun x => MonAt K T.cMon x.1 x.2.1 x.2.2) (E := E0) (fun x H H' vs e h => mono3 e h) (p, pl, mu) ⟨hpp, hM⟩ (ea_cons (ed_var rfl (dp_mono ((e1.trans e2).trans (e.trans e6)) pp)) (ea_cons (ed_tupL (tOnly_ints _) (ed_var rfl (nP.mono e6).dp)) (ea_cons (ed_tupL (tOnly_ints _) (ed_var rfl (nU.mono e6).dp)) ea_nil))) H6 (Ex.refl _) Q fun a H7 ha e7 r => q _ H7 e7 ⟨a, rfl, fresh_back (((e1.trans e2).trans e).trans e6) ha, r⟩) fun v H7 e7 hv => by
        obtain ⟨a, rfl, ha, r⟩ := hv
        exact k a H7 ha (((e1.trans e2).trans e).trans e7) r
end
end WK

set_option Elab.async false
set_option linter.all false
set_option maxRecDepth 100000
set_option maxHeartbeats 4000000
/-! Code: __init__, holds; image_of. -/
namespace WK
open PySem PySem.Spec PyProof.Rows L2 WM
open Evl (Ex ex_l ex_t ex_rd sq_of st_of sz_of sz_lt fresh_back rLenS rListS)
structure CodeM where
  p : Int
  n : Nat
  rows : List W
  piv : List Nat
deriving DecidableEq
def mkCode (p : Int) (n : Nat) (rows : List W) : CodeM := ⟨p, n, (redM p n rows).2.1, (redM p n rows).2.2⟩
def CodeAt (K : PySem.W.Frag) (C : Addr) (c : CodeM) (H : Hp) (a : Addr) : Prop := ∃ dx vr vp, H a = some (.ins C dx [("p", .int c.p), ("n", .int (c.n : Int)), ("rows", vr), ("k", .int (c.rows.length : Int)), ("_pivots", vp)]) ∧ Dp K H vr (.tuple (wds c.rows)) ∧ Dp K H vp (wd (nw c.piv))
def CP (K : PySem.W.Frag) (C : Addr) (c : CodeM) : VP := fun H v => ∃ a, v = .ref a ∧ CodeAt K C c H a
structure CodeOk (c : CodeM) : Prop where
  p : Pr c.p
  n : c.n ≤ 5
  rows : ∀ r ∈ c.rows, WOk c.p c.n r
  k : c.rows.length ≤ 5
  pl : c.piv.length = c.rows.length
  pn : ∀ x ∈ c.piv, x < c.n
  nz : ∀ r ∈ c.rows, (List.range c.n).filter (fun i => r.getD i 0 != 0) ≠ []
theorem CodeAt.mono {K : PySem.W.Frag} {C : Addr} {c : CodeM} {H H' : Hp} {a : Addr} (e : Ex H H') (h : CodeAt K C c H a) : CodeAt K C c H' a := by
  obtain ⟨dx, vr, vp, h1, h2, h3⟩ := h
  exact ⟨dx, vr, vp, e _ _ h1, dp_mono e h2, dp_mono e h3⟩
instance (K : PySem.W.Frag) (C : Addr) (c : CodeM) : Mono (CP K C c) := ⟨fun e h => by
  obtain ⟨a, h1, h2⟩ := h
  exact ⟨a, h1, h2.mono e⟩⟩
theorem pow_le {p : Int} {k : Nat} (hp : Pr p) (hk : k ≤ 5) : p ^ k ≤ 4096 := by
  rcases hp with rfl | rfl | rfl <;> (match k, hk with
    | 0, _ => decide
    | 1, _ => decide
    | 2, _ => decide
    | 3, _ => decide
    | 4, _ => decide
    | 5, _ => decide)
section
variable {K : PySem.W.Frag} {σ : L2.St} {H H' : Hp} {ta tb tc te td ty tv to : TE} {P : VP} {D : Ends} {tz : TS} {d : PyData} {mg : Str → Option Value} {c : CodeM} {a : Addr}
theorem cf_p (T : Txt K mg) (ha : EvP ta σ H (XP (.ref a))) (h : CodeAt K T.cCode c H a) : EvD K (tFld K ta "p") σ H (.int c.p) := by
  obtain ⟨dx, vr, vp, h1, h2, h3⟩ := h
  exact ed_fld ha h1 T.cl_Code (T.no_Code "p" (by decide)) rfl (.int _)
theorem cf_n (T : Txt K mg) (ha : EvP ta σ H (XP (.ref a))) (h : CodeAt K T.cCode c H a) : EvD K (tFld K ta "n") σ H (.int (c.n : Int)) := by
  obtain ⟨dx, vr, vp, h1, h2, h3⟩ := h
  exact ed_fld ha h1 T.cl_Code (T.no_Code "n" (by decide)) rfl (.int _)
theorem cf_rows (T : Txt K mg) (ha : EvP ta σ H (XP (.ref a))) (h : CodeAt K T.cCode c H a) : EvD K (tFld K ta "rows") σ H (.tuple (wds c.rows)) := by
  obtain ⟨dx, vr, vp, h1, h2, h3⟩ := h
  exact ed_fld ha h1 T.cl_Code (T.no_Code "rows" (by decide)) rfl h2
theorem cf_k (T : Txt K mg) (ha : EvP ta σ H (XP (.ref a))) (h : CodeAt K T.cCode c H a) : EvD K (tFld K ta "k") σ H (.int (c.rows.length : Int)) := by
  obtain ⟨dx, vr, vp, h1, h2, h3⟩ := h
  exact ed_fld ha h1 T.cl_Code (T.no_Code "k" (by decide)) rfl (.int _)
theorem cf_piv (T : Txt K mg) (ha : EvP ta σ H (XP (.ref a))) (h : CodeAt K T.cCode c H a) : EvD K (tFld K ta "_pivots") σ H (wd (nw c.piv)) := by
  obtain ⟨dx, vr, vp, h1, h2, h3⟩ := h
  exact ed_fld ha h1 T.cl_Code (T.no_Code "_pivots" (by decide)) rfl h3
/-- isinstance(x, (list, tuple)), x a list -/
theorem ed_isiLT {ds : List PyData} (ha : EvD K ta σ H (.list ds)) : EvD K (tCB (rIsiT K) (tCons ta (tCons (tTup (tCons (tC (.ty "list")) (tCons (tC (.ty "tuple")) tNil))) tNil))) σ H (.bool true) := ev_cb (Ps := [DP K (.list ds), fun H v => ∃ a, v = .ref a ∧ H a = some (.tup [.ty "list", .ty "tuple"])]) (ea_cons ha (fun H1 e Q q => by
    exact ⟨sz_of (by show 2 ≤ 100000; decide), fun p hp => q [.ref p] _ (ex_of_new hp) ⟨⟨p, rfl, upd_same⟩, trivial⟩⟩)) fun vs H1 _ ps Q q => by
  obtain ⟨x, y, rfl, p1, ⟨b, rfl, hb⟩⟩ := allP2 ps
  refine ⟨x, b, _, _, [.type "list", .type "tuple"], true, rfl, hb, .cons (.ty "list") (.cons (.ty "tuple") .nil), tyx_of_dp p1, ?_, q _ H1 (Ex.refl H1) (.bl _)⟩
  exact kitAny_cons (b := true) (kit_ty (show kitB "list" "list" = some true by decide +kernel)) (fun h => by cases h) (fun _ => rfl)
end
section
variable {P : Program} {w : World} {K : PySem.W.Frag} {mg : Str → Option Value} {base : Heap}
def sp_Code (K : PySem.W.Frag) (C : Addr) : Sp := spInit C (fun x : Int × Nat × List W => [DP K (.int x.1), DP K (.int (x.2.1 : Int)), DP K (.list (wds x.2.2))]) (fun x => Pr x.1 ∧ x.2.1 ≤ 5 ∧ x.2.2.length ≤ 90 ∧ ∀ r ∈ x.2.2, WOk x.1 x.2.1 r) (fun x => CodeAt K C (mkCode x.1 x.2.1 x.2.2))
theorem isWordD_wd {p : Int} {n : Nat} {v : W} (h : WOk p n v) : isWordD p n (wd v) = true := by
  show ((v.map PyData.int).length == n && (v.map PyData.int).all (okItem p)) = true
  rw [List.length_map, h.1, beq_self_eq_true, Bool.true_and, List.all_eq_true]
  intro x hx
  obtain ⟨y, hy, rfl⟩ := List.mem_map.mp hx
  have := h.2 y hy
  show (decide (0 ≤ y) && decide (y < p)) = true
  rw [decide_eq_true this.1, decide_eq_true this.2] <;> rfl
theorem itemsPlain_wd (v : W) : itemsPlain (wd v) = true := by
  show (v.map PyData.int).all plainD = true
  rw [List.all_eq_true]
  intro x hx
  obtain ⟨y, hy, rfl⟩ := List.mem_map.mp hx
  rfl
theorem ok_Code_init (T : Txt K mg) : FnOk P w K mg base CX0 4 T.Code_init.f T.Code_init.fd ["self", "p", "n", "rows"] (sp_Code K T.cCode) := by
  refine T.Code_init.F.ok sc_Code_init (fun vs H Q E h => spInit_len (n := 3) (fun _ => rfl) h) (fun cdv A outer s H vs Q E hr h => ?_)
  obtain ⟨⟨p, n, rows⟩, a, dx, r, rfl, ps, hA, ⟨hp, hn, hz, hw⟩, k⟩ := h
  dsimp only at ps hp hn hz hw k
  obtain ⟨vp, vn, vr, rfl, pp, pn, pr⟩ := allP3 ps
  have hp5 := pr_pos hp
  have hpp : p ∈ ([2, 3, 5, 7] : List Int) := by
    rcases hp with rfl | rfl | rfl <;> decide
  refine ⟨_, (pss_cons (ps_expr (pe_call (ok_check_prime T) (hr.mono (by decide)) (by rfl) T.check_prime.g T.check_prime.F.kp T.check_prime.b .nil pass0 (pa_cons (pv 1) pa_nil)))
      (pss_cons (ps_if (PW.pt (pw_or (pt_not (pt_val (pe_call (ok_is_integer T) (hr.mono (by decide)) (by rfl) T.is_integer.g T.is_integer.F.kp T.is_integer.b .nil pass0 (pa_cons (pv 2) pa_nil)))) (pw_or1 (pt_cmpR op_lt (pv 2) pe_int (nomark _))))) (pss_one ps_never) pss_nil)
      (pss_cons (ps_if (pt_cmpR op_gt (pv 2) (pe_glob (v := .int 12) rfl T.gMOST_LENGTH.choose_spec ⟨_, rfl⟩) (nomark _)) (pss_one ps_never) pss_nil)
      (pss_cons (ps_if (pt_not (pt_val (pe_callB (kc_isiT K) (by rfl) T.z_isinstance (by decide +kernel) (pa_cons (pv 3) (pa_cons (pe_tup (pa_cons (pe_bltn (v := .ty "list") rfl T.z_list (by decide +kernel) rfl) (pa_cons (pe_bltn (v := .ty "tuple") rfl T.z_tuple (by decide +kernel) rfl) pa_nil))) pa_nil))))) (pss_one ps_never) pss_nil)
      (pss_cons (ps_for PassesOwn.never rfl (kpi_list K (pv 3)) (pg_name (i := 4) sc_Code_init.nd rfl (Or.inl rfl)) (pss_one (ps_if (pt_not (pt_val (pe_call (ok_is_word T) (hr.mono (by decide)) (by rfl) T.is_word.g T.is_word.F.kp T.is_word.b .nil pass0 (pa_cons (pv 4) (pa_cons (pv 1) (pa_cons (pv 2) pa_nil)))))) (pss_one ps_never) pss_nil)))
      (pss_cons (ps_asg (pe_call (ok_reduced T) (hr.mono (by decide)) (by rfl) T.reduced.g T.reduced.F.kp T.reduced.b .nil pass0 (pa_cons (pv 3) (pa_cons (pv 2) (pa_cons (pv 1) pa_nil)))) (kpg_tup K (n := 2) rfl (pgs_cons (pg_name (i := 5) sc_Code_init.nd rfl (Or.inl rfl)) (pgs_cons (pg_name (i := 6) sc_Code_init.nd rfl (Or.inl rfl)) pgs_nil))))
      (pss_cons (ps_if (pt_cmpR op_gt (pe_call (ok_power T) (hr.mono (by decide)) (by rfl) T.power.g T.power.F.kp T.power.b .nil pass0 (pa_cons (pv 1) (pa_cons (pe_callB (kc_len K) (by rfl) T.z_len PySem.boot_len (pa_cons (pv 5) pa_nil)) pa_nil))) (pe_glob (v := .int 4096) rfl T.gMOST_WORDS.choose_spec ⟨_, rfl⟩) (nomark _)) (pss_one ps_never) pss_nil)
      (pss_cons (kps_fld K (pv 0) (pv 1))
      (pss_cons (kps_fld K (pv 0) (pv 2))
      (pss_cons (kps_fld K (pv 0) (pv 5))
      (pss_cons (kps_fld K (pv 0) (pe_callB (kc_len K) (by rfl) T.z_len PySem.boot_len (pa_cons (pv 5) pa_nil)))
      (pss_one (kps_fld K (pv 0) (pv 6)))))))))))))), ?_⟩
  refine q_drop (P := XP .non) (ev_call (ι := Int) p hpp (ea_cons (ed_var rfl pp) ea_nil)) fun _ H1 e1 _ => ?_
  refine q_when (b := false) (EvB.is (eb_or (eb_not (eb_B (K := K) (ev_call (ι := PyData) (ar := fun d => [DP K d]) (pre := fun d => plainD d = true) (res := fun d => DP K (.bool (isIntD d))) (E := E0) (.int (n : Int)) rfl (ea_cons (ed_var rfl (dp_mono e1 pn)) ea_nil)))) fun _ => eb_test (K := K) (ed_lt (ed_var rfl (dp_mono e1 pn)) ed_int)) ?_) (fun hb => by cases hb) (fun _ H2 e2 => ?_)
  · rw [decide_eq_false (show ¬ (n : Int) < 0 by omega)] <;> rfl
  have E2 := e1.trans e2
  refine q_when (b := false) (EvB.is (eb_test (K := K) (ed_gt (ed_var rfl (dp_mono E2 pn)) (ed_int (i := 12)))) (decide_eq_false (by omega))) (fun hb => by cases hb) (fun _ H3 e3 => ?_)
  have E3 := E2.trans e3
  refine q_when (b := false) (EvB.is (eb_not (eb_B (ed_isiLT (ed_var rfl (dp_mono E3 pr))))) rfl) (fun hb => by cases hb) (fun _ H4 e4 => ?_)
  have E4 := E3.trans e4
  obtain ⟨ar, xs, rfl, sr, alr⟩ := dp_lst (dp_mono E4 pr)
  have hlx := dpAll_len alr
  rw [List.length_map] at hlx
  refine q_forL0 (H0 := H4) (a := ar) (xs := xs) (ex_var rfl) (Ex.refl _) sr (fun i σ' H' => ∃ z z5 z6, σ' = [some (.ref a), some vp, some vn, some (.ref ar), z, z5, z6] ∧ Ex H4 H') (fun H5 e5 => ⟨_, _, _, rfl, e5⟩) (fun i σ' H' ⟨_, _, _, _, e⟩ => e) (fun i x σ' H' hi h => ?_) (fun σ' H' h => ?_)
  · obtain ⟨z, z5, z6, rfl, e⟩ := h
    have hi' : i < rows.length := by
      have := (List.getElem?_eq_some_iff.mp hi).1
      omega
    have hri : rows[i]? = some rows[i] := List.getElem?_eq_getElem hi'
    have px : Dp K H4 x (wd rows[i]) := by
      obtain ⟨v, a1, a2⟩ := dpAll_at alr (i := i) (d := wd rows[i]) (by rw [List.getElem?_map, hri] <;> rfl)
      rw [hi] at a1
      cases a1
      exact a2
    have E := E4.trans e
    exact s_when (b := false) (EvB.is (eb_not (eb_B (K := K) (ev_call (ι := PyData × Int × Nat) (ar := fun x => [DP K x.1, DP K (.int x.2.1), DP K (.int (x.2.2 : Int))]) (pre := fun x => itemsPlain x.1 = true) (res := fun x => DP K (.bool (isWordD x.2.1 x.2.2 x.1))) (E := E0) (wd rows[i], p, n) (itemsPlain_wd _) (ea_cons (ed_var rfl (dp_mono e px)) (ea_cons (ed_var rfl (dp_mono E pp)) (ea_cons (ed_var rfl (dp_mono E pn)) ea_nil)))))) (by show (!isWordD p n (wd rows[i])) = false; rw [isWordD_wd (hw _ (List.getElem_mem hi'))] <;> rfl)) (fun hb => by cases hb) (fun _ H5 e5 => ⟨_, _, _, rfl, e.trans e5⟩)
  obtain ⟨z, z5, z6, rfl, e5⟩ := h
  have E5 := E4.trans e5
  have hr5 : ∀ {σ : L2.St}, σ[3]? = some (some (.ref ar)) → σ[2]? = some (some vn) → σ[1]? = some (some vp) → EvD K (tCall (sp_reduced K) [] E0 (tCons (tVar 3) (tCons (tVar 2) (tCons (tVar 1) tNil)))) σ H' (.tuple [.tuple (wds (redM p n rows).2.1), wd (nw (redM p n rows).2.2)]) := fun {σ} a1 a2 a3 => ev_call (ι := List W × Nat × Int) (ar := fun x => [DP K (.list (wds x.1)), DP K (.int (x.2.1 : Int)), DP K (.int x.2.2)]) (E := E0) (pre := fun x => Pr x.2.2 ∧ x.1.length ≤ 100 ∧ x.2.1 ≤ 100 ∧ ∀ r ∈ x.1, WOk x.2.2 x.2.1 r) (res := fun x => DP K (.tuple [.tuple (wds (redM x.2.2 x.2.1 x.1).2.1), wd (nw (redM x.2.2 x.2.1 x.1).2.2)])) (rows, n, p) ⟨hp, by show rows.length ≤ 100; omega, by show n ≤ 100; omega, hw⟩
    (ea_cons (ed_var a1 (dp_mono E5 pr)) (ea_cons (ed_var a2 (dp_mono E5 pn)) (ea_cons (ed_var a3 (dp_mono E5 pp)) ea_nil)))
  refine q_asg2 (d1 := .tuple (wds (redM p n rows).2.1)) (d2 := wd (nw (redM p n rows).2.2)) (hr5 rfl rfl rfl) fun v1 v2 H6 e6 p1 p2 => ?_
  have E6 := E5.trans e6
  obtain ⟨⟨_, r2, r3, r4, r5⟩, _⟩ := redGo_ok (i := n) (show 0 < p by omega) hw
  have r3' : (redM p n rows).2.1.length ≤ n := r3
  have el : ∀ {H7 : Hp}, Ex H6 H7 → EvD K (tCB (rLenS K) (tCons (tVar 5) tNil)) [some (.ref a), some vp, some vn, some (.ref ar), z, some v1, some v2] H7 (.int ((redM p n rows).2.1.length : Int)) := fun {H7} e7 => by
    have q := ed_lenT (ed_var (σ := [some (.ref a), some vp, some vn, some (.ref ar), z, some v1, some v2]) (n := 5) rfl (dp_mono e7 p1))
    rw [List.length_map] at q
    exact q
  refine q_when (b := false) (EvB.is (eb_test (K := K) (ed_gt (ev_call (ι := Int × Nat) (p, (redM p n rows).2.1.length) ⟨by show 0 ≤ p; omega, by show p ≤ 7; omega, by show _ ≤ 12; omega⟩ (ea_cons (ed_var rfl (dp_mono E6 pp)) (ea_cons (el (Ex.refl _)) ea_nil))) (ed_int (i := 4096)))) (decide_eq_false ?_)) (fun hb => by cases hb) (fun _ H7 e7 => ?_)
  · have := pow_le hp (k := (redM p n rows).2.1.length) (by omega)
    show ¬ (4096 : Int) < p ^ (redM p n rows).2.1.length
    omega
  have E7 := E6.trans e7
  have hA7 := E7 _ _ hA
  -- the fields
  refine q_fld (P := DP K (.int p)) (ed_var rfl (dp_mono E7 pp)) (ex_var rfl) hA7 T.cl_Code (T.no_Code "p" (by decide)) (by decide) fun w1 H8 e8 q8 => ?_
  have ew1 := dp_int q8
  subst ew1
  have k8 := keep_upd (o := .ins T.cCode dx (putF "p" (.int p) [])) (keep_ex (fun b u (_ : b ≠ a) (q : H b = some u) => q) (E7.trans e8))
  have t8 := dp_upd (o := .ins T.cCode dx (putF "p" (.int p) [])) (nt_ins (e8 _ _ hA7)) (show tOnly (.tuple (wds (redM p n rows).2.1)) = true from tOnly_wds _) (dp_mono (e7.trans e8) p1)
  have u8 := dp_upd (o := .ins T.cCode dx (putF "p" (.int p) [])) (nt_ins (e8 _ _ hA7)) (tOnly_wd _) (dp_mono (e7.trans e8) p2)
  have n8 := dp_upd (o := .ins T.cCode dx (putF "p" (.int p) [])) (nt_ins (e8 _ _ hA7)) rfl (dp_mono (E7.trans e8) pn)
  have h8 : upd H8 a (.ins T.cCode dx (putF "p" (.int p) [])) a = some (.ins T.cCode dx [("p", .int p)]) := upd_same
  generalize upd H8 a (.ins T.cCode dx (putF "p" (.int p) [])) = G8 at k8 t8 u8 n8 h8
  refine q_fld (P := DP K (.int (n : Int))) (ed_var rfl n8) (ex_var rfl) h8 T.cl_Code (T.no_Code "n" (by decide)) (by show 1 < 1000; decide) fun w2 H9 e9 q9 => ?_
  have ew2 := dp_int q9
  subst ew2
  have k9 := keep_upd (o := .ins T.cCode dx (putF "n" (.int (n : Int)) [("p", .int p)])) (keep_ex k8 e9)
  have t9 := dp_upd (o := .ins T.cCode dx (putF "n" (.int (n : Int)) [("p", .int p)])) (nt_ins (e9 _ _ h8)) (show tOnly (.tuple (wds (redM p n rows).2.1)) = true from tOnly_wds _) (dp_mono e9 t8)
  have u9 := dp_upd (o := .ins T.cCode dx (putF "n" (.int (n : Int)) [("p", .int p)])) (nt_ins (e9 _ _ h8)) (tOnly_wd _) (dp_mono e9 u8)
  have h9 : upd H9 a (.ins T.cCode dx (putF "n" (.int (n : Int)) [("p", .int p)])) a = some (.ins T.cCode dx [("p", .int p), ("n", .int (n : Int))]) := upd_same
  generalize upd H9 a (.ins T.cCode dx (putF "n" (.int (n : Int)) [("p", .int p)])) = G9 at k9 t9 u9 h9
  refine q_fld (P := DP K (.tuple (wds (redM p n rows).2.1))) (ed_var rfl t9) (ex_var rfl) h9 T.cl_Code (T.no_Code "rows" (by decide)) (by show 2 < 1000; decide) fun w3 H10 e10 q10 => ?_
  have k10 := keep_upd (o := .ins T.cCode dx (putF "rows" w3 [("p", .int p), ("n", .int (n : Int))])) (keep_ex k9 e10)
  have t10 := dp_upd (o := .ins T.cCode dx (putF "rows" w3 [("p", .int p), ("n", .int (n : Int))])) (nt_ins (e10 _ _ h9)) (show tOnly (.tuple (wds (redM p n rows).2.1)) = true from tOnly_wds _) (dp_mono e10 t9)
  have u10 := dp_upd (o := .ins T.cCode dx (putF "rows" w3 [("p", .int p), ("n", .int (n : Int))])) (nt_ins (e10 _ _ h9)) (tOnly_wd _) (dp_mono e10 u9)
  have r10 := dp_upd (o := .ins T.cCode dx (putF "rows" w3 [("p", .int p), ("n", .int (n : Int))])) (nt_ins (e10 _ _ h9)) (show tOnly (.tuple (wds (redM p n rows).2.1)) = true from tOnly_wds _) q10
  have h10 : upd H10 a (.ins T.cCode dx (putF "rows" w3 [("p", .int p), ("n", .int (n : Int))])) a = some (.ins T.cCode dx [("p", .int p), ("n", .int (n : Int)), ("rows", w3)]) := upd_same
  generalize upd H10 a (.ins T.cCode dx (putF "rows" w3 [("p", .int p), ("n", .int (n : Int))])) = G10 at k10 t10 u10 r10 h10
  have el10 : EvD K (tCB (rLenS K) (tCons (tVar 5) tNil)) [some (.ref a), some vp, some vn, some (.ref ar), z, some v1, some v2] G10 (.int ((redM p n rows).2.1.length : Int)) := by
    have q := ed_lenT (ed_var (σ := [some (.ref a), some vp, some vn, some (.ref ar), z, some v1, some v2]) (n := 5) rfl t10)
    rw [List.length_map] at q
    exact q
  refine q_fld (P := DP K (.int ((redM p n rows).2.1.length : Int))) el10 (ex_var rfl) h10 T.cl_Code (T.no_Code "k" (by decide)) (by show 3 < 1000; decide) fun w4 H11 e11 q11 => ?_
  have ew4 := dp_int q11
  subst ew4
  have k11 := keep_upd (o := .ins T.cCode dx (putF "k" (.int ((redM p n rows).2.1.length : Int)) [("p", .int p), ("n", .int (n : Int)), ("rows", w3)])) (keep_ex k10 e11)
  have u11 := dp_upd (o := .ins T.cCode dx (putF "k" (.int ((redM p n rows).2.1.length : Int)) [("p", .int p), ("n", .int (n : Int)), ("rows", w3)])) (nt_ins (e11 _ _ h10)) (tOnly_wd _) (dp_mono e11 u10)
  have r11 := dp_upd (o := .ins T.cCode dx (putF "k" (.int ((redM p n rows).2.1.length : Int)) [("p", .int p), ("n", .int (n : Int)), ("rows", w3)])) (nt_ins (e11 _ _ h10)) (show tOnly (.tuple (wds (redM p n rows).2.1)) = true from tOnly_wds _) (dp_mono e11 r10)
  have h11 : upd H11 a (.ins T.cCode dx (putF "k" (.int ((redM p n rows).2.1.length : Int)) [("p", .int p), ("n", .int (n : Int)), ("rows", w3)])) a = some (.ins T.cCode dx [("p", .int p), ("n", .int (n : Int)), ("rows", w3), ("k", .int ((redM p n rows).2.1.length : Int))]) := upd_same
  generalize upd H11 a (.ins T.cCode dx (putF "k" (.int ((redM p n rows).2.1.length : Int)) [("p", .int p), ("n", .int (n : Int)), ("rows", w3)])) = G11 at k11 u11 r11 h11
  refine s_fld (P := DP K (wd (nw (redM p n rows).2.2))) (ed_var rfl u11) (ex_var rfl) h11 T.cl_Code (T.no_Code "_pivots" (by decide)) (by show 4 < 1000; decide) fun w5 H12 e12 q12 => ?_
  exact k _ (keep_upd (keep_ex k11 e12)) ⟨dx, w3, w5, upd_same, dp_upd (nt_ins (e12 _ _ h11)) (show tOnly (.tuple (wds (redM p n rows).2.1)) = true from tOnly_wds _) (dp_mono e12 r11), dp_upd (nt_ins (e12 _ _ h11)) (tOnly_wd _) q12⟩
end
end WK

set_option Elab.async false
set_option linter.all false
set_option maxRecDepth 100000
set_option maxHeartbeats 4000000
/-! Code.holds, image_of, takes_map. -/
namespace WK
open PySem PySem.Spec PyProof.Rows L2 WM
open Evl (Ex ex_l ex_t ex_rd sq_of st_of sz_of sz_lt fresh_back rLenS rListS)
def unI : PyData → Int
  | .int i => i
  | _ => 0
def unW : PyData → W
  | .tuple ds => ds.map unI
  | _ => []
theorem unW_wd (v : W) : unW (wd v) = v := by
  show (v.map PyData.int).map unI = v
  rw [List.map_map]
  exact (List.map_congr_left fun x _ => rfl).trans (List.map_id v)
theorem items_ok {p : Int} : ∀ {ds : List PyData}, ds.all (okItem p) = true → ds = (ds.map unI).map PyData.int ∧ ∀ x ∈ ds.map unI, 0 ≤ x ∧ x < p
  | [], _ => ⟨rfl, fun x hx => absurd hx (List.not_mem_nil)⟩
  | d :: ds, h => by
    rw [List.all_cons, Bool.and_eq_true] at h
    obtain ⟨h1, h2⟩ := items_ok h.2
    obtain ⟨i, rfl⟩ : ∃ i, d = .int i := by
      cases d <;> first | exact ⟨_, rfl⟩ | exact Bool.noConfusion h.1
    have hb : (decide (0 ≤ i) && decide (i < p)) = true := h.1
    rw [Bool.and_eq_true] at hb
    refine ⟨?_, fun x hx => ?_⟩
    · show PyData.int i :: ds = PyData.int i :: _
      rw [← h1]
    · rcases List.mem_cons.mp hx with rfl | hx
      · exact ⟨of_decide_eq_true hb.1, of_decide_eq_true hb.2⟩
      · exact h2 x hx
theorem word_of {p : Int} {n : Nat} {d : PyData} (h : isWordD p n d = true) : d = wd (unW d) ∧ WOk p n (unW d) := by
  cases d with
  | tuple ds =>
    have hb : (ds.length == n && ds.all (okItem p)) = true := h
    rw [Bool.and_eq_true] at hb
    obtain ⟨h1, h2⟩ := items_ok hb.2
    refine ⟨congrArg PyData.tuple h1, ?_, h2⟩
    show (ds.map unI).length = n
    rw [List.length_map]
    exact beq_iff_eq.mp hb.1
  | _ => exact Bool.noConfusion h
abbrev holdsGo (c : CodeM) (v : W) (i : Nat) : W := (List.range i).foldl (fun rest k => addM rest (scaleM (c.rows.getD k []) (-(rest.getD (c.piv.getD k 0) 0)) c.p) c.p) v
def holdsM (c : CodeM) (v : W) : Bool := decide (holdsGo c v c.rows.length = zeroM c.n)
def holdsD (c : CodeM) (d : PyData) : Bool := isWordD c.p c.n d && holdsM c (unW d)
theorem holdsGo_succ (c : CodeM) (v : W) (i : Nat) : holdsGo c v (i + 1) = addM (holdsGo c v i) (scaleM (c.rows.getD i []) (-((holdsGo c v i).getD (c.piv.getD i 0) 0)) c.p) c.p := by
  unfold holdsGo
  rw [List.range_succ, List.foldl_append] <;> rfl
theorem CodeOk.pos {c : CodeM} (ok : CodeOk c) : 0 < c.p := by
  have := pr_pos ok.p
  omega
theorem CodeOk.row {c : CodeM} (ok : CodeOk c) {i : Nat} (h : i < c.rows.length) : c.rows[i]? = some (c.rows.getD i []) ∧ WOk c.p c.n (c.rows.getD i []) := ⟨getD_at [] h, ok.rows _ (List.mem_of_getElem? (getD_at [] h))⟩
theorem CodeOk.pv {c : CodeM} (ok : CodeOk c) {i : Nat} (h : i < c.rows.length) : c.piv.getD i 0 < c.n := ok.pn _ (List.mem_of_getElem? (getD_at 0 (by rw [ok.pl]; exact h)))
theorem holdsGo_ok {c : CodeM} (ok : CodeOk c) {v : W} (hv : WOk c.p c.n v) : ∀ i, i ≤ c.rows.length → WOk c.p c.n (holdsGo c v i)
  | 0, _ => hv
  | i + 1, h => by
    rw [holdsGo_succ]
    exact wok_add ok.pos (holdsGo_ok ok hv i (by omega)).1 (by rw [scaleM_len, (ok.row (by omega)).2.1])
theorem wok_at {p : Int} {n : Nat} {v : W} (h : WOk p n v) {i : Nat} (hi : i < n) : v[i]? = some (v.getD i 0) ∧ 0 ≤ v.getD i 0 ∧ v.getD i 0 < p := by
  have g : v[i]? = some (v.getD i 0) := getD_at 0 (by rw [h.1]; exact hi)
  exact ⟨g, h.2 _ (List.mem_of_getElem? g)⟩
section
variable {P : Program} {w : World} {K : PySem.W.Frag} {mg : Str → Option Value} {base : Heap}
def sp_holds (K : PySem.W.Frag) (C : Addr) : Sp := spOf (fun x : CodeM × PyData => [CP K C x.1, DP K x.2]) (fun x => CodeOk x.1 ∧ itemsPlain x.2 = true) (fun x => DP K (.bool (holdsD x.1 x.2)))
theorem ok_Code_holds (T : Txt K mg) : FnOk P w K mg base CX0 3 T.Code_holds.f T.Code_holds.fd ["self", "value"] (sp_holds K T.cCode) := by
  refine T.Code_holds.F.ok sc_Code_holds (fun vs H Q E h => spOf_len (n := 2) (fun _ => rfl) h) (fun cdv A outer s H vs Q E hr h => ?_)
  obtain ⟨⟨c, d⟩, ps, ⟨ok, hp⟩, k⟩ := h
  dsimp only at ps ok hp k
  obtain ⟨va, vd, rfl, ⟨a, rfl, ca⟩, pd⟩ := allP2 ps
  refine ⟨_, (pss_cons (ps_if (pt_not (pt_val (pe_call (ok_is_word T) (hr.mono (by decide)) (by rfl) T.is_word.g T.is_word.F.kp T.is_word.b .nil pass0 (pa_cons (pv 1) (pa_cons (kpe_fld K (pv 0)) (pa_cons (kpe_fld K (pv 0)) pa_nil)))))) (pss_one (ps_ret pe_bl)) pss_nil)
      (pss_cons (ps_set (i := 2) sc_Code_holds.nd rfl (Or.inl rfl) (pv 1))
      (pss_cons (ps_for PassesOwn.never rfl (pi_range1 (by rfl) T.z_range (pa_cons (kpe_fld K (pv 0)) pa_nil)) (pg_name (i := 3) sc_Code_holds.nd rfl (Or.inl rfl)) (pss_one (ps_set (i := 2) sc_Code_holds.nd rfl (Or.inl rfl) (pe_call (ok_add T) (hr.mono (by decide)) (by rfl) T.add.g T.add.F.kp T.add.b .nil pass0 (pa_cons (pv 2) (pa_cons (pe_call (ok_scaled T) (hr.mono (by decide)) (by rfl) T.scaled.g T.scaled.F.kp T.scaled.b .nil pass0 (pa_cons (pe_ix (kx_tup K) (kpe_fld K (pv 0)) (pv 3) (fun _ _ => rfl)) (pa_cons (pe_un un_neg (pe_ix (kx_tup K) (pv 2) (pe_ix (kx_tup K) (kpe_fld K (pv 0)) (pv 3) (fun _ _ => rfl)) (fun _ _ => rfl))) (pa_cons (kpe_fld K (pv 0)) pa_nil)))) (pa_cons (kpe_fld K (pv 0)) pa_nil)))))))
      (pss_one (ps_ret (pe_cmpR (ko_eqD K hr) (pv 2) (pe_op (op_repZ K) (pe_tup (pa_cons pe_int pa_nil)) (kpe_fld K (pv 0))) (nomark _))))))), ?_⟩
  have hpp := ok.pos
  have h5 := pr_pos ok.p
  refine q_when (b := !isWordD c.p c.n d) (eb_not (eb_B (K := K) (ev_call (ι := PyData × Int × Nat) (ar := fun x => [DP K x.1, DP K (.int x.2.1), DP K (.int (x.2.2 : Int))]) (pre := fun x => itemsPlain x.1 = true) (res := fun x => DP K (.bool (isWordD x.2.1 x.2.2 x.1))) (E := E0) (d, c.p, c.n) hp (ea_cons (ed_var rfl pd) (ea_cons (cf_p T (ex_var rfl) ca) (ea_cons (cf_n T (ex_var rfl) ca) ea_nil)))))) (fun hb H1 e1 => ?_) (fun hb H1 e1 => ?_)
  · refine s_ret (P := DP K (.bool false)) ed_bl fun v H2 e2 pv => k v H2 (e1.trans e2) ?_
    have hw : isWordD c.p c.n d = false := by simpa using hb
    show Dp K H2 v (.bool (isWordD c.p c.n d && holdsM c (unW d)))
    rw [hw]
    exact pv
  · have hw : isWordD c.p c.n d = true := by simpa using hb
    obtain ⟨ed, wv⟩ := word_of hw
    have hres : holdsD c d = holdsM c (unW d) := by
      unfold holdsD
      rw [hw, Bool.true_and]
    generalize unW d = v at ed wv hres
    rw [ed] at pd
    refine q_asg (P := DP K (wd v)) (ed_var rfl (dp_mono e1 pd)) fun v2 H2 e2 p2 => ?_
    refine q_forR (n := (c.rows.length : Int)) (ea_cons (cf_k T (ex_var rfl) (ca.mono (e1.trans e2))) ea_nil) ⟨by omega, by have := ok.k; omega⟩
      (fun i σ' H' => ∃ t z, σ' = [some (.ref a), some vd, some t, z] ∧ Ex H H' ∧ Dp K H' t (wd (holdsGo c v i))) (fun H3 e3 => ⟨_, _, rfl, (e1.trans e2).trans e3, dp_mono e3 p2⟩) (fun i σ' H' hi h => ?_) (fun σ' H' h => ?_)
    · obtain ⟨t, z, rfl, e, pt⟩ := h
      have hi' : i < c.rows.length := by omega
      have hg := holdsGo_ok ok wv i (by omega)
      obtain ⟨r1, r2⟩ := ok.row hi'
      have hpv := ok.pv hi'
      have gx := wok_at hg hpv
      have ca' := ca.mono e
      refine s_asg (P := DP K (wd (holdsGo c v (i + 1)))) ?_ fun v3 H3 e3 p3 => ⟨_, _, rfl, e.trans e3, p3⟩
      rw [holdsGo_succ]
      exact ev_call (ι := W × W × Int) (holdsGo c v i, scaleM (c.rows.getD i []) (-((holdsGo c v i).getD (c.piv.getD i 0) 0)) c.p, c.p) ⟨by show (scaleM _ _ _).length = (holdsGo c v i).length; rw [scaleM_len, r2.1, hg.1], by show (holdsGo c v i).length ≤ 1000; rw [hg.1]; have := ok.n; omega, hpp⟩
        (ea_cons (ed_var rfl pt) (ea_cons (ev_call (ι := W × Int × Int) (c.rows.getD i [], -((holdsGo c v i).getD (c.piv.getD i 0) 0), c.p) ⟨by show (c.rows.getD i []).length ≤ 1000; rw [r2.1]; have := ok.n; omega, by show -1000 ≤ -(_ : Int); omega, by show -(_ : Int) ≤ 1000; omega, hpp⟩
          (ea_cons (ed_ixT (at_wd r1 rfl) (cf_rows T (ex_var rfl) ca') (ed_var rfl (.int _))) (ea_cons (ed_neg (ed_ixT (at_int gx.1 rfl) (ed_var rfl pt) (ed_ixT (at_int (nw_at (by rw [ok.pl]; exact hi')) rfl) (cf_piv T (ex_var rfl) ca') (ed_var rfl (.int _))))) (ea_cons (cf_p T (ex_var rfl) ca') ea_nil)))) (ea_cons (cf_p T (ex_var rfl) ca') ea_nil)))
    · obtain ⟨t, z, rfl, e, pt⟩ := h
      rw [Int.toNat_natCast] at pt
      refine s_ret (P := DP K (.bool (holdsD c d))) (EvP.is (ed_eqD (shaped_wd _) (shaped_wd _) (ed_var rfl pt) (EvP.is (d2 := wd (zeroM c.n)) (ed_repZ (ed_tup (ds := [.int 0]) (ea_cons ed_int ea_nil) (by show 1 ≤ 100000; decide)) (cf_n T (ex_var rfl) (ca.mono e)) (by have := ok.n; omega)) ?_)) ?_) fun v3 H3 e3 p3 => k v3 H3 (e.trans e3) p3
      · unfold zeroM
        rw [wd, List.map_replicate]
      · rw [eqv_wd, hres] <;> rfl

/-! ### image_of -/
def pivOf (n : Nat) (r : W) : Nat := ((List.range n).filter fun i => r.getD i 0 != 0).getD 0 0
def imgStep (c : CodeM) (imgs : List W) (s : W × W) (k : Nat) : W × W :=
  (addM s.1 (scaleM (c.rows.getD k []) (-(s.1.getD (pivOf c.n (c.rows.getD k [])) 0)) c.p) c.p, addM s.2 (scaleM (imgs.getD k []) (s.1.getD (pivOf c.n (c.rows.getD k [])) 0) c.p) c.p)
abbrev imgGo (c : CodeM) (imgs : List W) (v : W) (i : Nat) : W × W := (List.range i).foldl (imgStep c imgs) (v, zeroM c.n)
def imageM (c : CodeM) (imgs : List W) (v : W) : W := (imgGo c imgs v c.rows.length).2
theorem imgGo_succ (c : CodeM) (imgs : List W) (v : W) (i : Nat) : imgGo c imgs v (i + 1) = imgStep c imgs (imgGo c imgs v i) i := by
  unfold imgGo
  rw [List.range_succ, List.foldl_append] <;> rfl
theorem zero_ok {p : Int} (hp : 0 < p) (n : Nat) : WOk p n (zeroM n) := by
  unfold zeroM
  exact ⟨List.length_replicate, fun x hx => by rw [List.eq_of_mem_replicate hx]; omega⟩
theorem imgGo_ok {c : CodeM} (ok : CodeOk c) {imgs : List W} {v : W} (hv : WOk c.p c.n v) (hl : imgs.length = c.rows.length) (hI : ∀ r ∈ imgs, WOk c.p c.n r) : ∀ i, i ≤ c.rows.length → WOk c.p c.n (imgGo c imgs v i).1 ∧ WOk c.p c.n (imgGo c imgs v i).2
  | 0, _ => ⟨hv, zero_ok ok.pos _⟩
  | i + 1, h => by
    rw [imgGo_succ]
    obtain ⟨h1, h2⟩ := imgGo_ok ok hv hl hI i (by omega)
    exact ⟨wok_add ok.pos h1.1 (by rw [scaleM_len, (ok.row (by omega)).2.1]), wok_add ok.pos h2.1 (by rw [scaleM_len, (hI _ (List.mem_of_getElem? (getD_at [] (by omega)))).1])⟩
theorem pivOf_lt {n : Nat} {r : W} (h : (List.range n).filter (fun i => r.getD i 0 != 0) ≠ []) : pivOf n r < n ∧ ((List.range n).filter fun i => r.getD i 0 != 0)[0]? = some (pivOf n r) := by
  unfold pivOf
  cases hq : (List.range n).filter fun i => r.getD i 0 != 0 with
  | nil => exact absurd hq h
  | cons a l =>
    have hm : a ∈ (List.range n).filter fun i => r.getD i 0 != 0 := by rw [hq]; exact List.mem_cons_self
    exact ⟨List.mem_range.mp (List.mem_filter.mp hm).1, rfl⟩
def sp_image_of (K : PySem.W.Frag) (C : Addr) : Sp := spOf (fun x : CodeM × List W × W => [CP K C x.1, DP K (.tuple (wds x.2.1)), DP K (wd x.2.2)]) (fun x => CodeOk x.1 ∧ x.2.1.length = x.1.rows.length ∧ (∀ r ∈ x.2.1, WOk x.1.p x.1.n r) ∧ WOk x.1.p x.1.n x.2.2) (fun x => DP K (wd (imageM x.1 x.2.1 x.2.2)))
theorem ok_image_of (T : Txt K mg) : FnOk P w K mg base CX0 3 T.image_of.f T.image_of.fd ["a", "images", "word"] (sp_image_of K T.cCode) := by
  refine T.image_of.F.ok sc_image_of (fun vs H Q E h => spOf_len (n := 3) (fun _ => rfl) h) (fun cdv A outer s H vs Q E hr h => ?_)
  obtain ⟨⟨c, imgs, v⟩, ps, ⟨ok, hl, hI, wv⟩, k⟩ := h
  dsimp only at ps ok hl hI wv k
  obtain ⟨va, vi, vw, rfl, ⟨a, rfl, ca⟩, pi, pw⟩ := allP3 ps
  refine ⟨_, (pss_cons (ps_set (i := 3) sc_image_of.nd rfl (Or.inl rfl) (pe_op (op_repZ K) (pe_tup (pa_cons pe_int pa_nil)) (kpe_fld K (pv 0))))
      (pss_cons (ps_set (i := 4) sc_image_of.nd rfl (Or.inl rfl) (pv 2))
      (pss_cons (ps_for PassesOwn.never rfl (pi_range1 (by rfl) T.z_range (pa_cons (kpe_fld K (pv 0)) pa_nil)) (pg_name (i := 5) sc_image_of.nd rfl (Or.inr rfl)) (pss_cons (ps_set (i := 6) sc_image_of.nd rfl (Or.inl rfl) (pe_ix (kx_list K) (pe_lc (own := [("i", 8)]) (g := gName 8) rfl sc_image_of.nd (pi_range1 (by rfl) T.z_range (pa_cons (kpe_fld K (pv 0)) pa_nil)) (blkOk_by (own := [("i", 8)]) (N := N_image_of) (sc := (defScope s_image_of)) (by decide +kernel)) (fun _ _ _ _ _ => pg_name (i := 8) sc_image_of.nd rfl (Or.inl rfl)) (fun _ _ _ _ _ => (pts_one (pt_cmpR op_ne (pe_ix (kx_tup K) (pe_ix (kx_tup K) (kpe_fld K (pv 0)) (pv 5) (fun _ _ => rfl)) (pv 8) (fun _ _ => rfl)) pe_int (nomark _)))) (fun _ _ _ _ _ => (pv 8))) pe_int (fun _ _ => rfl)))
      (pss_cons (ps_set (i := 7) sc_image_of.nd rfl (Or.inl rfl) (pe_ix (kx_tup K) (pv 4) (pv 6) (fun _ _ => rfl)))
      (pss_cons (ps_set (i := 4) sc_image_of.nd rfl (Or.inl rfl) (pe_call (ok_add T) (hr.mono (by decide)) (by rfl) T.add.g T.add.F.kp T.add.b .nil pass0 (pa_cons (pv 4) (pa_cons (pe_call (ok_scaled T) (hr.mono (by decide)) (by rfl) T.scaled.g T.scaled.F.kp T.scaled.b .nil pass0 (pa_cons (pe_ix (kx_tup K) (kpe_fld K (pv 0)) (pv 5) (fun _ _ => rfl)) (pa_cons (pe_un un_neg (pv 7)) (pa_cons (kpe_fld K (pv 0)) pa_nil)))) (pa_cons (kpe_fld K (pv 0)) pa_nil)))))
      (pss_one (ps_set (i := 3) sc_image_of.nd rfl (Or.inl rfl) (pe_call (ok_add T) (hr.mono (by decide)) (by rfl) T.add.g T.add.F.kp T.add.b .nil pass0 (pa_cons (pv 3) (pa_cons (pe_call (ok_scaled T) (hr.mono (by decide)) (by rfl) T.scaled.g T.scaled.F.kp T.scaled.b .nil pass0 (pa_cons (pe_ix (kx_tup K) (pv 1) (pv 5) (fun _ _ => rfl)) (pa_cons (pv 7) (pa_cons (kpe_fld K (pv 0)) pa_nil)))) (pa_cons (kpe_fld K (pv 0)) pa_nil))))))))))
      (pss_one (ps_ret (pv 3)))))), ?_⟩
  have hpp := ok.pos
  have h5 := pr_pos ok.p
  have hn5 := ok.n
  refine q_asg (P := DP K (wd (zeroM c.n))) (EvP.is (ed_repZ (ed_tup (ds := [.int 0]) (ea_cons ed_int ea_nil) (by show 1 ≤ 100000; decide)) (cf_n T (ex_var rfl) ca) (by omega)) ?_) fun v0 H1 e1 p0 => ?_
  · unfold zeroM
    rw [wd, List.map_replicate]
  refine q_asg (P := DP K (wd v)) (ed_var rfl (dp_mono e1 pw)) fun v1 H2 e2 p1 => ?_
  refine q_forR (n := (c.rows.length : Int)) (ea_cons (cf_k T (ex_var rfl) (ca.mono (e1.trans e2))) ea_nil) ⟨by omega, by have := ok.k; omega⟩
    (fun i σ' H' => ∃ t r z z6 z7 z8, σ' = [some (.ref a), some vi, some vw, some t, some r, z, z6, z7, z8] ∧ Ex H H' ∧ Dp K H' t (wd (imgGo c imgs v i).2) ∧ Dp K H' r (wd (imgGo c imgs v i).1))
    (fun H3 e3 => ⟨_, _, _, _, _, _, rfl, (e1.trans e2).trans e3, dp_mono (e2.trans e3) p0, dp_mono e3 p1⟩) (fun i σ' H' hi h => ?_) (fun σ' H' h => ?_)
  · obtain ⟨t, r, z, z6, z7, z8, rfl, e, pt, pr⟩ := h
    have hi' : i < c.rows.length := by omega
    obtain ⟨g1, g2⟩ := imgGo_ok ok wv hl hI i (by omega)
    obtain ⟨r1, r2⟩ := ok.row hi'
    have i1 : imgs[i]? = some (imgs.getD i []) := getD_at [] (by omega)
    have i2 := hI _ (List.mem_of_getElem? i1)
    have hsucc := imgGo_succ c imgs v i
    unfold imgStep at hsucc
    obtain ⟨q1, q2⟩ := pivOf_lt (ok.nz _ (List.mem_of_getElem? r1))
    have gx := wok_at g1 q1
    generalize imgGo c imgs v i = S at pt pr g1 g2 hsucc gx
    generalize c.rows.getD i [] = row at r1 r2 hsucc q1 q2 gx
    generalize pivOf c.n row = at_ at q1 q2 hsucc gx
    have ca' := ca.mono e
    refine q_asg (P := DP K (.int (at_ : Int))) (ed_ixL (i := 0) (ds := ((List.range c.n).filter fun i => row.getD i 0 != 0).map fun (k : Nat) => PyData.int (k : Int)) (atI_nat (by rw [List.getElem?_map, q2] <;> rfl)) (EvN.ls (EvN.is (en_lcR (n := (c.n : Int)) (fun i => row.getD i 0 != 0) (fun k => .int (k : Int)) (fun _ => rfl) (ea_cons (cf_n T (ex_var rfl) ca') ea_nil) ⟨by omega, by omega⟩ (fun _ => rfl) (fun j H3 e3 hj => ?_) (fun j H3 e3 hj _ => ed_var rfl (.int _))) ?_)) ed_int) fun v3 H3 e3 p3 => ?_
    · have gj := wok_at r2 (show j < c.n by omega)
      exact EvB.is (eb_test (K := K) (ed_neI (ed_ixT (at_int gj.1 rfl) (ed_ixT (at_wd r1 rfl) (cf_rows T (ex_var rfl) (ca'.mono e3)) (ed_var rfl (.int _))) (ed_var rfl (.int _))) ed_int)) rfl
    · rw [Int.toNat_natCast]
    have e3v := dp_int p3
    subst e3v
    refine q_asg (P := DP K (.int (S.1.getD at_ 0))) (ed_ixT (at_int gx.1 rfl) (ed_var rfl (dp_mono e3 pr)) (ed_var rfl (.int _))) fun v4 H4 e4 p4 => ?_
    have ca4 := ca'.mono (e3.trans e4)
    refine q_asg (P := DP K (wd (addM S.1 (scaleM row (-(S.1.getD at_ 0)) c.p) c.p))) (ev_call (ι := W × W × Int) (S.1, scaleM row (-(S.1.getD at_ 0)) c.p, c.p) ⟨by show (scaleM _ _ _).length = S.1.length; rw [scaleM_len, r2.1, g1.1], by show S.1.length ≤ 1000; rw [g1.1]; omega, hpp⟩
      (ea_cons (ed_var rfl (dp_mono (e3.trans e4) pr)) (ea_cons (ev_call (ι := W × Int × Int) (row, -(S.1.getD at_ 0), c.p) ⟨by show row.length ≤ 1000; rw [r2.1]; omega, by show -1000 ≤ -(_ : Int); omega, by show -(_ : Int) ≤ 1000; omega, hpp⟩
        (ea_cons (ed_ixT (at_wd r1 rfl) (cf_rows T (ex_var rfl) ca4) (ed_var rfl (.int _))) (ea_cons (ed_neg (ed_var rfl p4)) (ea_cons (cf_p T (ex_var rfl) ca4) ea_nil)))) (ea_cons (cf_p T (ex_var rfl) ca4) ea_nil)))) fun v5 H5 e5 p5 => ?_
    have ca5 := ca4.mono e5
    refine s_asg (P := DP K (wd (addM S.2 (scaleM (imgs.getD i []) (S.1.getD at_ 0) c.p) c.p))) (ev_call (ι := W × W × Int) (S.2, scaleM (imgs.getD i []) (S.1.getD at_ 0) c.p, c.p) ⟨by show (scaleM _ _ _).length = S.2.length; rw [scaleM_len, i2.1, g2.1], by show S.2.length ≤ 1000; rw [g2.1]; omega, hpp⟩
      (ea_cons (ed_var rfl (dp_mono ((e3.trans e4).trans e5) pt)) (ea_cons (ev_call (ι := W × Int × Int) (imgs.getD i [], S.1.getD at_ 0, c.p) ⟨by show (imgs.getD i []).length ≤ 1000; rw [i2.1]; omega, by show -1000 ≤ (S.1.getD at_ 0 : Int); omega, by show (S.1.getD at_ 0 : Int) ≤ 1000; omega, hpp⟩
        (ea_cons (ed_ixT (at_wd i1 rfl) (ed_var rfl (dp_mono (((e.trans e3).trans e4).trans e5) pi)) (ed_var rfl (.int _))) (ea_cons (ed_var rfl (dp_mono e5 p4)) (ea_cons (cf_p T (ex_var rfl) ca5) ea_nil)))) (ea_cons (cf_p T (ex_var rfl) ca5) ea_nil)))) fun v6 H6 e6 p6 => ?_
    refine ⟨_, _, _, _, _, _, rfl, (((e.trans e3).trans e4).trans e5).trans e6, ?_, ?_⟩
    · rw [hsucc]
      exact p6
    · rw [hsucc]
      exact dp_mono e6 p5
  · obtain ⟨t, r, z, z6, z7, z8, rfl, e, pt, pr⟩ := h
    rw [Int.toNat_natCast] at pt
    exact s_ret (P := DP K (wd (imageM c imgs v))) (ed_var rfl pt) fun v3 H3 e3 p3 => k v3 H3 (e.trans e3) p3
end
end WK

set_option Elab.async false
set_option linter.all false
set_option maxRecDepth 100000
set_option maxHeartbeats 4000000
/-! takes_map. -/
namespace WK
open PySem PySem.Spec PyProof.Rows L2 WM
open Evl (Ex ex_l ex_t ex_rd sq_of st_of sz_of sz_lt fresh_back rLenS rListS)
def unN (d : PyData) : List Nat := (unW d).map Int.toNat
theorem nw_toNat : ∀ {v : W}, (∀ x ∈ v, 0 ≤ x) → nw (v.map Int.toNat) = v
  | [], _ => rfl
  | x :: v, h => by
    have ih := nw_toNat (v := v) fun y hy => h y (List.mem_cons_of_mem _ hy)
    have hx := h x List.mem_cons_self
    unfold nw at ih ⊢
    rw [List.map_cons, List.map_cons, ih]
    congr 1
    omega
theorem monoGo_of {p n : Int} : ∀ {ds es : List PyData} {seen : List Int}, ds.length = es.length → monoGo p n seen (ds.zip es) = true →
    (ds = (ds.map unI).map PyData.int ∧ ∀ x ∈ ds.map unI, 0 ≤ x ∧ x < n) ∧ (es = (es.map unI).map PyData.int ∧ ∀ x ∈ es.map unI, 1 ≤ x ∧ x < p)
  | [], [], _, _, _ => ⟨⟨rfl, fun x hx => absurd hx List.not_mem_nil⟩, rfl, fun x hx => absurd hx List.not_mem_nil⟩
  | [], _ :: _, _, h, _ => by simp at h
  | _ :: _, [], _, h, _ => by simp at h
  | d :: ds, e :: es, seen, h, hg => by
    rw [List.zip_cons_cons] at hg
    obtain ⟨a, rfl⟩ : ∃ a, d = .int a := by
      cases d <;> first | exact ⟨_, rfl⟩ | exact Bool.noConfusion hg
    obtain ⟨m, rfl⟩ : ∃ m, e = .int m := by
      cases e <;> first | exact ⟨_, rfl⟩ | exact Bool.noConfusion hg
    have hb : (!(decide (a < 0) || (decide (n ≤ a) || (decide (a ∈ seen) || (decide (m < 1) || decide (p ≤ m))))) && monoGo p n (a :: seen) (ds.zip es)) = true := hg
    rw [Bool.and_eq_true] at hb
    obtain ⟨⟨a1, a2⟩, b1, b2⟩ := monoGo_of (by simpa using h) hb.2
    have hc := hb.1
    simp only [Bool.not_eq_true', Bool.or_eq_false_iff, decide_eq_false_iff_not] at hc
    refine ⟨⟨?_, fun x hx => ?_⟩, ?_, fun x hx => ?_⟩
    · show PyData.int a :: ds = PyData.int a :: _
      rw [← a1]
    · rcases List.mem_cons.mp hx with hx | hx
      · rw [hx]
        show 0 ≤ a ∧ a < n
        omega
      · exact a2 x hx
    · show PyData.int m :: es = PyData.int m :: _
      rw [← b1]
    · rcases List.mem_cons.mp hx with hx | hx
      · rw [hx]
        show 1 ≤ m ∧ m < p
        omega
      · exact b2 x hx
theorem mono_of {p : Int} {n : Nat} {y z : PyData} (h : isMonoD p n y z = true) : y = wd (nw (unN y)) ∧ z = wd (unW z) ∧ (unN y).length = n ∧ (unW z).length = n ∧ (∀ q ∈ unN y, q < n) ∧ ∀ m ∈ unW z, 1 ≤ m ∧ m < p := by
  cases y with
  | tuple ds =>
    cases z with
    | tuple es =>
      have hb : (ds.length == n && es.length == n && monoGo p n [] (ds.zip es)) = true := h
      rw [Bool.and_eq_true, Bool.and_eq_true, beq_iff_eq, beq_iff_eq] at hb
      obtain ⟨⟨h1, h2⟩, h3⟩ := hb
      obtain ⟨⟨a1, a2⟩, b1, b2⟩ := monoGo_of (by omega) h3
      have e : nw (unN (.tuple ds)) = ds.map unI := nw_toNat fun x hx => (a2 x hx).1
      refine ⟨?_, congrArg PyData.tuple b1, ?_, ?_, fun q hq => ?_, b2⟩
      · rw [e]
        exact congrArg PyData.tuple a1
      · show ((ds.map unI).map Int.toNat).length = n
        rw [List.length_map, List.length_map, h1]
      · show (es.map unI).length = n
        rw [List.length_map, h2]
      · obtain ⟨x, hx, rfl⟩ := List.mem_map.mp hq
        have := a2 x hx
        omega
    | _ => exact Bool.noConfusion h
  | _ => exact Bool.noConfusion h
theorem CodeAt.ins {K : PySem.W.Frag} {C : Addr} {c : CodeM} {H : Hp} {a : Addr} (h : CodeAt K C c H a) : ∃ dx fs, H a = some (.ins C dx fs) ∧ fs.lookup ("holds" : Str) = none ∧ fs.lookup ("words" : Str) = none := by
  obtain ⟨dx, vr, vp, h1, _⟩ := h
  exact ⟨dx, _, h1, rfl, rfl⟩
/-- o.m(..) -/
theorem ev_meth {K : PySem.W.Frag} {σ : L2.St} {H : Hp} {to : TE} {ta : TA} {ι : Type} {ar : ι → List VP} {pre : ι → Prop} {res : ι → VP} {E : XK} {P : VP} {Ps : List VP} {C a : Addr} {m : Str} [Mono P] (x : ι) (hp : pre x) (pa : P H (.ref a)) (hi : ∃ dx fs, H a = some (.ins C dx fs) ∧ fs.lookup m = none) (hx : ar x = P :: Ps) (ho : EvP to σ H (XP (.ref a))) (ha : EvA ta σ H Ps) :
    EvP (tMeth C m (spOf ar pre res) [] E to ta) σ H (res x) := fun H1 e Q q => ho H1 e _ fun v H2 e2 hv => by
  obtain ⟨dx, fs, h1, h2⟩ := hi
  refine ⟨a, dx, fs, hv, (e.trans e2) _ _ h1, h2, ha H2 (e.trans e2) _ fun vs H3 e3 ps => ?_⟩
  have hv' : v = .ref a := hv
  subst hv'
  rw [List.append_nil]
  exact ⟨x, by rw [hx]; exact ⟨Mono.mono ((e.trans e2).trans e3) pa, ps⟩, hp, fun w H4 e4 p => q w H4 (e2.trans (e3.trans e4)) p⟩
def sameGo (c : CodeM) (imgs : List W) (y : List Nat) (z : W) (i : Nat) : Bool := (List.range i).all fun k => decide (movedM c.p (c.rows.getD k []) y z = imgs.getD k [])
def keepsD (c : CodeM) (imgs : List W) (y : PyData) : List PyData → Bool
  | [z] => isMonoD c.p c.n y z && sameGo c imgs (unN y) (unW z) c.rows.length
  | _ => false
/-- what takes_map answers -/
def isStrD : PyData → Bool
  | .str _ => true
  | _ => false
def takesD (c : CodeM) (imgs : List W) : PyData → Bool
  | .tuple (.str s :: y :: r) =>
    if s = "changes" then r.isEmpty && holdsD c y && !decide (weightM (unW y) = weightM (imageM c imgs (unW y)))
    else if s = "keeps" then keepsD c imgs y r
    else false
  | _ => false
theorem takesD_ch (c : CodeM) (imgs : List W) (y : PyData) (r : List PyData) : takesD c imgs (.tuple (.str "changes" :: y :: r)) = (r.isEmpty && holdsD c y && !decide (weightM (unW y) = weightM (imageM c imgs (unW y)))) := by
  exact (if_pos rfl : (if ("changes" : Str) = "changes" then (r.isEmpty && holdsD c y && !decide (weightM (unW y) = weightM (imageM c imgs (unW y)))) else (if ("changes" : Str) = "keeps" then keepsD c imgs y r else false)) = _)
theorem takesD_ke (c : CodeM) (imgs : List W) (s : Str) (y : PyData) (r : List PyData) (h : ¬ s = "changes") : takesD c imgs (.tuple (.str s :: y :: r)) = if s = "keeps" then keepsD c imgs y r else false := by
  exact (if_neg h : (if s = "changes" then (r.isEmpty && holdsD c y && !decide (weightM (unW y) = weightM (imageM c imgs (unW y)))) else (if s = "keeps" then keepsD c imgs y r else false)) = _)
theorem takesD_short (c : CodeM) (imgs : List W) (ds : List PyData) (h : (ds.length : Int) < 2) : takesD c imgs (.tuple ds) = false := by
  match ds, h with
  | [], _ => rfl
  | [x], _ => cases x <;> rfl
  | x :: y :: r, h => simp only [List.length_cons] at h; omega
theorem keepsD_no (c : CodeM) (imgs : List W) (y : PyData) (r : List PyData) (h : ¬ ∃ z, r = [z]) : keepsD c imgs y r = false := by
  match r, h with
  | [], _ => rfl
  | [z], h => exact absurd ⟨z, rfl⟩ h
  | _ :: _ :: _, _ => rfl
theorem len3_no (x y : PyData) (r : List PyData) (h : ¬ ∃ z, r = [z]) : ¬ ((x :: y :: r).length : Int) = 3 := by
  match r, h with
  | [], _ => simp only [List.length_cons, List.length_nil]; omega
  | [z], h => exact absurd ⟨z, rfl⟩ h
  | _ :: _ :: _, _ => simp only [List.length_cons]; omega
theorem two_of {ds : List PyData} (h : ¬ (ds.length : Int) < 2) : ∃ x y r, ds = x :: y :: r := by
  match ds, h with
  | [], h => exact absurd (by decide) h
  | [x], h => exact absurd (show ((1 : Nat) : Int) < 2 by decide) h
  | x :: y :: r, _ => exact ⟨x, y, r, rfl⟩
/-- the papers that are handed in here -/
def papOk : PyData → Bool
  | .tuple (x :: y :: r) => isStrD x && itemsPlain y && r.all itemsPlain
  | .dict _ => false
  | _ => true
section
variable {P : Program} {w : World} {K : PySem.W.Frag} {mg : Str → Option Value} {base : Heap}
def sp_takes_map (K : PySem.W.Frag) (C : Addr) : Sp := spOf (fun x : CodeM × List W × PyData => [CP K C x.1, DP K (.tuple (wds x.2.1)), DP K x.2.2]) (fun x => CodeOk x.1 ∧ x.2.1.length = x.1.rows.length ∧ (∀ r ∈ x.2.1, WOk x.1.p x.1.n r) ∧ papOk x.2.2 = true) (fun x => DP K (.bool (takesD x.1 x.2.1 x.2.2)))
theorem ok_takes_map (T : Txt K mg) : FnOk P w K mg base CX0 4 T.takes_map.f T.takes_map.fd ["a", "images", "paper"] (sp_takes_map K T.cCode) := by
  refine T.takes_map.F.ok sc_takes_map (fun vs H Q E h => spOf_len (n := 3) (fun _ => rfl) h) (fun cdv A outer s H vs Q E hr h => ?_)
  obtain ⟨⟨c, imgs, d⟩, ps, ⟨ok, hl, hI, hpap⟩, k⟩ := h
  dsimp only at ps ok hl hI hpap k
  obtain ⟨va, vi, vd, rfl, ⟨a, rfl, ca⟩, pi, pd⟩ := allP3 ps
  refine ⟨_, (pss_cons (ps_if (PW.pt (pw_or (pt_not (pt_val (pe_callB (kc_isi K) (by rfl) T.z_isinstance (by decide +kernel) (pa_cons (pv 2) (pa_cons (pe_bltn (v := .ty "tuple") rfl T.z_tuple (by decide +kernel) rfl) pa_nil))))) (pw_or1 (pt_cmpR op_lt (pe_callB (kc_len K) (by rfl) T.z_len PySem.boot_len (pa_cons (pv 2) pa_nil)) pe_int (nomark _))))) (pss_one (ps_ret pe_bl)) pss_nil)
      (pss_cons (ps_if (pt_cmpR op_eq (pe_ix (kx_tup K) (pv 2) pe_int (fun _ _ => rfl)) pe_str (nomark _)) (pss_cons (ps_if (PW.pt (pw_or (pt_cmpR op_ne (pe_callB (kc_len K) (by rfl) T.z_len PySem.boot_len (pa_cons (pv 2) pa_nil)) pe_int (nomark _)) (pw_or1 (pt_not (pt_val (pe_meth (pv 0) T.cl_Code T.mt_holds (ok_Code_holds T) (hr.mono (by decide)) T.Code_holds.b .nil pass0 (pa_cons (pe_ix (kx_tup K) (pv 2) pe_int (fun _ _ => rfl)) pa_nil))))))) (pss_one (ps_ret pe_bl)) pss_nil)
      (pss_one (ps_ret (pe_cmpR op_ne (pe_call (ok_weight_of T) (hr.mono (by decide)) (by rfl) T.weight_of.g T.weight_of.F.kp T.weight_of.b .nil pass0 (pa_cons (pe_ix (kx_tup K) (pv 2) pe_int (fun _ _ => rfl)) pa_nil)) (pe_call (ok_weight_of T) (hr.mono (by decide)) (by rfl) T.weight_of.g T.weight_of.F.kp T.weight_of.b .nil pass0 (pa_cons (pe_call (ok_image_of T) (hr.mono (by decide)) (by rfl) T.image_of.g T.image_of.F.kp T.image_of.b .nil pass0 (pa_cons (pv 0) (pa_cons (pv 1) (pa_cons (pe_ix (kx_tup K) (pv 2) pe_int (fun _ _ => rfl)) pa_nil)))) pa_nil)) (nomark _))))) pss_nil)
      (pss_cons (ps_if (PW.pt (pw_or (pt_cmpR op_ne (pe_ix (kx_tup K) (pv 2) pe_int (fun _ _ => rfl)) pe_str (nomark _)) (pw_or (pt_cmpR op_ne (pe_callB (kc_len K) (by rfl) T.z_len PySem.boot_len (pa_cons (pv 2) pa_nil)) pe_int (nomark _)) (pw_or1 (pt_not (pt_val (pe_call (ok_is_monomial T) (hr.mono (by decide)) (by rfl) T.is_monomial.g T.is_monomial.F.kp T.is_monomial.b .nil pass0 (pa_cons (kpe_fld K (pv 0)) (pa_cons (kpe_fld K (pv 0)) (pa_cons (pe_ix (kx_tup K) (pv 2) pe_int (fun _ _ => rfl)) (pa_cons (pe_ix (kx_tup K) (pv 2) pe_int (fun _ _ => rfl)) pa_nil))))))))))) (pss_one (ps_ret pe_bl)) pss_nil)
      (pss_cons (ps_for PassesOwn.never rfl (pi_range1 (by rfl) T.z_range (pa_cons (kpe_fld K (pv 0)) pa_nil)) (pg_name (i := 3) sc_takes_map.nd rfl (Or.inl rfl)) (pss_one (ps_if (pt_cmpR (ko_neD K hr) (pe_call (ok_moved T) (hr.mono (by decide)) (by rfl) T.moved.g T.moved.F.kp T.moved.b .nil pass0 (pa_cons (pe_ix (kx_tup K) (kpe_fld K (pv 0)) (pv 3) (fun _ _ => rfl)) (pa_cons (kpe_fld K (pv 0)) (pa_cons (pe_ix (kx_tup K) (pv 2) pe_int (fun _ _ => rfl)) (pa_cons (pe_ix (kx_tup K) (pv 2) pe_int (fun _ _ => rfl)) pa_nil))))) (pe_ix (kx_tup K) (pv 1) (pv 3) (fun _ _ => rfl)) (nomark _)) (pss_one (ps_ret pe_bl)) pss_nil)))
      (pss_one (ps_ret pe_bl)))))), ?_⟩
  have hpp := ok.pos
  have h5 := pr_pos ok.p
  have hn5 := ok.n
  have hpl : plainD d = true := by
    cases d <;> first | rfl | exact Bool.noConfusion hpap
  have no : ∀ {H1 : Hp} {σ : L2.St} {DD : Ends}, Ex H H1 → DD.rt = Q → takesD c imgs d = false → tRet (tC (.bl false)) DD σ H1 := fun {H1 σ DD} e1 hD hf =>
    s_ret (P := DP K (.bool false)) ed_bl fun v H2 e2 pv => by
      rw [hD]
      exact k v H2 (e1.trans e2) (by rw [hf]; exact pv)
  have isi : EvB _ (start N_takes_map [.ref a, vi, vd]) H _ := eb_not (eb_B (ed_isi (kit_tuple hpl) (ed_var (K := K) (n := 2) rfl pd)))
  rcases tup_or d with ⟨ds, rfl⟩ | h1
  · have lenE : ∀ {H1 : Hp} {σ : L2.St}, σ[2]? = some (some vd) → Ex H H1 → EvD K (tCB (rLenS K) (tCons (tVar 2) tNil)) σ H1 (.int (ds.length : Int)) := fun {H1 σ} hσ e1 => ed_lenT (ed_var hσ (dp_mono e1 pd))
    refine q_when (b := decide ((ds.length : Int) < 2)) (EvB.is (eb_or isi fun _ => eb_test (K := K) (ed_lt (lenE rfl (Ex.refl _)) ed_int)) rfl) (fun hb H1 e1 => no e1 rfl ?_) (fun hb H1 e1 => ?_)
    · exact takesD_short _ _ _ (of_decide_eq_true hb)
    · have hge := of_decide_eq_false hb
      obtain ⟨x, y, r, rfl⟩ := two_of hge
      obtain ⟨hp12, hp3⟩ : ((isStrD x && itemsPlain y) = true) ∧ r.all itemsPlain = true := by
        have : (isStrD x && itemsPlain y && r.all itemsPlain) = true := hpap
        rw [Bool.and_eq_true] at this
        exact this
      rw [Bool.and_eq_true] at hp12
      obtain ⟨hx, hy⟩ := hp12
      obtain ⟨s, rfl⟩ : ∃ s, x = .str s := by
        cases x <;> first | exact ⟨_, rfl⟩ | exact Bool.noConfusion hx
      have it : ∀ {H2 : Hp} {σ : L2.St} {i : Nat} {e : PyData}, (PyData.str s :: y :: r)[i]? = some e → σ[2]? = some (some vd) → Ex H H2 → EvD K (tOp (rIxT K) (tVar 2) (tC (.int (i : Int)))) σ H2 e := fun {H2 σ i e} he hσ e2 => ed_ixT (atI_nat he) (ed_var hσ (dp_mono e2 pd)) ed_int
      refine q_if (b := decide (s = "changes")) (eb_test (K := K) (ed_eqS (it (i := 0) rfl rfl e1) ed_str)) (fun hs H2 e2 => ?_) (fun hs H2 e2 => ?_)
      · have hs' : s = "changes" := of_decide_eq_true hs
        subst hs'
        have E2 := e1.trans e2
        have hT := takesD_ch c imgs y r
        have hne : (!decide (((PyData.str "changes" :: y :: r).length : Int) = 2)) = !r.isEmpty := by
          cases r with
          | nil => rfl
          | cons z r =>
            rw [decide_eq_false]
            · rfl
            · simp only [List.length_cons]
              omega
        refine q_when (b := !r.isEmpty || !holdsD c y) (EvB.is (eb_or (EvB.is (eb_test (K := K) (ed_neI (lenE rfl E2) ed_int)) hne) fun _ => eb_not (eb_B (K := K) (b := holdsD c y) (ev_meth (K := K) (ι := CodeM × PyData) (ar := fun x => [CP K T.cCode x.1, DP K x.2]) (pre := fun x => CodeOk x.1 ∧ itemsPlain x.2 = true) (res := fun x => DP K (.bool (holdsD x.1 x.2))) (E := E0) (c, y) ⟨ok, hy⟩ (P := CP K T.cCode c) ⟨a, rfl, ca.mono E2⟩ (let ⟨dx, fs, h1, h2, _⟩ := (ca.mono E2).ins; ⟨dx, fs, h1, h2⟩) rfl (ex_var rfl) (ea_cons (it (i := 1) rfl rfl E2) ea_nil)))) rfl) (fun hb H3 e3 => no (E2.trans e3) rfl ?_) (fun hb H3 e3 => ?_)
        · rw [hT]
          cases hr1 : r.isEmpty <;> cases hh : holdsD c y <;> rw [hr1, hh] at hb <;> first | rfl | cases hb
        · have E3 := E2.trans e3
          obtain ⟨hr1, hh⟩ : r.isEmpty = true ∧ holdsD c y = true := by
            cases hr1 : r.isEmpty <;> cases hh : holdsD c y <;> rw [hr1, hh] at hb <;> first | exact ⟨rfl, rfl⟩ | cases hb
          have hw : isWordD c.p c.n y = true := by
            unfold holdsD at hh
            rw [Bool.and_eq_true] at hh
            exact hh.1
          obtain ⟨ey, wy⟩ := word_of hw
          rw [hr1, hh] at hT
          generalize hu : unW y = v at ey wy hT
          have itv : ∀ {H2 : Hp} {σ : L2.St}, σ[2]? = some (some vd) → Ex H H2 → EvD K (tOp (rIxT K) (tVar 2) (tC (.int 1))) σ H2 (wd v) := fun {H2 σ} hσ e2 => EvP.is (it (i := 1) rfl hσ e2) ey
          refine s_ret (P := DP K (.bool (takesD c imgs (.tuple (.str "changes" :: y :: r))))) (EvP.is (ed_neI (i := (weightM v : Int)) (j := (weightM (imageM c imgs v) : Int)) (ev_call (ι := W) v trivial (ea_cons (itv rfl E3) ea_nil)) (ev_call (ι := W) (imageM c imgs v) trivial (ea_cons (ev_call (ι := CodeM × List W × W) (c, imgs, v) ⟨ok, hl, hI, wy⟩ (ea_cons (ev_var (P := CP K T.cCode c) rfl ⟨a, rfl, ca.mono E3⟩) (ea_cons (ed_var rfl (dp_mono E3 pi)) (ea_cons (itv rfl E3) ea_nil)))) ea_nil))) ?_) (fun v4 H4 e4 p4 => k v4 H4 (E3.trans e4) p4)
          rw [hT]
          show PyData.bool (!decide _) = PyData.bool (!decide _)
          congr 2
          by_cases hq : weightM v = weightM (imageM c imgs v)
          · rw [decide_eq_true hq, decide_eq_true (by rw [hq])]
          · rw [decide_eq_false hq, decide_eq_false (show ¬ (weightM v : Int) = (weightM (imageM c imgs v) : Int) from fun q => hq (Int.ofNat.inj q))]
      · have hs' : ¬ s = "changes" := of_decide_eq_false hs
        have E2 := e1.trans e2
        have hT := takesD_ke c imgs s y r hs'
        by_cases hk : s = "keeps" ∧ ∃ z, r = [z]
        · obtain ⟨rfl, z, rfl⟩ := hk
          rw [if_pos rfl] at hT
          have hT : takesD c imgs (.tuple [.str "keeps", y, z]) = (isMonoD c.p c.n y z && sameGo c imgs (unN y) (unW z) c.rows.length) := hT
          have hz : itemsPlain z = true := by
            have := hp3
            rw [List.all_cons, Bool.and_eq_true] at this
            exact this.1
          refine q_when (b := !isMonoD c.p c.n y z) (EvB.is (eb_or (b := false) (EvB.is (eb_test (K := K) (ed_neS (it (i := 0) rfl rfl E2) ed_str)) (by rw [decide_eq_true rfl] <;> rfl)) fun _ => eb_or (b := false) (EvB.is (eb_test (K := K) (ed_neI (lenE rfl E2) ed_int)) rfl) fun _ => eb_not (eb_B (K := K) (ev_call (ι := Int × Nat × PyData × PyData) (c.p, c.n, y, z) ⟨hy, hz, by show c.n ≤ 100; omega⟩
            (ea_cons (cf_p T (ex_var rfl) (ca.mono E2)) (ea_cons (cf_n T (ex_var rfl) (ca.mono E2)) (ea_cons (it (i := 1) rfl rfl E2) (ea_cons (it (i := 2) rfl rfl E2) ea_nil))))))) rfl) (fun hb H3 e3 => no (E2.trans e3) rfl ?_) (fun hb H3 e3 => ?_)
          · have hm : isMonoD c.p c.n y z = false := by simpa using hb
            rw [hT, hm] <;> rfl
          · have hm : isMonoD c.p c.n y z = true := by simpa using hb
            obtain ⟨ey, ez, ly, lz, by_, bz⟩ := mono_of hm
            rw [hm, Bool.true_and] at hT
            generalize hyy : unN y = yy at ey ly by_ hT
            generalize hzz : unW z = zz at ez lz bz hT
            have E3 := E2.trans e3
            refine q_forR (n := (c.rows.length : Int)) (ea_cons (cf_k T (ex_var rfl) (ca.mono E3)) ea_nil) ⟨by omega, by have := ok.k; omega⟩
              (fun i σ' H' => ∃ z, σ' = [some (.ref a), some vi, some vd, z] ∧ Ex H H' ∧ sameGo c imgs yy zz i = true) (fun H4 e4 => ⟨_, rfl, E3.trans e4, rfl⟩) (fun i σ' H' hi h => ?_) (fun σ' H' h => ?_)
            · obtain ⟨z0, rfl, e, hs⟩ := h
              have hi' : i < c.rows.length := by omega
              obtain ⟨r1, r2⟩ := ok.row hi'
              have i1 : imgs[i]? = some (imgs.getD i []) := getD_at [] (by omega)
              have hsucc : sameGo c imgs yy zz (i + 1) = decide (movedM c.p (c.rows.getD i []) yy zz = imgs.getD i []) := by
                have hs0 := hs
                unfold sameGo at hs0 ⊢
                rw [List.range_succ, List.all_append, hs0, Bool.true_and, List.all_cons, List.all_nil, Bool.and_true]
              refine s_when (b := !decide (movedM c.p (c.rows.getD i []) yy zz = imgs.getD i [])) (EvB.is (eb_test (K := K) (ed_neD (shaped_wd _) (shaped_wd _) (ev_call (ι := W × Int × List Nat × W) (c.rows.getD i [], c.p, yy, zz) ⟨by show yy.length = (c.rows.getD i []).length; rw [r2.1, ly], by show zz.length = (c.rows.getD i []).length; rw [r2.1, lz], by show (c.rows.getD i []).length ≤ 100; rw [r2.1]; omega, fun q hq => by show q < (c.rows.getD i []).length; rw [r2.1]; exact by_ q hq, fun m hm => by have := bz m hm; omega, hpp⟩
                (ea_cons (ed_ixT (at_wd r1 rfl) (cf_rows T (ex_var rfl) (ca.mono e)) (ed_var rfl (.int _))) (ea_cons (cf_p T (ex_var rfl) (ca.mono e)) (ea_cons (EvP.is (it (i := 1) rfl rfl e) ey) (ea_cons (EvP.is (it (i := 2) rfl rfl e) ez) ea_nil))))) (ed_ixT (at_wd i1 rfl) (ed_var rfl (dp_mono e pi)) (ed_var rfl (.int _))))) (by rw [eqv_wd])) (fun hb H4 e4 => ?_) (fun hb H4 e4 => ?_)
              · refine s_ret (P := DP K (.bool false)) ed_bl fun v H5 e5 pv => k v H5 ((e.trans e4).trans e5) ?_
                have hd : decide (movedM c.p (c.rows.getD i []) yy zz = imgs.getD i []) = false := by simpa using hb
                have hF : sameGo c imgs yy zz c.rows.length = false := by
                  unfold sameGo
                  rw [List.all_eq_false]
                  exact ⟨i, List.mem_range.mpr hi', by rw [hd]; decide⟩
                rw [hT, hF]
                exact pv
              · refine ⟨_, rfl, e.trans e4, ?_⟩
                rw [hsucc]
                simpa using hb
            · obtain ⟨z0, rfl, e, hs⟩ := h
              rw [Int.toNat_natCast] at hs
              refine s_ret (P := DP K (.bool true)) ed_bl fun v H5 e5 pv => k v H5 (e.trans e5) ?_
              rw [hT, hs]
              exact pv
        · have hF : takesD c imgs (.tuple (.str s :: y :: r)) = false := by
            rw [hT]
            by_cases h1 : s = "keeps"
            · rw [if_pos h1]
              exact keepsD_no _ _ _ _ fun q => hk ⟨h1, q⟩
            · rw [if_neg h1]
          by_cases h1 : s = "keeps"
          · refine q_when (b := true) (EvB.is (eb_or (b := false) (b2 := true) (EvB.is (eb_test (K := K) (ed_neS (it (i := 0) rfl rfl E2) ed_str)) (by rw [decide_eq_true h1] <;> rfl)) fun _ => EvB.is (eb_or (b := true) (b2 := false) (EvB.is (eb_test (K := K) (ed_neI (lenE rfl E2) ed_int)) ?_) fun q => by cases q) rfl) rfl) (fun hb H3 e3 => no (E2.trans e3) rfl hF) (fun hb => by cases hb)
            rw [decide_eq_false (len3_no _ _ _ fun q => hk ⟨h1, q⟩)] <;> rfl
          · exact q_when (b := true) (EvB.is (eb_or (b := true) (b2 := false) (EvB.is (eb_test (K := K) (ed_neS (it (i := 0) rfl rfl E2) ed_str)) (by rw [decide_eq_false h1] <;> rfl)) fun q => by cases q) rfl) (fun hb H3 e3 => no (E2.trans e3) rfl hF) (fun hb => by cases hb)
  · refine q_when (b := true) (EvB.is (eb_or (b2 := false) isi fun q => ?_) ?_) (fun hb H1 e1 => no e1 rfl ?_) (fun hb => by cases hb)
    · rw [h1] at q
      cases q
    · rw [h1] <;> rfl
    · cases d <;> first | rfl | exact Bool.noConfusion h1
end
end WK

set_option Elab.async false
set_option linter.all false
set_option maxRecDepth 100000
set_option maxHeartbeats 4000000
/-! Code that is proved where every sleeping generator can not be woken leaves them all as they are. -/
namespace WK
open PySem
open Sem (wp)
def numbK : Resume → Sem PySem.Fin := fun _ => .unsupported "numb"
def numb : GenState → GenState
  | .suspended _ l c p fs cl => .suspended numbK l c p fs cl
  | x => x
theorem numb_bare (x : GenState) : (numb x).bare = x.bare := by cases x <;> rfl
theorem numb_seen (x : GenState) : (numb x).seen = x.seen := by cases x <;> rfl
def clean : GenState → Prop
  | .suspended _ _ _ _ fs _ => splitAtGen fs = none
  | _ => True
def isNumb (y : GenState) : Prop := ∃ l c p fs cl, y = .suspended numbK l c p fs cl
def StuckOf (x y : GenState) : Prop := (x = y ∧ clean y) ∨ (isNumb y ∧ numb x = y)
theorem stuckOf_numb (x : GenState) : StuckOf x (numb x) := by
  cases x with
  | suspended k l c p fs cl => exact .inr ⟨⟨_, _, _, _, _, rfl⟩, rfl⟩
  | _ => exact .inl ⟨rfl, trivial⟩
theorem StuckOf.seen {x y : GenState} (h : StuckOf x y) : x.seen = y.seen := by
  rcases h with ⟨rfl, _⟩ | ⟨_, h⟩
  · rfl
  · rw [← h, numb_seen]
theorem StuckOf.bare {x y : GenState} (h : StuckOf x y) : x.bare = y.bare := by
  rcases h with ⟨rfl, _⟩ | ⟨_, h⟩
  · rfl
  · rw [← h, numb_bare]
structure GRel (G Gh : Array GenState) : Prop where
  sz : G.size = Gh.size
  at_ : ∀ (i : Nat) (x y : GenState), G[i]? = some x → Gh[i]? = some y → StuckOf x y
def Keep (Gh G Gh' G' : Array GenState) : Prop := ∀ (i : Nat) (y : GenState), Gh[i]? = some y → isNumb y → Gh'[i]? = some y ∧ G'[i]? = G[i]?
theorem Keep.refl {Gh G : Array GenState} : Keep Gh G Gh G := fun _ _ h _ => ⟨h, rfl⟩
theorem Keep.trans {A B A1 B1 A2 B2 : Array GenState} (h : Keep A B A1 B1) (h2 : Keep A1 B1 A2 B2) : Keep A B A2 B2 := fun i y a b => by
  obtain ⟨c, d⟩ := h i y a b
  obtain ⟨e, f⟩ := h2 i y c b
  exact ⟨e, f.trans d⟩
theorem GRel.some {G Gh : Array GenState} (h : GRel G Gh) {i : Nat} {y : GenState} (hy : Gh[i]? = some y) : ∃ x, G[i]? = some x ∧ StuckOf x y := by
  have hi : i < G.size := by
    have := (Array.getElem?_eq_some_iff.mp hy).1
    rw [h.sz]
    exact this
  exact ⟨G[i], Array.getElem?_eq_getElem hi, h.at_ i _ _ (Array.getElem?_eq_getElem hi) hy⟩
theorem GRel.none {G Gh : Array GenState} (h : GRel G Gh) {i : Nat} (hy : Gh[i]? = none) : G[i]? = none := by
  rw [Array.getElem?_eq_none_iff] at hy ⊢
  rw [h.sz]
  exact hy
theorem GRel.push {G Gh : Array GenState} (h : GRel G Gh) (c : Code) : GRel (G.push (.fresh c)) (Gh.push (.fresh c)) := by
  refine ⟨by rw [Array.size_push, Array.size_push, h.sz], fun i x y hx hy => ?_⟩
  rw [Array.getElem?_push] at hx hy
  by_cases hi : i = G.size
  · rw [if_pos hi] at hx
    rw [if_pos (by rw [← h.sz]; exact hi)] at hy
    cases hx
    cases hy
    exact .inl ⟨rfl, trivial⟩
  · rw [if_neg hi] at hx
    rw [if_neg (by rw [← h.sz]; exact hi)] at hy
    exact h.at_ i x y hx hy
theorem Keep.push {G Gh : Array GenState} (h : GRel G Gh) (c : Code) : Keep Gh G (Gh.push (.fresh c)) (G.push (.fresh c)) := fun i y hy _ => by
  have hi := (Array.getElem?_eq_some_iff.mp hy).1
  rw [Array.getElem?_push, Array.getElem?_push, if_neg (Nat.ne_of_lt hi), if_neg (by rw [h.sz]; exact Nat.ne_of_lt hi)]
  exact ⟨hy, rfl⟩
theorem GRel.set {G Gh : Array GenState} (h : GRel G Gh) (g : Nat) {z : GenState} (hz : clean z) : GRel (G.setIfInBounds g z) (Gh.setIfInBounds g z) := by
  refine ⟨by rw [Array.size_setIfInBounds, Array.size_setIfInBounds, h.sz], fun i x y hx hy => ?_⟩
  rw [Array.getElem?_setIfInBounds] at hx hy
  by_cases hi : g = i
  · subst hi
    rw [if_pos rfl] at hx hy
    split at hx
    · split at hy
      · cases hx
        cases hy
        exact .inl ⟨rfl, hz⟩
      · cases hy
    · cases hx
  · rw [if_neg hi] at hx hy
    exact h.at_ i x y hx hy
theorem Keep.set {G Gh : Array GenState} (g : Nat) {z : GenState} (hn : ∀ y, Gh[g]? = some y → ¬ isNumb y) : Keep Gh G (Gh.setIfInBounds g z) (G.setIfInBounds g z) := fun i y hy hb => by
  have hi : g ≠ i := fun e => by subst e; exact hn y hy hb
  rw [Array.getElem?_setIfInBounds_ne hi, Array.getElem?_setIfInBounds_ne hi]
  exact ⟨hy, rfl⟩
theorem Keep.via {Gh G A1 B1 A2 B2 : Array GenState} {g : Nat} {z z2 : GenState} (hn : ∀ y, Gh[g]? = some y → ¬ isNumb y) (d1 : Keep (Gh.setIfInBounds g z) (G.setIfInBounds g z) A1 B1) (d2 : Keep (A1.setIfInBounds g z2) (B1.setIfInBounds g z2) A2 B2) : Keep Gh G A2 B2 := fun i y hy hb => by
  have hi : g ≠ i := fun e => by subst e; exact hn y hy hb
  obtain ⟨a, b⟩ := d1 i y (by rw [Array.getElem?_setIfInBounds_ne hi]; exact hy) hb
  obtain ⟨c, d⟩ := d2 i y (by rw [Array.getElem?_setIfInBounds_ne hi]; exact a) hb
  rw [Array.getElem?_setIfInBounds_ne hi] at b d
  exact ⟨c, d.trans b⟩
theorem runs_uns {M : Model} {Γ : Ctx} {p : Pos} {t : Sem PySem.Fin} {fs : List Frame} {s s' : Shared} {e : End} (h : Runs M Γ p t fs s e s') : ∀ w, t = .unsupported w → False := by
  induction h <;> intro w hw <;> first
    | (cases hw; done)
    | (subst hw; rename_i ih; exact ih _ rfl)
def cleanE : End → Prop
  | .ret _ => True
  | .susp _ _ _ _ _ _ fs => splitAtGen fs = none
theorem cleanE_gs {e : End} (h : cleanE e) : clean e.genState := by
  cases e with
  | ret r => trivial
  | susp v g l k c p fs => exact h
theorem split_app {a b : List Frame} (h1 : splitAtGen a = none) (h2 : splitAtGen b = none) : splitAtGen (a ++ b) = none := by
  induction a with
  | nil => exact h2
  | cons F a ih =>
    cases F with
    | gen g k l c p => simp [splitAtGen] at h1
    | ret k h g l c p kp =>
      simp only [splitAtGen, List.cons_append] at h1 ⊢
      cases hq : splitAtGen a with
      | some x => rw [hq] at h1; simp at h1
      | none => rw [ih hq] <;> rfl
theorem split_tail {F : Frame} {fs : List Frame} (h : splitAtGen (F :: fs) = none) : splitAtGen fs = none := by
  cases F with
  | gen g k l c p => simp [splitAtGen] at h
  | ret k hd g l c p kp =>
    simp only [splitAtGen] at h
    cases hq : splitAtGen fs with
    | some x => rw [hq] at h; simp at h
    | none => rfl
abbrev wg (s : Shared) (G : Array GenState) : Shared := { s with gens := G }
theorem runs_rel {M : Model} {Γ : Ctx} {p : Pos} {t : Sem PySem.Fin} {fs : List Frame} {s s' : Shared} {e : End} (h : Runs M Γ p t fs s e s') : splitAtGen fs = none → ∀ G, GRel G s.gens →
    ∃ G', GRel G' s'.gens ∧ Runs M Γ p t fs (wg s G) e (wg s' G') ∧ cleanE e ∧ Keep s.gens G s'.gens G' := by
  induction h with
  | done => exact fun _ G hG => ⟨G, hG, .done, trivial, .refl⟩
  | raise => exact fun _ G hG => ⟨G, hG, .raise, trivial, .refl⟩
  | again hq _ ih =>
    intro hf G hG
    obtain ⟨G', a, b, c, d⟩ := ih hf G hG
    exact ⟨G', a, .again hq b, c, d⟩
  | rule _ ih =>
    intro hf G hG
    obtain ⟨G', a, b, c, d⟩ := ih hf G hG
    exact ⟨G', a, .rule b, c, d⟩
  | «at» _ ih =>
    intro hf G hG
    obtain ⟨G', a, b, c, d⟩ := ih hf G hG
    exact ⟨G', a, .at b, c, d⟩
  | load ho _ ih =>
    intro hf G hG
    obtain ⟨G', a, b, c, d⟩ := ih hf G hG
    exact ⟨G', a, .load (s := wg _ G) ho b, c, d⟩
  | update ho _ ih =>
    intro hf G hG
    obtain ⟨G', a, b, c, d⟩ := ih hf G hG
    exact ⟨G', a, .update (s := wg _ G) ho b, c, d⟩
  | loadIfAlive _ ih =>
    intro hf G hG
    obtain ⟨G', a, b, c, d⟩ := ih hf G hG
    exact ⟨G', a, .loadIfAlive (s := wg _ G) b, c, d⟩
  | point _ ih =>
    intro hf G hG
    obtain ⟨G', a, b, c, d⟩ := ih hf G hG
    exact ⟨G', a, .point b, c, d⟩
  | alloc _ ih =>
    intro hf G hG
    obtain ⟨G', a, b, c, d⟩ := ih hf G hG
    exact ⟨G', a, .alloc (s := wg _ G) b, c, d⟩
  | fresh _ ih =>
    intro hf G hG
    obtain ⟨G', a, b, c, d⟩ := ih hf G hG
    exact ⟨G', a, .fresh (s := wg _ G) b, c, d⟩
  | ask _ ih =>
    intro hf G hG
    obtain ⟨G', a, b, c, d⟩ := ih hf G hG
    exact ⟨G', a, .ask b, c, d⟩
  | choose hn _ ih =>
    intro hf G hG
    obtain ⟨G', a, b, c, d⟩ := ih hf G hG
    exact ⟨G', a, .choose (s := wg _ G) hn b, c, d⟩
  | os _ ih =>
    intro hf G hG
    obtain ⟨G', a, b, c, d⟩ := ih hf G hG
    exact ⟨G', a, .os (s := wg _ G) b, c, d⟩
  | handled _ ih =>
    intro hf G hG
    obtain ⟨G', a, b, c, d⟩ := ih hf G hG
    exact ⟨G', a, .handled b, c, d⟩
  | genState hg _ ih =>
    intro hf G hG
    obtain ⟨G', a, b, c, d⟩ := ih hf G hG
    obtain ⟨x, hx, hs⟩ := hG.some hg
    refine ⟨G', a, .genState (s := wg _ G) (st := x) hx ?_, c, d⟩
    rw [hs.seen]
    exact b
  | stack _ ih =>
    intro hf G hG
    obtain ⟨G', a, b, c, d⟩ := ih hf G hG
    exact ⟨G', a, .stack b, c, d⟩
  | thread _ ih =>
    intro hf G hG
    obtain ⟨G', a, b, c, d⟩ := ih hf G hG
    exact ⟨G', a, .thread b, c, d⟩
  | @newGen Γ p k s e s' c _ ih =>
    intro hf G hG
    obtain ⟨G', a, b, cc, d⟩ := ih hf (G.push (.fresh c)) (hG.push c)
    refine ⟨G', a, .newGen (s := wg s G) ?_, cc, (Keep.push hG c).trans d⟩
    show Runs _ _ _ (k G.size) _ _ _ _
    rw [hG.sz]
    exact b
  | call _ _ ih1 ih2 =>
    intro hf G hG
    obtain ⟨G1, a1, b1, c1, d1⟩ := ih1 rfl G hG
    obtain ⟨G2, a2, b2, c2, d2⟩ := ih2 rfl G1 a1
    exact ⟨G2, a2, .call b1 b2, c2, d1.trans d2⟩
  | callSusp _ ih =>
    intro hf G hG
    obtain ⟨G', a, b, c, d⟩ := ih rfl G hG
    exact ⟨G', a, .callSusp b, split_app c rfl, d⟩
  | yield => exact fun _ G hG => ⟨G, hG, .yield, rfl, .refl⟩
  | @resumeFresh Γ p g l k s c e₁ s₁ e s' hg _ hq _ ih1 ih2 =>
    intro hf G hG
    have nn : ∀ y, s.gens[g]? = some y → ¬ isNumb y := fun y hy hb => by
      obtain ⟨_, _, _, _, _, rfl⟩ := hb
      rw [hg] at hy
      cases hy
    obtain ⟨x, hx, hs⟩ := hG.some hg
    have ex : x = .fresh c := by
      rcases hs with ⟨e, _⟩ | ⟨⟨_, _, _, _, _, h⟩, _⟩
      · exact e
      · cases h
    subst ex
    obtain ⟨G1, a1, b1, c1, d1⟩ := ih1 rfl (G.setIfInBounds g .running) (hG.set g trivial)
    obtain ⟨G2, a2, b2, c2, d2⟩ := ih2 rfl (G1.setIfInBounds g e₁.genState) (a1.set g (cleanE_gs c1))
    exact ⟨G2, a2, .resumeFresh (s := wg s G) hx b1 hq b2, c2, Keep.via nn d1 d2⟩
  | @resumeSuspended Γ p g r l k s k₀ l₀ c₀ p₀ fs cl e₁ s₁ e s' hg hr hq _ ih1 ih2 =>
    intro hf G hG
    obtain ⟨x, hx, hs⟩ := hG.some hg
    rcases hs with ⟨rfl, hcl⟩ | ⟨⟨_, _, _, _, _, h⟩, _⟩
    · by_cases hk : isNumb (.suspended k₀ l₀ c₀ p₀ fs cl)
      · obtain ⟨_, _, _, _, _, h⟩ := hk
        cases h
        exact (runs_uns hr _ rfl).elim
      · have nn : ∀ y, s.gens[g]? = some y → ¬ isNumb y := fun y hy hb => by
          rw [hg] at hy
          cases hy
          exact hk hb
        obtain ⟨G1, a1, b1, c1, d1⟩ := ih1 hcl (G.setIfInBounds g .running) (hG.set g trivial)
        obtain ⟨G2, a2, b2, c2, d2⟩ := ih2 rfl (G1.setIfInBounds g e₁.genState) (a1.set g (cleanE_gs c1))
        exact ⟨G2, a2, .resumeSuspended (s := wg s G) hx b1 hq b2, c2, Keep.via nn d1 d2⟩
    · cases h
      exact (runs_uns hr _ rfl).elim
  | resumeJustStarted hg hv _ ih =>
    intro hf G hG
    obtain ⟨G', a, b, c, d⟩ := ih hf G hG
    obtain ⟨x, hx, hs⟩ := hG.some hg
    rcases hs with ⟨rfl, _⟩ | ⟨⟨_, _, _, _, _, h⟩, _⟩
    · exact ⟨G', a, .resumeJustStarted (s := wg _ G) hx hv b, c, d⟩
    · cases h
  | resumeThrowFresh hg _ ih =>
    intro hf G hG
    obtain ⟨G', a, b, cc, d⟩ := ih hf _ (GRel.set hG _ trivial)
    obtain ⟨y, hy, hs⟩ := hG.some hg
    rcases hs with ⟨rfl, _⟩ | ⟨⟨_, _, _, _, _, h⟩, _⟩
    · refine ⟨G', a, .resumeThrowFresh (s := wg _ G) hy b, cc, (Keep.set _ fun y hy hb => ?_).trans d⟩
      obtain ⟨_, _, _, _, _, rfl⟩ := hb
      rw [hg] at hy
      cases hy
    · cases h
  | resumeRunning hg _ ih =>
    intro hf G hG
    obtain ⟨G', a, b, c, d⟩ := ih hf G hG
    obtain ⟨x, hx, hs⟩ := hG.some hg
    rcases hs with ⟨rfl, _⟩ | ⟨⟨_, _, _, _, _, h⟩, _⟩
    · exact ⟨G', a, .resumeRunning (s := wg _ G) hx b, c, d⟩
    · cases h
  | resumeFinished hg _ ih =>
    intro hf G hG
    obtain ⟨G', a, b, c, d⟩ := ih hf G hG
    obtain ⟨x, hx, hs⟩ := hG.some hg
    rcases hs with ⟨rfl, _⟩ | ⟨⟨_, _, _, _, _, h⟩, _⟩
    · exact ⟨G', a, .resumeFinished (s := wg _ G) hx b, c, d⟩
    · cases h
  | segRet _ _ ih1 ih2 =>
    intro hf G hG
    obtain ⟨G1, a1, b1, c1, d1⟩ := ih1 rfl G hG
    obtain ⟨G2, a2, b2, c2, d2⟩ := ih2 (split_tail hf) G1 a1
    exact ⟨G2, a2, .segRet b1 b2, c2, d1.trans d2⟩
  | segGen _ _ _ _ => intro hf; simp [splitAtGen] at hf
  | segSuspOut hs _ ih =>
    intro hf G hG
    obtain ⟨G', a, b, c, d⟩ := ih rfl G hG
    exact ⟨G', a, .segSuspOut hs b, split_app c hs, d⟩
  | segSuspGen hs _ _ _ _ _ => intro hf; rw [hs] at hf; cases hf
theorem wakes_rel {M : Model} {Γ : Ctx} {p : Pos} {g : Nat} {r : Resume} {s s' : Shared} {res : GenResult} (h : Wakes M Γ p g r s res s') (G : Array GenState) (hG : GRel G s.gens) :
    ∃ G', GRel G' s'.gens ∧ Wakes M Γ p g r (wg s G) res (wg s' G') ∧ Keep s.gens G s'.gens G' := by
  unfold Wakes at h
  split at h
  · exact h.elim
  · rename_i c hg
    obtain ⟨x, hx, hs⟩ := hG.some hg
    have ex : x = .fresh c := by
      rcases hs with ⟨e, _⟩ | ⟨⟨_, _, _, _, _, h⟩, _⟩
      · exact e
      · cases h
    subst ex
    have nn : ∀ y, s.gens[g]? = some y → ¬ isNumb y := fun y hy hb => by
      obtain ⟨_, _, _, _, _, rfl⟩ := hb
      rw [hg] at hy
      cases hy
    split at h
    · obtain ⟨e₁, s₁, hr, hq, rfl, rfl⟩ := h
      obtain ⟨G1, a1, b1, c1, d1⟩ := runs_rel hr rfl (G.setIfInBounds g .running) (hG.set g trivial)
      refine ⟨G1.setIfInBounds g e₁.genState, a1.set g (cleanE_gs c1), ?_, Keep.via nn d1 .refl⟩
      unfold Wakes
      rw [hx]
      exact ⟨e₁, wg s₁ G1, b1, hq, rfl, rfl⟩
    · obtain ⟨rfl, rfl⟩ := h
      refine ⟨G, hG, ?_, .refl⟩
      unfold Wakes
      rw [hx]
      rename_i v hv
      cases v <;> first | exact (hv rfl).elim | exact ⟨rfl, rfl⟩
    · obtain ⟨rfl, rfl⟩ := h
      refine ⟨G.setIfInBounds g .finished, hG.set g trivial, ?_, Keep.set g nn⟩
      unfold Wakes
      rw [hx]
      exact ⟨rfl, rfl⟩
  · rename_i k₀ l₀ c₀ p₀ fs cl hg
    obtain ⟨e₁, s₁, hr, hq, rfl, rfl⟩ := h
    obtain ⟨x, hx, hs⟩ := hG.some hg
    rcases hs with ⟨rfl, hcl⟩ | ⟨⟨_, _, _, _, _, h⟩, _⟩
    · by_cases hk : isNumb (.suspended k₀ l₀ c₀ p₀ fs cl)
      · obtain ⟨_, _, _, _, _, h⟩ := hk
        cases h
        exact (runs_uns hr _ rfl).elim
      · have nn : ∀ y, s.gens[g]? = some y → ¬ isNumb y := fun y hy hb => by
          rw [hg] at hy
          cases hy
          exact hk hb
        obtain ⟨G1, a1, b1, c1, d1⟩ := runs_rel hr hcl (G.setIfInBounds g .running) (hG.set g trivial)
        refine ⟨G1.setIfInBounds g e₁.genState, a1.set g (cleanE_gs c1), ?_, Keep.via nn d1 .refl⟩
        unfold Wakes
        rw [hx]
        exact ⟨e₁, wg s₁ G1, b1, hq, rfl, rfl⟩
    · cases h
      exact (runs_uns hr _ rfl).elim
  · rename_i hg
    obtain ⟨rfl, rfl⟩ := h
    obtain ⟨x, hx, hs⟩ := hG.some hg
    rcases hs with ⟨rfl, _⟩ | ⟨⟨_, _, _, _, _, h⟩, _⟩
    · refine ⟨G, hG, ?_, .refl⟩
      unfold Wakes
      rw [hx]
      exact ⟨rfl, rfl⟩
    · cases h
  · rename_i hg
    obtain ⟨rfl, rfl⟩ := h
    obtain ⟨x, hx, hs⟩ := hG.some hg
    rcases hs with ⟨rfl, _⟩ | ⟨⟨_, _, _, _, _, h⟩, _⟩
    · refine ⟨G, hG, ?_, .refl⟩
      unfold Wakes
      rw [hx]
      exact ⟨rfl, rfl⟩
    · cases h
/-- what is told of the state behind, with the generators as they really are -/
def Back (Gh G : Array GenState) (Q : Shared → Prop) (s' : Shared) : Prop := ∃ Gh', Q { s' with gens := Gh' } ∧ GRel s'.gens Gh' ∧ Keep Gh G Gh' s'.gens
theorem wp_rel {α : Type} (M : Model) (Γ : Ctx) (t : Sem α) : ∀ (Q : α → Pos → Shared → Prop) (E : Value → Pos → Shared → Prop) (p : Pos) (s : Shared) (G0h G0 G : Array GenState), GRel G s.gens → Keep G0h G0 s.gens G → wp M Γ t Q E p s →
    wp M Γ t (fun a p' s' => Back G0h G0 (Q a p') s') (fun e p' s' => Back G0h G0 (E e p') s') p (wg s G) := by
  induction t with
  | pure a => intro Q E p s G0h G0 G hG hK h; exact ⟨s.gens, h, hG, hK⟩
  | raise e => intro Q E p s G0h G0 G hG hK h; exact ⟨s.gens, h, hG, hK⟩
  | unsupported _ => intro Q E p s _ _ _ _ _ h; exact h
  | finish _ => intro Q E p s _ _ _ _ _ h; exact h
  | rule _ k ih => intro Q E p s G0h G0 G hG hK h; exact ih () Q E p s _ _ G hG hK h
  | «at» p' k ih => intro Q E p s G0h G0 G hG hK h; exact ih () Q E p' s _ _ G hG hK h
  | load a _ k ih => intro Q E p s G0h G0 G hG hK h; obtain ⟨o, ho, h⟩ := h; exact ⟨o, ho, ih o Q E p s _ _ G hG hK h⟩
  | update a _ f k ih => intro Q E p s G0h G0 G hG hK h; exact ⟨h.1, ih () Q E p { s with heap := s.heap.update a f } _ _ G hG hK h.2⟩
  | loadIfAlive a k ih => intro Q E p s G0h G0 G hG hK h; exact ih _ Q E p s _ _ G hG hK h
  | point _ k ih => intro Q E p s G0h G0 G hG hK h; exact ih () Q E p s _ _ G hG hK h
  | register _ _ => intro Q E p s _ _ _ _ _ h; exact h
  | alloc o k ih => intro Q E p s G0h G0 G hG hK h; exact ih _ Q E p { s with heap := s.heap.push o } _ _ G hG hK h
  | fresh k ih => intro Q E p s G0h G0 G hG hK h; exact ih _ Q E p { s with toks := s.toks + 1 } _ _ G hG hK h
  | ask k ih => intro Q E p s G0h G0 G hG hK h; exact ih _ Q E p s _ _ G hG hK h
  | choose src m k ih => intro Q E p s G0h G0 G hG hK h; exact ⟨h.1, ih _ Q E p { s with drawn := s.drawn.bump src } _ _ G hG hK h.2⟩
  | os q _ k ih => intro Q E p s G0h G0 G hG hK h; exact ih _ Q E p { s with os := (Os.step s.os q).1 } _ _ G hG hK h
  | call c hd _ _ k ih =>
    intro Q E p s G0h G0 G hG hK h
    obtain ⟨r, s', hr, h⟩ := h
    obtain ⟨G', a, b, _, d⟩ := runs_rel hr rfl G hG
    exact ⟨r, wg s' G', b, ih r Q E p s' _ _ G' a (hK.trans d) h⟩
  | handled own k ih => intro Q E p s G0h G0 G hG hK h; exact ih _ Q E p s _ _ G hG hK h
  | genState g k ih =>
    intro Q E p s G0h G0 G hG hK h
    obtain ⟨st, hs, h⟩ := h
    obtain ⟨x, hx, hxs⟩ := hG.some hs
    refine ⟨x, hx, ?_⟩
    rw [hxs.seen]
    exact ih _ Q E p s _ _ G hG hK h
  | newGen c k ih =>
    intro Q E p s G0h G0 G hG hK h
    have hk := ih s.gens.size Q E p { s with gens := s.gens.push (.fresh c) } _ _ (G.push (.fresh c)) (hG.push c) (hK.trans (Keep.push hG c)) h
    show wp M Γ (k G.size) _ _ _ _
    rw [hG.sz]
    exact hk
  | resume g r _ k ih =>
    intro Q E p s G0h G0 G hG hK h
    obtain ⟨res, s', hw, h⟩ := h
    obtain ⟨G', a, b, d⟩ := wakes_rel hw G hG
    exact ⟨res, wg s' G', b, ih res Q E p s' _ _ G' a (hK.trans d) h⟩
  | yield _ _ _ _ => intro Q E p s _ _ _ _ _ h; exact h
  | stack k ih => intro Q E p s G0h G0 G hG hK h; exact ih _ Q E p s _ _ G hG hK h
  | fork _ _ => intro Q E p s _ _ _ _ _ h; exact h
  | thread k ih => intro Q E p s G0h G0 G hG hK h; exact ih _ Q E p s _ _ G hG hK h
  | await _ _ _ _ _ => intro Q E p s _ _ _ _ _ h; exact h
theorem grel_numb (G : Array GenState) : GRel G (G.map numb) := ⟨by rw [Array.size_map], fun i x y hx hy => by
  rw [Array.getElem?_map, hx] at hy
  cases hy
  exact stuckOf_numb x⟩
/-- the state with all sleeping generators numb -/
def allNumb (s : Shared) : Shared := { s with gens := s.gens.map numb }
theorem wpAny_rel {α : Type} {M : Model} {A : Around} {s : Shared} {t : Sem α} {Q : α → Shared → Prop} {E : Value → Shared → Prop} (h : wpAny M A t Q E (allNumb s)) :
    wpAny M A t (fun a s' => Back (s.gens.map numb) s.gens (Q a) s') (fun e s' => Back (s.gens.map numb) s.gens (E e) s') s := fun Γ p hΓ =>
  wp_rel M Γ t _ _ p (allNumb s) (s.gens.map numb) s.gens s.gens (grel_numb s.gens) .refl (h Γ p hΓ)
end WK

set_option Elab.async false
set_option linter.all false
set_option maxRecDepth 100000
set_option maxHeartbeats 4000000
/-! One stretch of a generator's run, told with the state that it sleeps in. -/
namespace WK
open PySem
open Sem (wp)
/-- the stretch ends in Post -/
def StepTo (M : Model) (A : Around) (c : Code) (t : Sem PySem.Fin) (fs : List Frame) (s : Shared) (Post : End → Shared → Prop) : Prop := ∀ Γ p, Γ.code = c → Γ.Woken A → ∃ e s', Runs M Γ p t fs s e s' ∧ Post e s'
section
variable {M : Model} {A : Around} {Post : End → Shared → Prop} {c : Code} {fs : List Frame} {s : Shared}
theorem st_wrap {α : Type} {m : Sem α} {K : α → Sem PySem.Fin} {H : Value → Sem PySem.Fin} {gd : Bool → Bool} {lv : List Value → List Value}
    (h : wpAny M (A.over c fs) m (fun a s' => StepTo M A c (K a) fs s' Post) (fun _ _ => False) s) : StepTo M A c (m.wrap K H gd lv) fs s Post := by
  rintro Γ p rfl hΓ
  exact runs_wrap_of_wp K H gd lv m (h (Γ.over fs) p (hΓ.over fs)) (fun a p' s' h' => h' Γ p' rfl hΓ) (fun x p' s' h' => h'.elim)
theorem st_bind_wrap {α β : Type} {m : Sem α} {K : α → Sem β} {K' : β → Sem PySem.Fin} {H' : Value → Sem PySem.Fin} {gd : Bool → Bool} {lv : List Value → List Value}
    (h : wpAny M (A.over c fs) m (fun a s' => StepTo M A c ((K a).wrap K' H' gd lv) fs s' Post) (fun _ _ => False) s) : StepTo M A c ((m >>= K).wrap K' H' gd lv) fs s Post := by
  rw [Sem.bind_eq_wrap', Sem.wrap_wrap]
  exact st_wrap h
theorem st_at {p' : Pos} {k : Unit → Sem PySem.Fin} (h : StepTo M A c (k ()) fs s Post) : StepTo M A c (.at p' k) fs s Post :=
  st_wrap (m := standAt p') (K := k) (H := .raise) (gd := id) (lv := id) (wpAny_standAt h)
theorem st_point {l : List Value} {k : Unit → Sem PySem.Fin} (h : StepTo M A c (k ()) fs s Post) : StepTo M A c (.point l k) fs s Post :=
  st_wrap (m := point) (K := k) (H := .raise) (gd := id) (lv := fun _ => l) (wpAny_point h)
theorem st_call {c' : Code} {h : Option Value} {g : Bool} {l : List Value} {k : Result → Sem PySem.Fin} (hc : ∀ p, StepTo M A c' (M.den c') (.ret k h g l c p [] :: fs) s Post) : StepTo M A c (.call c' h g l k) fs s Post := by
  rintro Γ p rfl hΓ
  obtain ⟨e, s', hr, he⟩ := hc p (Γ.goto c') p rfl (hΓ.goto c')
  exact ⟨e, s', runs_call_seg hr, he⟩
theorem st_leaf {k : Result → Sem PySem.Fin} {h : Option Value} {g : Bool} {l : List Value} {c₁ : Code} {p₁ : Pos} {kp : List Value} (r : Result) (hk : StepTo M A c₁ (k r) fs s Post) : StepTo M A c (leafOf r) (.ret k h g l c₁ p₁ kp :: fs) s Post := by
  rintro Γ p rfl hΓ
  obtain ⟨e, s', hr, he⟩ := hk (Γ.goto c₁) p₁ rfl (hΓ.goto c₁)
  exact ⟨e, s', Runs.pop r hr, he⟩
theorem st_again {c' : Code} (hq : c'.quiet = true) (hc : StepTo M A c' (M.den c') fs s Post) : StepTo M A c (.pure (.again c')) fs s Post := by
  rintro Γ p rfl hΓ
  obtain ⟨e, s', hr, he⟩ := hc (Γ.goto c') p rfl (hΓ.goto c')
  exact ⟨e, s', Runs.head (c₁ := c') (fun _ _ x => .again hq x) hr, he⟩
theorem st_end (r : Result) (h : Post (.ret r) s) : StepTo M A c (leafOf r) [] s Post := by
  rintro Γ p rfl _
  exact ⟨.ret r, s, Runs.leaf r, h⟩
theorem st_yield {v : Value} {g : Bool} {l : List Value} {k : Resume → Sem PySem.Fin} (hfs : splitAtGen fs = none) (h : ∀ p, Post (.susp v g l k c p fs) s) : StepTo M A c (.yield v g l k) fs s Post := by
  rintro Γ p rfl _
  exact ⟨_, s, Runs.yield' fs hfs, h p⟩
/-- a yield as a statement: what follows it wakes with a plain send -/
theorem st_exprYield {env : Env} {K : Flow → Sem PySem.Fin} {H : Value → Sem PySem.Fin} {gd : Bool → Bool} {lv : List Value → List Value} {e : Expr} {ypos pos : Pos} (hfs : splitAtGen fs = none)
    (h : wpAny M (A.over c fs) (eval e env) (fun v s' => ∀ (p : Pos) (l : List Value) (k : Resume → Sem PySem.Fin), (∀ s'' P, StepTo M A c (K .next) fs s'' P → StepTo M A c (k (.send .none)) fs s'' P) → Post (.susp v (gd false) l k c p fs) s') (fun _ _ => False) s)
    (hco : env.scope.isCoroutine = false := by rfl) (hi : interactive env = false := by rfl) :
    StepTo M A c ((exec (.Expr (.Yield (some e) ypos) pos) env).wrap K H gd lv) fs s Post := by
  rw [exec_Expr env _ pos hi rfl]
  show StepTo M A c (.at pos fun _ => ((eval e env >>= fun v => (standAt ypos >>= fun _ => yieldOut env v)) >>= fun x => dropValue (.Yield (some e) ypos) pos x).wrap K H gd lv) fs s Post
  have hy : ∀ v, yieldOut env v = yieldValue v := fun v => by simp only [yieldOut, hco, Bool.false_eq_true, if_false]
  simp only [hy]
  refine st_at ?_
  rw [Sem.bind_eq_wrap', Sem.bind_eq_wrap', Sem.wrap_wrap, Sem.wrap_wrap]
  refine st_wrap (wpAny_mono h (fun v s' h' => ?_) fun _ _ x => x)
  refine st_at (st_yield hfs fun p => ?_)
  exact h' p _ _ fun s'' P q => q
theorem st_For {env : Env} {K : Flow → Sem PySem.Fin} {H : Value → Sem PySem.Fin} {gd : Bool → Bool} {lv : List Value → List Value} {target iter : Expr} {body orelse : List Stmt} {pos : Pos}
    (h : wpAny M (A.over c fs) (eval iter env) (fun x s1 => wpAny M (A.over c fs) (pyIter x) (fun it s2 => ∀ (p : Pos) (k : Result → Sem PySem.Fin), (∀ s3 P, StepTo M A c (K .next) fs s3 P → StepTo M A c (k (.ok .next)) fs s3 P) →
      StepTo M A (.forLoop target it body orelse env) (M.den (.forLoop target it body orelse env)) (.ret k none (gd false) (lv []) c p [] :: fs) s2 Post) (fun _ _ => False) s1) (fun _ _ => False) s)
    (hs : ∀ x, foldedSetIterable iter env x = pure x := by intro _; rfl) :
    StepTo M A c ((exec (.For target iter body orelse pos) env).wrap K H gd lv) fs s Post := by
  rw [exec_For]
  refine st_bind_wrap (wpAny_standAt ?_)
  refine st_bind_wrap (wpAny_mono h (fun x s1 h1 => ?_) fun _ _ x => x)
  refine st_bind_wrap (wpAny_of_eq (hs x) ?_)
  refine st_bind_wrap (wpAny_standAt ?_)
  refine st_bind_wrap (wpAny_holding (wpAny_mono h1 (fun it s2 h2 => ?_) fun _ _ x => x))
  exact st_call fun p => h2 p _ fun s3 P q => q
theorem st_execs_cons {env : Env} {K : Flow → Sem PySem.Fin} {H : Value → Sem PySem.Fin} {gd : Bool → Bool} {lv : List Value → List Value} {st : Stmt} {rest : List Stmt}
    (h : StepTo M A c ((exec st env).wrap (fun f => match f with | .next => (execs rest env).wrap K H gd lv | f => K f) H gd lv) fs s Post) : StepTo M A c ((execs (st :: rest) env).wrap K H gd lv) fs s Post := by
  rw [execs_cons_wrap]
  exact h
end
section
variable {prog : Program} {w : World} {A : Around} {Post : End → Shared → Prop} {fs : List Frame} {s : Shared} {env : Env}
theorem st_func {body : List Stmt} (h : ∀ (H : Value → Sem PySem.Fin), StepTo (model prog w) A (.func body env) ((execs body env).wrap (fun f => .pure (.done (.ret (match f with | .ret v => v | _ => .none)))) H id id) fs s Post) :
    StepTo (model prog w) A (.func body env) ((model prog w).den (.func body env)) fs s Post := by
  show StepTo _ A _ (.point [] fun _ => ((execs body env).onRaise (leaving env)) >>= _) fs s Post
  refine st_point ?_
  rw [Sem.onRaise_eq_wrap, Sem.bind_eq_wrap', Sem.wrap_wrap]
  rw [Sem.wrap_congr (execs body env) _ _ (K' := fun f => .pure (.done (.ret (match f with | .ret v => v | _ => .none))))
    (H' := fun e => (leaving env e).wrap (fun _ => .raise e) .raise id id) (fun f => by cases f <;> rfl)
    (fun e => by rw [Sem.bind_eq_wrap, Sem.wrap_wrap]; rfl)]
  exact h _
theorem st_block0 : StepTo (model prog w) A (.block [] env) (leafOf (.ok .next)) fs s Post → StepTo (model prog w) A (.block [] env) ((model prog w).den (.block [] env)) fs s Post := fun h => h
theorem st_forLoop {target : Expr} {it : Value} {body : List Stmt}
    (h : wpAny (model prog w) (A.over (.forLoop target it body [] env) fs) (pyNext it) (fun r s₁ => match r with
      | none => StepTo (model prog w) A (.block [] env) (leafOf (.ok .next)) fs s₁ Post
      | some v => wpAny (model prog w) (A.over (.forLoop target it body [] env) fs) (letOwnedTupleGo target it v) (fun _ s2 => wpAny (model prog w) (A.over (.forLoop target it body [] env) fs) (assign target env v) (fun _ s3 =>
          ∀ (K : Flow → Sem PySem.Fin) (H : Value → Sem PySem.Fin), K .next = .pure (.again (.forLoop target it body [] env)) → StepTo (model prog w) A (.forLoop target it body [] env) ((execs body env).wrap K H id id) fs s3 Post) (fun _ _ => False) s2) (fun _ _ => False) s₁) (fun _ _ => False) s) :
    StepTo (model prog w) A (.forLoop target it body [] env) ((model prog w).den (.forLoop target it body [] env)) fs s Post := by
  show StepTo _ A _ ((forTurn target it body [] env).onRaise (fun x => do noteFrame x env; theTreesLotGoes x)) fs s Post
  rw [Sem.onRaise_eq_wrap]
  simp only [forTurn]
  refine st_bind_wrap (wpAny_standAt ?_)
  refine st_bind_wrap (wpAny_onRaise (wpAny_mono h (fun r s1 h1 => ?_) fun _ _ x => x.elim))
  cases r with
  | none => exact st_again rfl (st_block0 h1)
  | some v =>
    refine st_bind_wrap (wpAny_mono h1 (fun _ s2 h2 => ?_) fun _ _ x => x)
    refine st_bind_wrap (wpAny_mono h2 (fun _ s3 h3 => ?_) fun _ _ x => x)
    rw [Sem.bind_eq_wrap', Sem.wrap_wrap]
    exact h3 _ _ rfl
end
end WK

set_option Elab.async false
set_option linter.all false
set_option maxRecDepth 100000
set_option maxHeartbeats 4000000
/-! A generator that hands out the items of a list, one after another. -/
namespace WK
open PySem PySem.Spec PyProof.Rows L2 GenW
open Sem (wp)
structure GLow (env : Env) (it l : Addr) (vs : List Value) (j : Nat) (h : Heap) : Prop where
  iter : h.IsListIter it l j
  list : h.IsList l vs.toArray
  ns : ∃ m, h.Ns env.locals m
/-- only the iterator and the frame have turned -/
def Low (it L : Addr) (s s' : Shared) : Prop := ∃ (h1 h2 : Heap) (tk : Nat), s' = { s with heap := h2, toks := tk } ∧ (∀ b o, b ≠ it → s.heap.get? b = some o → h1.get? b = some o) ∧ (∀ b o, b ≠ L → h1.get? b = some o → h2.get? b = some o)
def PostG (M : Model) (A : Around) (env : Env) (it l : Addr) (vs : List Value) : Nat → Nat → Shared → End → Shared → Prop
  | 0, _, s₀, e, s' => e = .ret (.ok (.ret .none)) ∧ Low it env.locals s₀ s'
  | r + 1, j, s₀, e, s' => ∃ v live k c p fs, e = .susp v false live k c p fs ∧ e.quiet = true ∧ vs[j]? = some v ∧ GLow env it l vs (j + 1) s'.heap ∧ Low it env.locals s₀ s' ∧
    ∀ s'', GLow env it l vs (j + 1) s''.heap → StepTo M A c (k (.send .none)) fs s'' (PostG M A env it l vs r (j + 1) s'')
section
variable {P : Program} {w : World} {A : Around}
theorem goes_loop {env : Env} {it l : Addr} {vs : List Value} {x : Str} {tp np yp pos pc : Pos} {c : Code} {k : Result → Sem PySem.Fin} (hne : it ≠ env.locals) (hnl : l ≠ it) (hnL : l ≠ env.locals)
    (hk : ∀ s (Q : End → Shared → Prop), Q (.ret (.ok (.ret .none))) s → StepTo (model P w) A c (k (.ok .next)) [] s Q)
    (hh : (A.over (.forLoop (.Name x tp) (.ref it) [.Expr (.Yield (some (.Name x np)) yp) pos] [] env) [.ret k none false [] c pc []]).handled = none)
    (hkd : env.scope.kind = .function) (hloc : env.kindOf x = some .local) (hd : (x == ("__debug__" : Str)) = false) (hco : env.scope.isCoroutine = false) (hi : interactive env = false)
    (hcls : (env.scope.kind == .class || (env.scope.kind == .module && env.locals != env.globals)) = false) :
    ∀ (r j : Nat) (s : Shared), j + r = vs.length → GLow env it l vs j s.heap →
      StepTo (model P w) A (.forLoop (.Name x tp) (.ref it) [.Expr (.Yield (some (.Name x np)) yp) pos] [] env) ((model P w).den (.forLoop (.Name x tp) (.ref it) [.Expr (.Yield (some (.Name x np)) yp) pos] [] env)) [.ret k none false [] c pc []] s (PostG (model P w) A env it l vs r j s) := by
  intro r
  induction r with
  | zero =>
    intro j s hj g
    refine st_forLoop (wpAny_pyNext_list_end hh g.iter g.list (by rw [List.getElem?_toArray]; exact List.getElem?_eq_none (by omega)) fun h' eb => ?_)
    exact st_leaf (.ok .next) (hk _ _ ⟨rfl, h', h', s.toks, rfl, fun b o hb q => eb b o hb q, fun _ _ _ q => q⟩)
  | succ r ih =>
    intro j s hj g
    have hjl : j < vs.length := by omega
    have hv : vs[j]? = some vs[j] := List.getElem?_eq_getElem hjl
    refine st_forLoop (wpAny_pyNext_list_item (x := vs[j]) g.iter g.list (by rw [List.getElem?_toArray]; exact hv) fun h' st' sb => ?_)
    obtain ⟨o, ho, hc, hdd⟩ := id st'
    obtain ⟨m, hm⟩ := g.ns
    have hm' : h'.Ns env.locals m := hm.at' fun o e => (sb.2 _ (Ne.symm hne)).trans e
    refine go_of (s := { s with heap := h' }) ho hc hdd (by decide) ?_
    refine wpAny_assign_Name (wpAny_storeName_local hloc hm' (fun h'' hn'' sb'' => ?_) hcls)
    intro K H hK
    have iter'' : h''.IsListIter it l (j + 1) := st'.at fun o e => (sb''.2 _ hne).trans e
    have list'' : h''.IsList l vs.toArray := g.list.at fun o e => (sb''.2 _ hnL).trans ((sb.2 _ hnl).trans e)
    refine st_execs_cons (st_exprYield rfl (wpAny_Name (wpAny_loadName_local hkd hloc hn'' (v := vs[j]) (by simp) fun p ll kk hres => ?_) hd) hco hi)
    refine ⟨vs[j], ll, kk, _, p, _, rfl, rfl, hv, ⟨iter'', list'', _, hn''⟩, ⟨h', h'', _, rfl, fun b o hb q => (sb.2 b hb).trans q, fun b o hb q => (sb''.2 b hb).trans q⟩, fun s'' g'' => ?_⟩
    refine hres s'' _ ?_
    show StepTo _ _ _ (K .next) _ _ _
    rw [hK]
    exact st_again rfl (ih (j + 1) s'' (by omega) g'')
def Goes3 (M : Model) (A : Around) (g : Nat) (s : Shared) (Post : End → Shared → Prop) : GenState → Prop
  | .fresh c => StepTo M A c (M.den c) [] (s.setGen g .running) Post
  | .suspended k₀ _ c _ fs _ => StepTo M A c (k₀ (.send .none)) fs (s.setGen g .running) Post
  | _ => False
theorem wpAny_resume2 {M : Model} {E : Value → Shared → Prop} {s : Shared} {g : Nat} {gs : GenState} {l : List Value} {α : Type} {k : GenResult → Sem α} {Q : α → Shared → Prop} {Post : End → Shared → Prop} (hg : s.gens[g]? = some gs)
    (hgo : Goes3 M A g s Post gs)
    (h : ∀ e s₁, Post e s₁ → e.quiet = true ∧ wpAny M A (k e.result) Q E (s₁.setGen g e.genState)) : wpAny M A (.resume g (.send .none) l k) Q E s := by
  intro Γ p hΓ
  rw [Sem.wp_resume]
  have hB : ∀ c, (Γ.wake c p).Woken A := fun c => hΓ.wake c p
  cases gs with
  | fresh c =>
    obtain ⟨e₁, s₁, hr, he⟩ := hgo (Γ.wake c p) p rfl (hB c)
    obtain ⟨q1, q2⟩ := h e₁ s₁ he
    exact ⟨_, _, by unfold Wakes; rw [hg]; exact ⟨e₁, s₁, hr, q1, rfl, rfl⟩, q2 Γ p hΓ⟩
  | suspended k₀ l₀ c₀ p₀ fs₀ cl =>
    obtain ⟨e₁, s₁, hr, he⟩ := hgo (Γ.wake c₀ p) p₀ rfl (hB c₀)
    obtain ⟨q1, q2⟩ := h e₁ s₁ he
    exact ⟨_, _, by unfold Wakes; rw [hg]; exact ⟨e₁, s₁, hr, q1, rfl, rfl⟩, q2 Γ p hΓ⟩
  | running => exact hgo.elim
  | finished => exact hgo.elim
theorem next2 {E : Value → Shared → Prop} {s : Shared} {a : Addr} {g : Nat} {gs : GenState} {Post : End → Shared → Prop} {Q : Option Value → Shared → Prop} (hh : A.handled = none)
    (hl : s.heap.NoLimit) (hroom : A.depth < recursionLimit) (hg : s.heap.IsGen a g) (hgs : s.gens[g]? = some gs)
    (hgo : Goes3 (model P w) A.in1 g s Post gs)
    (hq : ∀ e s₁, Post e s₁ → e.quiet = true ∧ ((e = .ret (.ok (.ret .none)) ∧ ∀ h', (∀ b o, s₁.heap.get? b = some o → h'.get? b = some o) → Q none { s₁.setGen g .finished with heap := h' }) ∨ ∃ v live k c p fs, e = .susp v false live k c p fs ∧ Q (some v) (s₁.setGen g e.genState))) :
    wpAny (model P w) A (pyNext (.ref a)) Q E s := by
  unfold pyNext
  refine wpAny_bind (wpAny_attempt (wpAny_callSpecial?_slot (name := Str.ofString "__next__") hg.typeIs slot_gen_next
    (wpAny_call_entry slot_gen_next hg.typeIs entry_gen_next ?_ (args_gen_next _))))
  show wpAny _ A.in1 (Builtin.Generator.genWake (.ref a) (.send .none)) _ _ s
  unfold Builtin.Generator.genWake
  refine wpAny_bind (wpAny_holding (wpAny_genNumber hg (wpAny_bind (wpAny_genState hgs ?_))))
  cases gs with
  | running => exact hgo.elim
  | finished => exact hgo.elim
  | _ =>
    refine wpAny_bind (wpAny_roomToWake hl hroom ?_)
    show wpAny _ A.in1 (.resume g (.send .none) [] _) _ _ s
    refine wpAny_resume2 hgs hgo fun e s₁ he => ?_
    obtain ⟨h1, h2⟩ := hq e s₁ he
    refine ⟨h1, ?_⟩
    rcases h2 with ⟨rfl, hp⟩ | ⟨v, live, k, c, p, fs, rfl, hy⟩
    · show wpAny _ A.in1 (newExc (.type "StopIteration") [] >>= _) _ _ _
      refine wpAny_bind ?_
      simp only [newExc, newTuple]
      refine wpAny_bind (wpAny_newObj_type ?_ (by size_fits))
      refine wpAny_bind (m := firstArgMember _ _) (wpAny_of_eq (a := Value.none) (by first | rfl | (simp only [firstArgMember]; rfl)) ?_)
      refine wpAny_newObj_type ?_ (by size_fits)
      simp only [raiseNew]
      refine wpAny_bind (wpAny_bind (wpAny_handled ?_))
      first | rw [show A.in1.handled = none from hh] | rw [hh]
      refine wpAny_throw ?_
      refine wpAny_bind (wpAny_isInstance (T := "StopIteration") (b := true) ⟨_, Heap.get?_push_size _ rfl, rfl⟩ isSubtype_stop ?_)
      exact wpAny_pure (hp _ fun b o hb => Heap.get?_push_of_some _ (Heap.get?_push_of_some _ hb))
    · exact wpAny_pure ⟨v, rfl, wpAny_pure hy⟩
end
end WK

set_option Elab.async false
set_option linter.all false
set_option maxRecDepth 100000
set_option maxHeartbeats 4000000
/-! Code.words: what it reckons ahead of its first word. -/
namespace WK
open PySem PySem.Spec PyProof.Rows L2 WM
open Evl (Ex ex_l ex_t ex_rd sq_of st_of sz_of sz_lt fresh_back rLenS rListS)
def rowStep (p : Int) (row : W) (w : W) : List W := (List.range p.toNat).map fun (a : Nat) => addM w (scaleM row (a : Int) p) p
def wordStep (p : Int) (found : List W) (row : W) : List W := found.flatMap (rowStep p row)
abbrev wgo (c : CodeM) (i : Nat) : List W := (c.rows.take i).foldl (wordStep c.p) [zeroM c.n]
def wordsM (c : CodeM) : List W := c.rows.foldl (wordStep c.p) [zeroM c.n]
theorem wgo_succ {c : CodeM} {i : Nat} {r : W} (h : c.rows[i]? = some r) : wgo c (i + 1) = wordStep c.p (wgo c i) r := by
  unfold wgo
  rw [take_snoc h, List.foldl_append] <;> rfl
theorem flat_len {p : Int} {row : W} : ∀ (F : List W), (F.flatMap (rowStep p row)).length = F.length * p.toNat
  | [] => by simp
  | w :: F => by
    rw [List.flatMap_cons, List.length_append, flat_len F, List.length_cons, Nat.succ_mul, Nat.add_comm]
    unfold rowStep
    rw [List.length_map, List.length_range]
theorem wgo_len (c : CodeM) : ∀ i, i ≤ c.rows.length → (wgo c i).length = c.p.toNat ^ i
  | 0, _ => by
    rw [Nat.pow_zero] <;> rfl
  | i + 1, h => by
    have hi : c.rows[i]? = some c.rows[i] := List.getElem?_eq_getElem (by omega)
    rw [wgo_succ hi]
    unfold wordStep
    rw [flat_len, wgo_len c i (by omega), Nat.pow_succ]
theorem wordStep_ok {p : Int} {n : Nat} {F : List W} {row : W} (hp : 0 < p) (hF : ∀ w ∈ F, WOk p n w) (hr : WOk p n row) : ∀ w ∈ wordStep p F row, WOk p n w := by
  intro w hw
  unfold wordStep at hw
  obtain ⟨u, hu, hw⟩ := List.mem_flatMap.mp hw
  unfold rowStep at hw
  obtain ⟨a, _, rfl⟩ := List.mem_map.mp hw
  exact wok_add hp (hF u hu).1 (by rw [scaleM_len, hr.1])
theorem wgo_ok {c : CodeM} (ok : CodeOk c) : ∀ i, i ≤ c.rows.length → ∀ w ∈ wgo c i, WOk c.p c.n w
  | 0, _ => fun w hw => by
    have e : w = zeroM c.n := by simpa [wgo] using hw
    rw [e]
    exact zero_ok ok.pos _
  | i + 1, h => by
    have hi : c.rows[i]? = some c.rows[i] := List.getElem?_eq_getElem (by omega)
    rw [wgo_succ hi]
    exact wordStep_ok ok.pos (wgo_ok ok i (by omega)) (ok.rows _ (List.getElem_mem (by omega)))
/-- ws are the words, ascending -/
structure WordsOk (c : CodeM) (ws : List W) : Prop where
  perm : ws.Perm (wordsM c)
  asc : ws.Pairwise fun a b => TS.code c.p a < TS.code c.p b
  few : c.p.toNat ^ c.rows.length < 64
  n0 : c.n = 0 → c.rows.length = 0
theorem asc_inj {B : Int} : ∀ {ws : List W}, ws.Pairwise (fun a b => TS.code B a < TS.code B b) → ∀ a b, a ∈ ws → b ∈ ws → TS.code B a ≤ TS.code B b → TS.code B b ≤ TS.code B a → a = b
  | [], _, a, _, ha, _, _, _ => absurd ha List.not_mem_nil
  | w :: ws, h, a, b, ha, hb, h1, h2 => by
    rw [List.pairwise_cons] at h
    rcases List.mem_cons.mp ha with e1 | ha'
    · rcases List.mem_cons.mp hb with e2 | hb'
      · rw [e1, e2]
      · have := h.1 b hb'
        rw [e1] at h2
        omega
    · rcases List.mem_cons.mp hb with e2 | hb'
      · have := h.1 a ha'
        rw [e2] at h1
        omega
      · exact asc_inj h.2 a b ha' hb' h1 h2
theorem WordsOk.eq {c : CodeM} {ws ws' : List W} (h : WordsOk c ws) (hp : ws'.Perm (wordsM c)) (ha : ws'.Pairwise fun a b => TS.code c.p a ≤ TS.code c.p b) : ws' = ws := by
  have p2 : ws'.Perm ws := hp.trans h.perm.symm
  refine List.Perm.eq_of_pairwise (le := fun a b => TS.code c.p a ≤ TS.code c.p b) (fun a b x y h1 h2 => asc_inj h.asc a b (p2.mem_iff.mp x) y h1 h2) ha ?_ p2
  exact h.asc.imp fun {a b} q => by omega
theorem bd_of {p : Int} {n : Nat} {w : W} (h : WOk p n w) : TS.Bd p w := fun x hx => h.2 x hx
section
variable {K : PySem.W.Frag} {σ : L2.St} {H H' : Hp} {ta : TE}
theorem ex_fld {a C dx : Addr} {fs : List (Str × V)} {f : Str} {v : V} (ha : EvP ta σ H (XP (.ref a))) (h : H a = some (.ins C dx fs)) (c : Cls K C) (n : NoAttr K C f) (l : fs.lookup f = some v) : EvP (tFld K ta f) σ H (XP v) := fun H1 e Q q =>
  ha H1 e _ fun x H2 e2 hx => ⟨a, C, dx, fs, v, hx, (e.trans e2) _ _ h, c, n, l, q v H2 e2 rfl⟩
end
section
variable {P : Program} {w : World} {K : PySem.W.Frag} {mg : Str → Option Value} {base : Heap}
/-- the generator's context, no exception leaves it -/
abbrev wordsX (P : Program) (w : World) (K : PySem.W.Frag) (mg : Str → Option Value) (base : Heap) (f : Addr) (cdv : Value) (A : Around) (outer : List Env) (s : Shared) (H : Hp) : Cx :=
  (gcxOf P w K mg base N_Code_words "Code.words" (defScope s_Code_words) f cdv A outer s H (fun _ _ _ => False) []).nox
theorem words_pre (T : Txt K mg) (cdv : Value) (A : Around) (outer : List Env) (s : Shared) (H : Hp) (hr : Room 2 (A.deeper (envOfC "Code.words" (defScope s_Code_words) s.heap.objs.size T.Code_words.f cdv))) :
    ∃ st0 st1 tp it np yp pos fp t0 t1 ti, defBody s_Code_words = [st0, st1, .For (.Name "word" tp) it [.Expr (.Yield (some (.Name "word" np)) yp) pos] [] fp] ∧ (∀ env x, foldedSetIterable it env x = pure x) ∧
      PS (wordsX P w K mg base T.Code_words.f cdv A outer s H) st0 t0 ∧ PS (wordsX P w K mg base T.Code_words.f cdv A outer s H) st1 t1 ∧ PE (wordsX P w K mg base T.Code_words.f cdv A outer s H) it ti ∧
      ∀ (c : CodeM) (a : Addr) (ws : List W), CodeAt K T.cCode c H a → CodeOk c → WordsOk c ws →
        t0 { nx := fun σ1 H1 => t1 { nx := fun σ2 H2 => ti σ2 H2 fun v H3 => ∃ p xs, v = .ref p ∧ H p = none ∧ Ex H H3 ∧ H3 p = some (.lst xs) ∧ DpAll K H3 xs (wds ws), rt := fun _ _ => False } σ1 H1, rt := fun _ _ => False } (start N_Code_words [.ref a]) H := by
  refine ⟨_, _, _, _, _, _, _, _, _, _, _, rfl, fun _ _ => rfl, (ps_set (i := 1) sc_Code_words.nd rfl (Or.inl rfl) (pe_lst (pa_cons (pe_op (op_repZ K) (pe_tup (pa_cons pe_int pa_nil)) (kpe_fld K (pv 0))) pa_nil))), (ps_for PassesOwn.never rfl (kpi_tup K (kpe_fld K (pv 0))) (pg_name (i := 2) sc_Code_words.nd rfl (Or.inl rfl)) (pss_cons (ps_set (i := 4) sc_Code_words.nd rfl (Or.inl rfl) (pe_lst pa_nil))
      (pss_cons (ps_for PassesOwn.never rfl (kpi_list K (pe_callTy (kc_list K) (by rfl) T.z_list (by decide +kernel) (pa_cons (pv 1) pa_nil))) (pg_name (i := 3) sc_Code_words.nd rfl (Or.inl rfl)) (pss_one (ps_for PassesOwn.never rfl (pi_range1 (by rfl) T.z_range (pa_cons (kpe_fld K (pv 0)) pa_nil)) (pg_name (i := 5) sc_Code_words.nd rfl (Or.inl rfl)) (pss_one (ps_expr (kpe_bm K PySem.F.plainAttrs_list PySem.F.slot_list_append PySem.F.type_list_append mt_append (pv 4) (pa_cons (pe_call (ok_add T) (hr.mono (by decide)) (by rfl) T.add.g T.add.F.kp T.add.b .nil pass0 (pa_cons (pv 3) (pa_cons (pe_call (ok_scaled T) (hr.mono (by decide)) (by rfl) T.scaled.g T.scaled.F.kp T.scaled.b .nil pass0 (pa_cons (pv 2) (pa_cons (pv 5) (pa_cons (kpe_fld K (pv 0)) pa_nil)))) (pa_cons (kpe_fld K (pv 0)) pa_nil)))) pa_nil)))))))
      (pss_one (ps_set (i := 1) sc_Code_words.nd rfl (Or.inl rfl) (pv 4)))))), (pe_callB (kc_sortW K) (by rfl) T.z_sorted (by decide +kernel) (pa_cons (pv 1) pa_nil)), fun c a ws ca ok wk => ?_⟩
  obtain ⟨dx, vr, vp, h1, h2, h3⟩ := ca
  have ca : CodeAt K T.cCode c H a := ⟨dx, vr, vp, h1, h2, h3⟩
  obtain ⟨b, xsr, rfl, sT, alr⟩ := dp_tup h2
  have hlr := dpAll_len alr
  rw [List.length_map] at hlr
  have hpp := ok.pos
  have h5 := pr_pos ok.p
  have hn5 := ok.n
  have hk5 := ok.k
  have hpow : ∀ i, i ≤ c.rows.length → c.p.toNat ^ i < 64 := fun i hi => Nat.lt_of_le_of_lt (Nat.pow_le_pow_right (by omega) hi) wk.few
  refine s_asgN (PA := NL K (wds (wgo c 0))) (EvN.is (en_lst (ds := [wd (zeroM c.n)]) (ea_cons (EvP.is (ed_repZ (ed_tup (ds := [.int 0]) (ea_cons ed_int ea_nil) (by show 1 ≤ 100000; decide)) (cf_n T (ex_var rfl) ca) (by omega)) ?_) ea_nil) (by show 1 ≤ 100000; decide)) rfl) fun fa H1 hfa e1 n1 => ?_
  · unfold zeroM
    rw [wd, List.map_replicate]
  refine s_forTn (a := b) (xs := xsr) (ex_fld (ex_var rfl) (e1 _ _ h1) T.cl_Code (T.no_Code "rows" (by decide)) rfl) (ex_t e1 sT)
    (fun i σ' H' => ∃ fa z2 z3 z4 z5, σ' = [some (.ref a), some (.ref fa), z2, z3, z4, z5] ∧ Ex H1 H' ∧ H fa = none ∧ NL K (wds (wgo c i)) H' fa)
    (fun H2 e2 => ⟨fa, _, _, _, _, rfl, e2, hfa, n1.mono e2⟩) (fun i σ' H' ⟨_, _, _, _, _, _, e, _⟩ => e) (fun i x σ' H' hi h => ?_) (fun σ' H' h => ?_)
  · obtain ⟨fa, z2, z3, z4, z5, rfl, e, hfa, nF⟩ := h
    have E := e1.trans e
    have hi' : i < c.rows.length := by
      have := (List.getElem?_eq_some_iff.mp hi).1
      omega
    have hri : c.rows[i]? = some c.rows[i] := List.getElem?_eq_getElem hi'
    have px : Dp K H x (wd c.rows[i]) := by
      obtain ⟨v, a1, a2⟩ := dpAll_at alr (i := i) (d := wd c.rows[i]) (by rw [List.getElem?_map, hri] <;> rfl)
      rw [hi] at a1
      cases a1
      exact a2
    have wr := ok.rows _ (List.getElem_mem hi')
    have hsucc := wgo_succ hri
    have wF := wgo_ok ok i (by omega)
    have lF := wgo_len c i (by omega)
    have lF1 := hpow i (by omega)
    have lF2 := hpow (i + 1) (by omega)
    have lS : (wordStep c.p (wgo c i) c.rows[i]).length < 64 := by
      rw [← hsucc, wgo_len c (i + 1) (by omega)]
      exact lF2
    generalize c.rows[i] = row at px wr hsucc lS
    generalize wgo c i = F at nF wF lF hsucc lS
    refine q_asgN (PA := NL K []) (en_lst (ds := []) ea_nil (by decide)) fun la H2 hla e2 n2 => ?_
    have E2 := E.trans e2
    have hlaH : H la = none := fresh_back E hla
    have hla1 : H1 la = none := fresh_back e hla
    refine q_forN (ds := wds F) (en_listL (ed_var rfl (nF.mono e2).dp))
      (fun q xs k σ' H' => ∃ z3 z5, σ' = [some (.ref a), some (.ref fa), some x, z3, some (.ref la), z5] ∧ Ex H1 H' ∧ H' q = some (.lst xs) ∧ DpAll K H' xs (wds F) ∧ NL K (wds ((F.take k).flatMap (rowStep c.p row))) H' la ∧ q ≠ la)
      (fun q xs H3 hq e3 hq3 al3 => ⟨_, _, rfl, (e.trans e2).trans e3, hq3, al3, n2.mono e3, fun z => by
        obtain ⟨ys, h⟩ := n2.at
        rw [z] at hq
        rw [hq] at h
        cases h⟩) (fun q xs k σ' H' ⟨_, _, _, _, h, _⟩ => h) (fun q xs k y σ' H' hlx hk h => ?_) (fun q xs σ' H' h => ?_)
    · obtain ⟨z3, z5, rfl, e3, hq3, al3, n3, hne⟩ := h
      have hk' : k < F.length := by
        have := (List.getElem?_eq_some_iff.mp hk).1
        rw [hlx, List.length_map] at this
        exact this
      have hFk : F[k]? = some F[k] := List.getElem?_eq_getElem hk'
      have py : Dp K H' y (wd F[k]) := by
        obtain ⟨v, a1, a2⟩ := dpAll_at al3 (i := k) (d := wd F[k]) (by rw [List.getElem?_map, hFk] <;> rfl)
        rw [hk] at a1
        cases a1
        exact a2
      have wy := wF _ (List.getElem_mem hk')
      have hfl : (F.take (k + 1)).flatMap (rowStep c.p row) = (F.take k).flatMap (rowStep c.p row) ++ rowStep c.p row F[k] := by
        rw [take_snoc hFk, List.flatMap_append] <;> simp
      have hle : ((F.take (k + 1)).flatMap (rowStep c.p row)).length < 64 := by
        rw [flat_len, List.length_take]
        unfold wordStep at lS
        rw [flat_len] at lS
        exact Nat.lt_of_le_of_lt (Nat.mul_le_mul_right _ (Nat.min_le_right _ _)) lS
      rw [hfl, List.length_append] at hle
      rw [hfl]
      generalize F[k] = u at py wy hle
      generalize (F.take k).flatMap (rowStep c.p row) = G at n3 hle
      have lrs : (rowStep c.p row u).length = c.p.toNat := by
        unfold rowStep
        rw [List.length_map, List.length_range]
      have E3 : Ex H H' := e1.trans e3
      refine s_forR (n := c.p) (ea_cons (cf_p T (ex_var rfl) (ca.mono E3)) ea_nil) ⟨by omega, by omega⟩
        (fun m σ'' H'' => ∃ z5, σ'' = [some (.ref a), some (.ref fa), some x, some y, some (.ref la), z5] ∧ Ex H1 H'' ∧ H'' q = some (.lst xs) ∧ DpAll K H'' xs (wds F) ∧ Dp K H'' y (wd u) ∧ NL K (wds (G ++ (rowStep c.p row u).take m)) H'' la)
        (fun H4 e4 => ⟨_, rfl, e3.trans e4, e4 _ _ hq3, dpAll_mono e4 al3, dp_mono e4 py, by rw [List.take_zero, List.append_nil]; exact n3.mono e4⟩) (fun m σ'' H'' hm h => ?_) (fun σ'' H'' h => ?_)
      · obtain ⟨z5, rfl, e4, hq4, al4, py4, n4⟩ := h
        have E4 : Ex H H'' := e1.trans e4
        have hm' : m < c.p.toNat := by omega
        have hrs : (rowStep c.p row u)[m]? = some (addM u (scaleM row (m : Int) c.p) c.p) := by
          unfold rowStep
          rw [List.getElem?_map, List.getElem?_range hm'] <;> rfl
        refine s_appD (ds := wds (G ++ (rowStep c.p row u).take m)) (d := wd (addM u (scaleM row (m : Int) c.p) c.p)) n4 (tOnly_wds _) (ex_var rfl) (ev_call (ι := W × W × Int) (u, scaleM row (m : Int) c.p, c.p) ⟨by show (scaleM row _ _).length = u.length; rw [scaleM_len, wr.1, wy.1], by show u.length ≤ 1000; rw [wy.1]; omega, hpp⟩
          (ea_cons (ed_var rfl py4) (ea_cons (ev_call (ι := W × Int × Int) (row, (m : Int), c.p) ⟨by show row.length ≤ 1000; rw [wr.1]; omega, by show -1000 ≤ (m : Int); omega, by show (m : Int) ≤ 1000; omega, hpp⟩
            (ea_cons (ed_var rfl (dp_mono E4 px)) (ea_cons (ed_var rfl (.int _)) (ea_cons (cf_p T (ex_var rfl) (ca.mono E4)) ea_nil)))) (ea_cons (cf_p T (ex_var rfl) (ca.mono E4)) ea_nil)))) (tOnly_wd _) ?_ fun ys o H5 e5 hy5 n5 => ?_
        · rw [List.length_map, List.length_append, List.length_take]
          omega
        · refine ⟨_, rfl, Ex.mut (e4.trans e5) hla1, ?_, dpAll_updL hy5 (tOnly_wds _) (dpAll_mono e5 al4), dp_updL hy5 (tOnly_wd _) (dp_mono e5 py4), ?_⟩
          · rw [upd_ne hne]
            exact e5 _ _ hq4
          · rw [take_snoc hrs, ← List.append_assoc]
            unfold wds at n5 ⊢
            rw [List.map_append]
            exact n5
      · obtain ⟨z5, rfl, e4, hq4, al4, py4, n4⟩ := h
        rw [← lrs, List.take_length] at n4
        exact ⟨_, _, rfl, e4, hq4, al4, n4, hne⟩
    · obtain ⟨z3, z5, rfl, e3, hq3, al3, n3, hne⟩ := h
      have hFl : F.take (wds F).length = F := by
        rw [List.length_map, List.take_length]
      rw [hFl] at n3
      refine s_asg (P := XP (.ref la)) (ex_var rfl) fun v H4 e4 hv => ?_
      have hv' : v = .ref la := hv
      subst hv'
      refine ⟨la, _, _, _, _, rfl, e3.trans e4, hlaH, ?_⟩
      rw [hsucc]
      exact n3.mono e4
  · obtain ⟨fa, z2, z3, z4, z5, rfl, e, hfa, nF⟩ := h
    have hwl : wgo c xsr.length = wordsM c := by
      unfold wgo wordsM
      rw [hlr, List.take_length]
    rw [hwl] at nF
    have hlen : (wordsM c).length = c.p.toNat ^ c.rows.length := by
      rw [← hwl, hlr, wgo_len c _ (Nat.le_refl _)]
    refine en_sortW (ws := wordsM c) (d := c.n) (B := c.p) (ed_var rfl nF.dp) (by rw [hlen]; exact wk.few) (fun u hu => ?_) (fun h0 => by rw [hlen, wk.n0 h0]; exact Nat.le_refl _) H' (Ex.refl _) _ fun q H3 hq e3 hs => ?_
    · have := wgo_ok ok c.rows.length (Nat.le_refl _) u (by
        rw [← hlr, hwl]
        exact hu)
      exact ⟨this.1, bd_of this⟩
    · obtain ⟨ws', p1, p2, n3⟩ := hs
      rw [wk.eq p1 p2] at n3
      obtain ⟨ys, y1, y2⟩ := n3
      exact ⟨q, ys, rfl, fresh_back (e1.trans e) hq, (e1.trans e).trans e3, y1, y2⟩
end
end WK

set_option Elab.async false
set_option linter.all false
set_option maxRecDepth 100000
set_option maxHeartbeats 4000000
/-! for word in a.words(): the rule. -/
namespace WK
open PySem PySem.Spec PyProof.Rows L2 WM GenW
open Evl (Ex ex_l ex_t ex_rd sq_of st_of sz_of sz_lt fresh_back rLenS rListS)
section
variable {X : Cx} {pins : List (Addr × Obj)} {σ : L2.St} {H : Hp} {s s' : Shared}
theorem inv_gens (I : Inv X pins σ H s) {G : Array GenState} (h : AllBare G) : Inv X pins σ H { s with gens := G } := ⟨I.ok, I.os, h, I.base, I.loc, I.cell, I.free, I.freeC, I.pin, I.hok, I.len⟩
theorem low_inv {it L : Addr} (I : Inv X pins σ H s) (f1 : FpOk X pins H it) (f2 : FpOk X pins H L) (h : Low it L s s') : Inv X pins σ H s' := by
  obtain ⟨h1, h2, tk, rfl, k1, k2⟩ := h
  obtain ⟨a0, a1, a2, a3, a4, a5⟩ := f1
  obtain ⟨b0, b1, b2, b3, b4, b5⟩ := f2
  have J := I.turned (t' := s.toks) k1 a0 a1 a3 a4 a5
  exact J.turned (t' := tk) k2 b0 b1 b3 b4 b5
theorem bare_numb {G : Array GenState} (h : AllBare G) : AllBare (G.map numb) := fun y hy => by
  obtain ⟨x, hx, rfl⟩ := Array.mem_map.mp hy
  rw [numb_bare]
  exact h x hx
theorem grel_bare {G Gh : Array GenState} (h : GRel G Gh) (hb : AllBare Gh) : AllBare G := fun x hx => by
  obtain ⟨i, hi, e⟩ := Array.mem_iff_getElem.mp hx
  have hi' : i < Gh.size := by
    rw [← h.sz]
    exact hi
  have q := h.at_ i x Gh[i] (by rw [Array.getElem?_eq_getElem hi, e]) (Array.getElem?_eq_getElem hi')
  rw [q.bare]
  exact hb _ (Array.getElem_mem hi')
/-- code that is proved with numb sleepers leaves a sleeper -/
theorem wpAny_framed {α : Type} {M : Model} {A : Around} {t : Sem α} {Q : α → Shared → Prop} {E : Value → Shared → Prop} {g : Nat} {gs : GenState} (hg : s.gens[g]? = some gs) (hn : isNumb (numb gs)) (h : wpAny M A t Q (fun _ _ => False) (allNumb s)) :
    wpAny M A t (fun a s' => ∃ Gh, Q a { s' with gens := Gh } ∧ s'.gens[g]? = some gs ∧ (AllBare Gh → AllBare s'.gens)) E s := by
  refine wpAny_mono (wpAny_rel h) (fun a s' hb => ?_) fun e s' hb => ?_
  · obtain ⟨Gh, q, r, k⟩ := hb
    have kk := k g (numb gs) (by rw [Array.getElem?_map, hg] <;> rfl) hn
    exact ⟨Gh, q, by rw [kk.2]; exact hg, grel_bare r⟩
  · obtain ⟨Gh, q, _⟩ := hb
    exact q.elim
end
section
variable {P : Program} {w : World} {K : PySem.W.Frag} {mg : Str → Option Value} {base : Heap}
/-- what stands when the sorted words are ready -/
structure Ready (P : Program) (w : World) (K : PySem.W.Frag) (outer : List Env) (L : Addr) (s1 : Shared) (H1 : Hp) (ws : List W) (ga : Addr) (go : Obj) (p it : Addr) (xs : List V) (vs : List Value) (s4 : Shared) (H3 : Hp) : Prop where
  os : s4.os = s1.os
  bare : AllBare s4.gens
  un : Un (frs outer) [] H1 H3 s1.heap s4.heap
  hok : HOk P w H3 s4.heap
  pn : H1 p = none
  ex : Ex H1 H3
  pl : H3 p = some (.lst xs)
  al : DpAll K H3 xs (wds ws)
  vals : Vals xs vs
  iter : s4.heap.IsListIter it p 0
  lst : s4.heap.IsList p vs.toArray
  ns : ∃ m, s4.heap.Ns L m
  itz : s1.heap.objs.size ≤ it
  itn : H3 it = none
  Ln : H3 L = none
  gan : H3 ga = none
  gao : s4.heap.get? ga = some go
  itL : it ≠ L
  gai : ga ≠ it
  gaL : ga ≠ L
def Post1 (P : Program) (w : World) (K : PySem.W.Frag) (A : Around) (outer : List Env) (env : Env) (s1 : Shared) (H1 : Hp) (ws : List W) (ga : Addr) (go : Obj) : End → Shared → Prop := fun e s' =>
  ∃ p it xs vs s4 H3, Ready P w K outer env.locals s1 H1 ws ga go p it xs vs s4 H3 ∧ PostG (model P w) A env it p vs vs.length 0 s4 e s'
theorem st_mono {M : Model} {A : Around} {c : Code} {t : Sem PySem.Fin} {fs : List Frame} {s : Shared} {P Q : End → Shared → Prop} (h : StepTo M A c t fs s P) (hpq : ∀ e s', P e s' → Q e s') : StepTo M A c t fs s Q := fun Γ p h1 h2 => by
  obtain ⟨e, s', a, b⟩ := h Γ p h1 h2
  exact ⟨e, s', a, hpq e s' b⟩
theorem first_step (T : Txt K mg) {A : Around} {outer : List Env} {sC sE sR : Shared} {H : Hp} {cdv : Value} {a : Addr} {c : CodeM} {ws : List W} {ga : Addr} {go : Obj} (hr : Room 3 A) (e0 : Env0 P w K mg base A outer sC H)
    (x : InCallC sC sC.heap.objs.size (bindL (envOfC "Code.words" (defScope s_Code_words) sC.heap.objs.size T.Code_words.f cdv).kindOf ([("self" : Str)].zip [Value.ref a]) fun _ => none) (cellsFrom (sC.heap.objs.size + 1) (defScope s_Code_words).names []) (bindC (envOfC "Code.words" (defScope s_Code_words) sC.heap.objs.size T.Code_words.f cdv).kindOf ([("self" : Str)].zip [Value.ref a]) fun _ => none) sE)
    (hk : ∀ b o, sE.heap.get? b = some o → sR.heap.get? b = some o) (hos : sR.os = sE.os) (hb : AllBare sR.gens) (hga : sE.heap.objs.size ≤ ga) (hgo : sR.heap.get? ga = some go) (hgd : ∀ v, go.data ≠ .cell v)
    (ca : CodeAt K T.cCode c H a) (ok : CodeOk c) (wk : WordsOk c ws) :
    StepTo (model P w) A (.func (defBody s_Code_words) (envOfC "Code.words" (defScope s_Code_words) sC.heap.objs.size T.Code_words.f cdv)) ((model P w).den (.func (defBody s_Code_words) (envOfC "Code.words" (defScope s_Code_words) sC.heap.objs.size T.Code_words.f cdv))) [] sR
      (Post1 P w K A outer (envOfC "Code.words" (defScope s_Code_words) sC.heap.objs.size T.Code_words.f cdv) sC H ws ga go) := by
  have I0 : Inv (gcxOf P w K mg base N_Code_words "Code.words" (defScope s_Code_words) T.Code_words.f cdv A outer sC H (fun _ _ _ => False) []) [] (start N_Code_words [.ref a]) H sE :=
    inv_startG sc_Code_words hr.hd e0 rfl (.cons rfl .nil) x
  have lt1 : sC.heap.objs.size < sE.heap.objs.size := x.toInCall.ns.lt
  have I1 : Inv (wordsX P w K mg base T.Code_words.f cdv A outer sC H) [] (start N_Code_words [.ref a]) H sR := (I0.call' (ch := []) hos (Un.kept hk) (I0.hok.kept hk) hb fun b z => by simp at z).wish _
  have I2 : Inv (wordsX P w K mg base T.Code_words.f cdv A outer sC H) [(ga, go)] (start N_Code_words [.ref a]) H sR := I1.pins_of fun p hp => by
    rw [List.mem_singleton.mp hp]
    exact ⟨hgo, I0.hok.fresh hga, Nat.ne_of_gt (Nat.lt_of_lt_of_le lt1 hga), I0.nofs hga, hgd⟩
  obtain ⟨st0, st1, tp, it, np, yp, pos, fp, t0, t1, ti, hbody, hs, p0, p1, pi, sem⟩ := words_pre (P := P) (w := w) (base := base) T cdv A outer sC H (hr.deeper _)
  rw [hbody]
  refine st_func fun Hx => ?_
  refine st_execs_cons (st_wrap ?_)
  rw [over_func]
  refine wpAny_mono (p0.run _ sR _ H _ I2 (sem c a ws ca ok wk)) (fun f s1 hf => ?_) fun _ _ z => z
  cases f with
  | brk => obtain ⟨_, _, _, z⟩ := hf; exact z.elim
  | cont => obtain ⟨_, _, _, z⟩ := hf; exact z.elim
  | ret u => obtain ⟨_, _, _, _, _, z⟩ := hf; exact z.elim
  | next =>
    obtain ⟨σ1, H1, J1, q1⟩ := hf
    refine st_execs_cons (st_wrap ?_)
    rw [over_func]
    refine wpAny_mono (p1.run _ s1 _ H1 _ J1 q1) (fun f s2 hf => ?_) fun _ _ z => z
    cases f with
    | brk => obtain ⟨_, _, _, z⟩ := hf; exact z.elim
    | cont => obtain ⟨_, _, _, z⟩ := hf; exact z.elim
    | ret u => obtain ⟨_, _, _, _, _, z⟩ := hf; exact z.elim
    | next =>
      obtain ⟨σ2, H2, J2, q2⟩ := hf
      refine st_execs_cons (st_For ?_ fun z => hs _ z)
      rw [over_func]
      refine wpAny_mono (pi.run _ s2 _ H2 _ J2 q2) (fun u s3 hf => ?_) fun _ _ z => z
      obtain ⟨v, H3, J3, rv, p, xs, rfl, hpn, hex, hpl, hal⟩ := hf
      obtain rfl : u = Value.ref p := rv
      obtain ⟨vs, rvs, pl, hz⟩ := J3.list (sq_of hpl)
      refine wpAny_pyIter_list pl.isList ?_
      intro pc k hres
      have J4 : Inv (wordsX P w K mg base T.Code_words.f cdv A outer sC H) [(ga, go)] σ2 H3 { s3 with heap := s3.heap.push { cls := .type "list_iterator", data := .fields #[.ref p, .int 0 0] } } := J3.kept (t' := s3.toks) fun b o e => Heap.get?_push_of_some _ e
      have hit : (s3.heap.push { cls := .type "list_iterator", data := .fields #[.ref p, .int 0 0] }).IsListIter s3.heap.objs.size p 0 := ⟨_, Heap.get?_push_size _ rfl, rfl, rfl⟩
      have itn : H3 s3.heap.objs.size = none := J3.hok.fresh (Nat.le_refl _)
      have Ln : H3 sC.heap.objs.size = none := J3.free
      obtain ⟨gao, gan, gaL, _, _⟩ := J4.pin (ga, go) (List.mem_append_right _ (List.mem_singleton.mpr rfl))
      have gao3 := (J3.pin (ga, go) (List.mem_append_right _ (List.mem_singleton.mpr rfl))).1
      have itL : s3.heap.objs.size ≠ sC.heap.objs.size := Nat.ne_of_gt J3.lt
      have gai : ga ≠ s3.heap.objs.size := Nat.ne_of_lt (Heap.lt_size gao3)
      have pit : p ≠ s3.heap.objs.size := fun e => by rw [e, itn] at hpl; cases hpl
      have pL : p ≠ sC.heap.objs.size := fun e => by rw [e, Ln] at hpl; cases hpl
      obtain ⟨its, rv2, pl2, _⟩ := J4.list (sq_of hpl)
      have hlst : (s3.heap.push { cls := .type "list_iterator", data := .fields #[.ref p, .int 0 0] }).IsList p vs.toArray := pl.isList.at fun o e => Heap.get?_push_of_some _ e
      obtain ⟨m, hm, _⟩ := J4.loc
      refine st_mono (goes_loop (env := envOfC "Code.words" (defScope s_Code_words) sC.heap.objs.size T.Code_words.f cdv) (it := s3.heap.objs.size) (l := p) (vs := vs) itL pit pL (fun s Q hQ => hres s Q ?_) ?_ rfl rfl (by decide) rfl rfl rfl vs.length 0 _ (Nat.zero_add _) ⟨hit, hlst, m, hm⟩) fun e s' he => ?_
      · exact st_end (.ok (.ret .none)) hQ
      · rw [over_handled, over_func]
        exact hr.hd
      · exact ⟨p, s3.heap.objs.size, xs, vs, _, H3, ⟨J4.os, J4.bare, J4.base, J4.hok, hpn, hex, hpl, hal, rvs, hit, hlst, ⟨m, hm⟩, J3.sz, itn, Ln, gan, gao, itL, gai, gaL⟩, he⟩
end
end WK

set_option Elab.async false
set_option linter.all false
set_option maxRecDepth 100000
set_option maxHeartbeats 4000000
/-! for word in a.words(): the rule. -/
namespace WK
open PySem PySem.Spec PyProof.Rows L2 WM GenW
open Evl (Ex ex_l ex_t ex_rd sq_of st_of sz_of sz_lt fresh_back rLenS rListS)
def tForG (K : PySem.W.Frag) (C : Addr) (ta : TE) (g : TG) (tb : TS) : TS := fun D σ H => ta σ H fun v H1 => ∃ a c ws, v = .ref a ∧ CodeAt K C c H1 a ∧ CodeOk c ∧ WordsOk c ws ∧
  ∀ p xs H2, H1 p = none → Ex H1 H2 → H2 p = some (.lst xs) → DpAll K H2 xs (wds ws) → ∃ Pv : Nat → L2.St → Hp → Prop, Pv 0 σ H2 ∧ (∀ k σ' H', Pv k σ' H' → Ex H2 H') ∧
    (∀ k x σ' H', xs[k]? = some x → Pv k σ' H' → g x σ' H' fun σ2 H3 => tb { D with nx := Pv (k + 1), ct := Pv (k + 1), bk := D.nx } σ2 H3) ∧ ∀ σ' H', Pv xs.length σ' H' → D.nx σ' H'
/-- between two turns -/
structure Mid (X : Cx) (pins : List (Addr × Obj)) (env : Env) (ga : Addr) (go : Obj) (g : Nat) (it l : Addr) (vs : List Value) (Pv : Nat → L2.St → Hp → Prop) (k : Nat) (s : Shared) (σ : L2.St) (H : Hp) : Prop where
  inv : Inv X pins σ H s
  pv : Pv k σ H
  low : GLow env it l vs k s.heap
  gao : s.heap.get? ga = some go
  fit : FpOk X pins H it
  fL : FpOk X pins H env.locals
  fga : FpOk X pins H ga
  gen : ∃ kk live c pp fs cl, s.gens[g]? = some (.suspended kk live c pp fs cl) ∧ ∀ s'', GLow env it l vs k s''.heap → StepTo (model X.prog X.w) X.A.in1 c (kk (.send .none)) fs s'' (PostG (model X.prog X.w) X.A.in1 env it l vs (vs.length - k) k s'')
theorem fp_more {X : Cx} {pins : List (Addr × Obj)} {H H' : Hp} {b : Addr} (f : FpOk X pins H b) (h : H' b = none) : FpOk X pins H' b := ⟨h, f.2⟩
theorem low_gets {it L : Addr} {s s' : Shared} (h : Low it L s s') {b : Addr} {o : Obj} (h1 : b ≠ it) (h2 : b ≠ L) (e : s.heap.get? b = some o) : s'.heap.get? b = some o := by
  obtain ⟨x, y, tk, rfl, k1, k2⟩ := h
  exact k2 b o h2 (k1 b o h1 e)
section
variable {X : Cx} {pins : List (Addr × Obj)} {tg : Expr} {body : List Stmt} {g : TG} {tb : TS} {D : Ends}
theorem vals_refs : ∀ {xs : List V} {us : List Value}, Vals xs us → (∀ x ∈ xs, ∃ a, x = V.ref a) → ∀ {ws : List Value}, Vals xs ws → us = ws
  | _, _, .nil, _, _, .nil => rfl
  | x :: xs, _, .cons r t, h, _, .cons r2 t2 => by
    obtain ⟨a, e⟩ := h x List.mem_cons_self
    subst e
    cases r
    cases r2
    rw [vals_refs t (fun y hy => h y (List.mem_cons_of_mem _ hy)) t2]
/-- a turn, once the word is there -/
theorem forG_after {env : Env} {ga : Addr} {go : Obj} {gn : Nat} {it l : Addr} {vs : List Value} {xs : List V} {Pv : Nat → L2.St → Hp → Prop} {k : Nat} {s : Shared} {σ : L2.St} {H H2 : Hp} {v : Value} {kk : Resume → Sem PySem.Fin} {live : List Value} {c : Code} {pp : Pos} {fs : List Frame} {cl : Bool} {Er : Value → Shared → Prop} {Fin : Flow → Shared → Prop}
    (hxe : ∀ e s, ¬ X.xe e s) (hg : PG X tg g) (hb : PSs X body tb) (I : Inv X pins σ H s) (hpv : Pv k σ H) (hv : vs[k]? = some v) (low : GLow env it l vs (k + 1) s.heap) (gao : s.heap.get? ga = some go)
    (hgc : go.cls = .type "generator") (hgd : ∃ fv, go.data = .fields fv) (fit : FpOk X pins H it) (fL : FpOk X pins H env.locals) (fga : FpOk X pins H ga)
    (hgen : s.gens[gn]? = some (.suspended kk live c pp fs cl)) (hgo : ∀ s'', GLow env it l vs (k + 1) s''.heap → StepTo (model X.prog X.w) X.A.in1 c (kk (.send .none)) fs s'' (PostG (model X.prog X.w) X.A.in1 env it l vs (vs.length - (k + 1)) (k + 1) s''))
    (rv : Vals xs vs) (hl : H2 l = some (.lst xs)) (hex : ∀ k σ' H', Pv k σ' H' → Ex H2 H') (hstep : ∀ k x σ' H', xs[k]? = some x → Pv k σ' H' → g x σ' H' fun σ2 H3 => tb { D with nx := Pv (k + 1), ct := Pv (k + 1), bk := D.nx } σ2 H3)
    (hrefs : ∀ x ∈ xs, ∃ a, x = V.ref a)
    (hN : ∀ s' σ' H', Mid X pins env ga go gn it l vs Pv (k + 1) s' σ' H' → Fin .next s' ∧ Fin .cont s') (hB : ∀ s' σ' H', Inv X pins σ' H' s' → D.nx σ' H' → Fin .brk s') (hR : ∀ s' σ' H' x u, Inv X pins σ' H' s' → RelV x u → D.rt x H' → Fin (.ret u) s') :
    wpAny (model X.prog X.w) X.A (letOwnedTupleGo tg (.ref ga) v) (fun _ s1 => wpAny (model X.prog X.w) X.A (assign tg X.env v) (fun _ s2 => wpAny (model X.prog X.w) X.A (execs body X.env) (fun f s3 => Fin f s3) Er s2) Er s1) Er s := by
  obtain ⟨fv, hgd⟩ := hgd
  refine go_of gao hgc hgd (by decide) ?_
  have hlen := rv.length
  obtain ⟨x, hx⟩ : ∃ x, xs[k]? = some x := by
    have hk : k < vs.length := (List.getElem?_eq_some_iff.mp hv).1
    exact ⟨xs[k]'(by omega), List.getElem?_eq_getElem _⟩
  obtain ⟨u, hu, ru⟩ := rv.get hx
  rw [hv] at hu
  cases hu
  have hpins : ∀ b ∈ [it, env.locals, ga], FpOk X pins H b := fun b hb => by
    rcases List.mem_cons.mp hb with rfl | hb
    · exact fit
    · rcases List.mem_cons.mp hb with rfl | hb
      · exact fL
      · rw [List.mem_singleton.mp hb]
        exact fga
  have hobj : ∀ b ∈ [it, env.locals, ga], ∃ o, s.heap.get? b = some o ∧ ∀ v, o.data ≠ .cell v := fun b hb => by
    rcases List.mem_cons.mp hb with rfl | hb
    · obtain ⟨o, e, _, d⟩ := low.iter
      exact ⟨o, e, fun v z => by rw [d] at z; cases z⟩
    · rcases List.mem_cons.mp hb with rfl | hb
      · obtain ⟨m, o, es, ep, e, d, _⟩ := low.ns
        exact ⟨o, e, fun v z => by rw [d] at z; cases z⟩
      · rw [List.mem_singleton.mp hb]
        exact ⟨go, gao, fun v z => by rw [hgd] at z; cases z⟩
  have Ip := I.pinned hpins hobj
  have nb : isNumb (numb (.suspended kk live c pp fs cl)) := ⟨_, _, _, _, _, rfl⟩
  refine wpAny_mono (wpAny_framed hgen nb (wpAny_mono (hg.run _ (allNumb s) σ H x v _ (inv_gens Ip (bare_numb I.bare)) ru (hstep k x σ H hx hpv)) (fun _ _ h => h) fun e s' h => hxe e s' h)) (fun _ s1 h1 => ?_) fun _ _ h => h
  obtain ⟨G1, ⟨σ1, H1, J1, q1⟩, hgen1, hb1⟩ := h1
  have I1 : Inv X (pins ++ pinsAt [it, env.locals, ga] s.heap) σ1 H1 s1 := inv_gens J1 (hb1 J1.bare)
  refine wpAny_mono (wpAny_framed hgen1 nb (wpAny_mono (hb.run _ (allNumb s1) σ1 H1 _ (inv_gens I1 (bare_numb I1.bare)) q1) (fun _ _ h => h) fun e s' h => hxe e s' h)) (fun f s2 h2 => ?_) fun _ _ h => h
  obtain ⟨G2, hf, hgen2, hb2⟩ := h2
  have mid : ∀ {σ2 : L2.St} {H3 : Hp}, Inv X (pins ++ pinsAt [it, env.locals, ga] s.heap) σ2 H3 { s2 with gens := G2 } → Pv (k + 1) σ2 H3 → Mid X pins env ga go gn it l vs Pv (k + 1) s2 σ2 H3 := fun {σ2 H3} J2 p2 => by
    have I2 : Inv X (pins ++ pinsAt [it, env.locals, ga] s.heap) σ2 H3 s2 := inv_gens J2 (hb2 J2.bare)
    have pinned : ∀ b ∈ [it, env.locals, ga], ∀ o, s.heap.get? b = some o → s2.heap.get? b = some o ∧ H3 b = none := fun b hb o e => by
      have q := I2.pin (b, o) (List.mem_append_right _ (List.mem_append_right _ (mem_pinsAt hb e)))
      exact ⟨q.1, q.2.1⟩
    have none3 : ∀ b ∈ [it, env.locals, ga], H3 b = none := fun b hb => by
      obtain ⟨o, e, _⟩ := hobj b hb
      exact (pinned b hb o e).2
    have hl3 : H3 l = some (.lst xs) := hex _ _ _ p2 _ _ hl
    obtain ⟨its, rv3, pl3, _⟩ := I2.list (sq_of hl3)
    have ei : its = vs := vals_refs rv3 hrefs rv
    subst ei
    have i1 : it ∈ [it, env.locals, ga] := List.mem_cons_self
    have i2 : env.locals ∈ [it, env.locals, ga] := List.mem_cons_of_mem _ List.mem_cons_self
    have i3 : ga ∈ [it, env.locals, ga] := List.mem_cons_of_mem _ (List.mem_cons_of_mem _ List.mem_cons_self)
    obtain ⟨m, hm⟩ := low.ns
    exact ⟨I2.unpinned, p2, ⟨low.iter.at fun o e => (pinned it i1 o e).1, pl3.isList, m, hm.at' fun o e => (pinned _ i2 o e).1⟩, (pinned ga i3 go gao).1, fp_more fit (none3 it i1), fp_more fL (none3 _ i2), fp_more fga (none3 ga i3), _, _, _, _, _, _, hgen2, hgo⟩
  cases f with
  | next =>
    obtain ⟨σ2, H3, J2, p2⟩ := hf
    exact (hN _ _ _ (mid J2 p2)).1
  | cont =>
    obtain ⟨σ2, H3, J2, p2⟩ := hf
    exact (hN _ _ _ (mid J2 p2)).2
  | brk =>
    obtain ⟨σ2, H3, J2, p2⟩ := hf
    exact hB _ _ _ (inv_gens J2 (hb2 J2.bare) : Inv X _ σ2 H3 s2).unpinned p2
  | ret u =>
    obtain ⟨x2, σ2, H3, J2, r2, p2⟩ := hf
    exact hR _ _ _ _ _ (inv_gens J2 (hb2 J2.bare) : Inv X _ σ2 H3 s2).unpinned r2 p2
end
end WK

set_option Elab.async false
set_option linter.all false
set_option maxRecDepth 100000
set_option maxHeartbeats 4000000
/-! for word in a.words(): the rule. -/
namespace WK
open PySem PySem.Spec PyProof.Rows L2 WM GenW
open Evl (Ex ex_l ex_t ex_rd sq_of st_of sz_of sz_lt fresh_back rLenS rListS)
section
variable {X : Cx} {pins : List (Addr × Obj)} {tg : Expr} {body : List Stmt} {g : TG} {tb : TS} {D : Ends}
theorem forG_step {env : Env} {ga : Addr} {go : Obj} {gn : Nat} {it l : Addr} {vs : List Value} {k r : Nat} {s4 s1 : Shared} {σ : L2.St} {H : Hp} {e : End}
    (hk : k + r = vs.length) (I4 : Inv X pins σ H s4) (gao : s4.heap.get? ga = some go) (fit : FpOk X pins H it) (fL : FpOk X pins H env.locals) (gai : ga ≠ it) (gaL : ga ≠ env.locals)
    (hpg : PostG (model X.prog X.w) X.A.in1 env it l vs r k s4 e s1) (QN : Shared → Prop) (QS : Value → Shared → Prop)
    (hQN : ∀ s', k = vs.length → Inv X pins σ H s' → QN s')
    (hQS : ∀ v s' kk live c pp fs cl, Inv X pins σ H s' → vs[k]? = some v → GLow env it l vs (k + 1) s'.heap → s'.heap.get? ga = some go → s'.gens[gn]? = some (.suspended kk live c pp fs cl) →
      (∀ s'', GLow env it l vs (k + 1) s''.heap → StepTo (model X.prog X.w) X.A.in1 c (kk (.send .none)) fs s'' (PostG (model X.prog X.w) X.A.in1 env it l vs (vs.length - (k + 1)) (k + 1) s'')) → QS v s') :
    e.quiet = true ∧ ((e = .ret (.ok (.ret .none)) ∧ ∀ h' : Heap, (∀ b o, s1.heap.get? b = some o → h'.get? b = some o) → QN { s1.setGen gn .finished with heap := h' }) ∨ ∃ v live kk c p fs, e = .susp v false live kk c p fs ∧ (gn < s1.gens.size → QS v (s1.setGen gn e.genState))) := by
  cases r with
  | zero =>
    obtain ⟨rfl, lw⟩ := hpg
    refine ⟨rfl, .inl ⟨rfl, fun h' hk' => ?_⟩⟩
    have J := low_inv I4 fit fL lw
    have J2 : Inv X pins σ H (s1.setGen gn .finished) := inv_gens J (allBare_setGen J.bare rfl)
    exact hQN _ (by omega) (J2.kept (t' := (s1.setGen gn .finished).toks) hk')
  | succ r =>
    obtain ⟨v, live, kk, c, p, fs, rfl, hq, hv, low, lw, hgo⟩ := hpg
    refine ⟨hq, .inr ⟨v, live, kk, c, p, fs, rfl, fun hsz => ?_⟩⟩
    have J := low_inv I4 fit fL lw
    have J2 : Inv X pins σ H (s1.setGen gn (End.susp v false live kk c p fs).genState) := inv_gens J (allBare_setGen J.bare (End.bare_of_quiet hq))
    have er : vs.length - (k + 1) = r := by omega
    refine hQS v _ kk live c p fs _ J2 hv low (low_gets lw gai gaL gao) (setGen_at hsz) ?_
    rw [er]
    exact hgo
theorem forG_pull {env : Env} {ga : Addr} {go : Obj} {gn : Nat} {gs : GenState} {s : Shared} {Post : End → Shared → Prop} {Q : Option Value → Shared → Prop} {E : Value → Shared → Prop} (hr : Room 1 X.A) (hl : s.heap.NoLimit) (hg : s.heap.IsGen ga gn) (hgs : s.gens[gn]? = some gs)
    (hgo : Goes3 (model X.prog X.w) X.A.in1 gn s Post gs)
    (hq : ∀ e s1, Post e s1 → ∃ k r it l vs s4 σ H, PostG (model X.prog X.w) X.A.in1 env it l vs r k s4 e s1 ∧ k + r = vs.length ∧ Inv X pins σ H s4 ∧ s4.heap.get? ga = some go ∧ FpOk X pins H it ∧ FpOk X pins H env.locals ∧ ga ≠ it ∧ ga ≠ env.locals ∧
      (∀ s', k = vs.length → Inv X pins σ H s' → Q none s') ∧
      (∀ v s' kk live c pp fs cl, Inv X pins σ H s' → vs[k]? = some v → GLow env it l vs (k + 1) s'.heap → s'.heap.get? ga = some go → s'.gens[gn]? = some (.suspended kk live c pp fs cl) →
        (∀ s'', GLow env it l vs (k + 1) s''.heap → StepTo (model X.prog X.w) X.A.in1 c (kk (.send .none)) fs s'' (PostG (model X.prog X.w) X.A.in1 env it l vs (vs.length - (k + 1)) (k + 1) s'')) → Q (some v) s')) :
    wpAny (model X.prog X.w) X.A (pyNext (.ref ga)) Q E s := by
  have hgl : gn < s.gens.size := (Array.getElem?_eq_some_iff.mp hgs).1
  refine wpAny_gsz (n := gn + 1) hgl (next2 hr.hd hl hr.depth hg hgs hgo fun e s1 hp => ?_)
  obtain ⟨k, r, it, l, vs, s4, σ, H, pg, hk, I4, gao, fit, fL, gai, gaL, qn, qs⟩ := hq e s1 hp
  obtain ⟨h1, h2⟩ := forG_step hk I4 gao fit fL gai gaL pg (Q none) (fun v s => Q (some v) s) qn qs
  refine ⟨h1, ?_⟩
  rcases h2 with ⟨a1, a2⟩ | ⟨v, live, kk, cc, p0, fs, a1, a2⟩
  · exact .inl ⟨a1, fun h' hk' _ => a2 h' hk'⟩
  · refine .inr ⟨v, live, kk, cc, p0, fs, a1, fun hz => a2 ?_⟩
    rw [setGen_size] at hz
    exact hz
def LoopI (X : Cx) (pins : List (Addr × Obj)) (D : Ends) (g : TG) (tb : TS) (env : Env) (ga : Addr) (go : Obj) (gn : Nat) (N : Nat) (sG : Shared) (n : Nat) (s' : Shared) : Prop :=
  (n = N + 1 ∧ s' = sG) ∨ ∃ k σ' H' p it xs vs H2 Pv, k + n = N ∧ vs.length = N ∧ Vals xs vs ∧ (∀ x ∈ xs, ∃ a, x = V.ref a) ∧ H2 p = some (.lst xs) ∧ (∀ k σ' H', Pv k σ' H' → Ex H2 H') ∧
    (∀ k x σ' H', xs[k]? = some x → Pv k σ' H' → g x σ' H' fun σ2 H3 => tb { D with nx := Pv (k + 1), ct := Pv (k + 1), bk := D.nx } σ2 H3) ∧ (∀ σ' H', Pv xs.length σ' H' → D.nx σ' H') ∧ ga ≠ it ∧ ga ≠ env.locals ∧
    Mid X pins env ga go gn it p vs Pv k s' σ' H'
theorem ps_forG (T : Txt X.K X.mg) {o : Expr} {apos cpos pos : Pos} {ta : TE} {pl : Sem Bool} (hxe : ∀ e s, ¬ X.xe e s) (hr : Room 4 X.A) (ho : PE X o ta) (hg : PG X tg g) (hb : PSs X body tb)
    (ht : eval (.Call (.Attribute o "words" apos) [] [] cpos) X.env = (do
      let ov ← eval o X.env
      standAt apos.atName
      let (f, first) ← holding [ov] (getMethod ov "words" pl)
      callWith cpos f first (backTo cpos (starEach [] X.env)) (backToKw cpos (keywordEach [] X.env))) := by rfl)
    (hs : ∀ x, foldedSetIterable (.Call (.Attribute o "words" apos) [] [] cpos) X.env x = pure x := by intro _; rfl) : PS X (.For tg (.Call (.Attribute o "words" apos) [] [] cpos) body [] pos) (tForG X.K T.cCode ta g tb) := by
  refine ⟨fun pins s σ H D I h => ?_⟩
  refine wpAny_For ?_ hs
  refine PySem.W.methodCall_KW (pl := pl) (thn (ho.run pins s σ H _ I h) fun u s1 ⟨x, H1, I1, rx, a, c, ws, ex, ca, ok, wk, hnext⟩ => ?_) ht
  subst ex
  obtain rfl : u = Value.ref a := rx
  obtain ⟨dx, fs, ea, _, l⟩ := ca.ins
  refine getmeth_ok I1 ea T.cl_Code T.mt_words l ?_
  refine PySem.W.callWith_K0 (first := [.ref a]) I1.kIn T.mt_words.kp ?_
  have FF := T.Code_words.F
  have BB := T.Code_words.b
  obtain ⟨oc, od, kV, doc, pm, an, cdv, ct, osl, efd, lk, hcd⟩ := FF.ex
  rw [efd] at BB lk
  have hkind : ∀ y ∈ ([("self" : Str)].zip [Value.ref a]), (defScope s_Code_words).names.lookup y.1 = some .local ∨ ((defScope s_Code_words).names.lookup y.1 = some .cell ∧ ((cellsFrom (s1.heap.objs.size + 1) (defScope s_Code_words).names []).lookup y.1).isSome = true) := fun ⟨n, v⟩ hy => by
    rcases sc_Code_words.par n (List.of_mem_zip hy).1 with q | q
    · exact .inl q
    · exact .inr ⟨q, PySem.W.cellsFrom_some _ _ _ (.inl q)⟩
  refine wpAny_call (codeAny_call_generator hr.depth (I1.kIn _ _ lk) rfl sc_Code_words.co sc_Code_words.gen rfl (PySem.W.codeRec_of I1.kIn hcd) (BB s1 [.ref a] I1.kIn rfl _ _ _ _ ?_))
  refine wpAny_newFunctionEnv_cells sc_Code_words.kind hkind fun env he sE x => ?_
  subst he
  refine ⟨I1.nolimit.keeps x.toInCall.keep, ?_⟩
  have main : ∀ (go : Obj) (nm qn : Value) (tk2 : Nat), go.cls = .type "generator" → go.data = .fields #[.int sE.gens.size 0, nm, qn] → go.slots = #[] → (∀ h : Heap, (h.push go).get? h.objs.size = some go) →
      wpAny (model X.prog X.w) X.A (pyIter (.ref sE.heap.objs.size)) (fun itv s2 => codeAny (model X.prog X.w) X.A (.forLoop tg itv body [] X.env) (fun r s' => match r with | .ok f => SP X pins D f s' | .error e => cameBackBy (model X.prog X.w) X.A X.env X.xe e s') s2) X.xe
        { sE with gens := sE.gens.push (.fresh (.func (defBody s_Code_words) (envOfC "Code.words" (defScope s_Code_words) s1.heap.objs.size T.Code_words.f cdv))), toks := tk2, heap := sE.heap.push go } := by
    intro go nm qn tk2 hgc hgd hgs hgp
    have hgen : ∀ h : Heap, h.get? sE.heap.objs.size = some go → h.IsGen sE.heap.objs.size sE.gens.size := fun h e => ⟨go, nm, qn, e, hgc, hgd, hgs⟩
    have hpushed : (sE.heap.push go).get? sE.heap.objs.size = some go := hgp _
    refine wpAny_pyIter_gen (hgen _ hpushed) ?_
    obtain ⟨h1, tk, es1, hk1⟩ := x.done
    have osE : sE.os = s1.os := by rw [es1]
    have genE : sE.gens = s1.gens := by rw [es1]
    have kpE : ∀ b o, s1.heap.get? b = some o → sE.heap.get? b = some o := x.toInCall.keep
    have kpG : ∀ b o, s1.heap.get? b = some o → (sE.heap.push go).get? b = some o := fun b o e => Heap.get?_push_of_some _ (kpE b o e)
    have ltE : s1.heap.objs.size < sE.heap.objs.size := x.toInCall.ns.lt
    have bareG : AllBare (sE.gens.push (.fresh (.func (defBody s_Code_words) (envOfC "Code.words" (defScope s_Code_words) s1.heap.objs.size T.Code_words.f cdv)))) := AllBare.push (by rw [genE]; exact I1.bare) rfl
    generalize hsG : ({ sE with gens := sE.gens.push (.fresh (.func (defBody s_Code_words) (envOfC "Code.words" (defScope s_Code_words) s1.heap.objs.size T.Code_words.f cdv))), toks := tk2, heap := sE.heap.push go } : Shared) = sG
    have eheap : sG.heap = sE.heap.push go := by rw [← hsG]
    have egens : sG.gens = sE.gens.push (.fresh (.func (defBody s_Code_words) (envOfC "Code.words" (defScope s_Code_words) s1.heap.objs.size T.Code_words.f cdv))) := by rw [← hsG]
    have eos : sG.os = sE.os := by rw [← hsG]
    have IG : Inv X pins σ H1 sG := I1.call' (ch := []) (eos.trans osE) (Un.kept (by rw [eheap]; exact kpG)) (I1.hok.kept (by rw [eheap]; exact kpG)) (by rw [egens]; exact bareG) fun b z => by simp at z
    refine codeAny_forLoop_any (LoopI X pins D g tb (envOfC "Code.words" (defScope s_Code_words) s1.heap.objs.size T.Code_words.f cdv) sE.heap.objs.size go sE.gens.size ws.length sG) ?_ (ws.length + 1) (.inl ⟨rfl, rfl⟩)
    rintro n s' (⟨rfl, rfl⟩ | ⟨k, σ', H', p, it, xs, vs, H2, Pv, hkn, hvl, rv, hrefs, hpl, hex, hstep, hdone, gai, gaL, M⟩)
    · have hgs0 : s'.gens[sE.gens.size]? = some (.fresh (.func (defBody s_Code_words) (envOfC "Code.words" (defScope s_Code_words) s1.heap.objs.size T.Code_words.f cdv))) := by
        rw [egens]
        exact Array.getElem?_push_size ..
      refine forG_pull (env := envOfC "Code.words" (defScope s_Code_words) s1.heap.objs.size T.Code_words.f cdv) (go := go) (pins := pins) (Post := Post1 X.prog X.w X.K X.A.in1 X.stack (envOfC "Code.words" (defScope s_Code_words) s1.heap.objs.size T.Code_words.f cdv) s1 H1 ws sE.heap.objs.size go) (hr.mono (by decide)) IG.nolimit (hgen _ (by rw [eheap]; exact hpushed)) hgs0 ?_ fun e s2 hp => ?_
      · have e0 := I1.env0
        exact first_step T (A := X.A.in1) (sC := s1) (sE := sE) (sR := s'.setGen sE.gens.size .running) hr.in1 ⟨e0.frames, e0.mod, e0.bs, e0.bsz, e0.funs, e0.frf, e0.hok, e0.bare⟩ x (fun b o e => by
          show s'.heap.get? b = some o
          rw [eheap]
          exact Heap.get?_push_of_some _ e) eos (allBare_setGen (by rw [egens]; exact bareG) rfl) (Nat.le_refl _) (by
          show s'.heap.get? _ = some go
          rw [eheap]
          exact hpushed) (fun v z => by rw [hgd] at z; cases z) ca ok wk
      · obtain ⟨p, it, xs, vs, s4, H3, R, pg⟩ := hp
        have I4 : Inv X pins σ H3 s4 := I1.call' (ch := []) R.os R.un R.hok R.bare fun b z => by simp at z
        have hlx := dpAll_len R.al
        rw [List.length_map] at hlx
        have hlv := R.vals.length
        have hvl : vs.length = ws.length := by omega
        have fit : FpOk X pins H3 it := I1.fpOk R.itz R.itn
        have fL : FpOk X pins H3 s1.heap.objs.size := I1.fpOk (Nat.le_refl _) R.Ln
        have fga : FpOk X pins H3 sE.heap.objs.size := I1.fpOk (Nat.le_of_lt ltE) R.gan
        have hrefs : ∀ x ∈ xs, ∃ a, x = V.ref a := fun x hx => by
          obtain ⟨w, _, hw⟩ := dpAll_mem R.al hx
          obtain ⟨b, rfl, _⟩ := dp_wd hw
          exact ⟨b, rfl⟩
        obtain ⟨Pv, h0, hex, hstep, hdone⟩ := hnext p xs H3 R.pn R.ex R.pl R.al
        refine ⟨0, vs.length, it, p, vs, s4, σ, H3, pg, Nat.zero_add _, I4, R.gao, fit, fL, R.gai, R.gaL, fun s3 hk0 J => ?_, fun v s3 kk live cc pp fs cl J hv low gao hgn hgo => ?_⟩
        · exact wpAny_execs_nil ⟨σ, H3, J, hdone _ _ (by rw [hlv, ← hk0]; exact h0)⟩
        · refine forG_after (k := 0) (H2 := H3) (Pv := Pv) (D := D) hxe hg hb J h0 hv low gao hgc ⟨_, hgd⟩ fit fL fga hgn hgo R.vals R.pl hex hstep hrefs (fun s5 σ5 H5 M => ?_) (fun s5 σ5 H5 J5 q => ⟨σ5, H5, J5, q⟩) (fun s5 σ5 H5 x u J5 r q => ⟨x, σ5, H5, J5, r, q⟩)
          have hvp : 0 < vs.length := (List.getElem?_eq_some_iff.mp hv).1
          have nxt : ∃ m, m < ws.length + 1 ∧ LoopI X pins D g tb (envOfC "Code.words" (defScope s_Code_words) s1.heap.objs.size T.Code_words.f cdv) sE.heap.objs.size go sE.gens.size ws.length s' m s5 := ⟨ws.length - 1, by omega, .inr ⟨1, σ5, H5, p, it, xs, vs, H3, Pv, by omega, hvl, R.vals, hrefs, R.pl, hex, hstep, hdone, R.gai, R.gaL, M⟩⟩
          exact ⟨nxt, nxt⟩
    · obtain ⟨kk, live, cc, pp, fs, cl, hgs0, hgo⟩ := M.gen
      have hlv := rv.length
      have I4 : Inv X pins σ' H' (s'.setGen sE.gens.size .running) := inv_gens M.inv (allBare_setGen M.inv.bare rfl)
      refine forG_pull (env := envOfC "Code.words" (defScope s_Code_words) s1.heap.objs.size T.Code_words.f cdv) (go := go) (pins := pins) (Post := PostG (model X.prog X.w) X.A.in1 (envOfC "Code.words" (defScope s_Code_words) s1.heap.objs.size T.Code_words.f cdv) it p vs (vs.length - k) k (s'.setGen sE.gens.size .running)) (hr.mono (by decide)) M.inv.nolimit (hgen _ M.gao) hgs0 (hgo (s'.setGen sE.gens.size .running) M.low) fun e s2 hp => ?_
      refine ⟨k, vs.length - k, it, p, vs, _, σ', H', hp, by omega, I4, M.gao, M.fit, M.fL, gai, gaL, fun s3 hk0 J => ?_, fun v s3 kk live cc pp fs cl J hv low gao hgn hgo => ?_⟩
      · exact wpAny_execs_nil ⟨σ', H', J, hdone _ _ (by rw [hlv, ← hk0]; exact M.pv)⟩
      · refine forG_after (k := k) (H2 := H2) (Pv := Pv) (D := D) hxe hg hb J M.pv hv low gao hgc ⟨_, hgd⟩ M.fit M.fL M.fga hgn hgo rv hpl hex hstep hrefs (fun s5 σ5 H5 M => ?_) (fun s5 σ5 H5 J5 q => ⟨σ5, H5, J5, q⟩) (fun s5 σ5 H5 x u J5 r q => ⟨x, σ5, H5, J5, r, q⟩)
        have hvp : k < vs.length := (List.getElem?_eq_some_iff.mp hv).1
        have nxt : ∃ m, m < n ∧ LoopI X pins D g tb (envOfC "Code.words" (defScope s_Code_words) s1.heap.objs.size T.Code_words.f cdv) sE.heap.objs.size go sE.gens.size ws.length sG m s5 := ⟨n - 1, by omega, .inr ⟨k + 1, σ5, H5, p, it, xs, vs, H2, Pv, by omega, hvl, rv, hrefs, hpl, hex, hstep, hdone, gai, gaL, M⟩⟩
        exact ⟨nxt, nxt⟩
  exact main _ _ _ _ rfl rfl rfl fun h => Heap.get?_push_size _ rfl
end
end WK

set_option Elab.async false
set_option linter.all false
set_option maxRecDepth 100000
set_option maxHeartbeats 4000000
/-! check_images, changed_weight, extension, map_paper. -/
namespace WK
open PySem PySem.Spec PyProof.Rows L2 WM
open Evl (Ex ex_l ex_t ex_rd sq_of st_of sz_of sz_lt fresh_back rLenS rListS)
def coordM (c : CodeM) (w : W) : W := solveM c.p c.rows.length (colsM c.rows c.n) w
def otherM (c : CodeM) (imgs : List W) (w : W) : W := combM c.p c.n imgs (coordM c w)
def chgB (c : CodeM) (imgs : List W) (w : W) : Bool := !decide (weightM w = weightM (otherM c imgs w))
def chgM (c : CodeM) (imgs : List W) (ws : List W) : Option W := ws.find? (chgB c imgs)
structure WordsGood (c : CodeM) (ws : List W) : Prop where
  ok : WordsOk c ws
  wd : ∀ w ∈ ws, WOk c.p c.n w
  sol : ∀ w ∈ ws, solvable c.p c.rows.length (colsM c.rows c.n) w
  crd : ∀ w ∈ ws, WOk c.p c.rows.length (coordM c w)
structure ImgsOk (c : CodeM) (imgs : List W) : Prop where
  len : imgs.length = c.rows.length
  wd : ∀ r ∈ imgs, WOk c.p c.n r
section
variable {K : PySem.W.Frag} {σ : L2.St} {H H' : Hp} {ta : TE} {P : VP}
def isSomeD : PyData → Bool
  | .none => false
  | _ => true
/-- x is not None, x data -/
theorem eb_notN {d : PyData} (ha : EvD K ta σ H d) : EvB (tTest (tOp (fun x y H Q => y = .non ∧ Q (.bl (!decide (x = .non))) H) ta (tC .non))) σ H (isSomeD d) := fun H1 e Q q =>
  ha H1 e _ fun v H2 e2 p => by
    refine ⟨rfl, _, rfl, ?_⟩
    have hv : (!decide (v = .non)) = isSomeD d := by
      cases p <;> rfl
    rw [hv]
    exact q H2 e2
def optD : Option W → PyData
  | none => .none
  | some w => wd w
end
section
variable {P : Program} {w : World} {K : PySem.W.Frag} {mg : Str → Option Value} {base : Heap}
def sp_check_images (K : PySem.W.Frag) (C : Addr) : Sp := spOf (fun x : CodeM × List W => [CP K C x.1, DP K (.tuple (wds x.2)), DP K (.int (x.1.n : Int))]) (fun x => ImgsOk x.1 x.2) (fun _ => XP .non)
theorem ok_check_images (T : Txt K mg) : FnOk P w K mg base CX0 3 T.check_images.f T.check_images.fd ["a", "images", "n"] (sp_check_images K T.cCode) := by
  refine T.check_images.F.ok sc_check_images (fun vs H Q E h => spOf_len (n := 3) (fun _ => rfl) h) (fun cdv A outer s H vs Q E hr h => ?_)
  obtain ⟨⟨c, imgs⟩, ps, ok, k⟩ := h
  dsimp only at ps ok k
  obtain ⟨va, vi, vn, rfl, ⟨a, rfl, ca⟩, pi, pn⟩ := allP3 ps
  refine ⟨_, (pss_cons (ps_if (PW.pt (pw_or (pt_not (pt_val (pe_callB (kc_isi K) (by rfl) T.z_isinstance (by decide +kernel) (pa_cons (pv 1) (pa_cons (pe_bltn (v := .ty "tuple") rfl T.z_tuple (by decide +kernel) rfl) pa_nil))))) (pw_or1 (pt_cmpR op_ne (pe_callB (kc_len K) (by rfl) T.z_len PySem.boot_len (pa_cons (pv 1) pa_nil)) (kpe_fld K (pv 0)) (nomark _))))) (pss_one ps_never) pss_nil)
      (pss_one (ps_for PassesOwn.never rfl (kpi_tup K (pv 1)) (pg_name (i := 3) sc_check_images.nd rfl (Or.inl rfl)) (pss_one (ps_if (pt_not (pt_val (pe_call (ok_is_word T) (hr.mono (by decide)) (by rfl) T.is_word.g T.is_word.F.kp T.is_word.b .nil pass0 (pa_cons (pv 3) (pa_cons (kpe_fld K (pv 0)) (pa_cons (pv 2) pa_nil)))))) (pss_one ps_never) pss_nil))))), ?_⟩
  have isi : EvB _ (start N_check_images [.ref a, vi, vn]) H _ := eb_not (eb_B (ed_isi (kit_tuple (d := .tuple (wds imgs)) rfl) (ed_var (K := K) (n := 1) rfl pi)))
  refine q_when (b := false) (EvB.is (eb_or isi fun _ => eb_test (K := K) (ed_neI (ed_lenT (ed_var rfl pi)) (cf_k T (ex_var rfl) ca))) ?_) (fun hb => by cases hb) (fun _ H1 e1 => ?_)
  · rw [List.length_map, ok.len, decide_eq_true rfl] <;> rfl
  obtain ⟨b, xs, rfl, sT, al⟩ := dp_tup pi
  have hlx := dpAll_len al
  rw [List.length_map] at hlx
  refine s_forTn (a := b) (xs := xs) (ex_var rfl) (ex_t e1 sT) (fun i σ' H' => ∃ z, σ' = [some (.ref a), some (.ref b), some vn, z] ∧ Ex H1 H') (fun H2 e2 => ⟨_, rfl, e2⟩) (fun i σ' H' ⟨_, _, e⟩ => e) (fun i x σ' H' hi h => ?_) (fun σ' H' h => ?_)
  · obtain ⟨z, rfl, e⟩ := h
    have hi' : i < imgs.length := by
      have := (List.getElem?_eq_some_iff.mp hi).1
      omega
    have hri : imgs[i]? = some imgs[i] := List.getElem?_eq_getElem hi'
    have px : Dp K H x (wd imgs[i]) := by
      obtain ⟨v, a1, a2⟩ := dpAll_at al (i := i) (d := wd imgs[i]) (by rw [List.getElem?_map, hri] <;> rfl)
      rw [hi] at a1
      cases a1
      exact a2
    have E := e1.trans e
    exact s_when (b := false) (EvB.is (eb_not (eb_B (K := K) (ev_call (ι := PyData × Int × Nat) (ar := fun x => [DP K x.1, DP K (.int x.2.1), DP K (.int (x.2.2 : Int))]) (pre := fun x => itemsPlain x.1 = true) (res := fun x => DP K (.bool (isWordD x.2.1 x.2.2 x.1))) (E := E0) (wd imgs[i], c.p, c.n) (itemsPlain_wd _) (ea_cons (ed_var rfl (dp_mono E px)) (ea_cons (cf_p T (ex_var rfl) (ca.mono E)) (ea_cons (ed_var rfl (dp_mono E pn)) ea_nil)))))) (by show (!isWordD c.p c.n (wd imgs[i])) = false; rw [isWordD_wd (ok.wd _ (List.getElem_mem hi'))] <;> rfl)) (fun hb => by cases hb) (fun _ H5 e5 => ⟨_, rfl, e.trans e5⟩)
  · obtain ⟨z, rfl, e⟩ := h
    exact k _ H' (e1.trans e) rfl
/-- images that are none -/
def badImg (c : CodeM) (d : PyData) : Prop := plainD d = true ∧ ∀ ds, d = .tuple ds → ds.length ≠ c.rows.length
def sp_check_bad (K : PySem.W.Frag) (C cM : Addr) : Sp := fun vs H _ E => ∃ (c : CodeM) (d : PyData), AllP [CP K C c, DP K d, DP K (.int (c.n : Int))] H vs ∧ badImg c d ∧ ∀ H', Ex H H' → E (.ref cM) none H'
theorem ok_check_bad (T : Txt K mg) : FnOk P w K mg base (L2.CX P w) 1 T.check_images.f T.check_images.fd ["a", "images", "n"] (sp_check_bad K T.cCode T.cMal) := by
  refine T.check_images.F.okX sc_check_images (fun vs H Q E h => ?_) (fun cdv A outer s H vs Q E hr h => ?_)
  · obtain ⟨c, d, ps, _⟩ := h
    exact allP_len ps
  · obtain ⟨c, d, ps, ⟨hpl, hbad⟩, k⟩ := h
    obtain ⟨va, vi, vn, rfl, ⟨a, rfl, ca⟩, pi, pn⟩ := allP3 ps
    refine ⟨_, pss_cons (ps_if (PW.pt (pw_or (pt_not (pt_val (pe_callB (kc_isi K) (by rfl) T.z_isinstance (by decide +kernel) (pa_cons (pv 1) (pa_cons (pe_bltn (v := .ty "tuple") rfl T.z_tuple (by decide +kernel) rfl) pa_nil))))) (pw_or1 (pt_cmpR op_ne (pe_callB (kc_len K) (by rfl) T.z_len PySem.boot_len (pa_cons (pv 1) pa_nil)) (kpe_fld K (pv 0)) (nomark _))))) (pss_one (ps_raise rfl (takes_of rfl rfl rfl rfl) (pmk_own PySem.F.excBase_ValueError T.x_Mal T.g_Mal T.k_Mal (raises_own T.b_Mal T.t_Mal) (by exact rfl)))) pss_nil) pss_never, ?_⟩
    have isi : EvB _ (start N_check_images [.ref a, vi, vn]) H _ := eb_not (eb_B (ed_isi (kit_tuple hpl) (ed_var (K := K) (n := 1) rfl pi)))
    rcases tup_or d with ⟨ds, rfl⟩ | hnt
    · refine q_when (b := true) (EvB.is (eb_or isi fun _ => eb_test (K := K) (ed_neI (ed_lenT (ed_var rfl pi)) (cf_k T (ex_var rfl) ca))) ?_) (fun _ H1 e1 => k H1 e1) (fun hb => by cases hb)
      rw [decide_eq_false (show ¬ (ds.length : Int) = (c.rows.length : Int) from fun q => hbad ds rfl (Int.ofNat.inj q))] <;> rfl
    · refine q_when (b := true) (EvB.is (eb_or (b2 := false) isi fun q => ?_) (by rw [hnt] <;> rfl)) (fun _ H1 e1 => k H1 e1) (fun hb => by cases hb)
      rw [hnt] at q
      cases q
/-! ### changed_weight -/
def sp_changed (K : PySem.W.Frag) (C : Addr) : Sp := spOf (fun x : CodeM × List W × List W => [CP K C x.1, DP K (.tuple (wds x.2.1))]) (fun x => CodeOk x.1 ∧ ImgsOk x.1 x.2.1 ∧ WordsGood x.1 x.2.2) (fun x => DP K (optD (chgM x.1 x.2.1 x.2.2)))
theorem chg_take {c : CodeM} {imgs : List W} {ws : List W} (h : ∀ (j : Nat) (y : W), j < ws.length → ws[j]? = some y → chgB c imgs y = false) : chgM c imgs ws = none := find_none fun j y hy => h j y (List.getElem?_eq_some_iff.mp hy).1 hy
theorem ok_changed_weight (T : Txt K mg) : FnOk P w K mg base CX0 6 T.changed_weight.f T.changed_weight.fd ["a", "images"] (sp_changed K T.cCode) := by
  refine T.changed_weight.F.ok sc_changed_weight (fun vs H Q E h => spOf_len (n := 2) (fun _ => rfl) h) (fun cdv A outer s H vs Q E hr h => ?_)
  obtain ⟨⟨c, imgs, ws⟩, ps, ⟨ok, io, wg⟩, k⟩ := h
  dsimp only at ps ok io wg k
  obtain ⟨va, vi, rfl, ⟨a, rfl, ca⟩, pi⟩ := allP2 ps
  refine ⟨_, (pss_cons (ps_expr (pe_call (ok_check_images T) (hr.mono (by decide)) (by rfl) T.check_images.g T.check_images.F.kp T.check_images.b .nil pass0 (pa_cons (pv 0) (pa_cons (pv 1) (pa_cons (kpe_fld K (pv 0)) pa_nil)))))
      (pss_cons (ps_forG T (fun _ _ h => h) (hr.mono (by decide)) (pv 0) (pg_name (i := 2) sc_changed_weight.nd rfl (Or.inl rfl)) (pss_cons (ps_set (i := 3) sc_changed_weight.nd rfl (Or.inl rfl) (pe_call (ok_combine T) (hr.mono (by decide)) (by rfl) T.combine.g T.combine.F.kp T.combine.b .nil pass0 (pa_cons (pv 1) (pa_cons (pe_call (ok_coordinates T) (hr.mono (by decide)) (by rfl) T.coordinates.g T.coordinates.F.kp T.coordinates.b .nil pass0 (pa_cons (kpe_fld K (pv 0)) (pa_cons (pv 2) (pa_cons (kpe_fld K (pv 0)) pa_nil)))) (pa_cons (kpe_fld K (pv 0)) (pa_cons (kpe_fld K (pv 0)) pa_nil))))))
      (pss_one (ps_if (pt_cmpR op_ne (pe_call (ok_weight T) (hr.mono (by decide)) (by rfl) T.weight.g T.weight.F.kp T.weight.b .nil pass0 (pa_cons (pv 2) pa_nil)) (pe_call (ok_weight T) (hr.mono (by decide)) (by rfl) T.weight.g T.weight.F.kp T.weight.b .nil pass0 (pa_cons (pv 3) pa_nil)) (nomark _)) (pss_one (ps_ret (pv 2))) pss_nil))))
      (pss_one (ps_ret pe_non)))), ?_⟩
  have h5 := pr_pos ok.p
  have hn5 := ok.n
  have hk5 := ok.k
  refine q_drop (P := XP .non) (ev_call (ι := CodeM × List W) (c, imgs) io (ea_cons (ev_var (P := CP K T.cCode c) rfl ⟨a, rfl, ca⟩) (ea_cons (ed_var rfl pi) (ea_cons (cf_n T (ex_var rfl) ca) ea_nil)))) fun _ H1 e1 _ => ?_
  refine ⟨_, rfl, a, c, ws, rfl, ca.mono e1, ok, wg.ok, fun p xs H2 hp e2 hpl al => ⟨fun i σ' H' => ∃ z z3, σ' = [some (.ref a), some vi, z, z3] ∧ Ex H2 H' ∧ ∀ (j : Nat) (y : W), j < i → ws[j]? = some y → chgB c imgs y = false, ⟨_, _, rfl, Ex.refl _, fun j y hj => absurd hj (Nat.not_lt_zero _)⟩, fun i σ' H' ⟨_, _, _, e, _⟩ => e, fun i x σ' H' hi h => ?_, fun σ' H' h => ?_⟩⟩
  · obtain ⟨z, z3, rfl, e, hno⟩ := h
    have E := (e1.trans e2).trans e
    have hlx := dpAll_len al
    rw [List.length_map] at hlx
    have hi' : i < ws.length := by
      have := (List.getElem?_eq_some_iff.mp hi).1
      omega
    have hwi : ws[i]? = some ws[i] := List.getElem?_eq_getElem hi'
    have px : Dp K H2 x (wd ws[i]) := by
      obtain ⟨v, a1, a2⟩ := dpAll_at al (i := i) (d := wd ws[i]) (by rw [List.getElem?_map, hwi] <;> rfl)
      rw [hi] at a1
      cases a1
      exact a2
    have hmem := List.getElem_mem hi'
    have ww := wg.wd _ hmem
    have sl := wg.sol _ hmem
    have cr := wg.crd _ hmem
    generalize ws[i] = u at hwi px ww sl cr
    have cu : coordM c u = solveM c.p c.rows.length (colsM c.rows u.length) u := by
      unfold coordM
      rw [ww.1]
    have ca' := ca.mono E
    refine q_asg (P := DP K (wd (otherM c imgs u))) (ev_call (ι := List W × W × Nat × Int) (imgs, coordM c u, c.n, c.p) ⟨by show (coordM c u).length = imgs.length; rw [cr.1, io.len], by show imgs.length ≤ 100; rw [io.len]; omega, fun r hr => (io.wd r hr).1, by show c.n ≤ 100; omega, wok_b (by omega) cr, by show 0 < c.p; omega⟩
      (ea_cons (ed_var rfl (dp_mono E pi)) (ea_cons (EvP.is (d2 := wd (coordM c u)) (ev_call (ι := List W × W × Int) (c.rows, u, c.p) ⟨ok.p, by show c.rows.length ≤ 90; omega, by show u.length ≤ 90; rw [ww.1]; omega, fun r hr => by show WOk c.p u.length r; rw [ww.1]; exact ok.rows r hr, by show solvable c.p c.rows.length (colsM c.rows u.length) u; rw [ww.1]; exact sl⟩
        (ea_cons (cf_rows T (ex_var rfl) ca') (ea_cons (ed_var rfl (dp_mono e px)) (ea_cons (cf_p T (ex_var rfl) ca') ea_nil)))) (by rw [cu])) (ea_cons (cf_n T (ex_var rfl) ca') (ea_cons (cf_p T (ex_var rfl) ca') ea_nil))))) fun v3 H3 e3 p3 => ?_
    have lo : (otherM c imgs u).length = c.n := combM_len fun r hr => (io.wd r hr).1
    refine s_when (b := chgB c imgs u) (EvB.is (eb_test (K := K) (ed_neI (i := (weightM u : Int)) (j := (weightM (otherM c imgs u) : Int)) (ev_call (ι := W) u (by show u.length ≤ 1000; rw [ww.1]; omega) (ea_cons (ed_var rfl (dp_mono (e.trans e3) px)) ea_nil)) (ev_call (ι := W) (otherM c imgs u) (by show (otherM c imgs u).length ≤ 1000; rw [lo]; omega) (ea_cons (ed_var rfl p3) ea_nil)))) ?_) (fun hb H4 e4 => ?_) (fun hb H4 e4 => ?_)
    · unfold chgB
      congr 1
      by_cases hq : weightM u = weightM (otherM c imgs u)
      · rw [decide_eq_true hq, decide_eq_true (by rw [hq])]
      · rw [decide_eq_false hq, decide_eq_false (show ¬ (weightM u : Int) = (weightM (otherM c imgs u) : Int) from fun q => hq (Int.ofNat.inj q))]
    · refine s_ret (P := DP K (optD (chgM c imgs ws))) (EvP.is (ed_var rfl (dp_mono ((e.trans e3).trans e4) px)) ?_) fun v5 H5 e5 p5 => k v5 H5 (((E.trans e3).trans e4).trans e5) p5
      unfold chgM
      rw [find_first hwi hb hno] <;> rfl
    · refine ⟨_, _, rfl, (e.trans e3).trans e4, fun j y hj hy => ?_⟩
      by_cases hji : j = i
      · subst hji
        rw [hwi] at hy
        cases hy
        exact hb
      · exact hno j y (by omega) hy
  · obtain ⟨z, z3, rfl, e, hno⟩ := h
    have hlx := dpAll_len al
    rw [List.length_map] at hlx
    rw [hlx] at hno
    exact s_ret (σ := [some (.ref a), some vi, z, z3]) (D := { nx := fun _ H' => Q .non H', rt := Q }) (P := DP K (optD (chgM c imgs ws))) (EvP.is ed_non (by rw [chg_take hno] <;> rfl)) fun v5 H5 e5 p5 => k v5 H5 (((e1.trans e2).trans e).trans e5) p5
def sp_changed_bad (K : PySem.W.Frag) (C cM : Addr) : Sp := fun vs H _ E => ∃ (c : CodeM) (d : PyData), AllP [CP K C c, DP K d] H vs ∧ badImg c d ∧ ∀ H', Ex H H' → E (.ref cM) none H'
theorem ok_changed_bad (T : Txt K mg) : FnOk P w K mg base (L2.CX P w) 2 T.changed_weight.f T.changed_weight.fd ["a", "images"] (sp_changed_bad K T.cCode T.cMal) := by
  refine T.changed_weight.F.okX sc_changed_weight (fun vs H Q E h => ?_) (fun cdv A outer s H vs Q E hr h => ?_)
  · obtain ⟨c, d, ps, _⟩ := h
    exact allP_len ps
  · obtain ⟨c, d, ps, bad, k⟩ := h
    obtain ⟨va, vi, rfl, ⟨a, rfl, ca⟩, pi⟩ := allP2 ps
    refine ⟨_, pss_cons (ps_expr (pe_callS (ok_check_bad T) hr (by rfl) T.check_images.g T.check_images.F.kp T.check_images.b (fun σ => passAt (takes_of rfl rfl rfl rfl) σ) (pa_cons (pv 0) (pa_cons (pv 1) (pa_cons (kpe_fld K (pv 0)) pa_nil))))) pss_never, ?_⟩
    have ea : EvA _ (start N_changed_weight [.ref a, vi]) H _ := ea_cons (ev_var (P := CP K T.cCode c) (n := 0) rfl ⟨a, rfl, ca⟩) (ea_cons (ed_var (K := K) (n := 1) rfl pi) (ea_cons (cf_n T (ex_var (n := 0) rfl) ca) ea_nil))
    have fin := ea H (Ex.refl _) (fun vs H1 => sp_check_bad K T.cCode T.cMal vs H1 (fun _ _ => False) fun cls d H' => E cls d H') fun vs H1 e1 ps1 => ⟨c, d, ps1, bad, fun H2 e2 => k H2 (e1.trans e2)⟩
    exact fin

/-! ### extension -/
def sp_extension (K : PySem.W.Frag) (C CM : Addr) : Sp := spNew (fun x : CodeM × List W × List W × W × W => [CP K C x.1, DP K (.tuple (wds x.2.1))])
  (fun x => CodeOk x.1 ∧ ImgsOk x.1 x.2.1 ∧ WordsGood x.1 x.2.2.1 ∧ chgM x.1 x.2.1 x.2.2.1 = none ∧ firstM x.1.p x.1.n x.1.rows x.2.1 = some (x.2.2.2.1, x.2.2.2.2) ∧ monOk x.1.p x.2.2.2.1 x.2.2.2.2) (fun x => MonAt K CM x.1.p x.2.2.2.1 x.2.2.2.2)
theorem ok_extension (T : Txt K mg) : FnOk P w K mg base CX0 7 T.extension.f T.extension.fd ["a", "images"] (sp_extension K T.cCode T.cMon) := by
  refine T.extension.F.ok sc_extension (fun vs H Q E h => spNew_len (n := 2) (fun _ => rfl) h) (fun cdv A outer s H vs Q E hr h => ?_)
  obtain ⟨⟨c, imgs, ws, pl, mu⟩, ps, ⟨ok, io, wg, hno, hF, hM⟩, k⟩ := h
  dsimp only at ps ok io wg hno hF hM k
  obtain ⟨va, vi, rfl, ⟨a, rfl, ca⟩, pi⟩ := allP2 ps
  refine ⟨_, (pss_cons (ps_if (pt_cmpR op_notN (pe_call (ok_changed_weight T) (hr.mono (by decide)) (by rfl) T.changed_weight.g T.changed_weight.F.kp T.changed_weight.b .nil pass0 (pa_cons (pv 0) (pa_cons (pv 1) pa_nil))) pe_non (nomark _)) (pss_one (ps_ret pe_non)) pss_nil)
      (pss_one (ps_ret (pe_call (ok_first_map T) (hr.mono (by decide)) (by rfl) T.first_map.g T.first_map.F.kp T.first_map.b .nil pass0 (pa_cons (kpe_fld K (pv 0)) (pa_cons (pv 1) (pa_cons (kpe_fld K (pv 0)) (pa_cons (kpe_fld K (pv 0)) pa_nil)))))))), ?_⟩
  have h5 := pr_pos ok.p
  have hn5 := ok.n
  have hk5 := ok.k
  refine q_when (b := false) (EvB.is (eb_notN (d := optD (chgM c imgs ws)) (ev_call (ι := CodeM × List W × List W) (c, imgs, ws) ⟨ok, io, wg⟩ (ea_cons (ev_var (P := CP K T.cCode c) rfl ⟨a, rfl, ca⟩) (ea_cons (ed_var rfl pi) ea_nil)))) (by rw [hno] <;> rfl)) (fun hb => by cases hb) (fun _ H1 e1 => ?_)
  refine s_ret (P := fun H' v => ∃ b, v = .ref b ∧ H b = none ∧ MonAt K T.cMon c.p pl mu H' b) (fun H6 e6 Q q => en_call (ι := List W × List W × Nat × Int × W × W) (ar := fun x => [DP K (.tuple (wds x.1)), DP K (.tuple (wds x.2.1)), DP K (.int (x.2.2.1 : Int)), DP K (.int x.2.2.2.1)])
    (pre := fun x => Pr x.2.2.2.1 ∧ x.1.length ≤ 90 ∧ x.2.1.length = x.1.length ∧ x.2.2.1 ≤ 60 ∧ (∀ r ∈ x.1, WOk x.2.2.2.1 x.2.2.1 r) ∧ (∀ r ∈ x.2.1, WOk x.2.2.2.1 x.2.2.1 r) ∧ firstM x.2.2.2.1 x.2.2.1 x.1 x.2.1 = some (x.2.2.2.2.1, x.2.2.2.2.2) ∧ monOk x.2.2.2.1 x.2.2.2.2.1 x.2.2.2.2.2) (res := fun x => MonAt K T.cMon x.2.2.2.1 x.2.2.2.2.1 x.2.2.2.2.2) (E := E0)
    (c.rows, imgs, c.n, c.p, pl, mu) ⟨ok.p, by show c.rows.length ≤ 90; omega, io.len, by show c.n ≤ 60; omega, ok.rows, io.wd, hF, hM⟩ (ea_cons (cf_rows T (ex_var rfl) (ca.mono (e1.trans e6))) (ea_cons (ed_var rfl (dp_mono (e1.trans e6) pi)) (ea_cons (cf_n T (ex_var rfl) (ca.mono (e1.trans e6))) (ea_cons (cf_p T (ex_var rfl) (ca.mono (e1.trans e6))) ea_nil)))) H6 (Ex.refl _) Q fun b H7 hb e7 r => q _ H7 e7 ⟨b, rfl, fresh_back (e1.trans e6) hb, r⟩) fun v H7 e7 hv => by
      obtain ⟨b, rfl, hb, r⟩ := hv
      exact k b H7 hb (e1.trans e7) r

/-! ### map_paper -/
def paperM (o : Option W) (pl mu : W) : PyData := match o with
  | some w => .tuple [.str "changes", wd w]
  | none => .tuple [.str "keeps", wd pl, wd mu]
def sp_map_paper (K : PySem.W.Frag) (C : Addr) : Sp := spOf (fun x : CodeM × List W × List W × W × W => [CP K C x.1, DP K (.tuple (wds x.2.1))])
  (fun x => CodeOk x.1 ∧ ImgsOk x.1 x.2.1 ∧ WordsGood x.1 x.2.2.1 ∧ (chgM x.1 x.2.1 x.2.2.1 = none → firstM x.1.p x.1.n x.1.rows x.2.1 = some (x.2.2.2.1, x.2.2.2.2) ∧ monOk x.1.p x.2.2.2.1 x.2.2.2.2)) (fun x => DP K (paperM (chgM x.1 x.2.1 x.2.2.1) x.2.2.2.1 x.2.2.2.2))
theorem ok_map_paper (T : Txt K mg) : FnOk P w K mg base CX0 8 T.map_paper.f T.map_paper.fd ["a", "images"] (sp_map_paper K T.cCode) := by
  refine T.map_paper.F.ok sc_map_paper (fun vs H Q E h => spOf_len (n := 2) (fun _ => rfl) h) (fun cdv A outer s H vs Q E hr h => ?_)
  obtain ⟨⟨c, imgs, ws, pl, mu⟩, ps, ⟨ok, io, wg, hF⟩, k⟩ := h
  dsimp only at ps ok io wg hF k
  obtain ⟨va, vi, rfl, ⟨a, rfl, ca⟩, pi⟩ := allP2 ps
  refine ⟨_, (pss_cons (ps_set (i := 2) sc_map_paper.nd rfl (Or.inl rfl) (pe_call (ok_changed_weight T) (hr.mono (by decide)) (by rfl) T.changed_weight.g T.changed_weight.F.kp T.changed_weight.b .nil pass0 (pa_cons (pv 0) (pa_cons (pv 1) pa_nil))))
      (pss_cons (ps_if (pt_cmpR op_notN (pv 2) pe_non (nomark _)) (pss_one (ps_ret (pe_tup (pa_cons pe_str (pa_cons (pv 2) pa_nil))))) pss_nil)
      (pss_cons (ps_set (i := 3) sc_map_paper.nd rfl (Or.inl rfl) (pe_call (ok_extension T) (hr.mono (by decide)) (by rfl) T.extension.g T.extension.F.kp T.extension.b .nil pass0 (pa_cons (pv 0) (pa_cons (pv 1) pa_nil))))
      (pss_one (ps_ret (pe_tup (pa_cons pe_str (pa_cons (kpe_fld K (pv 3)) (pa_cons (kpe_fld K (pv 3)) pa_nil))))))))), ?_⟩
  refine q_asg (P := DP K (optD (chgM c imgs ws))) (ev_call (ι := CodeM × List W × List W) (c, imgs, ws) ⟨ok, io, wg⟩ (ea_cons (ev_var (P := CP K T.cCode c) rfl ⟨a, rfl, ca⟩) (ea_cons (ed_var rfl pi) ea_nil))) fun v H1 e1 pv => ?_
  cases hch : chgM c imgs ws with
  | some u =>
    rw [hch] at pv k
    refine q_when (b := true) (eb_notN (d := wd u) (ed_var rfl pv)) (fun _ H2 e2 => ?_) (fun hb => by cases hb)
    exact s_ret (P := DP K (.tuple [.str "changes", wd u])) (ed_tup (ds := [.str "changes", wd u]) (ea_cons ed_str (ea_cons (ed_var rfl (dp_mono e2 pv)) ea_nil)) (by show 2 ≤ 100000; decide)) fun v5 H5 e5 p5 => k v5 H5 ((e1.trans e2).trans e5) p5
  | none =>
    rw [hch] at pv k
    obtain ⟨hF1, hM⟩ := hF hch
    refine q_when (b := false) (eb_notN (d := .none) (ed_var rfl pv)) (fun hb => by cases hb) (fun _ H2 e2 => ?_)
    have E2 := e1.trans e2
    refine q_asgN (PA := MonAt K T.cMon c.p pl mu) (en_call (ι := CodeM × List W × List W × W × W) (c, imgs, ws, pl, mu) ⟨ok, io, wg, hch, hF1, hM⟩ (ea_cons (ev_var (P := CP K T.cCode c) rfl ⟨a, rfl, ca.mono E2⟩) (ea_cons (ed_var rfl (dp_mono E2 pi)) ea_nil))) fun b H3 hb e3 hA => ?_
    obtain ⟨dx, vl, vm, h1, h2, h3⟩ := hA
    exact s_ret (P := DP K (.tuple [.str "keeps", wd pl, wd mu])) (ed_tup (ds := [.str "keeps", wd pl, wd mu]) (ea_cons ed_str (ea_cons (ed_fld (ex_var rfl) h1 T.cl_Mon (T.no_Mon "places" (by decide)) rfl h2) (ea_cons (ed_fld (ex_var rfl) h1 T.cl_Mon (T.no_Mon "multiples" (by decide)) rfl h3) ea_nil))) (by show 3 ≤ 100000; decide)) fun v5 H5 e5 p5 => k v5 H5 ((E2.trans e3).trans e5) p5
def sp_paper_bad (K : PySem.W.Frag) (C cM : Addr) : Sp := fun vs H _ E => ∃ (c : CodeM) (d : PyData), AllP [CP K C c, DP K d] H vs ∧ badImg c d ∧ ∀ H', Ex H H' → E (.ref cM) none H'
theorem ok_paper_bad (T : Txt K mg) : FnOk P w K mg base (L2.CX P w) 3 T.map_paper.f T.map_paper.fd ["a", "images"] (sp_paper_bad K T.cCode T.cMal) := by
  refine T.map_paper.F.okX sc_map_paper (fun vs H Q E h => ?_) (fun cdv A outer s H vs Q E hr h => ?_)
  · obtain ⟨c, d, ps, _⟩ := h
    exact allP_len ps
  · obtain ⟨c, d, ps, bad, k⟩ := h
    obtain ⟨va, vi, rfl, ⟨a, rfl, ca⟩, pi⟩ := allP2 ps
    refine ⟨_, pss_cons (ps_set (i := 2) sc_map_paper.nd rfl (Or.inl rfl) (pe_callS (ok_changed_bad T) hr (by rfl) T.changed_weight.g T.changed_weight.F.kp T.changed_weight.b (fun σ => passAt (takes_of rfl rfl rfl rfl) σ) (pa_cons (pv 0) (pa_cons (pv 1) pa_nil)))) pss_never, ?_⟩
    have ea : EvA _ (start N_map_paper [.ref a, vi]) H _ := ea_cons (ev_var (P := CP K T.cCode c) (n := 0) rfl ⟨a, rfl, ca⟩) (ea_cons (ed_var (K := K) (n := 1) rfl pi) ea_nil)
    have fin := ea H (Ex.refl _) (fun vs H1 => sp_changed_bad K T.cCode T.cMal vs H1 (fun _ _ => False) fun cls d H' => E cls d H') fun vs H1 e1 ps1 => ⟨c, d, ps1, bad, fun H2 e2 => k H2 (e1.trans e2)⟩
    exact fin
end
end WK

set_option Elab.async false
set_option linter.all false
set_option maxRecDepth 100000
set_option maxHeartbeats 4000000
/-! The law's small defs. -/
namespace WK
open PySem PySem.Spec PyProof.Rows L2 WM
open Evl (Ex ex_l ex_t ex_rd sq_of st_of sz_of sz_lt fresh_back rLenS rListS)
section
variable {K : PySem.W.Frag} {σ : L2.St} {H H' : Hp} {ta tb tc te tl : TE} {t u : TT} {P P2 R : VP} {d d2 : PyData} {i j : Int} {b b2 : Bool}
/-- [.. for x in range(lo, n)] -/
theorem en_lcR2 {ta : TA} {jx : Nat} {vs : List Nat} {lo n : Int} (f : Nat → Bool) (g : Nat → PyData) (hg : ∀ k, tOnly (g k) = true) (h : EvA ta σ H [DP K (.int lo), DP K (.int n)]) (hn : 0 ≤ lo ∧ lo ≤ 1000 ∧ -1000 ≤ n ∧ n ≤ 40000) (hw : ∀ x, wipe ((wipe σ vs).set jx (some x)) vs = wipe σ vs)
    (ht : ∀ (k : Nat) H1, Ex H H1 → lo + (k : Int) < n → EvB t ((wipe σ vs).set jx (some (.int (lo + (k : Int))))) H1 (f k)) (he : ∀ (k : Nat) H1, Ex H H1 → lo + (k : Int) < n → f k = true → EvD K te ((wipe σ vs).set jx (some (.int (lo + (k : Int))))) H1 (g k)) :
    EvN (tLc (iRng2 ta) (gName jx) t te vs) σ H (NL K (((List.range (n - lo).toNat).filter f).map g)) := fun H0 e Q q => h H0 e _ fun vs1 H1 e1 ps => by
  obtain ⟨a, c, rfl, pa, pc⟩ := allP2 ps
  have ea := dp_int pa
  have ec := dp_int pc
  subst ea ec
  refine ⟨lo, n, rfl, ⟨by omega, by omega, by omega, by omega⟩, fun Dl hD => ?_⟩
  refine lc_range (lo := lo) (n := (n - lo).toNat) (fun i => IsLc K H1 Dl (((List.range i).filter f).map g)) ⟨hD, Ex.new hD, [], upd_same, .nil⟩ (fun i H' hi p => ?_) fun H' p => q Dl H' (fresh_back e1 p.1) (e1.trans p.2.1) p.2.2
  refine ⟨hw _, ?_⟩
  have hE : Ex H H1 := e.trans e1
  have hlt : (((List.range i).filter f).map g).length < 50000 := by
    rw [List.length_map]
    have := List.length_filter_le f (List.range i)
    rw [List.length_range] at this
    omega
  refine lc_step (d := g i) (fb := f i) (tOnly_map g hg _) p hlt (ht i H1 hE (by omega)) (fun hf => he i H1 hE (by omega) hf) (hg i) (fun H2 hf r => ?_) fun H2 hf r => ?_
  · rw [List.range_succ, filter_snoc, hf]
    exact r
  · rw [List.range_succ, filter_snoc, hf]
    show IsLc K H1 Dl (_ ++ []) H2
    rw [List.append_nil]
    exact r
theorem ed_notInT {ns : List Int} (ha : EvD K ta σ H (.int i)) (hb : EvD K tb σ H (wd ns)) : EvD K (tOp (rIn K true) ta tb) σ H (.bool (!decide (i ∈ ns))) := ed_inT (neg := true) ha hb
/-- xs[:k] -/
theorem cutTo (ds : List PyData) (k : Nat) : cutD ds none (some (k : Int)) = ds.take k := by
  unfold cutD
  rw [HT.sIx_none, HT.sIx_nat, List.drop_zero, Nat.sub_zero]
  by_cases h : k ≤ ds.length
  · rw [Nat.min_eq_left h]
  · rw [Nat.min_eq_right (by omega), List.take_of_length_le (Nat.le_refl _), List.take_of_length_le (by omega)]
/-- xs[k:] -/
theorem cutFrom (ds : List PyData) (k : Nat) : cutD ds (some (k : Int)) none = ds.drop k := by
  unfold cutD
  rw [HT.sIx_none, HT.sIx_nat]
  by_cases h : k ≤ ds.length
  · rw [Nat.min_eq_left h]
    exact List.take_of_length_le (by rw [List.length_drop]; exact Nat.le_refl _)
  · rw [Nat.min_eq_right (by omega), List.drop_of_length_le (Nat.le_refl _), List.drop_of_length_le (by omega)] <;> simp
theorem ints_take (ns : W) (k : Nat) : (ns.map PyData.int).take k = (ns.take k).map PyData.int := List.map_take.symm
theorem ints_drop (ns : W) (k : Nat) : (ns.map PyData.int).drop k = (ns.drop k).map PyData.int := List.map_drop.symm
end
section
variable {P : Program} {w : World} {K : PySem.W.Frag} {mg : Str → Option Value} {base : Heap}
def sp_law_sum (K : PySem.W.Frag) : Sp := spOf (fun x : W × W × Int => [DP K (wd x.1), DP K (wd x.2.1), DP K (.int x.2.2)]) (fun x => x.2.1.length = x.1.length ∧ x.1.length ≤ 1000 ∧ 0 < x.2.2) (fun x => DP K (wd (addM x.1 x.2.1 x.2.2)))
theorem ok_law_sum (T : Txt K mg) : FnOk P w K mg base CX0 1 T.law_sum.f T.law_sum.fd ["_law_v", "_law_w", "_law_p"] (sp_law_sum K) := by
  refine T.law_sum.F.ok sc_law_sum (fun vs H Q E h => spOf_len (n := 3) (fun _ => rfl) h) (fun cdv A outer s H vs Q E hr h => ?_)
  obtain ⟨⟨v, u, p⟩, ps, ⟨hl, hz, hp⟩, k⟩ := h
  obtain ⟨vv, vu, vp, rfl, pv0, pu, pp⟩ := allP3 ps
  have hl' : u.length = v.length := hl
  have hz' : v.length ≤ 1000 := hz
  refine ⟨_, (pss_one (ps_ret (pe_callTy (kc_tuple K) (by rfl) T.z_tuple (by decide +kernel) (pa_cons (pe_lc (own := [("_law_k", 3)]) (g := gName 3) rfl sc_law_sum.nd (pi_range1 (by rfl) T.z_range (pa_cons (pe_callB (kc_len K) (by rfl) T.z_len PySem.boot_len (pa_cons (pv 0) pa_nil)) pa_nil)) (blkOk_by (own := [("_law_k", 3)]) (N := N_law_sum) (sc := (defScope s_law_sum)) (by decide +kernel)) (fun _ _ _ _ _ => pg_name (i := 3) sc_law_sum.nd rfl (Or.inl rfl)) (fun _ _ _ _ _ => pts_nil) (fun _ _ _ _ _ => (pe_op op_mod (pe_callTy kc_int1 (by rfl) T.z_int (by decide +kernel) (pa_cons (pe_op op_add (pe_ix (kx_tup K) (pv 0) (pv 3) (fun _ _ => rfl)) (pe_ix (kx_tup K) (pv 1) (pv 3) (fun _ _ => rfl))) pa_nil)) (pv 2)))) pa_nil)))), ?_⟩
  refine s_ret (P := DP K (wd (addM v u p))) (ed_tupL (tOnly_ints _) (EvN.ls (EvN.is (en_lcR (n := (v.length : Int)) (fun _ => true) (fun k => .int ((v.getD k 0 + u.getD k 0) % p)) (fun _ => rfl) (ea_cons ?_ ea_nil) ⟨by omega, by omega⟩ (fun _ => rfl) (fun _ _ _ _ => eb_yes) (fun i H1 e hi _ => ?_)) ?_))) (fun v H1 e p => k v H1 e p)
  · have q := ed_lenT (ed_var (σ := start N_law_sum [vv, vu, vp]) (n := 0) rfl pv0)
    rw [List.length_map] at q
    exact q
  · have hi' : i < v.length := by omega
    exact ed_mod hp (ed_intI (ed_add (ed_ixT (at_int (getD_at 0 hi') rfl) (ed_var rfl (dp_mono e pv0)) (ed_var rfl (.int _))) (ed_ixT (at_int (getD_at 0 (hl'.symm ▸ hi')) rfl) (ed_var rfl (dp_mono e pu)) (ed_var rfl (.int _))))) (ed_var rfl (dp_mono e pp))
  · exact addM_range hl'
def sp_law_scaled (K : PySem.W.Frag) : Sp := spOf (fun x : W × Int × Int => [DP K (wd x.1), DP K (.int x.2.1), DP K (.int x.2.2)]) (fun x => x.1.length ≤ 1000 ∧ -1000 ≤ x.2.1 ∧ x.2.1 ≤ 1000 ∧ 0 < x.2.2) (fun x => DP K (wd (scaleM x.1 x.2.1 x.2.2)))
theorem ok_law_scaled (T : Txt K mg) : FnOk P w K mg base CX0 1 T.law_scaled.f T.law_scaled.fd ["_law_v", "_law_a", "_law_p"] (sp_law_scaled K) := by
  refine T.law_scaled.F.ok sc_law_scaled (fun vs H Q E h => spOf_len (n := 3) (fun _ => rfl) h) (fun cdv A outer s H vs Q E hr h => ?_)
  obtain ⟨⟨v, a, p⟩, ps, ⟨hz, ha1, ha2, hp⟩, k⟩ := h
  obtain ⟨vv, va, vp, rfl, pv0, pa, pp⟩ := allP3 ps
  have hz' : v.length ≤ 1000 := hz
  have hb : -1000 ≤ a ∧ a ≤ 1000 := ⟨ha1, ha2⟩
  refine ⟨_, (pss_one (ps_ret (pe_callTy (kc_tuple K) (by rfl) T.z_tuple (by decide +kernel) (pa_cons (pe_lc (own := [("_law_x", 3)]) (g := gName 3) rfl sc_law_scaled.nd (kpi_tup K (pv 0)) (blkOk_by (own := [("_law_x", 3)]) (N := N_law_scaled) (sc := (defScope s_law_scaled)) (by decide +kernel)) (fun _ _ _ _ _ => pg_name (i := 3) sc_law_scaled.nd rfl (Or.inl rfl)) (fun _ _ _ _ _ => pts_nil) (fun _ _ _ _ _ => (pe_op op_mod (pe_callTy kc_int1 (by rfl) T.z_int (by decide +kernel) (pa_cons (pe_op op_mul (pv 3) (pv 1)) pa_nil)) (pv 2)))) pa_nil)))), ?_⟩
  refine s_ret (P := DP K (wd (scaleM v a p))) (ed_tupL (tOnly_ints _) (EvN.ls (EvN.is (en_lcT PyData.int v (fun _ => true) (fun x => .int (x * a % p)) (fun _ => rfl) (ed_var rfl pv0) (by omega) (fun _ => rfl) (fun _ _ _ _ _ _ _ => eb_yes) (fun i x c H1 e hi px _ => ?_)) ?_))) (fun v H1 e p => k v H1 e p)
  · exact ed_mod hp (ed_intI (ed_mul (.inr ⟨by omega, by omega⟩) (ed_var rfl px) (ed_var rfl (dp_mono e pa)))) (ed_var rfl (dp_mono e pp))
  · rw [filter_yes]
    unfold scaleM
    rw [List.map_map] <;> rfl
def sp_law_weight (K : PySem.W.Frag) : Sp := spOf (fun x : W => [DP K (wd x)]) (fun x => x.length ≤ 1000) (fun x => DP K (.int (weightM x : Int)))
theorem ok_law_weight (T : Txt K mg) : FnOk P w K mg base CX0 1 T.law_weight.f T.law_weight.fd ["_law_word_here"] (sp_law_weight K) := by
  refine T.law_weight.F.ok sc_law_weight (fun vs H Q E h => spOf_len (n := 1) (fun _ => rfl) h) (fun cdv A outer s H vs Q E hr h => ?_)
  obtain ⟨v, ps, hz, k⟩ := h
  dsimp only at ps hz k
  obtain ⟨vv, rfl, pv0⟩ := allP1 ps
  refine ⟨_, (pss_one (ps_ret (pe_callB (kc_len K) (by rfl) T.z_len PySem.boot_len (pa_cons (pe_lc (own := [("_law_x", 1)]) (g := gName 1) rfl sc_law_weight.nd (kpi_tup K (pv 0)) (blkOk_by (own := [("_law_x", 1)]) (N := N_law_weight) (sc := (defScope s_law_weight)) (by decide +kernel)) (fun _ _ _ _ _ => pg_name (i := 1) sc_law_weight.nd rfl (Or.inl rfl)) (fun _ _ _ _ _ => (pts_one (pt_cmpR op_ne (pv 1) pe_int (nomark _)))) (fun _ _ _ _ _ => (pv 1))) pa_nil)))), ?_⟩
  refine s_ret (P := DP K (.int (weightM v : Int))) (EvP.is (ed_lenL (EvN.ls (en_lcT PyData.int v (fun x => x != 0) PyData.int (fun _ => rfl) (ed_var rfl pv0) (by omega) (fun _ => rfl) (fun i x c H1 e hi px => ?_) (fun i x c H1 e hi px _ => ed_var rfl px)))) ?_) (fun v1 H1 e p1 => k v1 H1 e p1)
  · exact EvB.is (eb_test (ed_neI (ed_var rfl px) ed_int)) (by rfl)
  · rw [List.length_map] <;> rfl
end
/-! ### all words, all arrangements, all multiples -/
def growGo (f : W → List W) (i : Nat) : List W := (List.range i).foldl (fun out _ => out.flatMap f) [[]]
theorem growGo_succ (f : W → List W) (i : Nat) : growGo f (i + 1) = (growGo f i).flatMap f := by
  unfold growGo
  rw [List.range_succ, List.foldl_append] <;> rfl
def allF (p : Nat) (w : W) : List W := (List.range p).map fun (a : Nat) => w ++ [(a : Int)]
def allM (n p : Nat) : List W := growGo (allF p) n
def arrF (n : Nat) (w : W) : List W := ((List.range n).filter fun (x : Nat) => !decide ((x : Int) ∈ w)).map fun (x : Nat) => w ++ [(x : Int)]
def arrM (n : Nat) : List W := growGo (arrF n) n
def mulF (p : Nat) (w : W) : List W := (List.range (p - 1)).map fun (a : Nat) => w ++ [1 + (a : Int)]
def mulM (n p : Nat) : List W := growGo (mulF p) n
theorem grow_len {f : W → List W} {B : Nat} (hf : ∀ w, (f w).length ≤ B) : ∀ i, (growGo f i).length ≤ B ^ i ∧ True
  | 0 => ⟨Nat.le_refl _, trivial⟩
  | i + 1 => by
    have ih := (grow_len hf i).1
    rw [growGo_succ]
    refine ⟨?_, trivial⟩
    have key : ∀ F : List W, (F.flatMap f).length ≤ F.length * B := by
      intro F
      induction F with
      | nil => simp
      | cons w F ih2 =>
        rw [List.flatMap_cons, List.length_append, List.length_cons, Nat.succ_mul]
        have := hf w
        omega
    exact Nat.le_trans (key _) (by rw [Nat.pow_succ]; exact Nat.mul_le_mul_right _ ih)
theorem grow_wl {f : W → List W} (hf : ∀ w u, u ∈ f w → u.length = w.length + 1) : ∀ i, ∀ w ∈ growGo f i, w.length = i
  | 0, w, hw => by
    have e : w = [] := by simpa [growGo] using hw
    rw [e] <;> rfl
  | i + 1, w, hw => by
    rw [growGo_succ] at hw
    obtain ⟨u, hu, hw⟩ := List.mem_flatMap.mp hw
    rw [hf u w hw, grow_wl hf i u hu]
theorem flat_bound {f : W → List W} {B : Nat} (hf : ∀ w, (f w).length ≤ B) (F : List W) (k : Nat) : ((F.take k).flatMap f).length ≤ F.length * B := by
  have key : ∀ F : List W, (F.flatMap f).length ≤ F.length * B := by
    intro F
    induction F with
    | nil => simp
    | cons w F ih2 =>
      rw [List.flatMap_cons, List.length_append, List.length_cons, Nat.succ_mul]
      have := hf w
      omega
  exact Nat.le_trans (key _) (Nat.mul_le_mul_right _ (List.length_take_le' k F))
theorem flat_snoc {f : W → List W} {F : List W} {k : Nat} {w : W} (h : F[k]? = some w) : (F.take (k + 1)).flatMap f = (F.take k).flatMap f ++ f w := by
  rw [take_snoc h, List.flatMap_append] <;> simp
theorem allF_len (p : Nat) (w : W) : (allF p w).length = p := by
  unfold allF
  rw [List.length_map, List.length_range]
theorem mulF_len (p : Nat) (w : W) : (mulF p w).length = p - 1 := by
  unfold mulF
  rw [List.length_map, List.length_range]
theorem arrF_len (n : Nat) (w : W) : (arrF n w).length ≤ n := by
  unfold arrF
  rw [List.length_map]
  have := List.length_filter_le (fun x => !decide (((x : Nat) : Int) ∈ w)) (List.range n)
  rw [List.length_range] at this
  exact this
theorem pow5 {B i : Nat} (hB : B ≤ 5) (hi : i ≤ 4) : B ^ i ≤ 625 := Nat.le_trans (Nat.pow_le_pow_left hB i) (Nat.le_trans (Nat.pow_le_pow_right (by decide) hi) (by decide))
section
variable {P : Program} {w : World} {K : PySem.W.Frag} {mg : Str → Option Value} {base : Heap}
def sp_law_all (K : PySem.W.Frag) : Sp := spNew (fun x : Nat × Nat => [DP K (.int (x.1 : Int)), DP K (.int (x.2 : Int))]) (fun x => x.1 ≤ 4 ∧ x.2 ≤ 5) (fun x => NL K (wds (allM x.1 x.2)))
theorem ok_law_all (T : Txt K mg) : FnOk P w K mg base CX0 1 T.law_all.f T.law_all.fd ["_law_n", "_law_p"] (sp_law_all K) := by
  refine T.law_all.F.ok sc_law_all (fun vs H Q E h => spNew_len (n := 2) (fun _ => rfl) h) (fun cdv A outer s H vs Q E hr h => ?_)
  obtain ⟨⟨n, p⟩, ps, ⟨hn, hp⟩, k⟩ := h
  dsimp only at ps hn hp k
  obtain ⟨vn, vp, rfl, pn, pp⟩ := allP2 ps
  refine ⟨_, (pss_cons (ps_set (i := 2) sc_law_all.nd rfl (Or.inl rfl) (pe_lst (pa_cons (pe_tup pa_nil) pa_nil)))
      (pss_cons (ps_for PassesOwn.never rfl (pi_range1 (by rfl) T.z_range (pa_cons (pv 0) pa_nil)) (pg_name (i := 3) sc_law_all.nd rfl (Or.inl rfl)) (pss_cons (ps_set (i := 4) sc_law_all.nd rfl (Or.inl rfl) (pe_lst pa_nil))
      (pss_cons (ps_for PassesOwn.never rfl (kpi_list K (pe_callTy (kc_list K) (by rfl) T.z_list (by decide +kernel) (pa_cons (pv 2) pa_nil))) (pg_name (i := 5) sc_law_all.nd rfl (Or.inr rfl)) (pss_one (ps_set (i := 4) sc_law_all.nd rfl (Or.inl rfl) (pe_op op_cat (pv 4) (pe_lc (own := [("_law_a", 6)]) (g := gName 6) rfl sc_law_all.nd (pi_range1 (by rfl) T.z_range (pa_cons (pv 1) pa_nil)) (blkOk_by (own := [("_law_a", 6)]) (N := N_law_all) (sc := (defScope s_law_all)) (by decide +kernel)) (fun _ _ _ _ _ => pg_name (i := 6) sc_law_all.nd rfl (Or.inl rfl)) (fun _ _ _ _ _ => pts_nil) (fun _ _ _ _ _ => (pe_op (ko_catA K) (pv 5) (pe_tup (pa_cons (pv 6) pa_nil)))))))))
      (pss_one (ps_set (i := 2) sc_law_all.nd rfl (Or.inl rfl) (pv 4))))))
      (pss_one (ps_ret (pv 2))))), ?_⟩
  refine q_asgN (PA := NL K (wds (growGo (allF p) 0))) (EvN.is (en_lst (ds := [wd []]) (ea_cons (ed_tup (ds := []) ea_nil (by decide)) ea_nil) (by show 1 ≤ 100000; decide)) rfl) fun fa H1 hfa e1 n1 => ?_
  refine q_forR (n := (n : Int)) (ea_cons (ed_var rfl (dp_mono e1 pn)) ea_nil) ⟨by omega, by omega⟩
    (fun i σ' H' => ∃ fa z3 z4 z5 z6, σ' = [some vn, some vp, some (.ref fa), z3, z4, z5, z6] ∧ Ex H H' ∧ H fa = none ∧ NL K (wds (growGo (allF p) i)) H' fa)
    (fun H2 e2 => ⟨fa, _, _, _, _, rfl, e1.trans e2, hfa, n1.mono e2⟩) (fun i σ' H' hi h => ?_) (fun σ' H' h => ?_)
  · obtain ⟨fa, z3, z4, z5, z6, rfl, e, hfa, nF⟩ := h
    have lF := (grow_len (f := (allF p)) (B := 5) (fun w => by rw [allF_len]; exact hp) i).1
    have hwl := grow_wl (f := (allF p)) (fun w u hu => by
      unfold allF at hu
      obtain ⟨a, _, rfl⟩ := List.mem_map.mp hu
      rw [List.length_append] <;> rfl) i
    have lF' := Nat.le_trans lF (pow5 (Nat.le_refl 5) (by omega))
    have hsucc := growGo_succ (allF p) i
    have hfb := flat_bound (f := (allF p)) (B := 5) (fun w => by rw [allF_len]; exact hp) (growGo (allF p) i)
    have hf1 : ∀ u, ((allF p) u).length ≤ 5 := fun w => by rw [allF_len]; exact hp
    generalize growGo (allF p) i = F at nF lF' hwl hsucc hfb
    refine q_asgN (PA := NL K []) (en_lst (ds := []) ea_nil (by decide)) fun la H2 hla e2 n2 => ?_
    have hlaH : H la = none := fresh_back e hla
    refine q_forN (ds := wds F) (en_listL (ed_var rfl (nF.mono e2).dp))
      (fun q xs m σ' H' => ∃ la z5 z6, σ' = [some vn, some vp, some (.ref fa), some (.int (i : Int)), some (.ref la), z5, z6] ∧ Ex H2 H' ∧ H' q = some (.lst xs) ∧ DpAll K H' xs (wds F) ∧ H la = none ∧ NL K (wds ((F.take m).flatMap (allF p))) H' la)
      (fun q xs H3 hq e3 hq3 al3 => ⟨la, _, _, rfl, e3, hq3, al3, hlaH, n2.mono e3⟩) (fun q xs m σ' H' ⟨_, _, _, _, _, h, _⟩ => h) (fun q xs m x σ' H' hlx hm h => ?_) (fun q xs σ' H' h => ?_)
    · obtain ⟨la, z5, z6, rfl, e3, hq3, al3, hla, n3⟩ := h
      have hm' : m < F.length := by
        have := (List.getElem?_eq_some_iff.mp hm).1
        rw [hlx, List.length_map] at this
        exact this
      have hFm : F[m]? = some F[m] := List.getElem?_eq_getElem hm'
      have py : Dp K H' x (wd F[m]) := by
        obtain ⟨v, a1, a2⟩ := dpAll_at al3 (i := m) (d := wd F[m]) (by rw [List.getElem?_map, hFm] <;> rfl)
        rw [hm] at a1
        cases a1
        exact a2
      have hu := hwl _ (List.getElem_mem hm')
      have hfl := flat_snoc (f := (allF p)) hFm
      have hb := hfb m
      generalize F[m] = u at py hu hfl
      have hu5 := hf1 u
      obtain ⟨ys, hy, dy⟩ := n3
      refine s_asgN (PA := NL K (wds ((F.take m).flatMap (allF p) ++ (allF p) u))) (EvN.is (en_catV (ds := wds ((F.take m).flatMap (allF p))) (es := wds ((allF p) u)) (p := la) (xs := ys) (ex_var rfl) hy dy (EvN.is (en_lcR (n := (p : Int)) (fun _ => true) (fun a => wd (u ++ [(a : Int)])) (fun _ => tOnly_wd _) (ea_cons (ed_var rfl (dp_mono ((e.trans e2).trans e3) pp)) ea_nil) ⟨by omega, by omega⟩ (fun _ => rfl) (fun _ _ _ _ => eb_yes) (fun a H5 e5 ha _ => EvP.is (ed_catT (ed_var rfl (dp_mono e5 py)) (ed_tup (ds := [.int (a : Int)]) (ea_cons (ed_var rfl (.int _)) ea_nil) (by show 1 ≤ 100000; decide)) (by rw [List.length_map, hu]; show i + 1 ≤ 100000; omega)) (by show PyData.tuple _ = PyData.tuple _; rw [List.map_append] <;> rfl))) (by rw [filter_yes, Int.toNat_natCast]; unfold allF wds; rw [List.map_map] <;> rfl)) ?_) ?_) fun lb H4 hlb e4 n4 => ⟨lb, _, _, rfl, e3.trans e4, e4 _ _ hq3, dpAll_mono e4 al3, fresh_back ((e.trans e2).trans e3) hlb, by rw [hfl]; exact n4⟩
      · rw [List.length_map, List.length_map]
        omega
      · unfold wds
        rw [List.map_append]
    · obtain ⟨la, z5, z6, rfl, e3, hq3, al3, hla, n3⟩ := h
      have hFl : F.take (wds F).length = F := by
        rw [List.length_map, List.take_length]
      rw [hFl, ← hsucc] at n3
      refine s_asg (P := XP (.ref la)) (ex_var rfl) fun v H4 e4 hv => ?_
      have hv' : v = .ref la := hv
      subst hv'
      exact ⟨la, _, _, _, _, rfl, ((e.trans e2).trans e3).trans e4, hla, n3.mono e4⟩
  · obtain ⟨fa, z3, z4, z5, z6, rfl, e, hfa, nF⟩ := h
    rw [Int.toNat_natCast] at nF
    exact s_ret (P := fun H v => v = .ref fa ∧ NL K (wds (allM n p)) H fa) (fun H1 e1 Q q => ⟨_, rfl, q _ H1 (Ex.refl _) ⟨rfl, nF.mono e1⟩⟩) fun v H2 e2 ⟨hv, hq⟩ => by
      subst hv
      exact k fa H2 hfa (e.trans e2) hq
def sp_law_multiples (K : PySem.W.Frag) : Sp := spNew (fun x : Nat × Nat => [DP K (.int (x.1 : Int)), DP K (.int (x.2 : Int))]) (fun x => x.1 ≤ 4 ∧ x.2 ≤ 5) (fun x => NL K (wds (mulM x.1 x.2)))
theorem ok_law_multiples (T : Txt K mg) : FnOk P w K mg base CX0 1 T.law_multiples.f T.law_multiples.fd ["_law_n", "_law_p"] (sp_law_multiples K) := by
  refine T.law_multiples.F.ok sc_law_multiples (fun vs H Q E h => spNew_len (n := 2) (fun _ => rfl) h) (fun cdv A outer s H vs Q E hr h => ?_)
  obtain ⟨⟨n, p⟩, ps, ⟨hn, hp⟩, k⟩ := h
  dsimp only at ps hn hp k
  obtain ⟨vn, vp, rfl, pn, pp⟩ := allP2 ps
  refine ⟨_, (pss_cons (ps_set (i := 2) sc_law_multiples.nd rfl (Or.inl rfl) (pe_lst (pa_cons (pe_tup pa_nil) pa_nil)))
      (pss_cons (ps_for PassesOwn.never rfl (pi_range1 (by rfl) T.z_range (pa_cons (pv 0) pa_nil)) (pg_name (i := 3) sc_law_multiples.nd rfl (Or.inl rfl)) (pss_cons (ps_set (i := 4) sc_law_multiples.nd rfl (Or.inl rfl) (pe_lst pa_nil))
      (pss_cons (ps_for PassesOwn.never rfl (kpi_list K (pe_callTy (kc_list K) (by rfl) T.z_list (by decide +kernel) (pa_cons (pv 2) pa_nil))) (pg_name (i := 5) sc_law_multiples.nd rfl (Or.inr rfl)) (pss_one (ps_set (i := 4) sc_law_multiples.nd rfl (Or.inl rfl) (pe_op op_cat (pv 4) (pe_lc (own := [("_law_a", 6)]) (g := gName 6) rfl sc_law_multiples.nd (pi_range2 (by rfl) T.z_range (pa_cons pe_int (pa_cons (pv 1) pa_nil))) (blkOk_by (own := [("_law_a", 6)]) (N := N_law_multiples) (sc := (defScope s_law_multiples)) (by decide +kernel)) (fun _ _ _ _ _ => pg_name (i := 6) sc_law_multiples.nd rfl (Or.inl rfl)) (fun _ _ _ _ _ => pts_nil) (fun _ _ _ _ _ => (pe_op (ko_catA K) (pv 5) (pe_tup (pa_cons (pv 6) pa_nil)))))))))
      (pss_one (ps_set (i := 2) sc_law_multiples.nd rfl (Or.inl rfl) (pv 4))))))
      (pss_one (ps_ret (pv 2))))), ?_⟩
  refine q_asgN (PA := NL K (wds (growGo (mulF p) 0))) (EvN.is (en_lst (ds := [wd []]) (ea_cons (ed_tup (ds := []) ea_nil (by decide)) ea_nil) (by show 1 ≤ 100000; decide)) rfl) fun fa H1 hfa e1 n1 => ?_
  refine q_forR (n := (n : Int)) (ea_cons (ed_var rfl (dp_mono e1 pn)) ea_nil) ⟨by omega, by omega⟩
    (fun i σ' H' => ∃ fa z3 z4 z5 z6, σ' = [some vn, some vp, some (.ref fa), z3, z4, z5, z6] ∧ Ex H H' ∧ H fa = none ∧ NL K (wds (growGo (mulF p) i)) H' fa)
    (fun H2 e2 => ⟨fa, _, _, _, _, rfl, e1.trans e2, hfa, n1.mono e2⟩) (fun i σ' H' hi h => ?_) (fun σ' H' h => ?_)
  · obtain ⟨fa, z3, z4, z5, z6, rfl, e, hfa, nF⟩ := h
    have lF := (grow_len (f := (mulF p)) (B := 5) (fun w => by rw [mulF_len]; omega) i).1
    have hwl := grow_wl (f := (mulF p)) (fun w u hu => by
      unfold mulF at hu
      obtain ⟨a, _, rfl⟩ := List.mem_map.mp hu
      rw [List.length_append] <;> rfl) i
    have lF' := Nat.le_trans lF (pow5 (Nat.le_refl 5) (by omega))
    have hsucc := growGo_succ (mulF p) i
    have hfb := flat_bound (f := (mulF p)) (B := 5) (fun w => by rw [mulF_len]; omega) (growGo (mulF p) i)
    have hf1 : ∀ u, ((mulF p) u).length ≤ 5 := fun w => by rw [mulF_len]; omega
    generalize growGo (mulF p) i = F at nF lF' hwl hsucc hfb
    refine q_asgN (PA := NL K []) (en_lst (ds := []) ea_nil (by decide)) fun la H2 hla e2 n2 => ?_
    have hlaH : H la = none := fresh_back e hla
    refine q_forN (ds := wds F) (en_listL (ed_var rfl (nF.mono e2).dp))
      (fun q xs m σ' H' => ∃ la z5 z6, σ' = [some vn, some vp, some (.ref fa), some (.int (i : Int)), some (.ref la), z5, z6] ∧ Ex H2 H' ∧ H' q = some (.lst xs) ∧ DpAll K H' xs (wds F) ∧ H la = none ∧ NL K (wds ((F.take m).flatMap (mulF p))) H' la)
      (fun q xs H3 hq e3 hq3 al3 => ⟨la, _, _, rfl, e3, hq3, al3, hlaH, n2.mono e3⟩) (fun q xs m σ' H' ⟨_, _, _, _, _, h, _⟩ => h) (fun q xs m x σ' H' hlx hm h => ?_) (fun q xs σ' H' h => ?_)
    · obtain ⟨la, z5, z6, rfl, e3, hq3, al3, hla, n3⟩ := h
      have hm' : m < F.length := by
        have := (List.getElem?_eq_some_iff.mp hm).1
        rw [hlx, List.length_map] at this
        exact this
      have hFm : F[m]? = some F[m] := List.getElem?_eq_getElem hm'
      have py : Dp K H' x (wd F[m]) := by
        obtain ⟨v, a1, a2⟩ := dpAll_at al3 (i := m) (d := wd F[m]) (by rw [List.getElem?_map, hFm] <;> rfl)
        rw [hm] at a1
        cases a1
        exact a2
      have hu := hwl _ (List.getElem_mem hm')
      have hfl := flat_snoc (f := (mulF p)) hFm
      have hb := hfb m
      generalize F[m] = u at py hu hfl
      have hu5 := hf1 u
      obtain ⟨ys, hy, dy⟩ := n3
      refine s_asgN (PA := NL K (wds ((F.take m).flatMap (mulF p) ++ (mulF p) u))) (EvN.is (en_catV (ds := wds ((F.take m).flatMap (mulF p))) (es := wds ((mulF p) u)) (p := la) (xs := ys) (ex_var rfl) hy dy (EvN.is (en_lcR2 (lo := 1) (n := (p : Int)) (fun _ => true) (fun a => wd (u ++ [1 + (a : Int)])) (fun _ => tOnly_wd _) (ea_cons ed_int (ea_cons (ed_var rfl (dp_mono ((e.trans e2).trans e3) pp)) ea_nil)) ⟨by omega, by omega, by omega, by omega⟩ (fun _ => rfl) (fun _ _ _ _ => eb_yes) (fun a H5 e5 ha _ => EvP.is (ed_catT (ed_var rfl (dp_mono e5 py)) (ed_tup (ds := [.int (1 + (a : Int))]) (ea_cons (ed_var rfl (.int _)) ea_nil) (by show 1 ≤ 100000; decide)) (by rw [List.length_map, hu]; show i + 1 ≤ 100000; omega)) (by show PyData.tuple _ = PyData.tuple _; rw [List.map_append] <;> rfl))) (by rw [filter_yes, show ((p : Int) - 1).toNat = p - 1 by omega]; unfold mulF wds; rw [List.map_map] <;> rfl)) ?_) ?_) fun lb H4 hlb e4 n4 => ⟨lb, _, _, rfl, e3.trans e4, e4 _ _ hq3, dpAll_mono e4 al3, fresh_back ((e.trans e2).trans e3) hlb, by rw [hfl]; exact n4⟩
      · rw [List.length_map, List.length_map]
        omega
      · unfold wds
        rw [List.map_append]
    · obtain ⟨la, z5, z6, rfl, e3, hq3, al3, hla, n3⟩ := h
      have hFl : F.take (wds F).length = F := by
        rw [List.length_map, List.take_length]
      rw [hFl, ← hsucc] at n3
      refine s_asg (P := XP (.ref la)) (ex_var rfl) fun v H4 e4 hv => ?_
      have hv' : v = .ref la := hv
      subst hv'
      exact ⟨la, _, _, _, _, rfl, ((e.trans e2).trans e3).trans e4, hla, n3.mono e4⟩
  · obtain ⟨fa, z3, z4, z5, z6, rfl, e, hfa, nF⟩ := h
    rw [Int.toNat_natCast] at nF
    exact s_ret (P := fun H v => v = .ref fa ∧ NL K (wds (mulM n p)) H fa) (fun H1 e1 Q q => ⟨_, rfl, q _ H1 (Ex.refl _) ⟨rfl, nF.mono e1⟩⟩) fun v H2 e2 ⟨hv, hq⟩ => by
      subst hv
      exact k fa H2 hfa (e.trans e2) hq
def sp_law_arrangements (K : PySem.W.Frag) : Sp := spNew (fun x : Nat => [DP K (.int (x : Int))]) (fun x => x ≤ 4) (fun x => NL K (wds (arrM x)))
theorem ok_law_arrangements (T : Txt K mg) : FnOk P w K mg base CX0 1 T.law_arrangements.f T.law_arrangements.fd ["_law_n"] (sp_law_arrangements K) := by
  refine T.law_arrangements.F.ok sc_law_arrangements (fun vs H Q E h => spNew_len (n := 1) (fun _ => rfl) h) (fun cdv A outer s H vs Q E hr h => ?_)
  obtain ⟨n, ps, hn, k⟩ := h
  dsimp only at ps hn k
  obtain ⟨vn, rfl, pn⟩ := allP1 ps
  refine ⟨_, (pss_cons (ps_set (i := 1) sc_law_arrangements.nd rfl (Or.inl rfl) (pe_lst (pa_cons (pe_tup pa_nil) pa_nil)))
      (pss_cons (ps_for PassesOwn.never rfl (pi_range1 (by rfl) T.z_range (pa_cons (pv 0) pa_nil)) (pg_name (i := 2) sc_law_arrangements.nd rfl (Or.inl rfl)) (pss_cons (ps_set (i := 3) sc_law_arrangements.nd rfl (Or.inl rfl) (pe_lst pa_nil))
      (pss_cons (ps_for PassesOwn.never rfl (kpi_list K (pe_callTy (kc_list K) (by rfl) T.z_list (by decide +kernel) (pa_cons (pv 1) pa_nil))) (pg_name (i := 4) sc_law_arrangements.nd rfl (Or.inr rfl)) (pss_one (ps_set (i := 3) sc_law_arrangements.nd rfl (Or.inl rfl) (pe_op op_cat (pv 3) (pe_lc (own := [("_law_x", 5)]) (g := gName 5) rfl sc_law_arrangements.nd (pi_range1 (by rfl) T.z_range (pa_cons (pv 0) pa_nil)) (blkOk_by (own := [("_law_x", 5)]) (N := N_law_arrangements) (sc := (defScope s_law_arrangements)) (by decide +kernel)) (fun _ _ _ _ _ => pg_name (i := 5) sc_law_arrangements.nd rfl (Or.inl rfl)) (fun _ _ _ _ _ => (pts_one (pt_cmpR (ko_notIn K) (pv 5) (pv 4) (by rfl)))) (fun _ _ _ _ _ => (pe_op (ko_catA K) (pv 4) (pe_tup (pa_cons (pv 5) pa_nil)))))))))
      (pss_one (ps_set (i := 1) sc_law_arrangements.nd rfl (Or.inl rfl) (pv 3))))))
      (pss_one (ps_ret (pv 1))))), ?_⟩
  refine q_asgN (PA := NL K (wds (growGo (arrF n) 0))) (EvN.is (en_lst (ds := [wd []]) (ea_cons (ed_tup (ds := []) ea_nil (by decide)) ea_nil) (by show 1 ≤ 100000; decide)) rfl) fun fa H1 hfa e1 n1 => ?_
  refine q_forR (n := (n : Int)) (ea_cons (ed_var rfl (dp_mono e1 pn)) ea_nil) ⟨by omega, by omega⟩
    (fun i σ' H' => ∃ fa z3 z4 z5 z6, σ' = [some vn, some (.ref fa), z3, z4, z5, z6] ∧ Ex H H' ∧ H fa = none ∧ NL K (wds (growGo (arrF n) i)) H' fa)
    (fun H2 e2 => ⟨fa, _, _, _, _, rfl, e1.trans e2, hfa, n1.mono e2⟩) (fun i σ' H' hi h => ?_) (fun σ' H' h => ?_)
  · obtain ⟨fa, z3, z4, z5, z6, rfl, e, hfa, nF⟩ := h
    have lF := (grow_len (f := (arrF n)) (B := 5) (fun w => Nat.le_trans (arrF_len n w) (by omega)) i).1
    have hwl := grow_wl (f := (arrF n)) (fun w u hu => by
      unfold arrF at hu
      obtain ⟨a, _, rfl⟩ := List.mem_map.mp hu
      rw [List.length_append] <;> rfl) i
    have lF' := Nat.le_trans lF (pow5 (Nat.le_refl 5) (by omega))
    have hsucc := growGo_succ (arrF n) i
    have hfb := flat_bound (f := (arrF n)) (B := 5) (fun w => Nat.le_trans (arrF_len n w) (by omega)) (growGo (arrF n) i)
    have hf1 : ∀ u, ((arrF n) u).length ≤ 5 := fun w => Nat.le_trans (arrF_len n w) (by omega)
    generalize growGo (arrF n) i = F at nF lF' hwl hsucc hfb
    refine q_asgN (PA := NL K []) (en_lst (ds := []) ea_nil (by decide)) fun la H2 hla e2 n2 => ?_
    have hlaH : H la = none := fresh_back e hla
    refine q_forN (ds := wds F) (en_listL (ed_var rfl (nF.mono e2).dp))
      (fun q xs m σ' H' => ∃ la z5 z6, σ' = [some vn, some (.ref fa), some (.int (i : Int)), some (.ref la), z5, z6] ∧ Ex H2 H' ∧ H' q = some (.lst xs) ∧ DpAll K H' xs (wds F) ∧ H la = none ∧ NL K (wds ((F.take m).flatMap (arrF n))) H' la)
      (fun q xs H3 hq e3 hq3 al3 => ⟨la, _, _, rfl, e3, hq3, al3, hlaH, n2.mono e3⟩) (fun q xs m σ' H' ⟨_, _, _, _, _, h, _⟩ => h) (fun q xs m x σ' H' hlx hm h => ?_) (fun q xs σ' H' h => ?_)
    · obtain ⟨la, z5, z6, rfl, e3, hq3, al3, hla, n3⟩ := h
      have hm' : m < F.length := by
        have := (List.getElem?_eq_some_iff.mp hm).1
        rw [hlx, List.length_map] at this
        exact this
      have hFm : F[m]? = some F[m] := List.getElem?_eq_getElem hm'
      have py : Dp K H' x (wd F[m]) := by
        obtain ⟨v, a1, a2⟩ := dpAll_at al3 (i := m) (d := wd F[m]) (by rw [List.getElem?_map, hFm] <;> rfl)
        rw [hm] at a1
        cases a1
        exact a2
      have hu := hwl _ (List.getElem_mem hm')
      have hfl := flat_snoc (f := (arrF n)) hFm
      have hb := hfb m
      generalize F[m] = u at py hu hfl
      have hu5 := hf1 u
      obtain ⟨ys, hy, dy⟩ := n3
      refine s_asgN (PA := NL K (wds ((F.take m).flatMap (arrF n) ++ (arrF n) u))) (EvN.is (en_catV (ds := wds ((F.take m).flatMap (arrF n))) (es := wds ((arrF n) u)) (p := la) (xs := ys) (ex_var rfl) hy dy (EvN.is (en_lcR (n := (n : Int)) (fun a => !decide ((a : Int) ∈ u)) (fun a => wd (u ++ [(a : Int)])) (fun _ => tOnly_wd _) (ea_cons (ed_var rfl (dp_mono ((e.trans e2).trans e3) pn)) ea_nil) ⟨by omega, by omega⟩ (fun _ => rfl) (fun a H5 e5 ha => eb_test (K := K) (ed_notInT (ed_var rfl (.int _)) (ed_var rfl (dp_mono e5 py)))) (fun a H5 e5 ha _ => EvP.is (ed_catT (ed_var rfl (dp_mono e5 py)) (ed_tup (ds := [.int (a : Int)]) (ea_cons (ed_var rfl (.int _)) ea_nil) (by show 1 ≤ 100000; decide)) (by rw [List.length_map, hu]; show i + 1 ≤ 100000; omega)) (by show PyData.tuple _ = PyData.tuple _; rw [List.map_append] <;> rfl))) (by rw [Int.toNat_natCast]; unfold arrF wds; rw [List.map_map] <;> rfl)) ?_) ?_) fun lb H4 hlb e4 n4 => ⟨lb, _, _, rfl, e3.trans e4, e4 _ _ hq3, dpAll_mono e4 al3, fresh_back ((e.trans e2).trans e3) hlb, by rw [hfl]; exact n4⟩
      · rw [List.length_map, List.length_map]
        omega
      · unfold wds
        rw [List.map_append]
    · obtain ⟨la, z5, z6, rfl, e3, hq3, al3, hla, n3⟩ := h
      have hFl : F.take (wds F).length = F := by
        rw [List.length_map, List.take_length]
      rw [hFl, ← hsucc] at n3
      refine s_asg (P := XP (.ref la)) (ex_var rfl) fun v H4 e4 hv => ?_
      have hv' : v = .ref la := hv
      subst hv'
      exact ⟨la, _, _, _, _, rfl, ((e.trans e2).trans e3).trans e4, hla, n3.mono e4⟩
  · obtain ⟨fa, z3, z4, z5, z6, rfl, e, hfa, nF⟩ := h
    rw [Int.toNat_natCast] at nF
    exact s_ret (P := fun H v => v = .ref fa ∧ NL K (wds (arrM n)) H fa) (fun H1 e1 Q q => ⟨_, rfl, q _ H1 (Ex.refl _) ⟨rfl, nF.mono e1⟩⟩) fun v H2 e2 ⟨hv, hq⟩ => by
      subst hv
      exact k fa H2 hfa (e.trans e2) hq
end
end WK

set_option Elab.async false
set_option linter.all false
set_option maxRecDepth 100000
set_option maxHeartbeats 4000000
/-! A dict display with one tuple key; carried, doubled, table. -/
namespace WK
open PySem PySem.Spec PyProof.Rows L2 WM
open Evl (Ex ex_l ex_t ex_rd sq_of st_of sz_of sz_lt fresh_back rLenS rListS)
def tDispT1 (tk tv : TE) : TE := fun σ H Q => ∀ p, H p = none → tk σ (upd H p (.dT [])) fun x H1 => tv σ H1 fun y H2 => H2 p = some (.dT []) ∧ ∃ (ks : List Key) (b : Addr), x = .ref b ∧ H2 b = some (.tup (ks.map kV)) ∧ Q (.ref p) (upd H2 p (.dT [(ks, y)]))
theorem pe_dispT1 {X : Cx} {k v : Expr} {tk tv : TE} {pos : Pos} (hu : X.A.units + 1 < cLine) (hk : PE X k tk) (hv : PE X v tv) : PE X (.Dict [some k] [v] pos) (tDispT1 tk tv) := by
  refine ⟨fun pins s σ H Q I q => ?_⟩
  have hn := I.hok.fresh (Nat.le_refl s.heap.objs.size)
  have I1 := I.laid (a := s.heap.objs.size) (o := .dT []) (h' := s.heap.push { cls := .type "dict", data := .dict #[] }) (t' := s.toks) (fun _ _ q => Heap.get?_push_of_some _ q) (Nat.le_refl _) (dt_empty s.heap I.big)
  have hpp : PPs X pos [some k] [v] [(tk, tv)] := pps_cons hk hv pps_nil
  have hz := zip_pairTrees [some k] [v] X.env pos rfl rfl
  have hl : (pairTrees [some k] [v] X.env pos).length = 1 := pairTrees_length [some k] [v] X.env pos rfl rfl
  have h0 : pairTrees [some k] [v] X.env pos ≠ [] := fun e => by rw [e] at hl; cases hl
  rw [arm_eval_Dict, hz, dictDisplay_pairs (pairTrees [some k] [v] X.env pos) h0 (by omega)]
  refine wpAny_bind (wpAny_standAt (wpAny_bind (wpAny_subDictH (knd := tupleKind (mixKind X.prog X.w)) (Q := fun d s' => wpAny (model X.prog X.w) X.A (pure (Value.ref d)) (EP X pins σ Q) X.xe s') (show X.A.units < cLine by omega) (by omega) ?_)))
  refine thn (hpp.run pins _ σ _ (fun ps H2 => match ps with
    | [(x, y)] => H2 s.heap.objs.size = some (.dT []) ∧ ∃ (ks : List Key) (b : Addr), x = .ref b ∧ H2 b = some (.tup (ks.map kV)) ∧ Q (.ref s.heap.objs.size) (upd H2 s.heap.objs.size (.dT [(ks, y)]))
    | _ => False) I1 (q _ hn)) fun ws s2 ⟨ps, H2, I2, rel, hq2⟩ => ?_
  match ps, hq2, rel with
  | [(x, y)], ⟨e, ks, b, ex, eb, q2⟩, rel =>
    subst ex
    cases rel with
    | @cons p q ps qs hpq rest =>
      cases rest
      obtain ⟨r1, r2⟩ := hpq
      obtain ⟨qa, qb⟩ := q
      cases (show qa = Value.ref b from r1)
      obtain ⟨z, hd, xs, r0, dd⟩ := dt_of I2.hok e
      cases r0
      refine ⟨[(ks, b, qb)], ⟨rfl, rfl, key_of I2.hok eb, trivial⟩, dd, fun h' tk dd' hs => wpAny_pure ?_⟩
      obtain ⟨o, es, ep, hq, h2, h3, h4, _, h5⟩ := dd'
      have hKT : KT H2 (putK [] ks y) (storedH [] ks b qb) := (show KT H2 [] [] from .nil).put ks eb r2
      refine ⟨.ref s.heap.objs.size, _, d_write (ob := .dT [(ks, y)]) I2 (by rw [e]; exact True.intro) hs ⟨o, hq⟩ ⟨by show 1 ≤ sizeLine; rw [sizeLine_eq]; omega, hd, _, hKT.keeps fun c ys ec => ?_, o, es, ep, hq, h2, h3, h4, h5⟩, rfl, q2⟩
      rw [upd_ne (ne_of ec e (fun z => nomatch z))]
      exact ec
def rListDT : List V → Hp → VK → Prop := fun xs H Q => ∃ d kvs, xs = [V.ref d] ∧ Rd H d (.dT kvs) ∧ ∀ p bs, H p = none → IsKeys H kvs bs → Q (.ref p) (upd H p (.lst (bs.map V.ref)))
theorem call_list_dT1 {X : Cx} (hc : X.calm = true) : CallR X (.type "list") rListDT := call_list_dT hc
section
variable {K : PySem.W.Frag} {σ : L2.St} {H H' : Hp} {ta tb tc te td ty tv tk : TE} {P : VP} {D : Ends} {tz : TS} {d : PyData}
theorem en_dispT1 {k x : W} (hk : EvD K tk σ H (wd k)) (hv : EvD K tv σ H (wd x)) : EvN (tDispT1 tk tv) σ H (DT K [(k, x)]) := fun H1 e Q q p hp =>
  hk _ (e.trans (ex_of_new hp)) _ fun y H2 e2 p1 => hv H2 ((e.trans (ex_of_new hp)).trans e2) _ fun z H3 e3 p2 => by
    obtain ⟨b, rfl, hb⟩ := dp_wdX p1
    have h3 : H3 p = some (.dT []) := e3 _ _ (e2 _ _ upd_same)
    refine ⟨h3, kk k, b, rfl, by rw [kk_map]; exact e3 _ _ hb, q p _ hp (Ex.mut (((ex_of_new hp).trans e2).trans e3) hp) ⟨[(kk k, z)], upd_same, ⟨rfl, dp_upd (fun xs q => by rw [h3] at q; cases q) (tOnly_wd _) p2⟩, trivial⟩⟩
theorem keys_dp : ∀ {kvs : List (List Key × V)} {t : Tab} {bs : List Addr}, KTab K H kvs t → IsKeys H kvs bs → DpAll K H (bs.map V.ref) (wds (t.map (·.1)))
  | [], [], _, _, .nil => .nil
  | kv :: kvs, e :: t, _, h, .cons hb r => .cons (dp_of_wd (by rw [← kk_map, ← h.1.1]; exact hb)) (keys_dp h.2 r)
  | [], _ :: _, _, h, _ => h.elim
  | _ :: _, [], _, h, _ => h.elim
theorem en_listDT {p : Addr} {t : Tab} (hx : EvP td σ H (XP (.ref p))) (hd : DT K t H p) : EvN (tCB rListDT (tCons td tNil)) σ H (NL K (wds (t.map (·.1)))) := en_cb (ea_cons hx ea_nil) fun vs H1 e1 ps Q q => by
  obtain ⟨a, rfl, ha⟩ := allP1 ps
  have ha' : a = .ref p := ha
  subst ha'
  obtain ⟨kvs, h1, h2⟩ := hd.mono e1
  exact ⟨p, kvs, rfl, .inl h1, fun l bs hl hk => q l _ hl (ex_of_new hl) ⟨_, upd_same, dpAll_mono (ex_of_new hl) (keys_dp h2 hk)⟩⟩
theorem DT.updT {t : Tab} {p l : Addr} {kvs : List (List Key × V)} {o : HO} (hn : p ≠ l) (hl : H l = some (.dT kvs)) (h : DT K t H p) : DT K t (upd H l o) p := by
  obtain ⟨kv, h1, h2⟩ := h
  exact ⟨kv, by rw [upd_ne hn]; exact h1, h2.keep fun d v hd q => dp_upd (fun xs q => by rw [hl] at q; cases q) hd q⟩
end
/-! ### the table -/
def putsM (p : Int) (row img : W) (w x : W) (m : Nat) (t : Tab) : Tab := (List.range m).foldl (fun t (a : Nat) => tabPut t (addM w (scaleM row (a : Int) p) p) (addM x (scaleM img (a : Int) p) p)) t
def tabStepGo (p : Int) (row img : W) (found : Tab) (ws : List W) : Tab := ws.foldl (fun t w => putsM p row img w ((tabGet found w).getD []) p.toNat t) []
def tabStep (p : Int) (found : Tab) (ri : W × W) : Tab := tabStepGo p ri.1 ri.2 found (found.map (·.1))
def tableM (p : Int) (n : Nat) (rows imgs : List W) : Tab := (List.zip rows imgs).foldl (tabStep p) [(zeroM n, zeroM n)]
abbrev tblGo (p : Int) (n : Nat) (rows imgs : List W) (i : Nat) : Tab := ((List.zip rows imgs).take i).foldl (tabStep p) [(zeroM n, zeroM n)]
def TabW (p : Int) (n : Nat) (t : Tab) : Prop := ∀ e ∈ t, WOk p n e.1 ∧ WOk p n e.2
theorem TabW.put {p : Int} {n : Nat} {t : Tab} (h : TabW p n t) {k v : W} (hk : WOk p n k) (hv : WOk p n v) : TabW p n (tabPut t k v) := by
  unfold tabPut
  split
  · intro e he
    obtain ⟨e0, h0, rfl⟩ := List.mem_map.mp he
    by_cases hq : e0.1 = k
    · simp only [hq, if_true]
      exact ⟨hk, hv⟩
    · simp only [hq, if_false]
      exact h e0 h0
  · intro e he
    rcases List.mem_append.mp he with he | he
    · exact h e he
    · rw [List.mem_singleton.mp he]
      exact ⟨hk, hv⟩
theorem tabGet_mem {t : Tab} {w : W} (h : w ∈ t.map (·.1)) : ∃ x, tabGet t w = some x ∧ (w, x) ∈ t := by
  obtain ⟨e, he, rfl⟩ := List.mem_map.mp h
  unfold tabGet
  cases hf : t.find? (fun e' => decide (e'.1 = e.1)) with
  | none =>
    rw [List.find?_eq_none] at hf
    exact absurd (hf e he) (by simp)
  | some e' =>
    have h1 : e'.1 = e.1 := by simpa using List.find?_some hf
    refine ⟨e'.2, rfl, ?_⟩
    have := List.mem_of_find?_eq_some hf
    rw [← h1]
    exact this
theorem putsM_ok {p : Int} {n : Nat} {row img w x : W} (hp : 0 < p) (hr : row.length = n) (hi : img.length = n) (hw : w.length = n) (hx : x.length = n) {t : Tab} (ht : TabW p n t) : ∀ m, TabW p n (putsM p row img w x m t) ∧ (putsM p row img w x m t).length ≤ t.length + m
  | 0 => ⟨ht, Nat.le_refl _⟩
  | m + 1 => by
    obtain ⟨h1, h2⟩ := putsM_ok hp hr hi hw hx ht m
    have e : putsM p row img w x (m + 1) t = tabPut (putsM p row img w x m t) (addM w (scaleM row (m : Int) p) p) (addM x (scaleM img (m : Int) p) p) := by
      unfold putsM
      rw [List.range_succ, List.foldl_append] <;> rfl
    rw [e]
    refine ⟨h1.put (wok_add hp hw (by rw [scaleM_len, hr])) (wok_add hp hx (by rw [scaleM_len, hi])), ?_⟩
    have := tabPut_len (putsM p row img w x m t) (addM w (scaleM row (m : Int) p) p) (addM x (scaleM img (m : Int) p) p)
    omega
theorem putsM_succ (p : Int) (row img w x : W) (m : Nat) (t : Tab) : putsM p row img w x (m + 1) t = tabPut (putsM p row img w x m t) (addM w (scaleM row (m : Int) p) p) (addM x (scaleM img (m : Int) p) p) := by
  unfold putsM
  rw [List.range_succ, List.foldl_append] <;> rfl
theorem stepGo_ok {p : Int} {n : Nat} {row img : W} {found : Tab} (hp : 0 < p) (hr : row.length = n) (hi : img.length = n) (hf : TabW p n found) : ∀ ws, (∀ w ∈ ws, w ∈ found.map (·.1)) → TabW p n (tabStepGo p row img found ws) ∧ (tabStepGo p row img found ws).length ≤ ws.length * p.toNat := by
  intro ws
  have key : ∀ (ws : List W) (t : Tab), TabW p n t → (∀ w ∈ ws, w ∈ found.map (·.1)) → TabW p n (ws.foldl (fun t w => putsM p row img w ((tabGet found w).getD []) p.toNat t) t) ∧ (ws.foldl (fun t w => putsM p row img w ((tabGet found w).getD []) p.toNat t) t).length ≤ t.length + ws.length * p.toNat := by
    intro ws
    induction ws with
    | nil => intro t ht _; exact ⟨ht, by simp⟩
    | cons w ws ih =>
      intro t ht hw
      obtain ⟨x, hx, hm⟩ := tabGet_mem (hw w List.mem_cons_self)
      have hwx := hf _ hm
      have q := putsM_ok hp hr hi hwx.1.1 hwx.2.1 ht p.toNat
      have e : (tabGet found w).getD [] = x := by rw [hx] <;> rfl
      obtain ⟨a, b⟩ := ih (putsM p row img w ((tabGet found w).getD []) p.toNat t) (by rw [e]; exact q.1) fun u hu => hw u (List.mem_cons_of_mem _ hu)
      refine ⟨a, Nat.le_trans b ?_⟩
      have q2 := q.2
      rw [← e] at q2
      rw [List.length_cons, Nat.succ_mul]
      refine Nat.le_trans (Nat.add_le_add_right q2 _) ?_
      omega
  intro hw
  obtain ⟨a, b⟩ := key ws [] (fun e he => absurd he List.not_mem_nil) hw
  exact ⟨a, by simpa [tabStepGo] using b⟩
theorem tblGo_ok {p : Int} {n : Nat} {rows imgs : List W} (hp : 0 < p) (hp5 : p ≤ 5) (hr : ∀ r ∈ rows, r.length = n) (hi : ∀ r ∈ imgs, r.length = n) (hl : imgs.length = rows.length) : ∀ i, i ≤ rows.length → TabW p n (tblGo p n rows imgs i) ∧ (tblGo p n rows imgs i).length ≤ 5 ^ i
  | 0, _ => ⟨fun e he => by
    have e' : e = (zeroM n, zeroM n) := by simpa [tblGo] using he
    rw [e']
    exact ⟨zero_ok hp n, zero_ok hp n⟩, Nat.le_refl _⟩
  | i + 1, h => by
    obtain ⟨a, b⟩ := tblGo_ok hp hp5 hr hi hl i (by omega)
    have hri : rows[i]? = some rows[i] := List.getElem?_eq_getElem (by omega)
    have hii : imgs[i]? = some (imgs[i]'(by omega)) := List.getElem?_eq_getElem (by omega)
    have e : tblGo p n rows imgs (i + 1) = tabStep p (tblGo p n rows imgs i) (rows[i], imgs[i]'(by omega)) := by
      unfold tblGo
      rw [zip_take_snoc hri hii, List.foldl_append] <;> rfl
    rw [e]
    obtain ⟨c, d⟩ := stepGo_ok (row := rows[i]) (img := imgs[i]'(by omega)) hp (hr _ (List.getElem_mem (by omega))) (hi _ (List.getElem_mem (by omega))) a ((tblGo p n rows imgs i).map (·.1)) fun w hw => hw
    refine ⟨c, Nat.le_trans d ?_⟩
    rw [List.length_map, Nat.pow_succ]
    exact Nat.mul_le_mul b (by omega)
section
variable {P : Program} {w : World} {K : PySem.W.Frag} {mg : Str → Option Value} {base : Heap}
def sp_law_table (K : PySem.W.Frag) : Sp := spNew (fun x : List W × List W × Nat × Int => [DP K (.tuple (wds x.1)), DP K (.tuple (wds x.2.1)), DP K (.int (x.2.2.1 : Int)), DP K (.int x.2.2.2)])
  (fun x => Pr x.2.2.2 ∧ x.2.1.length = x.1.length ∧ x.1.length ≤ 4 ∧ x.2.2.1 ≤ 5 ∧ (∀ r ∈ x.1, WOk x.2.2.2 x.2.2.1 r) ∧ ∀ r ∈ x.2.1, WOk x.2.2.2 x.2.2.1 r) (fun x => DT K (tableM x.2.2.2 x.2.2.1 x.1 x.2.1))
theorem ok_law_table (T : Txt K mg) : FnOk P w K mg base CX0 2 T.law_table.f T.law_table.fd ["_law_rows_here", "_law_images", "_law_n", "_law_p"] (sp_law_table K) := by
  refine T.law_table.F.ok sc_law_table (fun vs H Q E h => spNew_len (n := 4) (fun _ => rfl) h) (fun cdv A outer s H vs Q E hr h => ?_)
  obtain ⟨⟨rows, imgs, n, p⟩, ps, ⟨hp, hl, hk4, hn, hr1, hi1⟩, k⟩ := h
  dsimp only at ps hp hl hk4 hn hr1 hi1 k
  obtain ⟨vr, vi, vn, vp, rfl, pr, pi, pn, pp⟩ := allP4 ps
  have h5 := pr_pos hp
  have hpp : 0 < p := by omega
  refine ⟨_, (pss_cons (ps_set (i := 4) sc_law_table.nd rfl (Or.inl rfl) (pe_dispT1 (hu_of hr) (pe_callTy (kc_tuple K) (by rfl) T.z_tuple (by decide +kernel) (pa_cons (pe_lc (own := [("_law_k", 5)]) (g := gName 5) rfl sc_law_table.nd (pi_range1 (by rfl) T.z_range (pa_cons (pv 2) pa_nil)) (blkOk_by (own := [("_law_k", 5)]) (N := N_law_table) (sc := (defScope s_law_table)) (by decide +kernel)) (fun _ _ _ _ _ => pg_name (i := 5) sc_law_table.nd rfl (Or.inl rfl)) (fun _ _ _ _ _ => pts_nil) (fun _ _ _ _ _ => pe_int)) pa_nil)) (pe_callTy (kc_tuple K) (by rfl) T.z_tuple (by decide +kernel) (pa_cons (pe_lc (own := [("_law_k", 5)]) (g := gName 5) rfl sc_law_table.nd (pi_range1 (by rfl) T.z_range (pa_cons (pv 2) pa_nil)) (blkOk_by (own := [("_law_k", 5)]) (N := N_law_table) (sc := (defScope s_law_table)) (by decide +kernel)) (fun _ _ _ _ _ => pg_name (i := 5) sc_law_table.nd rfl (Or.inl rfl)) (fun _ _ _ _ _ => pts_nil) (fun _ _ _ _ _ => pe_int)) pa_nil))))
      (pss_cons (ps_for PassesOwn.never rfl (pi_range1 (by rfl) T.z_range (pa_cons (pe_callB (kc_len K) (by rfl) T.z_len PySem.boot_len (pa_cons (pv 0) pa_nil)) pa_nil)) (pg_name (i := 5) sc_law_table.nd rfl (Or.inl rfl)) (pss_cons (ps_set (i := 6) sc_law_table.nd rfl (Or.inl rfl) pe_dnewT)
      (pss_cons (ps_for PassesOwn.never rfl (kpi_list K (pe_callTy (call_list_dT1 rfl) (by rfl) T.z_list (by decide +kernel) (pa_cons (pv 4) pa_nil))) (pg_name (i := 7) sc_law_table.nd rfl (Or.inl rfl)) (pss_one (ps_for PassesOwn.never rfl (pi_range1 (by rfl) T.z_range (pa_cons (pv 3) pa_nil)) (pg_name (i := 8) sc_law_table.nd rfl (Or.inl rfl)) (pss_cons (ps_set (i := 9) sc_law_table.nd rfl (Or.inl rfl) (pe_call (ok_law_sum T) (hr.mono (by decide)) (by rfl) T.law_sum.g T.law_sum.F.kp T.law_sum.b .nil pass0 (pa_cons (pv 7) (pa_cons (pe_call (ok_law_scaled T) (hr.mono (by decide)) (by rfl) T.law_scaled.g T.law_scaled.F.kp T.law_scaled.b .nil pass0 (pa_cons (pe_ix (kx_tup K) (pv 0) (pv 5) (fun _ _ => rfl)) (pa_cons (pv 8) (pa_cons (pv 3) pa_nil)))) (pa_cons (pv 3) pa_nil)))))
      (pss_one (ps_dput (hu_of hr) (pv 6) (pv 9) (pe_call (ok_law_sum T) (hr.mono (by decide)) (by rfl) T.law_sum.g T.law_sum.F.kp T.law_sum.b .nil pass0 (pa_cons (pe_dget (hu_of hr) (pv 4) (pv 7) (fun _ _ => rfl)) (pa_cons (pe_call (ok_law_scaled T) (hr.mono (by decide)) (by rfl) T.law_scaled.g T.law_scaled.F.kp T.law_scaled.b .nil pass0 (pa_cons (pe_ix (kx_tup K) (pv 1) (pv 5) (fun _ _ => rfl)) (pa_cons (pv 8) (pa_cons (pv 3) pa_nil)))) (pa_cons (pv 3) pa_nil)))) rfl))))))
      (pss_one (ps_set (i := 4) sc_law_table.nd rfl (Or.inl rfl) (pv 6))))))
      (pss_one (ps_ret (pv 4))))), ?_⟩
  have zE : ∀ {H1 : Hp} {te : TE}, Ex H H1 → te = tCB (rTupS K) (tCons (tLc (iRng1 (tCons (tVar 2) tNil)) (gName 5) tYes (tC (.int 0)) [5]) tNil) → EvD K te (start N_law_table [vr, vi, vn, vp]) H1 (wd (zeroM n)) := fun {H1 te} e1 hte => by
    rw [hte]
    refine ed_tupL (tOnly_ints _) (EvN.ls (EvN.is (en_lcR (n := (n : Int)) (fun _ => true) (fun _ => .int 0) (fun _ => rfl) (ea_cons (ed_var rfl (dp_mono e1 pn)) ea_nil) ⟨by omega, by omega⟩ (fun _ => rfl) (fun _ _ _ _ => eb_yes) (fun i H2 e2 hi _ => ed_int)) ?_))
    rw [filter_yes, Int.toNat_natCast]
    unfold zeroM
    rw [List.map_replicate, List.map_const', List.length_range]
  refine q_asgN (PA := DT K [(zeroM n, zeroM n)]) (en_dispT1 (zE (Ex.refl _) rfl) (zE (Ex.refl _) rfl)) fun fa H1 hfa e1 d1 => ?_
  have el : EvD K _ _ H1 _ := ed_lenT (ed_var (σ := (start N_law_table [vr, vi, vn, vp]).set 4 (some (.ref fa))) (n := 0) rfl (dp_mono e1 pr))
  rw [List.length_map] at el
  refine q_forR (n := (rows.length : Int)) (ea_cons el ea_nil) ⟨by omega, by omega⟩
    (fun i σ' H' => ∃ fa z5 z6 z7 z8 z9, σ' = [some vr, some vi, some vn, some vp, some (.ref fa), z5, z6, z7, z8, z9] ∧ Ex H H' ∧ H fa = none ∧ DT K (tblGo p n rows imgs i) H' fa)
    (fun H2 e2 => ⟨fa, _, _, _, _, _, rfl, e1.trans e2, hfa, d1.mono e2⟩) (fun i σ' H' hi h => ?_) (fun σ' H' h => ?_)
  · obtain ⟨fa, z5, z6, z7, z8, z9, rfl, e, hfa, dF⟩ := h
    have hi' : i < rows.length := by omega
    have hri : rows[i]? = some rows[i] := List.getElem?_eq_getElem hi'
    have hii : imgs[i]? = some (imgs[i]'(by omega)) := List.getElem?_eq_getElem (by omega)
    have wr := hr1 _ (List.getElem_mem hi')
    have wi := hi1 _ (List.getElem_mem (show i < imgs.length by omega))
    obtain ⟨tF, lF⟩ := tblGo_ok (p := p) (n := n) (rows := rows) (imgs := imgs) hpp (by omega) (fun r hr => (hr1 r hr).1) (fun r hr => (hi1 r hr).1) hl i (by omega)
    have lF2 : (tblGo p n rows imgs i).length ≤ 625 := Nat.le_trans lF (pow5 (Nat.le_refl 5) (by omega))
    have hsucc : tblGo p n rows imgs (i + 1) = tabStep p (tblGo p n rows imgs i) (rows[i], imgs[i]'(by omega)) := by
      unfold tblGo
      rw [zip_take_snoc hri hii, List.foldl_append] <;> rfl
    generalize tblGo p n rows imgs i = F at dF tF lF lF2 hsucc
    generalize rows[i] = row at hri wr hsucc
    generalize imgs[i]'(by omega) = img at hii wi hsucc
    refine q_asgN (PA := fun H p => H p = some (.dT [])) en_dnewT fun wa H2 hwa e2 hw2 => ?_
    have hwaH : H wa = none := fresh_back e hwa
    have nfw : fa ≠ wa := fun q => by
      obtain ⟨kv, h⟩ := dF.at
      rw [q, hwa] at h
      cases h
    refine q_forN (ds := wds (F.map (·.1))) (en_listDT (ex_var rfl) (dF.mono e2))
      (fun q xs m σ' H' => ∃ z7 z8 z9, σ' = [some vr, some vi, some vn, some vp, some (.ref fa), some (.int (i : Int)), some (.ref wa), z7, z8, z9] ∧ Ex H H' ∧ H' q = some (.lst xs) ∧ DpAll K H' xs (wds (F.map (·.1))) ∧ DT K F H' fa ∧ DT K (tabStepGo p row img F ((F.map (·.1)).take m)) H' wa)
      (fun q xs H3 hq e3 hq3 al3 => ⟨_, _, _, rfl, (e.trans e2).trans e3, hq3, al3, dF.mono (e2.trans e3), ⟨[], e3 _ _ hw2, trivial⟩⟩) (fun q xs m σ' H' ⟨_, _, _, _, _, h, _⟩ => h) (fun q xs m x σ' H' hlx hm h => ?_) (fun q xs σ' H' h => ?_)
    · obtain ⟨z7, z8, z9, rfl, e3, hq3, al3, dF3, dW3⟩ := h
      have hm' : m < (F.map (·.1)).length := by
        have := (List.getElem?_eq_some_iff.mp hm).1
        rw [hlx, List.length_map] at this
        exact this
      have hFm : (F.map (·.1))[m]? = some ((F.map (·.1))[m]) := List.getElem?_eq_getElem hm'
      have py : Dp K H' x (wd ((F.map (·.1))[m])) := by
        obtain ⟨v, a1, a2⟩ := dpAll_at al3 (i := m) (d := wd ((F.map (·.1))[m])) (by rw [List.getElem?_map, hFm] <;> rfl)
        rw [hm] at a1
        cases a1
        exact a2
      have hmem := List.getElem_mem hm'
      have hgo : tabStepGo p row img F ((F.map (·.1)).take (m + 1)) = putsM p row img ((F.map (·.1))[m]) ((tabGet F ((F.map (·.1))[m])).getD []) p.toNat (tabStepGo p row img F ((F.map (·.1)).take m)) := by
        unfold tabStepGo
        rw [take_snoc hFm, List.foldl_append] <;> rfl
      obtain ⟨tG, lG⟩ := stepGo_ok (row := row) (img := img) hpp wr.1 wi.1 tF ((F.map (·.1)).take m) fun w hw => List.mem_of_mem_take hw
      rw [hgo]
      obtain ⟨y, hy, hym⟩ := tabGet_mem hmem
      rw [hy]
      have wyx := tF _ hym
      generalize (F.map (·.1))[m] = u at py hy hym wyx hmem
      have lG2 : (tabStepGo p row img F ((F.map (·.1)).take m)).length ≤ 625 * 5 := by
        refine Nat.le_trans lG (Nat.mul_le_mul ?_ (by omega))
        rw [List.length_take, List.length_map]
        omega
      generalize tabStepGo p row img F ((F.map (·.1)).take m) = G at dW3 tG lG2
      show tFor _ _ _ _ _ _
      refine s_forR (n := p) (ea_cons (ed_var rfl (dp_mono e3 pp)) ea_nil) ⟨by omega, by omega⟩
        (fun a σ'' H'' => ∃ z8 z9, σ'' = [some vr, some vi, some vn, some vp, some (.ref fa), some (.int (i : Int)), some (.ref wa), some x, z8, z9] ∧ Ex H H'' ∧ H'' q = some (.lst xs) ∧ DpAll K H'' xs (wds (F.map (·.1))) ∧ DT K F H'' fa ∧ Dp K H'' x (wd u) ∧ DT K (putsM p row img u y a G) H'' wa)
        (fun H4 e4 => ⟨_, _, rfl, e3.trans e4, e4 _ _ hq3, dpAll_mono e4 al3, dF3.mono e4, dp_mono e4 py, dW3.mono e4⟩) (fun a σ'' H'' ha h => ?_) (fun σ'' H'' h => ?_)
      · obtain ⟨z8, z9, rfl, e4, hq4, al4, dF4, py4, dW4⟩ := h
        have lP := (putsM_ok hpp wr.1 wi.1 wyx.1.1 wyx.2.1 tG a).2
        refine q_asg (P := DP K (wd (addM u (scaleM row (a : Int) p) p))) (ev_call (ι := W × W × Int) (u, scaleM row (a : Int) p, p) ⟨by show (scaleM row _ _).length = u.length; rw [scaleM_len, wr.1, wyx.1.1], by show u.length ≤ 1000; rw [wyx.1.1]; omega, hpp⟩
          (ea_cons (ed_var rfl py4) (ea_cons (ev_call (ι := W × Int × Int) (row, (a : Int), p) ⟨by show row.length ≤ 1000; rw [wr.1]; omega, by show -1000 ≤ (a : Int); omega, by show (a : Int) ≤ 1000; omega, hpp⟩
            (ea_cons (ed_ixT (at_wd hri rfl) (ed_var rfl (dp_mono e4 pr)) (ed_var rfl (.int _))) (ea_cons (ed_var rfl (.int _)) (ea_cons (ed_var rfl (dp_mono e4 pp)) ea_nil)))) (ea_cons (ed_var rfl (dp_mono e4 pp)) ea_nil)))) fun vk H5 e5 pk => ?_
        refine s_dputT (t := putsM p row img u y a G) (k := addM u (scaleM row (a : Int) p) p) (x := addM y (scaleM img (a : Int) p) p) (dW4.mono e5) (Nat.lt_of_le_of_lt lP (by omega)) (ev_call (ι := W × W × Int) (y, scaleM img (a : Int) p, p) ⟨by show (scaleM img _ _).length = y.length; rw [scaleM_len, wi.1, wyx.2.1], by show y.length ≤ 1000; rw [wyx.2.1]; omega, hpp⟩
          (ea_cons (ed_dgetT (dF4.mono e5) hy (ex_var rfl) (ed_var rfl (dp_mono e5 py4))) (ea_cons (ev_call (ι := W × Int × Int) (img, (a : Int), p) ⟨by show img.length ≤ 1000; rw [wi.1]; omega, by show -1000 ≤ (a : Int); omega, by show (a : Int) ≤ 1000; omega, hpp⟩
            (ea_cons (ed_ixT (at_wd hii rfl) (ed_var rfl (dp_mono (e4.trans e5) pi)) (ed_var rfl (.int _))) (ea_cons (ed_var rfl (.int _)) (ea_cons (ed_var rfl (dp_mono (e4.trans e5) pp)) ea_nil)))) (ea_cons (ed_var rfl (dp_mono (e4.trans e5) pp)) ea_nil)))) (ex_var rfl) (ed_var rfl pk) fun o H6 e6 nt q6 => ?_
        have E6 := e5.trans e6
        obtain ⟨kv6, hw6⟩ := (dW4.mono E6).at
        refine ⟨_, _, rfl, Ex.mut (e4.trans E6) hwaH, ?_, dpAll_upd nt (tOnly_wds _) (dpAll_mono E6 al4), (dF4.mono E6).updT nfw hw6, dp_upd nt (tOnly_wd _) (dp_mono E6 py4), ?_⟩
        · rw [upd_ne (fun z => by
            have := E6 _ _ hq4
            rw [z, hw6] at this
            cases this)]
          exact E6 _ _ hq4
        · rw [putsM_succ]
          exact q6
      · obtain ⟨z8, z9, rfl, e4, hq4, al4, dF4, py4, dW4⟩ := h
        exact ⟨_, _, _, rfl, e4, hq4, al4, dF4, dW4⟩
    · obtain ⟨z7, z8, z9, rfl, e3, hq3, al3, dF3, dW3⟩ := h
      have hFl : (F.map (·.1)).take (wds (F.map (·.1))).length = F.map (·.1) := by
        rw [List.length_map (as := F.map (·.1)), List.take_length]
      rw [hFl] at dW3
      refine s_asg (P := XP (.ref wa)) (ex_var rfl) fun v H4 e4 hv => ?_
      have hv' : v = .ref wa := hv
      subst hv'
      refine ⟨wa, _, _, _, _, _, rfl, e3.trans e4, hwaH, ?_⟩
      rw [hsucc]
      exact dW3.mono e4
  · obtain ⟨fa, z5, z6, z7, z8, z9, rfl, e, hfa, dF⟩ := h
    have ht : tblGo p n rows imgs ((rows.length : Int)).toNat = tableM p n rows imgs := by
      unfold tblGo tableM
      rw [List.take_of_length_le (by rw [List.length_zip]; omega)]
    rw [ht] at dF
    exact s_ret (P := fun H v => v = .ref fa ∧ DT K (tableM p n rows imgs) H fa) (ev_var rfl ⟨rfl, dF⟩) fun v H2 e2 ⟨hv, hq⟩ => by
      subst hv
      exact k fa H2 hfa (e.trans e2) hq
end
end WK

set_option Elab.async false
set_option linter.all false
set_option maxRecDepth 100000
set_option maxHeartbeats 4000000
/-! carried, doubled, refuses; the drawn numbers. -/
namespace WK
open PySem PySem.Spec PyProof.Rows L2 WM
open Evl (Ex ex_l ex_t ex_rd sq_of st_of sz_of sz_lt fresh_back rLenS rListS)
def dblB (n : Nat) (pl : W) : Bool := decide (0 < ((List.range n).filter fun k => decide (pl.getD k 0 ∈ pl.take k)).length)
def doubM (n : Nat) : List W := (allM n n).filter (dblB n)
theorem allM_wl (n p : Nat) : ∀ w ∈ allM n p, w.length = n := grow_wl (f := allF p) (fun w u hu => by
  unfold allF at hu
  obtain ⟨a, _, rfl⟩ := List.mem_map.mp hu
  rw [List.length_append] <;> rfl) n
theorem allM_few {n p : Nat} (hn : n ≤ 4) (hp : p ≤ 5) : (allM n p).length ≤ 625 := Nat.le_trans (grow_len (f := allF p) (B := 5) (fun w => by rw [allF_len]; exact hp) n).1 (pow5 (Nat.le_refl 5) hn)
section
variable {P : Program} {w : World} {K : PySem.W.Frag} {mg : Str → Option Value} {base : Heap}
def sp_law_carried (K : PySem.W.Frag) : Sp := spOf (fun x : W × List Nat × W × Int => [DP K (wd x.1), DP K (wd (nw x.2.1)), DP K (wd x.2.2.1), DP K (.int x.2.2.2)])
  (fun x => x.2.1.length = x.1.length ∧ x.2.2.1.length = x.1.length ∧ x.1.length ≤ 100 ∧ (∀ q ∈ x.2.1, q < x.1.length) ∧ (∀ c ∈ x.2.2.1, -1000 ≤ c ∧ c ≤ 1000) ∧ 0 < x.2.2.2) (fun x => DP K (wd (movedM x.2.2.2 x.1 x.2.1 x.2.2.1)))
theorem ok_law_carried (T : Txt K mg) : FnOk P w K mg base CX0 1 T.law_carried.f T.law_carried.fd ["_law_word_here", "_law_places", "_law_multiples_here", "_law_p"] (sp_law_carried K) := by
  refine T.law_carried.F.ok sc_law_carried (fun vs H Q E h => spOf_len (n := 4) (fun _ => rfl) h) (fun cdv A outer s H vs Q E hr h => ?_)
  obtain ⟨⟨v, pl, mu, p⟩, ps, ⟨h1, h2, hz, hpl, hmu, hp⟩, k⟩ := h
  dsimp only at ps h1 h2 hz hpl hmu hp k
  obtain ⟨vv, vl, vm, vp, rfl, pv0, pl0, pm, pp⟩ := allP4 ps
  refine ⟨_, (pss_cons (ps_setLc (i := 4) (own := [("_law_x", 6)]) (g := gName 6) rfl sc_law_carried.nd rfl rfl (sw_true rfl rfl rfl (by decide +kernel)) (kpi_tup K (pv 0)) (blkOk_by (own := [("_law_x", 6)]) (N := N_law_carried) (sc := (defScope s_law_carried)) (by decide +kernel)) (fun _ _ _ _ _ => pg_name (i := 6) sc_law_carried.nd rfl (Or.inl rfl)) (fun _ _ _ _ _ => pts_nil) (fun _ _ _ _ _ => pe_int))
      (pss_cons (ps_for PassesOwn.never rfl (pi_range1 (by rfl) T.z_range (pa_cons (pe_callB (kc_len K) (by rfl) T.z_len PySem.boot_len (pa_cons (pv 0) pa_nil)) pa_nil)) (pg_name (i := 5) sc_law_carried.nd rfl (Or.inl rfl)) (pss_one (ps_asg (pe_op op_mod (pe_callTy kc_int1 (by rfl) T.z_int (by decide +kernel) (pa_cons (pe_op op_mul (pe_ix (kx_tup K) (pv 0) (pv 5) (fun _ _ => rfl)) (pe_ix (kx_tup K) (pv 2) (pv 5) (fun _ _ => rfl))) pa_nil)) (pv 3)) (pg_sub (pv 4) (pe_ix (kx_tup K) (pv 1) (pv 5) (fun _ _ => rfl)) set_list))))
      (pss_one (ps_ret (pe_callTy (kc_tuple K) (by rfl) T.z_tuple (by decide +kernel) (pa_cons (pv 4) pa_nil)))))), ?_⟩
  refine q_asgN (PA := NL K ((zeroM v.length).map PyData.int)) (EvN.is (en_lcT PyData.int v (fun _ => true) (fun _ => .int 0) (fun _ => rfl) (ed_var rfl pv0) (by omega) (fun _ => rfl) (fun _ _ _ _ _ _ _ => eb_yes) (fun i x c H1 e hi px _ => ed_int)) ?_) fun f H1 hf e1 hn => ?_
  · rw [filter_yes]
    unfold zeroM
    rw [List.map_replicate, List.map_const']
  obtain ⟨xs, hx, hxd⟩ := hn
  have exs : xs = (movGo p v pl mu 0).map V.int := ints_of_dp (K := K) (H := H1) hxd
  rw [exs] at hx
  have el : EvD K _ _ H1 _ := ed_lenT (ed_var (σ := (start N_law_carried [vv, vl, vm, vp]).set 4 (some (.ref f))) (n := 0) rfl (dp_mono e1 pv0))
  rw [List.length_map] at el
  refine q_forR (n := (v.length : Int)) (ea_cons el ea_nil) ⟨by omega, by omega⟩
    (fun i σ' H' => ∃ z z6, σ' = [some vv, some vl, some vm, some vp, some (.ref f), z, z6] ∧ Ex H H' ∧ H' f = some (.lst ((movGo p v pl mu i).map V.int)))
    (fun H2 e2 => ⟨_, _, rfl, e1.trans e2, e2 _ _ hx⟩) (fun i σ' H' hi h => ?_) (fun σ' H' h => ?_)
  · obtain ⟨z, z6, rfl, e, hL⟩ := h
    have hi' : i < v.length := by omega
    have hq : pl.getD i 0 < v.length := hpl _ (List.mem_of_getElem? (getD_at 0 (by omega)))
    have hm := hmu _ (List.mem_of_getElem? (getD_at (l := mu) 0 (show i < mu.length by omega)))
    refine s_setL (m := pl.getD i 0) (P := DP K (.int (v.getD i 0 * mu.getD i 0 % p))) hL (ed_mod hp (ed_intI (ed_mul (.inr ⟨by omega, by omega⟩) (ed_ixT (at_int (getD_at 0 hi') rfl) (ed_var rfl (dp_mono e pv0)) (ed_var rfl (.int _)))
      (ed_ixT (at_int (getD_at 0 (by omega)) rfl) (ed_var rfl (dp_mono e pm)) (ed_var rfl (.int _))))) (ed_var rfl (dp_mono e pp))) (ex_var rfl)
      (ed_ixT (at_int (nw_at (by omega)) rfl) (ed_var rfl (dp_mono e pl0)) (ed_var rfl (.int _))) (by rw [List.length_map, movGo_len]; exact hq) fun v1 H2 e2 p1 => ⟨_, _, rfl, Ex.mut (e.trans e2) hf, ?_⟩
    rw [dp_int p1, map_set_int, movGo_succ]
    exact upd_same
  · obtain ⟨z, z6, rfl, e, hL⟩ := h
    rw [Int.toNat_natCast] at hL
    exact s_ret (P := DP K (wd (movedM p v pl mu))) (ed_tupL (tOnly_ints _) (ed_var rfl (.lst hL (dpAll_ints _)))) fun v1 H2 e2 p1 => k v1 H2 (e.trans e2) p1
def sp_law_doubled (K : PySem.W.Frag) : Sp := spNew (fun x : Nat => [DP K (.int (x : Int))]) (fun x => x ≤ 4) (fun x => NL K (wds (doubM x)))
theorem ok_law_doubled (T : Txt K mg) : FnOk P w K mg base CX0 2 T.law_doubled.f T.law_doubled.fd ["_law_n"] (sp_law_doubled K) := by
  refine T.law_doubled.F.ok sc_law_doubled (fun vs H Q E h => spNew_len (n := 1) (fun _ => rfl) h) (fun cdv A outer s H vs Q E hr h => ?_)
  obtain ⟨n, ps, hn, k⟩ := h
  dsimp only at ps hn k
  obtain ⟨vn, rfl, pn⟩ := allP1 ps
  refine ⟨_, (pss_cons (ps_set (i := 1) sc_law_doubled.nd rfl (Or.inl rfl) (pe_lst pa_nil))
      (pss_cons (ps_for PassesOwn.never rfl (kpi_list K (pe_call (ok_law_all T) (hr.mono (by decide)) (by rfl) T.law_all.g T.law_all.F.kp T.law_all.b .nil pass0 (pa_cons (pv 0) (pa_cons (pv 0) pa_nil)))) (pg_name (i := 2) sc_law_doubled.nd rfl (Or.inr rfl)) (pss_one (ps_if (pt_cmpR op_gt (pe_callB (kc_len K) (by rfl) T.z_len PySem.boot_len (pa_cons (pe_lc (own := [("_law_k", 3)]) (g := gName 3) rfl sc_law_doubled.nd (pi_range1 (by rfl) T.z_range (pa_cons (pv 0) pa_nil)) (blkOk_by (own := [("_law_k", 3)]) (N := N_law_doubled) (sc := (defScope s_law_doubled)) (by decide +kernel)) (fun _ _ _ _ _ => pg_name (i := 3) sc_law_doubled.nd rfl (Or.inl rfl)) (fun _ _ _ _ _ => (pts_one (pt_cmpR (ko_in K) (pe_ix (kx_tup K) (pv 2) (pv 3) (fun _ _ => rfl)) (pe_slice (ks_tup K) (pv 2) po_none (po_some (pv 3))) (by rfl)))) (fun _ _ _ _ _ => (pv 3))) pa_nil)) pe_int (nomark _)) (pss_one (ps_expr (kpe_bm K PySem.F.plainAttrs_list PySem.F.slot_list_append PySem.F.type_list_append mt_append (pv 1) (pa_cons (pv 2) pa_nil)))) pss_nil)))
      (pss_one (ps_ret (pv 1))))), ?_⟩
  refine q_asgN (PA := NL K []) (en_lst (ds := []) ea_nil (by decide)) fun fa H1 hfa e1 n1 => ?_
  have hwl := allM_wl n n
  have hfew := allM_few (n := n) (p := n) hn (by omega)
  refine q_forN (ds := wds (allM n n)) (en_call (ι := Nat × Nat) (n, n) ⟨hn, by show n ≤ 5; omega⟩ (ea_cons (ed_var rfl (dp_mono e1 pn)) (ea_cons (ed_var rfl (dp_mono e1 pn)) ea_nil)))
    (fun q xs i σ' H' => ∃ z2 z3, σ' = [some vn, some (.ref fa), z2, z3] ∧ Ex H H' ∧ H' q = some (.lst xs) ∧ DpAll K H' xs (wds (allM n n)) ∧ q ≠ fa ∧ NL K (wds (((allM n n).take i).filter (dblB n))) H' fa)
    (fun q xs H2 hq e2 hq2 al2 => ⟨_, _, rfl, e1.trans e2, hq2, al2, (fun z => by
      obtain ⟨ys, h⟩ := n1.at
      rw [z, h] at hq
      cases hq), n1.mono e2⟩) (fun q xs i σ' H' ⟨_, _, _, _, h, _⟩ => h) (fun q xs i x σ' H' hlx hi h => ?_) (fun q xs σ' H' h => ?_)
  · obtain ⟨z2, z3, rfl, e, hq2, al2, hne, n2⟩ := h
    have hi' : i < (allM n n).length := by
      have := (List.getElem?_eq_some_iff.mp hi).1
      rw [hlx, List.length_map] at this
      exact this
    have hFi : (allM n n)[i]? = some (allM n n)[i] := List.getElem?_eq_getElem hi'
    have py : Dp K H' x (wd (allM n n)[i]) := by
      obtain ⟨v, a1, a2⟩ := dpAll_at al2 (i := i) (d := wd (allM n n)[i]) (by rw [List.getElem?_map, hFi] <;> rfl)
      rw [hi] at a1
      cases a1
      exact a2
    have hu := hwl _ (List.getElem_mem hi')
    have hlt : (((allM n n).take i).filter (dblB n)).length ≤ (allM n n).length := Nat.le_trans (List.length_filter_le _ _) (List.length_take_le' _ _)
    have hsn : ((allM n n).take (i + 1)).filter (dblB n) = ((allM n n).take i).filter (dblB n) ++ if dblB n (allM n n)[i] then [(allM n n)[i]] else [] := by
      rw [take_snoc hFi, List.filter_append]
      congr 1
      cases hb : dblB n (allM n n)[i] <;> simp [List.filter_cons, hb]
    rw [hsn]
    generalize (allM n n)[i] = u at py hu
    have lcE : EvN _ [some vn, some (.ref fa), some x, z3] H' _ := en_lcR (K := K) (σ := [some vn, some (.ref fa), some x, z3]) (H := H') (te := tVar 3) (t := tTest (tOp (rIn K false) (tOp (rIxT K) (tVar 2) (tVar 3)) (tSl (rSlA K) (tVar 2) tNoPart (tPart (tVar 3))))) (jx := 3) (vs := [3]) (ta := tCons (tVar 0) tNil) (n := (n : Int)) (fun k => decide (u.getD k 0 ∈ u.take k)) (fun k => .int (k : Int)) (fun _ => rfl) (ea_cons (ed_var rfl (dp_mono e pn)) ea_nil) ⟨by omega, by omega⟩ (fun _ => rfl) (fun a H3 e3 ha => EvB.is (eb_test (K := K) (ed_inT (neg := false) (ns := u.take a) (ed_ixT (at_int (getD_at 0 (by omega)) rfl) (ed_var rfl (dp_mono e3 py)) (ed_var rfl (.int _))) (EvP.is (ed_slT (ed_var rfl (dp_mono e3 py)) eo_none (eo_some (ed_var (K := K) (n := 3) rfl (.int (a : Int))))) (by rw [cutTo, ints_take])))) rfl) (fun a H3 e3 ha _ => ed_var rfl (.int _))
    refine s_when (b := dblB n u) (EvB.is (eb_test (K := K) (ed_gt (ed_lenL (EvN.ls lcE)) ed_int)) ?_) (fun hb H3 e3 => ?_) (fun hb H3 e3 => ?_)
    · unfold dblB
      rw [List.length_map, Int.toNat_natCast]
      by_cases hq : 0 < ((List.range n).filter fun k => decide (u.getD k 0 ∈ u.take k)).length
      · rw [decide_eq_true hq, decide_eq_true (by omega)]
      · rw [decide_eq_false hq, decide_eq_false (by omega)]
    · refine s_appD (ds := wds (((allM n n).take i).filter (dblB n))) (d := wd u) (n2.mono e3) (tOnly_wds _) (ex_var rfl) (ed_var rfl (dp_mono e3 py)) (tOnly_wd _) (by rw [List.length_map]; omega) fun ys o H4 e4 hy4 n4 => ?_
      refine ⟨_, _, rfl, Ex.mut ((e.trans e3).trans e4) hfa, ?_, dpAll_updL hy4 (tOnly_wds _) (dpAll_mono (e3.trans e4) al2), hne, ?_⟩
      · rw [upd_ne hne]
        exact (e3.trans e4) _ _ hq2
      · rw [hb, if_pos rfl]
        unfold wds at n4 ⊢
        rw [List.map_append]
        exact n4
    · refine ⟨_, _, rfl, e.trans e3, e3 _ _ hq2, dpAll_mono e3 al2, hne, ?_⟩
      rw [hb, if_neg (by decide), List.append_nil]
      exact n2.mono e3
  · obtain ⟨z2, z3, rfl, e, hq2, al2, hne, n2⟩ := h
    have hFl : (allM n n).take (wds (allM n n)).length = allM n n := by
      rw [List.length_map, List.take_length]
    rw [hFl] at n2
    exact s_ret (P := fun H v => v = .ref fa ∧ NL K (wds (doubM n)) H fa) (fun H1 e1 Q q => ⟨_, rfl, q _ H1 (Ex.refl _) ⟨rfl, n2.mono e1⟩⟩) fun v H2 e2 ⟨hv, hq⟩ => by
      subst hv
      exact k fa H2 hfa (e.trans e2) hq
def sp_law_refuses (K : PySem.W.Frag) (C : Addr) : Sp := spOf (fun x : CodeM × PyData => [CP K C x.1, DP K x.2]) (fun x => badImg x.1 x.2) (fun _ => DP K (.bool true))
theorem ok_law_refuses (T : Txt K mg) : FnOk P w K mg base CX0 4 T.law_refuses.f T.law_refuses.fd ["_law_code", "_law_images"] (sp_law_refuses K T.cCode) := by
  refine T.law_refuses.F.ok sc_law_refuses (fun vs H Q E h => spOf_len (n := 2) (fun _ => rfl) h) (fun cdv A outer s H vs Q E hr h => ?_)
  obtain ⟨⟨c, d⟩, ps, bad, k⟩ := h
  dsimp only at ps bad k
  obtain ⟨va, vi, rfl, ca, pi⟩ := allP2 ps
  refine ⟨_, pss_cons (ps_try_only (tb := fun W => tDrop (tCallS (sp_paper_bad K T.cCode T.cMal) (WE W) (tCons (tVar 0) (tCons (tVar 1) tNil)))) (ts := fun _ _ _ => tRet (tC (.bl true))) (Wout := fun _ _ _ _ => False) rfl rfl ⟨rfl, by decide, Or.inl T.g_Mal⟩ takes0
    (fun W pn xe tk _ => pss_one (ps_expr (pe_callS (ok_paper_bad T) hr (by rfl) T.map_paper.g T.map_paper.F.kp T.map_paper.b (fun σ => passAt tk σ) (by exact (pa_cons (pv 0) (pa_cons (pv 1) pa_nil))))))
    (fun _ _ _ _ _ _ _ => pss_one (ps_ret pe_bl))) (pss_one (ps_ret pe_bl)), ?_⟩
  have ea : EvA _ (start N_law_refuses [va, vi]) H _ := ea_cons (ev_var (P := CP K T.cCode c) (n := 0) rfl ca) (ea_cons (ed_var (K := K) (n := 1) rfl pi) ea_nil)
  have fin := ea H (Ex.refl _) (fun vs H1 => sp_paper_bad K T.cCode T.cMal vs H1 (fun _ _ => True) fun cls d H' => ∃ b, PySem.W.exmOne K cls (.ref T.cMal) = some b ∧ (b = true → ∀ a, H' a = none → Q (.bl true) H') ∧ (b = false → False)) fun vs H1 e1 ps1 => ⟨c, d, ps1, bad, fun H2 e2 => ⟨true, T.e_Mal, fun _ a ha => k (.bl true) H2 (e1.trans e2) (.bl true), fun hb => by cases hb⟩⟩
  exact fin
end
end WK

set_option Elab.async false
set_option linter.all false
set_option maxRecDepth 100000
set_option maxHeartbeats 4000000
/-! The drawn numbers: the state is a list of two ints that turns. -/
namespace WK
open PySem PySem.Spec PyProof.Rows L2 WM
open Evl (Ex ex_l ex_t ex_rd sq_of st_of sz_of sz_lt fresh_back rLenS rListS)
/-- all stands but the list at a -/
def ExS (a : Addr) (H H' : Hp) : Prop := ∀ b o, b ≠ a → H b = some o → H' b = some o
def StAt (H : Hp) (a : Addr) : Prop := ∃ s t : Int, H a = some (.lst [.int s, .int t]) ∧ 0 ≤ s ∧ 0 ≤ t
section
variable {K : PySem.W.Frag} {σ : L2.St} {H H' H2 : Hp} {a : Addr} {ta te : TE} {P : VP} {D : Ends} {tz : TS} {d : PyData} {v : V}
theorem Ex.s (e : Ex H H') : ExS a H H' := fun b o _ q => e b o q
theorem ExS.refl : ExS a H H := fun _ _ _ q => q
theorem ExS.trans (h : ExS a H H') (h2 : ExS a H' H2) : ExS a H H2 := fun b o hb q => h2 b o hb (h b o hb q)
theorem ExS.mut {l : Addr} {o : HO} (h : ExS a H H') (hl : H l = none) : ExS a H (upd H' l o) := fun b u hb q => by
  rw [upd_ne fun z => by rw [z, hl] at q; cases q]
  exact h b u hb q
theorem ExS.fresh (h : ExS a H H') (hs : StAt H a) {l : Addr} (hl : H' l = none) (hs' : StAt H' a) : H l = none := by
  by_cases e : l = a
  · obtain ⟨s, t, q, _⟩ := hs'
    rw [e, q] at hl
    cases hl
  · cases q : H l with
    | none => rfl
    | some o => rw [h l o e q] at hl; cases hl
theorem StAt.mono (h : StAt H a) (e : Ex H H') : StAt H' a := by
  obtain ⟨s, t, q, r⟩ := h
  exact ⟨s, t, e _ _ q, r⟩
theorem StAt.ne (h : StAt H a) {l : Addr} (hl : H l = none) : l ≠ a := fun e => by
  obtain ⟨s, t, q, _⟩ := h
  rw [e, q] at hl
  cases hl
theorem StAt.upd (h : StAt H a) {l : Addr} {o : HO} (hl : l ≠ a) : StAt (L2.upd H l o) a := by
  obtain ⟨s, t, q, r⟩ := h
  exact ⟨s, t, by rw [upd_ne (Ne.symm hl)]; exact q, r⟩
theorem dp_S (st : StAt H a) (e : ExS a H H') (hd : tOnly d = true) (h : Dp K H v d) : Dp K H' v d := dp_tkeep (fun b xs q => e b _ (fun z => by
  obtain ⟨s, t, r, _⟩ := st
  rw [z, r] at q
  cases q) q) d v hd h
theorem dpAll_S {vs : List V} {ds : List PyData} (st : StAt H a) (e : ExS a H H') (hd : tOnlyAll ds = true) (h : DpAll K H vs ds) : DpAll K H' vs ds := dpAll_tkeep (fun b xs q => e b _ (fun z => by
  obtain ⟨s, t, r, _⟩ := st
  rw [z, r] at q
  cases q) q) ds vs hd h
theorem NL.S {ds : List PyData} {p : Addr} (st : StAt H a) (e : ExS a H H') (hp : p ≠ a) (hd : tOnlyAll ds = true) (h : NL K ds H p) : NL K ds H' p := by
  obtain ⟨xs, h1, h2⟩ := h
  exact ⟨xs, e _ _ hp h1, dpAll_S st e hd h2⟩
theorem CodeAt.S {C : Addr} {c : CodeM} {b : Addr} (st : StAt H a) (e : ExS a H H') (h : CodeAt K C c H b) : CodeAt K C c H' b := by
  obtain ⟨dx, vr, vp, h1, h2, h3⟩ := h
  exact ⟨dx, vr, vp, e _ _ (fun z => by
    obtain ⟨s, t, r, _⟩ := st
    rw [z, r] at h1
    cases h1) h1, dp_S st e (tOnly_wds _) h2, dp_S st e (tOnly_wd _) h3⟩
/-! ### _law_take -/
def sp_law_take : Sp := fun vs H Q _ => ∃ (a : Addr) (m : Int), vs = [.ref a, .int m] ∧ StAt H a ∧ 1 ≤ m ∧ m ≤ 1000 ∧ ∀ r H', 0 ≤ r → r < m → ExS a H H' → StAt H' a → Q (.int r) H'
theorem take_call {m : Int} {E : XK} {ta : TA} {Q : VK} (ha : EvA ta σ H [XP (.ref a), DP K (.int m)]) (st : StAt H a) (hm : 1 ≤ m ∧ m ≤ 1000) (k : ∀ r H', 0 ≤ r → r < m → ExS a H H' → StAt H' a → Q (.int r) H') : tCall sp_law_take [] E ta σ H Q :=
  ha H (Ex.refl _) _ fun vs H1 e ps => by
    obtain ⟨x, y, rfl, hx, hy⟩ := allP2 ps
    have hx' : x = .ref a := hx
    have hy' := dp_int hy
    subst hx' hy'
    rw [List.append_nil]
    exact ⟨a, m, rfl, st.mono e, hm.1, hm.2, fun r H' h0 h1 e1 s1 => k r H' h0 h1 ((Ex.s e).trans e1) s1⟩
/-- [take .. for k in range(n)] -/
theorem lc_take {n : Int} {lo hi : Int} {ta : TA} {jx : Nat} {vs : List Nat} {Q : VK} (h : EvA ta σ H [DP K (.int n)]) (hn : 0 ≤ n ∧ n ≤ 1000) (hw : ∀ x, wipe ((wipe σ vs).set jx (some x)) vs = wipe σ vs) (st : StAt H a)
    (ht : ∀ (k : Nat) H1, (k : Int) < n → ExS a H H1 → StAt H1 a → ∀ Q : VK, (∀ r H2, lo ≤ r → r < hi → ExS a H1 H2 → StAt H2 a → Q (.int r) H2) → te ((wipe σ vs).set jx (some (.int (k : Int)))) H1 Q)
    (hQ : ∀ (ws : W) (p : Addr) (H' : Hp), (ws.length : Int) = n → (∀ x ∈ ws, lo ≤ x ∧ x < hi) → H p = none → ExS a H H' → StAt H' a → H' p = some (.lst (ws.map V.int)) → Q (.ref p) H') : tLc (iRng1 ta) (gName jx) tYes te vs σ H Q := h H (Ex.refl _) _ fun vs1 H1 e1 ps => by
  obtain ⟨b, rfl, pb⟩ := allP1 ps
  have eb := dp_int pb
  subst eb
  refine ⟨n, rfl, by omega, by omega, fun Dl hD => ?_⟩
  have hDa : Dl ≠ a := (st.mono e1).ne hD
  refine lc_range (lo := 0) (n := n.toNat) (fun i H' => ∃ ws : W, ws.length = i ∧ (∀ x ∈ ws, lo ≤ x ∧ x < hi) ∧ ExS a H1 H' ∧ StAt H' a ∧ H' Dl = some (.lst (ws.map V.int))) ⟨[], rfl, fun x hx => absurd hx List.not_mem_nil, ExS.mut .refl hD, (st.mono e1).upd hDa, upd_same⟩ (fun i H' hi' p => ?_) fun H' p => ?_
  · have e0 : (0 : Int) + (i : Int) = (i : Int) := Int.zero_add _
    obtain ⟨ws, p1, p2, p3, p4, p5⟩ := p
    show wipe ((wipe σ vs).set jx (some (.int ((0 : Int) + (i : Int))))) vs = wipe σ vs ∧ te ((wipe σ vs).set jx (some (.int ((0 : Int) + (i : Int))))) H' fun y H4 => ∃ acc, H4 Dl = some (.lst acc) ∧ acc.length < sizeLine ∧ _
    rw [e0]
    refine ⟨hw _, ht i H' (by omega) ((Ex.s e1).trans p3) p4 _ fun r H2 r0 r1 e2 s2 => ?_⟩
    refine ⟨_, e2 _ _ hDa p5, sz_lt (by rw [List.length_map]; omega), ws ++ [r], by rw [List.length_append, p1] <;> rfl, fun x hx => ?_, ExS.mut (p3.trans e2) hD, s2.upd hDa, by rw [List.map_append]; exact upd_same⟩
    rcases List.mem_append.mp hx with hx | hx
    · exact p2 x hx
    · rw [List.mem_singleton.mp hx]
      exact ⟨r0, r1⟩
  · obtain ⟨ws, p1, p2, p3, p4, p5⟩ := p
    exact hQ ws Dl H' (by omega) p2 (fresh_back e1 hD) ((Ex.s e1).trans p3) p4 p5
end
section
variable {P : Program} {w : World} {K : PySem.W.Frag} {mg : Str → Option Value} {base : Heap}
theorem st_dp {K : PySem.W.Frag} {H : Hp} {a : Addr} {s t : Int} (h : H a = some (.lst [.int s, .int t])) : Dp K H (.ref a) (lw [s, t]) := .lst h (dpAll_ints [s, t])
theorem ok_law_take (T : Txt K mg) : FnOk P w K mg base CX0 1 T.law_take.f T.law_take.fd ["_law_state_here", "_law_m"] sp_law_take := by
  refine T.law_take.F.ok sc_law_take (fun vs H Q E h => ?_) (fun cdv A outer s H vs Q E hr h => ?_)
  · obtain ⟨a, m, rfl, _⟩ := h
    rfl
  obtain ⟨a, m, rfl, st, hm1, hm2, k⟩ := h
  obtain ⟨x, y, hs, hx, hy⟩ := id st
  refine ⟨_, (pss_cons (ps_if (pt_cmpR op_gt (pe_ix (kx_list K) (pv 0) pe_int (fun _ _ => rfl)) pe_int (nomark _)) (pss_cons (ps_set (i := 2) sc_law_take.nd rfl (Or.inl rfl) (pe_op op_mod (pe_callTy kc_int1 (by rfl) T.z_int (by decide +kernel) (pa_cons (pe_ix (kx_list K) (pv 0) pe_int (fun _ _ => rfl)) pa_nil)) (pv 1)))
      (pss_cons (ps_asg (pe_op op_fdiv (pe_ix (kx_list K) (pv 0) pe_int (fun _ _ => rfl)) (pv 1)) (pg_sub (pv 0) pe_int set_list))
      (pss_one (ps_ret (pv 2))))) pss_nil)
      (pss_cons (ps_asg (pe_op op_mod (pe_callTy kc_int1 (by rfl) T.z_int (by decide +kernel) (pa_cons (pe_op op_add (pe_op op_mul (pe_ix (kx_list K) (pv 0) pe_int (fun _ _ => rfl)) pe_int) pe_int) pa_nil)) pe_int) (pg_sub (pv 0) pe_int set_list))
      (pss_one (ps_ret (pe_op op_mod (pe_callTy kc_int1 (by rfl) T.z_int (by decide +kernel) (pa_cons (pe_op op_fdiv (pe_ix (kx_list K) (pv 0) pe_int (fun _ _ => rfl)) pe_int) pa_nil)) (pv 1)))))), ?_⟩
  have ix : ∀ {i : Nat} {z : Int} {σ : L2.St} {H1 : Hp} {x y : Int}, H1 a = some (.lst [.int x, .int y]) → [x, y][i]? = some z → σ[0]? = some (some (.ref a)) → EvD K (tOp (rIxL K) (tVar 0) (tC (.int (i : Int)))) σ H1 (.int z) := fun {i z σ H1 x y} h hz hσ => ed_ixL (at_int hz rfl) (ed_var hσ (st_dp h)) ed_int
  refine q_if (b := decide (0 < x)) (eb_test (K := K) (ed_gt (ix (i := 0) hs rfl rfl) ed_int)) (fun hb H1 e1 => ?_) (fun hb H1 e1 => ?_)
  · have hs1 := e1 _ _ hs
    refine q_asg (P := DP K (.int (x % m))) (ed_mod (by omega) (ed_intI (ix (i := 0) hs1 rfl rfl)) (ed_var rfl (.int m))) fun v H2 e2 p2 => ?_
    have hs2 := e2 _ _ hs1
    refine q_setL (K := K) (m := 0) (P := DP K (.int (x / m))) hs2 (ed_fdiv ⟨by omega, by omega⟩ (ix (i := 0) hs2 rfl rfl) (ed_var rfl (.int m))) (ex_var rfl) ed_int (by show 0 < 2; decide) fun v3 H3 e3 p3 => ?_
    have ev := dp_int p2
    have ev3 := dp_int p3
    subst ev ev3
    refine s_ret (P := DP K (.int (x % m))) (ed_var rfl (.int _)) fun v4 H4 e4 p4 => ?_
    have ev4 := dp_int p4
    subst ev4
    have hm := emod_ok (show 0 < m by omega) x
    have E : ExS a H (upd H3 a (.lst ([V.int x, V.int y].set 0 (.int (x / m))))) := fun b o hb q => by
      rw [upd_ne hb]
      exact ((e1.trans e2).trans e3) b o q
    refine k _ _ hm.1 hm.2 (E.trans (Ex.s e4)) ⟨x / m, y, e4 _ _ upd_same, Int.ediv_nonneg hx (by omega), hy⟩
  · have hs1 := e1 _ _ hs
    refine q_setL (K := K) (m := 1) (P := DP K (.int ((y * 48271 + 11) % 2147483647))) hs1 (ed_mod (by decide) (ed_intI (ed_add (ed_mul (.inr ⟨by decide, by decide⟩) (ix (i := 1) hs1 rfl rfl) ed_int) ed_int)) ed_int) (ex_var rfl) ed_int (by show 1 < 2; decide) fun v3 H3 e3 p3 => ?_
    have ev3 := dp_int p3
    subst ev3
    have h4 : upd H3 a (.lst ([V.int x, V.int y].set 1 (.int ((y * 48271 + 11) % 2147483647)))) a = some (.lst [.int x, .int ((y * 48271 + 11) % 2147483647)]) := upd_same
    have E : ExS a H (upd H3 a (.lst ([V.int x, V.int y].set 1 (.int ((y * 48271 + 11) % 2147483647))))) := fun b o hb q => by
      rw [upd_ne hb]
      exact (e1.trans e3) b o q
    generalize upd H3 a (.lst ([V.int x, V.int y].set 1 (.int ((y * 48271 + 11) % 2147483647)))) = G at h4 E
    have hz := emod_ok (show (0 : Int) < 2147483647 by decide) (y * 48271 + 11)
    refine s_ret (P := DP K (.int ((y * 48271 + 11) % 2147483647 / 7 % m))) (ed_mod (by omega) (ed_intI (ed_fdiv ⟨by decide, by decide⟩ (ix (i := 1) h4 rfl rfl) ed_int)) (ed_var rfl (.int m))) fun v4 H4 e4 p4 => ?_
    have ev4 := dp_int p4
    subst ev4
    have hm := emod_ok (show 0 < m by omega) ((y * 48271 + 11) % 2147483647 / 7)
    exact k _ _ hm.1 hm.2 (E.trans (Ex.s e4)) ⟨x, _, e4 _ _ h4, hx, hz.1⟩
/-! ### _law_state -/
/-- the script, as the head hands it in: a list of whole numbers -/
def ScP (K : PySem.W.Frag) (x : W) : VP := fun H v => ∃ b, v = .ref b ∧ SqL K H b (x.map V.int)
instance (K : PySem.W.Frag) (x : W) : Mono (ScP K x) := ⟨fun e h => by
  obtain ⟨b, h1, h2⟩ := h
  exact ⟨b, h1, ex_l e h2⟩⟩
theorem en_slS {K : PySem.W.Frag} {σ : L2.St} {H : Hp} {ta : TE} {x : W} {tlo thi : TO} {lo hi : Option Int} (ha : EvP ta σ H (ScP K x)) (h1 : EvO tlo σ H lo) (h2 : EvO thi σ H hi) : EvN (tSl (rSlL K) ta tlo thi) σ H (NL K (cutD (x.map PyData.int) lo hi)) := fun H1 e Q q =>
  ha H1 e _ fun v H2 e2 p => h1 H2 (e.trans e2) _ fun H3 e3 => h2 H3 ((e.trans e2).trans e3) _ fun H4 e4 => by
    obtain ⟨b, rfl, s⟩ := p
    have E := (e2.trans e3).trans e4
    have al : DpAll K H4 (x.map V.int) (x.map PyData.int) := dpAll_ints x
    have hc : DpAll K H4 (cutV (x.map V.int) lo hi) (cutD (x.map PyData.int) lo hi) := by
      unfold cutV cutD
      rw [dpAll_len al]
      exact dpAll_take _ (dpAll_drop _ al)
    exact ⟨b, _, rfl, ex_l (e3.trans e4) s, fun l hl => q l _ (fresh_back E hl) (E.trans (ex_of_new hl)) ⟨_, upd_same, dpAll_mono (ex_of_new hl) hc⟩⟩
def sp_law_state (K : PySem.W.Frag) : Sp := spNew (fun x : W => [ScP K x]) (fun _ => True) (fun _ => StAt)
theorem ok_law_state (T : Txt K mg) : FnOk P w K mg base CX0 1 T.law_state.f T.law_state.fd ["_law_script"] (sp_law_state K) := by
  refine T.law_state.F.ok sc_law_state (fun vs H Q E h => spNew_len (n := 1) (fun _ => rfl) h) (fun cdv A outer s H vs Q E hr h => ?_)
  obtain ⟨x, ps, _, k⟩ := h
  dsimp only at ps k
  obtain ⟨vx, rfl, px⟩ := allP1 ps
  refine ⟨_, (pss_cons (ps_set (i := 1) sc_law_state.nd rfl (Or.inl rfl) pe_int)
      (pss_cons (ps_set (i := 2) sc_law_state.nd rfl (Or.inl rfl) pe_int)
      (pss_cons (ps_for PassesOwn.never rfl (kpi_list K (pe_slice (ks_list K) (pv 0) po_none (po_some pe_int))) (pg_name (i := 3) sc_law_state.nd rfl (Or.inl rfl)) (pss_cons (ps_set (i := 1) sc_law_state.nd rfl (Or.inl rfl) (pe_op op_add (pe_op op_mul (pv 1) pe_int) (pe_callB call_abs (by rfl) T.z_abs (by decide +kernel) (pa_cons (pv 3) pa_nil))))
      (pss_one (ps_set (i := 2) sc_law_state.nd rfl (Or.inl rfl) (pe_op op_mod (pe_callTy kc_int1 (by rfl) T.z_int (by decide +kernel) (pa_cons (pe_op op_add (pe_op op_mul (pv 2) pe_int) (pv 3)) pa_nil)) pe_int)))))
      (pss_one (ps_ret (pe_lst (pa_cons (pv 1) (pa_cons (pv 2) pa_nil)))))))), ?_⟩
  refine q_asg (P := DP K (.int 0)) ed_int fun v1 H1 e1 p1 => ?_
  refine q_asg (P := DP K (.int 1)) ed_int fun v2 H2 e2 p2 => ?_
  have ev1 := dp_int p1
  have ev2 := dp_int p2
  subst ev1 ev2
  have hcut : cutD (x.map PyData.int) none (some 63) = (x.take 63).map PyData.int := by
    rw [show (63 : Int) = ((63 : Nat) : Int) from rfl, cutTo, ints_take]
  refine q_forN (ds := (x.take 63).map PyData.int) (EvN.is (en_slS (ev_var rfl (Mono.mono (e1.trans e2) px)) eo_none (eo_some (ed_int (K := K)))) hcut)
    (fun q xs i σ' H' => ∃ s t z, σ' = [some vx, some (.int s), some (.int t), z] ∧ Ex H H' ∧ H' q = some (.lst xs) ∧ DpAll K H' xs ((x.take 63).map PyData.int) ∧ 0 ≤ s ∧ 0 ≤ t)
    (fun q xs H3 hq e3 hq3 al3 => ⟨0, 1, _, rfl, (e1.trans e2).trans e3, hq3, al3, by decide, by decide⟩) (fun q xs i σ' H' ⟨_, _, _, _, _, h, _⟩ => h) (fun q xs i y σ' H' hlx hi h => ?_) (fun q xs σ' H' h => ?_)
  · obtain ⟨s, t, z, rfl, e, hq3, al3, hs, ht⟩ := h
    have exs := ints_of_dp al3
    subst exs
    obtain ⟨c, hc, rfl⟩ := at_of_map hi
    have ab : EvD K (tCB (fun xs H Q => ∃ i, xs = [.int i] ∧ Q (.int (if i < 0 then -i else i)) H) (tCons (tVar 3) tNil)) [some vx, some (.int s), some (.int t), some (.int c)] H' (.int (if c < 0 then -c else c)) := ev_cb (ea_cons (ed_var (K := K) (n := 3) rfl (.int c)) ea_nil) fun vs H1 _ ps Q q => by
      obtain ⟨a, rfl, pa⟩ := allP1 ps
      have ea := dp_int pa
      subst ea
      exact ⟨c, rfl, q _ H1 (Ex.refl H1) (.int _)⟩
    refine q_asg (P := DP K (.int (s * 1000003 + (if c < 0 then -c else c)))) (ed_add (ed_mul (.inr ⟨by decide, by decide⟩) (ed_var rfl (.int _)) ed_int) ab) fun v3 H3 e3 p3 => ?_
    have ev3 := dp_int p3
    subst ev3
    refine s_asg (P := DP K (.int ((t * 48271 + c) % 2147483647))) (ed_mod (by decide) (ed_intI (ed_add (ed_mul (.inr ⟨by decide, by decide⟩) (ed_var rfl (.int _)) ed_int) (ed_var rfl (.int _)))) ed_int) fun v4 H4 e4 p4 => ?_
    have ev4 := dp_int p4
    subst ev4
    refine ⟨_, _, _, rfl, (e.trans e3).trans e4, (e3.trans e4) _ _ hq3, dpAll_mono (e3.trans e4) al3, ?_, (emod_ok (by decide) _).1⟩
    have h1 : 0 ≤ s * 1000003 := Int.mul_nonneg hs (by decide)
    split <;> omega
  · obtain ⟨s, t, z, rfl, e, hq3, al3, hs, ht⟩ := h
    exact s_ret (P := fun H' v => ∃ p, v = .ref p ∧ H p = none ∧ StAt H' p) (fun H4 e4 Q q => en_lst (ds := [.int s, .int t]) (ea_cons (ed_var (K := K) rfl (.int s)) (ea_cons (ed_var rfl (.int t)) ea_nil)) (by show 2 ≤ 100000; decide) H4 (Ex.refl _) Q fun p H5 hp e5 hn => q _ H5 e5 ⟨p, rfl, fresh_back (e.trans e4) hp, by
      obtain ⟨xs, x1, x2⟩ := hn
      have exs : xs = [s, t].map V.int := ints_of_dp (K := K) (ns := [s, t]) x2
      rw [exs] at x1
      exact ⟨s, t, x1, hs, ht⟩⟩) fun v H5 e5 hv => by
        obtain ⟨p, rfl, hp, st⟩ := hv
        exact k p H5 hp (e.trans e5) st
/-! ### _law_word, _law_rows -/
def sp_law_word (K : PySem.W.Frag) : Sp := fun vs H Q _ => ∃ (a : Addr) (n : Nat) (p : Int), vs = [.ref a, .int (n : Int), .int p] ∧ StAt H a ∧ n ≤ 100 ∧ 1 ≤ p ∧ p ≤ 100 ∧ ∀ (u : W) v H', WOk p n u → Dp K H' v (wd u) → ExS a H H' → StAt H' a → Q v H'
theorem word_call {K : PySem.W.Frag} {σ : L2.St} {H : Hp} {a : Addr} {n : Nat} {p : Int} {E : XK} {ta : TA} {Q : VK} (ha : EvA ta σ H [XP (.ref a), DP K (.int (n : Int)), DP K (.int p)]) (st : StAt H a) (hm : n ≤ 100 ∧ 1 ≤ p ∧ p ≤ 100) (k : ∀ (u : W) v H', WOk p n u → Dp K H' v (wd u) → ExS a H H' → StAt H' a → Q v H') : tCall (sp_law_word K) [] E ta σ H Q :=
  ha H (Ex.refl _) _ fun vs H1 e ps => by
    obtain ⟨x, y, z, rfl, hx, hy, hz⟩ := allP3 ps
    have hx' : x = .ref a := hx
    have hy' := dp_int hy
    have hz' := dp_int hz
    subst hx' hy' hz'
    rw [List.append_nil]
    exact ⟨a, n, p, rfl, st.mono e, hm.1, hm.2.1, hm.2.2, fun u v H' h1 h2 e1 s1 => k u v H' h1 h2 ((Ex.s e).trans e1) s1⟩
theorem ok_law_word (T : Txt K mg) : FnOk P w K mg base CX0 2 T.law_word.f T.law_word.fd ["_law_state_here", "_law_n", "_law_p"] (sp_law_word K) := by
  refine T.law_word.F.ok sc_law_word (fun vs H Q E h => ?_) (fun cdv A outer s H vs Q E hr h => ?_)
  · obtain ⟨a, n, p, rfl, _⟩ := h
    rfl
  obtain ⟨a, n, p, rfl, st, hn, hp1, hp2, k⟩ := h
  refine ⟨_, (pss_one (ps_ret (pe_callTy (kc_tuple K) (by rfl) T.z_tuple (by decide +kernel) (pa_cons (pe_lc (own := [("_law_k", 3)]) (g := gName 3) rfl sc_law_word.nd (pi_range1 (by rfl) T.z_range (pa_cons (pv 1) pa_nil)) (blkOk_by (own := [("_law_k", 3)]) (N := N_law_word) (sc := (defScope s_law_word)) (by decide +kernel)) (fun _ _ _ _ _ => pg_name (i := 3) sc_law_word.nd rfl (Or.inl rfl)) (fun _ _ _ _ _ => pts_nil) (fun _ _ _ _ _ => (pe_call (ok_law_take T) (hr.mono (by decide)) (by rfl) T.law_take.g T.law_take.F.kp T.law_take.b .nil pass0 (pa_cons (pv 0) (pa_cons (pv 2) pa_nil))))) pa_nil)))), ?_⟩
  show tLc (iRng1 (tCons (tVar 1) tNil)) (gName 3) tYes (tCall sp_law_take [] E0 (tCons (tVar 0) (tCons (tVar 2) tNil))) [3] (start N_law_word [.ref a, .int (n : Int), .int p]) H fun v H1 => rTupS K [v] H1 Q
  refine lc_take (K := K) (a := a) (n := (n : Int)) (lo := 0) (hi := p) (ea_cons (ed_var rfl (.int _)) ea_nil) ⟨by omega, by omega⟩ (fun _ => rfl) st (fun i H1 hi e1 s1 Q' q' => take_call (K := K) (ea_cons (ex_var rfl) (ea_cons (ed_var rfl (.int _)) ea_nil)) s1 ⟨hp1, by omega⟩ q') fun ws q H1 hl hb hq e1 s1 h1 => ?_
  refine ⟨q, _, rfl, .inl ⟨sq_of h1, fun l hl1 => ?_⟩⟩
  have hla := s1.ne hl1
  refine k ws _ _ ⟨by omega, hb⟩ (dp_of_wd upd_same) (fun b o hb2 hq2 => ?_) (s1.upd hla)
  have h3 := e1 b o hb2 hq2
  rw [upd_ne fun z => by rw [z, hl1] at h3; cases h3]
  exact h3
def sp_law_rows (K : PySem.W.Frag) : Sp := fun vs H Q _ => ∃ (a : Addr) (n : Nat) (p : Int) (m : Nat), vs = [.ref a, .int (n : Int), .int p, .int (m : Int)] ∧ StAt H a ∧ n ≤ 100 ∧ 1 ≤ p ∧ p ≤ 100 ∧ m ≤ 100 ∧
  ∀ (us : List W) q H', us.length ≤ m → (∀ u ∈ us, WOk p n u) → H q = none → NL K (wds us) H' q → ExS a H H' → StAt H' a → Q (.ref q) H'
theorem ok_law_rows (T : Txt K mg) : FnOk P w K mg base CX0 3 T.law_rows.f T.law_rows.fd ["_law_state_here", "_law_n", "_law_p", "_law_most"] (sp_law_rows K) := by
  refine T.law_rows.F.ok sc_law_rows (fun vs H Q E h => ?_) (fun cdv A outer s H vs Q E hr h => ?_)
  · obtain ⟨a, n, p, m, rfl, _⟩ := h
    rfl
  obtain ⟨a, n, p, m, rfl, st, hn, hp1, hp2, hm, k⟩ := h
  refine ⟨_, (pss_cons (ps_set (i := 4) sc_law_rows.nd rfl (Or.inl rfl) (pe_lst pa_nil))
      (pss_cons (ps_for PassesOwn.never rfl (pi_range1 (by rfl) T.z_range (pa_cons (pe_call (ok_law_take T) (hr.mono (by decide)) (by rfl) T.law_take.g T.law_take.F.kp T.law_take.b .nil pass0 (pa_cons (pv 0) (pa_cons (pe_op op_add (pv 3) pe_int) pa_nil))) pa_nil)) (pg_name (i := 5) sc_law_rows.nd rfl (Or.inl rfl)) (pss_one (ps_expr (kpe_bm K PySem.F.plainAttrs_list PySem.F.slot_list_append PySem.F.type_list_append mt_append (pv 4) (pa_cons (pe_call (ok_law_word T) (hr.mono (by decide)) (by rfl) T.law_word.g T.law_word.F.kp T.law_word.b .nil pass0 (pa_cons (pv 0) (pa_cons (pv 1) (pa_cons (pv 2) pa_nil)))) pa_nil)))))
      (pss_one (ps_ret (pv 4))))), ?_⟩
  refine q_asgN (PA := NL K []) (en_lst (ds := []) ea_nil (by decide)) fun f H1 hf e1 n1 => ?_
  have st1 := st.mono e1
  have hfa : f ≠ a := st.ne hf
  refine take_call (K := K) (a := a) (m := (m : Int) + 1) (ea_cons (ex_var rfl) (ea_cons (ed_add (ed_var rfl (.int _)) ed_int) ea_nil)) st1 ⟨by omega, by omega⟩ fun r H2 r0 r1 e2 s2 => ?_
  refine ⟨r, rfl, by omega, by omega, for_range (lo := 0) (n := r.toNat) (fun i σ' H' => ∃ us z, σ' = [some (.ref a), some (.int (n : Int)), some (.int p), some (.int (m : Int)), some (.ref f), z] ∧ us.length = i ∧ (∀ u ∈ us, WOk p n u) ∧ ExS a H H' ∧ StAt H' a ∧ NL K (wds us) H' f)
    ⟨[], _, rfl, rfl, fun u hu => absurd hu List.not_mem_nil, (Ex.s e1).trans e2, s2, n1.S st1 e2 hfa rfl⟩ (fun i σ' H' hi h => ?_) (fun σ' H' h => ?_)⟩
  · obtain ⟨us, z, rfl, h1, h2, h3, h4, h5⟩ := h
    obtain ⟨xs, x1, x2⟩ := h5
    refine ⟨_, rfl, Or.inl ⟨rfl, xs, sq_of x1⟩, ?_⟩
    refine word_call (K := K) (a := a) (n := n) (p := p) (ea_cons (ex_var rfl) (ea_cons (ed_var rfl (.int _)) (ea_cons (ed_var rfl (.int _)) ea_nil))) h4 ⟨hn, hp1, hp2⟩ fun u v H3 hu hv e3 s3 => ?_
    have x3 := e3 _ _ hfa x1
    have hl := dpAll_len x2
    rw [List.length_map] at hl
    refine ⟨f, xs, v, rfl, rfl, x3, sz_lt (by omega), us ++ [u], _, rfl, by rw [List.length_append, h1] <;> rfl, fun y hy => ?_, ExS.mut (h3.trans e3) hf, s3.upd hfa, _, upd_same, ?_⟩
    · rcases List.mem_append.mp hy with hy | hy
      · exact h2 y hy
      · rw [List.mem_singleton.mp hy]
        exact hu
    · unfold wds
      rw [List.map_append]
      exact dpAll_snoc (dpAll_updL x3 (tOnly_wds _) (dpAll_S h4 e3 (tOnly_wds _) x2)) (dp_updL x3 (tOnly_wd _) hv)
  · obtain ⟨us, z, rfl, h1, h2, h3, h4, h5⟩ := h
    exact ⟨.ref f, rfl, k us f H' (by omega) h2 hf h5 h3 h4⟩
end
end WK

set_option Elab.async false
set_option linter.all false
set_option maxRecDepth 100000
set_option maxHeartbeats 4000000
/-! drawn_map, spoilt. -/
namespace WK
open PySem PySem.Spec PyProof.Rows L2 WM
open Evl (Ex ex_l ex_t ex_rd sq_of st_of sz_of sz_lt fresh_back rLenS rListS)
section
variable {P : Program} {w : World} {K : PySem.W.Frag} {mg : Str → Option Value} {base : Heap}
def sp_law_drawn_map (K : PySem.W.Frag) : Sp := fun vs H Q _ => ∃ (a : Addr) (n : Nat) (p : Int), vs = [.ref a, .int (n : Int), .int p] ∧ StAt H a ∧ n ≤ 100 ∧ 2 ≤ p ∧ p ≤ 100 ∧
  ∀ (pl : List Nat) (mu : W) v H', pl.Perm (List.range n) → mu.length = n → (∀ m ∈ mu, 1 ≤ m ∧ m < p) → Dp K H' v (.tuple [wd (nw pl), wd mu]) → ExS a H H' → StAt H' a → Q v H'
theorem tup_lc {K : PySem.W.Frag} {te : TE} {σ : L2.St} {H : Hp} {Q : List V → Hp → Prop} (h : te σ H fun v H1 => rTupS K [v] H1 fun w H2 => Q [w] H2) : tCons (tCB (rTupS K) (tCons te tNil)) tNil σ H Q := h
theorem nw_erase : ∀ (ns : List Nat) (k : Nat), ((nw ns).map V.int).eraseIdx k = (nw (ns.eraseIdx k)).map V.int
  | [], _ => rfl
  | _ :: _, 0 => rfl
  | n :: ns, k + 1 => congrArg (V.int (n : Int) :: ·) (nw_erase ns k)
theorem perm_pop {ps rs : List Nat} {k x : Nat} (h : rs[k]? = some x) : (ps ++ [x] ++ rs.eraseIdx k).Perm (ps ++ rs) := by
  have h1 : rs.Perm (x :: rs.eraseIdx k) := by
    induction rs generalizing k with
    | nil => simp at h
    | cons r rs ih =>
      cases k with
      | zero =>
        have e : r = x := Option.some.inj h
        rw [e, List.eraseIdx_cons_zero]
      | succ k =>
        rw [List.eraseIdx_cons_succ]
        exact ((ih h).cons r).trans (List.Perm.swap _ _ _)
  rw [List.append_assoc]
  exact h1.symm.append_left ps
theorem ok_law_drawn_map (T : Txt K mg) : FnOk P w K mg base CX0 2 T.law_drawn_map.f T.law_drawn_map.fd ["_law_state_here", "_law_n", "_law_p"] (sp_law_drawn_map K) := by
  refine T.law_drawn_map.F.ok sc_law_drawn_map (fun vs H Q E h => ?_) (fun cdv A outer s H vs Q E hr h => ?_)
  · obtain ⟨a, n, p, rfl, _⟩ := h
    rfl
  obtain ⟨a, n, p, rfl, st, hn, hp1, hp2, k⟩ := h
  refine ⟨_, (pss_cons (ps_setLc (i := 3) (own := [("_law_k", 5)]) (g := gName 5) rfl sc_law_drawn_map.nd rfl rfl (sw_true rfl rfl rfl (by decide +kernel)) (pi_range1 (by rfl) T.z_range (pa_cons (pv 1) pa_nil)) (blkOk_by (own := [("_law_k", 5)]) (N := N_law_drawn_map) (sc := (defScope s_law_drawn_map)) (by decide +kernel)) (fun _ _ _ _ _ => pg_name (i := 5) sc_law_drawn_map.nd rfl (Or.inl rfl)) (fun _ _ _ _ _ => pts_nil) (fun _ _ _ _ _ => (pv 5)))
      (pss_cons (ps_set (i := 4) sc_law_drawn_map.nd rfl (Or.inl rfl) (pe_lst pa_nil))
      (pss_cons (ps_for PassesOwn.never rfl (pi_range1 (by rfl) T.z_range (pa_cons (pv 1) pa_nil)) (pg_name (i := 5) sc_law_drawn_map.nd rfl (Or.inl rfl)) (pss_one (ps_expr (kpe_bm K PySem.F.plainAttrs_list PySem.F.slot_list_append PySem.F.type_list_append mt_append (pv 4) (pa_cons (kpe_bm K PySem.F.plainAttrs_list PySem.F.slot_list_pop PySem.F.type_list_pop mt_popAt (pv 3) (pa_cons (pe_call (ok_law_take T) (hr.mono (by decide)) (by rfl) T.law_take.g T.law_take.F.kp T.law_take.b .nil pass0 (pa_cons (pv 0) (pa_cons (pe_callB (kc_len K) (by rfl) T.z_len PySem.boot_len (pa_cons (pv 3) pa_nil)) pa_nil))) pa_nil)) pa_nil)))))
      (pss_one (ps_ret (pe_tup (pa_cons (pe_callTy (kc_tuple K) (by rfl) T.z_tuple (by decide +kernel) (pa_cons (pv 4) pa_nil)) (pa_cons (pe_callTy (kc_tuple K) (by rfl) T.z_tuple (by decide +kernel) (pa_cons (pe_lc (own := [("_law_k", 5)]) (g := gName 5) rfl sc_law_drawn_map.nd (pi_range1 (by rfl) T.z_range (pa_cons (pv 1) pa_nil)) (blkOk_by (own := [("_law_k", 5)]) (N := N_law_drawn_map) (sc := (defScope s_law_drawn_map)) (by decide +kernel)) (fun _ _ _ _ _ => pg_name (i := 5) sc_law_drawn_map.nd rfl (Or.inl rfl)) (fun _ _ _ _ _ => pts_nil) (fun _ _ _ _ _ => (pe_op op_add pe_int (pe_call (ok_law_take T) (hr.mono (by decide)) (by rfl) T.law_take.g T.law_take.F.kp T.law_take.b .nil pass0 (pa_cons (pv 0) (pa_cons (pe_op op_sub (pv 2) pe_int) pa_nil)))))) pa_nil)) pa_nil)))))))), ?_⟩
  refine q_asgN (PA := NL K ((nw (List.range n)).map PyData.int)) (EvN.is (en_lcR (n := (n : Int)) (fun _ => true) (fun k => .int (k : Int)) (fun _ => rfl) (ea_cons (ed_var rfl (.int _)) ea_nil) ⟨by omega, by omega⟩ (fun _ => rfl) (fun _ _ _ _ => eb_yes) (fun i H1 e hi _ => ed_var rfl (.int _))) (by rw [filter_yes, Int.toNat_natCast]; unfold nw; rw [List.map_map] <;> rfl)) fun rl H1 hrl e1 n1 => ?_
  refine q_asgN (PA := NL K []) (en_lst (ds := []) ea_nil (by decide)) fun pl H2 hpl e2 n2 => ?_
  have hra : rl ≠ a := st.ne hrl
  have hplH : H pl = none := fresh_back e1 hpl
  have hpa : pl ≠ a := st.ne hplH
  have hrp : rl ≠ pl := fun z => by
    obtain ⟨ys, h⟩ := n1.at
    rw [z, hpl] at h
    cases h
  have st2 := st.mono (e1.trans e2)
  obtain ⟨xs1, x1, x2⟩ := n1
  rw [ints_of_dp x2] at x1
  obtain ⟨xs2, y1, y2⟩ := n2
  cases y2
  refine q_forR (n := (n : Int)) (ea_cons (ed_var (K := K) rfl (.int _)) ea_nil) ⟨by omega, by omega⟩
    (fun i σ' H' => ∃ (rs ps : List Nat), (∃ z, σ' = [some (.ref a), some (.int (n : Int)), some (.int p), some (.ref rl), some (.ref pl), z]) ∧ rs.length + i = n ∧ (ps ++ rs).Perm (List.range n) ∧ ExS a H H' ∧ StAt H' a ∧ H' rl = some (.lst ((nw rs).map V.int)) ∧ H' pl = some (.lst ((nw ps).map V.int)))
    (fun H3 e3 => ⟨List.range n, [], ⟨_, rfl⟩, by rw [List.length_range] <;> rfl, List.Perm.refl _, Ex.s ((e1.trans e2).trans e3), st2.mono e3, e3 _ _ (e2 _ _ x1), e3 _ _ y1⟩) (fun i σ' H' hi h => ?_) (fun σ' H' h => ?_)
  · obtain ⟨rs, ps, ⟨z, rfl⟩, hl, hperm, e, st3, hr3, hp3⟩ := h
    have hi' : i < n := by omega
    have hpl2 : ps.length = i := by
      have := hperm.length_eq
      rw [List.length_append, List.length_range] at this
      omega
    refine ⟨.ref pl, rfl, Or.inl ⟨rfl, _, sq_of hp3⟩, ?_⟩
    refine ⟨.ref rl, rfl, Or.inl ⟨rfl, _, sq_of hr3⟩, ?_⟩
    have elen : EvD K (tCB (rLenS K) (tCons (tVar 3) tNil)) [some (.ref a), some (.int (n : Int)), some (.int p), some (.ref rl), some (.ref pl), some (.int (i : Int))] H' (.int (rs.length : Int)) := by
      have q := ed_lenL (K := K) (ds := (nw rs).map PyData.int) (ed_var (σ := [some (.ref a), some (.int (n : Int)), some (.int p), some (.ref rl), some (.ref pl), some (.int (i : Int))]) (H := H') (n := 3) rfl (.lst hr3 (dpAll_ints _)))
      rw [List.length_map, nw_len] at q
      exact q
    refine take_call (K := K) (a := a) (m := (rs.length : Int)) (ea_cons (ex_var rfl) (ea_cons elen ea_nil)) st3 ⟨by omega, by omega⟩ fun r H4 r0 r1 e4 s4 => ?_
    have hr4 := e4 _ _ hra hr3
    have hp4 := e4 _ _ hpa hp3
    obtain ⟨k0, rfl⟩ : ∃ k0 : Nat, r = (k0 : Int) := ⟨r.toNat, by omega⟩
    have hk0 : k0 < rs.length := by omega
    have hx : rs[k0]? = some (rs.getD k0 0) := getD_at 0 hk0
    refine ⟨rl, _, (k0 : Int), k0, .int ((rs.getD k0 0 : Nat) : Int), rfl, rfl, hr4, by omega, by omega, ?_, ?_, ?_⟩
    · unfold seqIndex?
      rw [List.length_map, nw_len]
      have c1 : ¬ ((k0 : Int) < 0) := by omega
      simp only [c1, if_false]
      rw [if_pos (by simp; omega), Int.toNat_natCast]
    · rw [List.getElem?_map, nw_at hk0] <;> rfl
    · have hpl5 : upd H4 rl (.lst (((nw rs).map V.int).eraseIdx k0)) pl = some (.lst ((nw ps).map V.int)) := by
        rw [upd_ne (Ne.symm hrp)]
        exact hp4
      refine ⟨pl, _, _, rfl, rfl, hpl5, sz_lt (by rw [List.length_map, nw_len]; omega), rs.eraseIdx k0, ps ++ [rs.getD k0 0], ⟨_, rfl⟩, ?_, (perm_pop hx).trans hperm, ExS.mut (ExS.mut (e.trans e4) hrl) hplH, (s4.upd hra).upd hpa, ?_, ?_⟩
      · rw [List.length_eraseIdx_of_lt hk0]
        omega
      · rw [upd_ne hrp, upd_same, nw_erase]
      · rw [upd_same]
        unfold nw
        rw [List.map_append, List.map_append] <;> rfl
  · obtain ⟨rs, ps, ⟨z, rfl⟩, hl, hperm, e, st3, hr3, hp3⟩ := h
    have hrs : rs = [] := List.eq_nil_of_length_eq_zero (by omega)
    subst hrs
    rw [List.append_nil] at hperm
    refine (ed_tupL (K := K) (ds := (nw ps).map PyData.int) (tOnly_ints _) (ed_var rfl (.lst hp3 (dpAll_ints _)))) H' (Ex.refl _) _ fun v1 H4 e4 p1 => ?_
    have s4 := st3.mono e4
    refine tup_lc ?_
    refine lc_take (K := K) (a := a) (n := (n : Int)) (lo := 1) (hi := p) (ea_cons (ed_var rfl (.int _)) ea_nil) ⟨by omega, by omega⟩ (fun _ => rfl) s4 (fun i H1 hi e1 s1 Q' q' => take_call (K := K) (m := p - 1) (ea_cons (ex_var rfl) (ea_cons (ed_sub (ed_var rfl (.int _)) ed_int) ea_nil)) s1 ⟨by omega, by omega⟩ fun r H2 r0 r1 e2 s2 => ⟨1, r, rfl, rfl, q' (1 + r) H2 (by omega) (by omega) e2 s2⟩) fun ws q H5 hl5 hb hq e5 s5 h5 => ?_
    refine ⟨q, _, rfl, .inl ⟨sq_of h5, fun l hl1 => ⟨sz_of (by show 2 ≤ 100000; decide), fun t ht => ?_⟩⟩⟩
    have hla := s5.ne hl1
    have s6 := s5.upd (o := .tup (ws.map V.int)) hla
    have hta := s6.ne ht
    have p5 := dp_S s4 e5 (tOnly_wd _) p1
    refine k ps ws _ _ hperm (by omega) hb (.tup upd_same (.cons ?_ (.cons ?_ .nil))) ?_ (s6.upd hta)
    · exact dp_mono (ex_of_new ht) (dp_mono (ex_of_new hl1) p5)
    · exact dp_mono (ex_of_new ht) (dp_of_wd upd_same)
    · exact ((e.trans (Ex.s e4)).trans e5).trans ((Ex.s (ex_of_new hl1)).trans (Ex.s (ex_of_new ht)))
end
end WK

set_option Elab.async false
set_option linter.all false
set_option maxRecDepth 100000
set_option maxHeartbeats 4000000
/-! Data beside the state; spoilt. -/
namespace WK
open PySem PySem.Spec PyProof.Rows L2 WM
open Evl (Ex ex_l ex_t ex_rd sq_of st_of sz_of sz_lt fresh_back rLenS rListS)
/-- the heap without the list at a -/
def er (a : Addr) (H : Hp) : Hp := fun b => if b = a then none else H b
/-- data that does not hold the list at a -/
def DPe (K : PySem.W.Frag) (a : Addr) (d : PyData) : VP := fun H v => Dp K (er a H) v d
section
variable {K : PySem.W.Frag} {σ : L2.St} {H H' H2 : Hp} {a : Addr} {ta te tl : TE} {P : VP} {D : Ends} {tz : TS} {d : PyData} {v : V}
theorem er_ne {b : Addr} (h : b ≠ a) : er a H b = H b := if_neg h
theorem er_ex (e : ExS a H H') : Ex (er a H) (er a H') := fun b o q => by
  by_cases h : b = a
  · unfold er at q
    rw [if_pos h] at q
    cases q
  · rw [er_ne h] at q ⊢
    exact e b o h q
theorem er_sub : Ex (er a H) H := fun b o q => by
  by_cases h : b = a
  · unfold er at q
    rw [if_pos h] at q
    cases q
  · rw [er_ne h] at q
    exact q
theorem dp_er (st : StAt H a) (hd : tOnly d = true) (h : Dp K H v d) : Dp K (er a H) v d := dp_tkeep (fun b xs q => by
  rw [er_ne fun z => ?_]
  · exact q
  · obtain ⟨s, t, r, _⟩ := st
    rw [z, r] at q
    cases q) d v hd h
theorem dpAll_er {vs : List V} {ds : List PyData} (st : StAt H a) (hd : tOnlyAll ds = true) (h : DpAll K H vs ds) : DpAll K (er a H) vs ds := dpAll_tkeep (fun b xs q => by
  rw [er_ne fun z => ?_]
  · exact q
  · obtain ⟨s, t, r, _⟩ := st
    rw [z, r] at q
    cases q) ds vs hd h
instance (K : PySem.W.Frag) (a : Addr) (d : PyData) : Mono (DPe K a d) := ⟨fun e h => dp_mono (er_ex (Ex.s e)) h⟩
theorem EvP.e (st : StAt H a) (hd : tOnly d = true) (h : EvD K te σ H d) : EvP te σ H (DPe K a d) := fun H1 e Q q => h H1 e Q fun v H2 e2 p => q v H2 e2 (dp_er (st.mono (e.trans e2)) hd p)
theorem EvN.e (st : StAt H a) {ds : List PyData} (hd : tOnlyAll ds = true) (h : EvN te σ H (NL K ds)) : EvP te σ H (DPe K a (.list ds)) := fun H1 e Q q => h H1 e Q fun p H2 hp e2 hn => q _ H2 e2 (by
  obtain ⟨xs, h1, h2⟩ := hn
  exact .lst (by rw [er_ne ((st.mono e).ne hp)]; exact h1) (dpAll_er (st.mono (e.trans e2)) hd h2))
theorem allE : ∀ {ds : List PyData} {H : Hp} {vs : List V}, AllP (ds.map (DPe K a)) H vs → DpAll K (er a H) vs ds
  | [], _, [], _ => .nil
  | [], _, _ :: _, h => h.elim
  | _ :: _, _, [], h => h.elim
  | _ :: _, _, _ :: _, h => .cons h.1 (allE h.2)
/-- displays -/
theorem ed_tupE {ta : TA} {ds : List PyData} (st : StAt H a) (h : EvA ta σ H (ds.map (DPe K a))) (hl : ds.length ≤ 100000) : EvP (tTup ta) σ H (DPe K a (.tuple ds)) := fun H1 e Q q => h H1 e _ fun vs H2 e2 ps => by
  have al := allE ps
  exact ⟨sz_of (by rw [dpAll_len al]; exact hl), fun p hp => q _ _ (e2.trans (ex_of_new hp)) (.tup (by rw [er_ne ((st.mono (e.trans e2)).ne hp)]; exact upd_same) (dpAll_mono (er_ex (Ex.s (ex_of_new hp))) al))⟩
/-- a new list beside the state -/
def NLe (K : PySem.W.Frag) (a : Addr) (ds : List PyData) (H : Hp) (p : Addr) : Prop := ∃ xs, H p = some (.lst xs) ∧ DpAll K (er a H) xs ds
theorem NLe.mono {ds : List PyData} {p : Addr} (e : Ex H H') (h : NLe K a ds H p) : NLe K a ds H' p := by
  obtain ⟨xs, h1, h2⟩ := h
  exact ⟨xs, e _ _ h1, dpAll_mono (er_ex (Ex.s e)) h2⟩
theorem NLe.S {ds : List PyData} {p : Addr} (e : ExS a H H') (hp : p ≠ a) (h : NLe K a ds H p) : NLe K a ds H' p := by
  obtain ⟨xs, h1, h2⟩ := h
  exact ⟨xs, e _ _ hp h1, dpAll_mono (er_ex e) h2⟩
theorem EvN.ise {ds es : List PyData} (h : EvN te σ H (NLe K a ds)) (e : ds = es) : EvN te σ H (NLe K a es) := e ▸ h
theorem EvN.toE {ds : List PyData} (st : StAt H a) (hd : tOnlyAll ds = true) (h : EvN te σ H (NL K ds)) : EvN te σ H (NLe K a ds) := fun H1 e Q q => h H1 e Q fun p H2 hp e2 ⟨xs, h1, h2⟩ => q p H2 hp e2 ⟨xs, h1, dpAll_er (st.mono (e.trans e2)) hd h2⟩
theorem en_lstE {ta : TA} {ds : List PyData} (st : StAt H a) (h : EvA ta σ H (ds.map (DPe K a))) (hl : ds.length ≤ 100000) : EvN (tLst ta) σ H (NLe K a ds) := fun H1 e Q q => h H1 e _ fun vs H2 e2 ps => by
  have al := allE ps
  exact ⟨sz_of (by rw [dpAll_len al]; exact hl), fun p hp => q _ _ (fresh_back e2 hp) (e2.trans (ex_of_new hp)) ⟨vs, upd_same, dpAll_mono (er_ex (Ex.s (ex_of_new hp))) al⟩⟩
/-- a new list, with the heap before it was laid -/
def NL0 (K : PySem.W.Frag) (a : Addr) (Hs : Hp) (ds : List PyData) (H : Hp) (p : Addr) : Prop := ∃ xs H0, Ex Hs H0 ∧ H0 p = none ∧ Ex H0 H ∧ H p = some (.lst xs) ∧ DpAll K (er a H0) xs ds
theorem en_lst0 {ta : TA} {ds : List PyData} (h : EvA ta σ H (ds.map (DPe K a))) (hl : ds.length ≤ 100000) : EvN (tLst ta) σ H (NL0 K a H ds) := fun H1 e Q q => h H1 e _ fun vs H2 e2 ps => by
  have al := allE ps
  exact ⟨sz_of (by rw [dpAll_len al]; exact hl), fun p hp => q _ _ (fresh_back e2 hp) (e2.trans (ex_of_new hp)) ⟨vs, H2, e.trans e2, hp, ex_of_new hp, upd_same, al⟩⟩
/-- x + y, x a list that H holds, y a new list -/
theorem en_catE {tb : TE} {ds es : List PyData} {p : Addr} (st : StAt H a) (ha : EvP ta σ H (XP (.ref p))) (hx : NLe K a ds H p) (hb : EvN tb σ H (NLe K a es)) (hz : ds.length + es.length ≤ 100000) : EvN (tOp rCat ta tb) σ H (NLe K a (ds ++ es)) := fun H1 e Q q =>
  ha H1 e _ fun v H2 e2 hv => hb H2 (e.trans e2) _ fun r H3 hr e3 b => by
    have hv' : v = .ref p := hv
    subst hv'
    have E := (e.trans e2).trans e3
    obtain ⟨xs, x1, x2⟩ := hx.mono E
    obtain ⟨ys, y1, y2⟩ := b
    exact ⟨p, r, xs, ys, rfl, rfl, x1, y1, sz_of (by rw [dpAll_len x2, dpAll_len y2]; exact hz), fun l hl =>
      q l _ (fresh_back (e2.trans e3) hl) ((e2.trans e3).trans (ex_of_new hl)) ⟨xs ++ ys, upd_same, dpAll_app (dpAll_mono (er_ex (Ex.s (ex_of_new hl))) x2) (dpAll_mono (er_ex (Ex.s (ex_of_new hl))) y2)⟩⟩
end
/-! ### _law_spoilt -/
def vals1 (p : Int) : List PyData := [.int 0, .int p, .int (-1), .bool true, .none]
def vals2 (n : Int) : List PyData := [.int (-1), .int n, .bool true, .none]
def hole (u : W) (i : Nat) (x : PyData) : PyData := .tuple ((u.take i).map PyData.int ++ [x] ++ (u.drop (i + 1)).map PyData.int)
def base4 (p : Int) (pl mu z : W) : List PyData := [.tuple [.str "keeps", wd pl, lw mu], .tuple [.str "changes", wd (z.take (z.length - 1))], .tuple [.str "changes", wd (z.take (z.length - 1) ++ [p])], .tuple [.str "changes", .tuple ((z.take (z.length - 1)).map PyData.int ++ [.bool true])]]
def spoilM (p : Int) (n : Nat) (pl mu z : W) (i : Nat) : List PyData := base4 p pl mu z ++ (vals1 p).map (fun x => .tuple [.str "keeps", wd pl, hole mu i x]) ++ (vals2 (n : Int)).map fun x => .tuple [.str "keeps", hole pl i x, wd mu]
theorem cutNeg (ds : List PyData) (h : 0 < ds.length) : cutD ds none (some (-1)) = ds.take (ds.length - 1) := by
  unfold cutD
  have h1 : HT.sIx ds.length ds.length (some (-1)) = ds.length - 1 := by
    show (if (-1 : Int) < 0 then ((-1 : Int) + (ds.length : Int)).toNat else min (-1 : Int).toNat ds.length) = _
    rw [if_pos (by decide)]
    omega
  rw [h1, HT.sIx_none, List.drop_zero, Nat.sub_zero]
theorem tOnly_app : ∀ {ds es : List PyData}, tOnlyAll ds = true → tOnlyAll es = true → tOnlyAll (ds ++ es) = true
  | [], _, _, h => h
  | d :: ds, es, h1, h2 => by
    have h : (tOnly d && tOnlyAll ds) = true := h1
    rw [Bool.and_eq_true] at h
    show (tOnly d && tOnlyAll (ds ++ es)) = true
    rw [h.1, tOnly_app h.2 h2] <;> rfl
theorem tOnlyAll_of : ∀ {ds : List PyData}, (∀ x ∈ ds, tOnly x = true) → tOnlyAll ds = true
  | [], _ => rfl
  | d :: ds, h => by
    show (tOnly d && tOnlyAll ds) = true
    rw [h d List.mem_cons_self, tOnlyAll_of fun y hy => h y (List.mem_cons_of_mem _ hy)] <;> rfl
theorem tOnly_hole (u : W) (i : Nat) {x : PyData} (h : tOnly x = true) : tOnly (hole u i x) = true := tOnly_app (tOnly_app (tOnly_ints _) (by show (tOnly x && true) = true; rw [h] <;> rfl)) (tOnly_ints _)
theorem hole_len (u : W) (i : Nat) : ((u.take i).map PyData.int).length + 1 + ((u.drop (i + 1)).map PyData.int).length ≤ u.length + 1 := by
  rw [List.length_map, List.length_map, List.length_take, List.length_drop]
  omega
section
variable {P : Program} {w : World} {K : PySem.W.Frag} {mg : Str → Option Value} {base : Heap}
def sp_law_spoilt (K : PySem.W.Frag) : Sp := fun vs H Q _ => ∃ (a : Addr) (n : Nat) (p : Int) (pl mu z : W), AllP [XP (.ref a), DP K (.int p), DP K (wd pl), DP K (wd mu), DP K (wd z)] H vs ∧ StAt H a ∧ 0 < n ∧ n ≤ 100 ∧ pl.length = n ∧ mu.length = n ∧ z.length = n ∧
  ∀ i q H', i < n → H q = none → NLe K a (spoilM p n pl mu z i) H' q → ExS a H H' → StAt H' a → Q (.ref q) H'
theorem allP5 {P P2 P3 P4 P5 : VP} {H : Hp} : ∀ {vs : List V}, AllP [P, P2, P3, P4, P5] H vs → ∃ a b c d e, vs = [a, b, c, d, e] ∧ P H a ∧ P2 H b ∧ P3 H c ∧ P4 H d ∧ P5 H e
  | [a, b, c, d, e], h => ⟨a, b, c, d, e, rfl, h.1, h.2.1, h.2.2.1, h.2.2.2.1, h.2.2.2.2.1⟩
  | [], h => h.elim
  | [_], h => h.2.elim
  | [_, _], h => h.2.2.elim
  | [_, _, _], h => h.2.2.2.elim
  | [_, _, _, _], h => h.2.2.2.2.elim
  | _ :: _ :: _ :: _ :: _ :: _ :: _, h => h.2.2.2.2.2.elim
/-- out.append for each of some values -/
theorem spoil_loop {K : PySem.W.Frag} {H Hx : Hp} {a out : Addr} {vp vz vn vi z0 : Option V} {vpl vmu : V} {pl mu : W} {tl te : TE} {D : Ends} {tz : TS} {xs0 : List V} (vals : List PyData) (g : PyData → PyData) (hvt : tOnlyAll vals = true) (hg : ∀ x ∈ vals, tOnly (g x) = true) (done : List PyData) (hdt : tOnlyAll done = true)
    (hvz : vals.length ≤ 10) (hbz : xs0.length + done.length ≤ 1000) (hl : EvN tl [some (.ref a), vp, some vpl, some vmu, vz, vn, some (.ref out), vi, z0] H (NL K vals)) (eX : ExS a Hx H) (st : StAt H a) (ho : Hx out = none) (hoa : out ≠ a)
    (hc : ∃ ws, H out = some (.lst (xs0 ++ ws)) ∧ DpAll K H ws done) (hpl : Dp K H vpl (wd pl)) (hmu : Dp K H vmu (wd mu))
    (hte : ∀ x v H1, x ∈ vals → Dp K H1 vpl (wd pl) → Dp K H1 vmu (wd mu) → Dp K H1 v x → EvD K te [some (.ref a), vp, some vpl, some vmu, vz, vn, some (.ref out), vi, some v] H1 (g x))
    (k : ∀ z H', ExS a Hx H' → StAt H' a → Dp K H' vpl (wd pl) → Dp K H' vmu (wd mu) → (∃ ws, H' out = some (.lst (xs0 ++ ws)) ∧ DpAll K H' ws (done ++ vals.map g)) → tz D [some (.ref a), vp, some vpl, some vmu, vz, vn, some (.ref out), vi, z] H') :
    tSeq (tFor (iList K tl) (gName 8) (tDrop (tBM K "list" rAppend (tVar 6) (tCons te tNil)))) tz D [some (.ref a), vp, some vpl, some vmu, vz, vn, some (.ref out), vi, z0] H := by
  have tg : ∀ xs : List PyData, (∀ x ∈ xs, tOnly (g x) = true) → tOnlyAll (xs.map g) = true := fun xs => by
    induction xs with
    | nil => exact fun _ => rfl
    | cons x xs ih =>
      intro h
      show (tOnly (g x) && tOnlyAll (xs.map g)) = true
      rw [h x List.mem_cons_self, ih fun y hy => h y (List.mem_cons_of_mem _ hy)] <;> rfl
  refine q_forN hl (fun q xs i σ' H' => ∃ z, σ' = [some (.ref a), vp, some vpl, some vmu, vz, vn, some (.ref out), vi, z] ∧ ExS a Hx H' ∧ StAt H' a ∧ H' q = some (.lst xs) ∧ DpAll K H' xs vals ∧ q ≠ out ∧ Dp K H' vpl (wd pl) ∧ Dp K H' vmu (wd mu) ∧ ∃ ws, H' out = some (.lst (xs0 ++ ws)) ∧ DpAll K H' ws (done ++ (vals.take i).map g))
    (fun q xs H1 hq e1 h1 al1 => ?_) (fun q xs i σ' H' ⟨_, _, _, _, h, _⟩ => h) (fun q xs i x σ' H' hlx hi h => ?_) (fun q xs σ' H' h => ?_)
  · obtain ⟨ws, hw, dw⟩ := hc
    refine ⟨_, rfl, eX.trans (Ex.s e1), st.mono e1, h1, al1, fun z => ?_, dp_mono e1 hpl, dp_mono e1 hmu, ws, e1 _ _ hw, ?_⟩
    · rw [z, hw] at hq
      cases hq
    · rw [List.take_zero, List.map_nil, List.append_nil]
      exact dpAll_mono e1 dw
  · obtain ⟨z, rfl, e, s1, h1, al1, hne, p1, p2, ws, hw, dw⟩ := h
    have hi' : i < vals.length := by
      have := (List.getElem?_eq_some_iff.mp hi).1
      omega
    have hvi : vals[i]? = some vals[i] := List.getElem?_eq_getElem hi'
    have px : Dp K H' x vals[i] := by
      obtain ⟨v, a1, a2⟩ := dpAll_at al1 hvi
      rw [hi] at a1
      cases a1
      exact a2
    have hmem := List.getElem_mem hi'
    have hlw := dpAll_len dw
    rw [List.length_append, List.length_map, List.length_take] at hlw
    refine s_app (P := DP K (g vals[i])) hw (ex_var rfl) (hte _ x H' hmem p1 p2 px) (by rw [List.length_append]; omega) fun v H2 e2 pv => ?_
    have hw2 := e2 _ _ hw
    refine ⟨_, rfl, ExS.mut (e.trans (Ex.s e2)) ho, (s1.mono e2).upd hoa, ?_, dpAll_updL hw2 hvt (dpAll_mono e2 al1), hne, dp_updL hw2 (tOnly_wd _) (dp_mono e2 p1), dp_updL hw2 (tOnly_wd _) (dp_mono e2 p2), ws ++ [v], ?_, ?_⟩
    · rw [upd_ne hne]
      exact e2 _ _ h1
    · rw [← List.append_assoc]
      exact upd_same
    · rw [take_snoc hvi, List.map_append, ← List.append_assoc]
      exact dpAll_snoc (dpAll_updL hw2 (tOnly_app hdt (tg _ fun y hy => hg y (List.mem_of_mem_take hy))) (dpAll_mono e2 dw)) (dp_updL hw2 (hg _ hmem) pv)
  · obtain ⟨z, rfl, e, s1, h1, al1, hne, p1, p2, ws, hw, dw⟩ := h
    rw [List.take_length] at dw
    exact k z H' e s1 p1 p2 ⟨ws, hw, dw⟩
theorem ok_law_spoilt (T : Txt K mg) : FnOk P w K mg base CX0 2 T.law_spoilt.f T.law_spoilt.fd ["_law_state_here", "_law_p", "_law_places", "_law_multiples_here", "_law_word_here"] (sp_law_spoilt K) := by
  refine T.law_spoilt.F.ok sc_law_spoilt (fun vs H Q E h => ?_) (fun cdv A outer s H vs Q E hr h => ?_)
  · obtain ⟨a, n, p, pl, mu, z, ps, _⟩ := h
    exact allP_len ps
  obtain ⟨a, n, p, pl, mu, z, ps, st, hn0, hn, hl1, hl2, hl3, k⟩ := h
  obtain ⟨va, vp, vl, vm, vz, rfl, hva, pp, ppl, pmu, pz⟩ := allP5 ps
  have hva' : va = .ref a := hva
  subst hva'
  refine ⟨_, (pss_cons (ps_set (i := 5) sc_law_spoilt.nd rfl (Or.inl rfl) (pe_callB (kc_len K) (by rfl) T.z_len PySem.boot_len (pa_cons (pv 2) pa_nil)))
      (pss_cons (ps_set (i := 6) sc_law_spoilt.nd rfl (Or.inl rfl) (pe_lst (pa_cons (pe_tup (pa_cons pe_str (pa_cons (pv 2) (pa_cons (pe_callTy (kc_list K) (by rfl) T.z_list (by decide +kernel) (pa_cons (pv 3) pa_nil)) pa_nil)))) (pa_cons (pe_tup (pa_cons pe_str (pa_cons (pe_slice (ks_tup K) (pv 4) po_none (po_some (pe_un un_neg pe_int))) pa_nil))) (pa_cons (pe_tup (pa_cons pe_str (pa_cons (pe_op (ko_catA K) (pe_slice (ks_tup K) (pv 4) po_none (po_some (pe_un un_neg pe_int))) (pe_tup (pa_cons (pv 1) pa_nil))) pa_nil))) (pa_cons (pe_tup (pa_cons pe_str (pa_cons (pe_op (ko_catA K) (pe_slice (ks_tup K) (pv 4) po_none (po_some (pe_un un_neg pe_int))) (pe_tup (pa_cons pe_bl pa_nil))) pa_nil))) pa_nil))))))
      (pss_cons (ps_set (i := 7) sc_law_spoilt.nd rfl (Or.inl rfl) (pe_call (ok_law_take T) (hr.mono (by decide)) (by rfl) T.law_take.g T.law_take.F.kp T.law_take.b .nil pass0 (pa_cons (pv 0) (pa_cons (pv 5) pa_nil))))
      (pss_cons (ps_for PassesOwn.never rfl (kpi_list K (pe_lst (pa_cons pe_int (pa_cons (pv 1) (pa_cons (pe_un un_neg pe_int) (pa_cons pe_bl (pa_cons pe_non pa_nil))))))) (pg_name (i := 8) sc_law_spoilt.nd rfl (Or.inl rfl)) (pss_one (ps_expr (kpe_bm K PySem.F.plainAttrs_list PySem.F.slot_list_append PySem.F.type_list_append mt_append (pv 6) (pa_cons (pe_tup (pa_cons pe_str (pa_cons (pv 2) (pa_cons (pe_op (ko_catA K) (pe_op (ko_catA K) (pe_slice (ks_tup K) (pv 3) po_none (po_some (pv 7))) (pe_tup (pa_cons (pv 8) pa_nil))) (pe_slice (ks_tup K) (pv 3) (po_some (pe_op op_add (pv 7) pe_int)) po_none)) pa_nil)))) pa_nil)))))
      (pss_cons (ps_for PassesOwn.never rfl (kpi_list K (pe_lst (pa_cons (pe_un un_neg pe_int) (pa_cons (pv 5) (pa_cons pe_bl (pa_cons pe_non pa_nil)))))) (pg_name (i := 8) sc_law_spoilt.nd rfl (Or.inl rfl)) (pss_one (ps_expr (kpe_bm K PySem.F.plainAttrs_list PySem.F.slot_list_append PySem.F.type_list_append mt_append (pv 6) (pa_cons (pe_tup (pa_cons pe_str (pa_cons (pe_op (ko_catA K) (pe_op (ko_catA K) (pe_slice (ks_tup K) (pv 2) po_none (po_some (pv 7))) (pe_tup (pa_cons (pv 8) pa_nil))) (pe_slice (ks_tup K) (pv 2) (po_some (pe_op op_add (pv 7) pe_int)) po_none)) (pa_cons (pv 3) pa_nil)))) pa_nil)))))
      (pss_one (ps_ret (pv 6)))))))), ?_⟩
  refine q_asg (P := DP K (.int (n : Int))) (EvP.is (ed_lenT (ed_var rfl ppl)) (by rw [List.length_map, hl1])) fun v5 H1 e1 p5 => ?_
  have ev5 := dp_int p5
  subst ev5
  have st1 := st.mono e1
  have zl : 0 < (z.map PyData.int).length := by rw [List.length_map]; omega
  have cz : ∀ {σ : L2.St}, σ[4]? = some (some vz) → EvD K (tSl (rSlA K) (tVar 4) tNoPart (tPart (tUn (rU fun i => .int (-i)) (tC (.int 1))))) σ H1 (wd (z.take (z.length - 1))) := fun {σ} hσ => EvP.is (ed_slT (ed_var hσ (dp_mono e1 pz)) eo_none (eo_some (ed_neg (ed_int (K := K) (i := 1))))) (by rw [show (-(1 : Int)) = -1 from rfl, cutNeg _ zl, List.length_map, ints_take])
  have hzl : (z.take (z.length - 1)).length ≤ 100 := Nat.le_trans (List.length_take_le' _ _) (by omega)
  refine q_asgN (PA := NL0 K a H1 (base4 p pl mu z)) (en_lst0 (ds := base4 p pl mu z) (ea_cons (ed_tupE (ds := [.str "keeps", wd pl, lw mu]) st1 (ea_cons (EvP.e st1 rfl ed_str) (ea_cons (EvP.e st1 (tOnly_wd _) (ed_var rfl (dp_mono e1 ppl))) (ea_cons (EvN.e st1 (tOnly_ints _) (en_listT (ed_var rfl (dp_mono e1 pmu)))) ea_nil))) (by show 3 ≤ 100000; decide))
    (ea_cons (ed_tupE (ds := [.str "changes", wd (z.take (z.length - 1))]) st1 (ea_cons (EvP.e st1 rfl ed_str) (ea_cons (EvP.e st1 (tOnly_wd _) (cz rfl)) ea_nil)) (by show 2 ≤ 100000; decide))
    (ea_cons (ed_tupE (ds := [.str "changes", wd (z.take (z.length - 1) ++ [p])]) st1 (ea_cons (EvP.e st1 rfl ed_str) (ea_cons (EvP.e st1 (tOnly_wd _) (EvP.is (ed_catT (cz rfl) (ed_tup (ds := [.int p]) (ea_cons (ed_var rfl (dp_mono e1 pp)) ea_nil) (by show 1 ≤ 100000; decide)) (by rw [List.length_map]; show _ + 1 ≤ _; omega)) (by show PyData.tuple _ = PyData.tuple _; rw [List.map_append] <;> rfl))) ea_nil)) (by show 2 ≤ 100000; decide))
    (ea_cons (ed_tupE (ds := [.str "changes", .tuple ((z.take (z.length - 1)).map PyData.int ++ [.bool true])]) st1 (ea_cons (EvP.e st1 rfl ed_str) (ea_cons (EvP.e st1 (tOnly_app (tOnly_ints _) rfl) (ed_catT (cz rfl) (ed_tup (ds := [.bool true]) (ea_cons ed_bl ea_nil) (by show 1 ≤ 100000; decide)) (by rw [List.length_map]; show _ + 1 ≤ _; omega))) ea_nil)) (by show 2 ≤ 100000; decide))
    ea_nil)))) (by show 4 ≤ 100000; decide)) fun out H2 hout e2 n2 => ?_
  have st2 := st1.mono e2
  have houtH : H out = none := fresh_back e1 hout
  have hoa : out ≠ a := st.ne houtH
  obtain ⟨xs0, H0, x01, x02, x03, x1, x2⟩ := n2
  have E2 := e1.trans e2
  refine take_call (K := K) (a := a) (m := (n : Int)) (ea_cons (ex_var rfl) (ea_cons (ed_var rfl (.int _)) ea_nil)) st2 ⟨by omega, by omega⟩ fun r H3 r0 r1 e3 s3 => ?_
  obtain ⟨i, rfl⟩ : ∃ i : Nat, r = (i : Int) := ⟨r.toNat, by omega⟩
  have hi : i < n := by omega
  have x3 := e3 _ _ hoa x1
  have ppl3 := dp_S st2 e3 (tOnly_wd _) (dp_mono E2 ppl)
  have pmu3 := dp_S st2 e3 (tOnly_wd _) (dp_mono E2 pmu)
  have pp0 := dp_int pp
  subst pp0
  have holeE : ∀ {u : W} {j : Nat} {vu v : V} {x : PyData} {H1 : Hp} {σ : L2.St}, u.length = n → σ[j]? = some (some vu) → σ[7]? = some (some (.int (i : Int))) → σ[8]? = some (some v) → Dp K H1 vu (wd u) → Dp K H1 v x →
      EvD K (tOp (rCatA K) (tOp (rCatA K) (tSl (rSlA K) (tVar j) tNoPart (tPart (tVar 7))) (tTup (tCons (tVar 8) tNil))) (tSl (rSlA K) (tVar j) (tPart (tOp (rI0 fun i j => .int (i + j)) (tVar 7) (tC (.int 1)))) tNoPart)) σ H1 (hole u i x) := fun {u j vu v x H1 σ} hu h1 h2 h3 p1 p2 => by
    have hb := hole_len u i
    refine EvP.is (ed_catT (ds := (u.take i).map PyData.int ++ [x]) (es := (u.drop (i + 1)).map PyData.int) (EvP.is (ed_catT (ds := (u.take i).map PyData.int) (es := [x]) (EvP.is (ed_slT (ed_var h1 p1) eo_none (eo_some (ed_var (K := K) h2 (.int (i : Int))))) (by rw [cutTo, ints_take])) (ed_tup (ds := [x]) (ea_cons (ed_var h3 p2) ea_nil) (by show 1 ≤ 100000; decide)) ?_) rfl) (EvP.is (ed_slT (ed_var h1 p1) (eo_some (ed_add (ed_var (K := K) h2 (.int (i : Int))) (ed_int (i := 1)))) eo_none) (by rw [show ((i : Int) + 1) = ((i + 1 : Nat) : Int) from rfl, cutFrom, ints_drop])) ?_) rfl
    · show _ + 1 ≤ 100000
      omega
    · rw [List.length_append]
      show _ + 1 + _ ≤ 100000
      omega
  have t1 : ∀ x ∈ vals1 p, tOnly x = true := by
    intro x hx
    simp only [vals1, List.mem_cons, List.not_mem_nil, or_false] at hx
    rcases hx with rfl | rfl | rfl | rfl | rfl <;> rfl
  have t2 : ∀ x ∈ vals2 (n : Int), tOnly x = true := by
    intro x hx
    simp only [vals2, List.mem_cons, List.not_mem_nil, or_false] at hx
    rcases hx with rfl | rfl | rfl | rfl <;> rfl
  have g1 : ∀ x, tOnly x = true → tOnly (.tuple [.str "keeps", wd pl, hole mu i x]) = true := fun x hx => by
    show (true && (tOnly (wd pl) && (tOnly (hole mu i x) && true))) = true
    rw [tOnly_wd, tOnly_hole mu i hx] <;> rfl
  have g2 : ∀ x, tOnly x = true → tOnly (.tuple [.str "keeps", hole pl i x, wd mu]) = true := fun x hx => by
    show (true && (tOnly (hole pl i x) && (tOnly (wd mu) && true))) = true
    rw [tOnly_wd, tOnly_hole pl i hx] <;> rfl
  have hx0 := dpAll_len x2
  have hx0' : xs0.length = 4 := hx0
  refine spoil_loop (Hx := H0) (vals1 p) (fun x => .tuple [.str "keeps", wd pl, hole mu i x]) rfl (fun x hx => g1 x (t1 x hx)) [] rfl (by show 5 ≤ 10; decide) (by rw [hx0']; decide)
    (en_lst (ds := vals1 p) (ea_cons ed_int (ea_cons (ed_var rfl (.int p)) (ea_cons (ed_neg ed_int) (ea_cons ed_bl (ea_cons ed_non ea_nil))))) (by show 5 ≤ 100000; decide)) ((Ex.s x03).trans e3) s3 x02 hoa ⟨[], by rw [List.append_nil]; exact x3, .nil⟩ ppl3 pmu3
    (fun x v H1 hx q1 q2 q3 => ed_tup (ds := [.str "keeps", wd pl, hole mu i x]) (ea_cons ed_str (ea_cons (ed_var rfl q1) (ea_cons (holeE hl2 rfl rfl rfl q2 q3) ea_nil))) (by show 3 ≤ 100000; decide)) fun z1 H4 e4 s4 q1 q2 hc4 => ?_
  have tg1 : tOnlyAll ((vals1 p).map fun x => .tuple [.str "keeps", wd pl, hole mu i x]) = true := tOnlyAll_of fun x hx => by
    obtain ⟨y, hy, rfl⟩ := List.mem_map.mp hx
    exact g1 y (t1 y hy)
  refine spoil_loop (Hx := H0) (vals2 (n : Int)) (fun x => .tuple [.str "keeps", hole pl i x, wd mu]) rfl (fun x hx => g2 x (t2 x hx)) _ tg1 (by show 4 ≤ 10; decide) (by rw [hx0']; show 4 + 5 ≤ 1000; decide)
    (en_lst (ds := vals2 (n : Int)) (ea_cons (ed_neg ed_int) (ea_cons (ed_var rfl (.int (n : Int))) (ea_cons ed_bl (ea_cons ed_non ea_nil)))) (by show 4 ≤ 100000; decide)) e4 s4 x02 hoa hc4 q1 q2
    (fun x v H1 hx q1 q2 q3 => ed_tup (ds := [.str "keeps", hole pl i x, wd mu]) (ea_cons ed_str (ea_cons (holeE hl1 rfl rfl rfl q1 q3) (ea_cons (ed_var rfl q2) ea_nil))) (by show 3 ≤ 100000; decide)) fun z2 H5 e5 s5 q3 q4 hc5 => ?_
  obtain ⟨ws, w1, w2⟩ := hc5
  have tg2 : tOnlyAll ((vals1 p).map (fun x => .tuple [.str "keeps", wd pl, hole mu i x]) ++ (vals2 (n : Int)).map fun x => .tuple [.str "keeps", hole pl i x, wd mu]) = true := tOnly_app tg1 (tOnlyAll_of fun x hx => by
    obtain ⟨y, hy, rfl⟩ := List.mem_map.mp hx
    exact g2 y (t2 y hy))
  refine s_ret (P := XP (.ref out)) (ex_var rfl) fun v H6 e6 hv => ?_
  have hv' : v = .ref out := hv
  subst hv'
  refine k i out H6 hi houtH (NLe.mono e6 ⟨_, w1, ?_⟩) (((Ex.s (e1.trans x01)).trans e5).trans (Ex.s e6)) (s5.mono e6)
  rw [spoilM, List.append_assoc]
  exact dpAll_app (dpAll_mono (er_ex e5) x2) (dpAll_er s5 tg2 w2)
end
end WK

set_option Elab.async false
set_option linter.all false
set_option maxRecDepth 100000
set_option maxHeartbeats 4000000
/-! law: what the plain law must give; the drawing of the words. -/
namespace WK
open PySem PySem.Spec PyProof.Rows L2 WM
open Evl (Ex ex_l ex_t ex_rd sq_of st_of sz_of sz_lt fresh_back rLenS rListS)
/-- does a code's word change its weight, as law's table says -/
def fitC (p : Int) (n : Nat) (rows imgs : List W) (w : W) : Bool := (tabGet (tableM p n rows imgs) w).isSome && !decide (weightM w = weightM ((tabGet (tableM p n rows imgs) w).getD []))
def fitK (p : Int) (rows imgs : List W) (one : List Nat) (two : W) : Bool := decide (rows.map (fun r => movedM p r one two) = imgs)
def changedM (p : Int) (n : Nat) (rows imgs : List W) : List W := (allM n p.toNat).filter (fitC p n rows imgs)
def keptM (p : Int) (n : Nat) (rows imgs : List W) : Bool := (arrM n).any fun one => (mulM n p.toNat).any fun two => fitK p rows imgs (unN (wd one)) two
def w1a (n : Nat) (pl : W) : List PyData := [.tuple [.str "changes", wd (zeroM n)], .tuple [.str "changes", wd (zeroM n ++ [1])], .tuple [.str "changes", .none], .tuple [.str "changes", lw (zeroM n)], .tuple [.str "keeps", wd pl], .tuple [.str "keeps"]]
def w1b (pl mu : W) : List PyData := [.tuple [.str "keeps", wd pl, wd mu, .int 0], .tuple [.str "keep", wd pl, wd mu], .list [.str "keeps", wd pl, wd mu], .tuple [.str "keeps", lw pl, wd mu]]
def w1c (n : Nat) (pl mu : W) : List PyData := [.tuple [.str "keeps", wd (pl ++ [(n : Int)]), wd (mu ++ [1])], .none, .tuple [], .str "keeps", .tuple [.str "changes"], .tuple [.str "", wd (zeroM n)], .tuple [.str "keeps", .none, .none]]
def w1d (n : Nat) : List PyData := (doubM n).map fun o => .tuple [.str "keeps", wd o, wd (List.replicate n 1)]
def wrong1 (n : Nat) (pl mu : W) : List PyData := w1a n pl ++ w1b pl mu ++ w1c n pl mu ++ w1d n
def wrong2 (w : W) : List PyData := [.tuple [.str "changes", wd w, .int 0], .list [.str "changes", wd w], .tuple [.str "change", wd w], .tuple [.str "changes", lw w]]
/-- the primes and lengths that law draws -/
def Drawn (p : Int) (n : Nat) (rows : List W) : Prop := (p = 2 ∧ n ≤ 4 ∧ rows.length ≤ 3 ∨ p = 3 ∧ n ≤ 3 ∧ rows.length ≤ 2 ∨ p = 5 ∧ n ≤ 2 ∧ rows.length ≤ 2) ∧ ∀ r ∈ rows, WOk p n r
structure LawOk (p : Int) (n : Nat) (c : CodeM) (imgs ws : List W) (kl km : W) : Prop where
  cp : c.p = p
  cn : c.n = n
  ok : CodeOk c
  k4 : c.rows.length ≤ 4
  io : ImgsOk c imgs
  wg : WordsGood c ws
  ch : ∀ w ∈ allM n p.toNat, takesD c imgs (.tuple [.str "changes", wd w]) = fitC p n c.rows imgs w
  tl : ∀ w ∈ allM n p.toNat, w.length = n
  tt : ∀ w v, tabGet (tableM p n c.rows imgs) w = some v → v.length = n
  ke : ∀ one ∈ arrM n, ∀ two ∈ mulM n p.toNat, one = nw (unN (wd one)) ∧ (unN (wd one)).length = n ∧ two.length = n ∧ (∀ q ∈ unN (wd one), q < n) ∧ (∀ c ∈ two, -1000 ≤ c ∧ c ≤ 1000) ∧ takesD c imgs (.tuple [.str "keeps", wd one, wd two]) = fitK p c.rows imgs (unN (wd one)) two
  kc : keptM p n c.rows imgs = !decide (0 < (changedM p n c.rows imgs).length)
  hd : chgM c imgs ws = (changedM p n c.rows imgs).head?
  pa : chgM c imgs ws = none → firstM c.p c.n c.rows imgs = some (kl, km) ∧ monOk c.p kl km
  tp : takesD c imgs (paperM (chgM c imgs ws) kl km) = true
  sz : (allM n p.toNat).length ≤ 1000
  w1 : ∀ pl mu, (pl : List Nat).Perm (List.range n) → mu.length = n → (∀ m ∈ mu, 1 ≤ m ∧ m < p) → ∀ d ∈ wrong1 n (nw pl) mu, takesD c imgs d = false
  w2 : ∀ pl mu i, (pl : List Nat).Perm (List.range n) → mu.length = n → (∀ m ∈ mu, 1 ≤ m ∧ m < p) → i < n → ∀ d ∈ spoilM p n (nw pl) mu (zeroM n) i, takesD c imgs d = false
  w3 : ∀ w ∈ changedM p n c.rows imgs, ∀ d ∈ wrong2 w, takesD c imgs d = false
/-- what the plain law must give -/
def LawAll : Prop := ∀ p n rows, Drawn p n rows → (mkCode p n rows).rows.length ≤ 4 ∧ (∀ r ∈ (mkCode p n rows).rows, WOk p n r) ∧ ∀ imgs : List W, imgs.length = (mkCode p n rows).rows.length → (∀ u ∈ imgs, WOk p n u) → ∃ ws kl km, LawOk p n (mkCode p n rows) imgs ws kl km
section
variable {K : PySem.W.Frag} {σ : L2.St} {H H' H2 : Hp} {a : Addr} {ta te tl : TE} {P : VP} {D : Ends} {tz : TS} {d : PyData} {v : V}
/-- [_law_word(..) for row in rows] -/
theorem lc_word {n : Nat} {p : Int} {rows : List W} {jx : Nat} {vs : List Nat} {Q : VK} (h : EvD K tl σ H (.tuple (wds rows))) (hz : rows.length ≤ 100) (hw : ∀ x, wipe ((wipe σ vs).set jx (some x)) vs = wipe σ vs) (st : StAt H a)
    (ht : ∀ x H1, ExS a H H1 → StAt H1 a → ∀ Q : VK, (∀ u v H2, WOk p n u → Dp K H2 v (wd u) → ExS a H1 H2 → StAt H2 a → Q v H2) → te ((wipe σ vs).set jx (some x)) H1 Q)
    (hQ : ∀ (us : List W) (q : Addr) (H' : Hp), us.length = rows.length → (∀ u ∈ us, WOk p n u) → H q = none → NL K (wds us) H' q → ExS a H H' → StAt H' a → Q (.ref q) H') : tLc (iTup K tl) (gName jx) tYes te vs σ H Q := h H (Ex.refl _) _ fun v H1 e1 pv => by
  obtain ⟨b, xs, rfl, hb, al⟩ := dp_tupX pv
  have hlen : xs.length = rows.length := by rw [dpAll_len al, List.length_map]
  have hba : b ≠ a := fun z => by
    obtain ⟨s, t, r, _⟩ := st.mono e1
    rw [z, r] at hb
    cases hb
  refine ⟨b, rfl, ⟨xs, st_of hb⟩, fun Dl hD => ?_⟩
  have hDa : Dl ≠ a := (st.mono e1).ne hD
  refine lc_tup (xs := xs) (fun i H' => ∃ us : List W, us.length = i ∧ (∀ u ∈ us, WOk p n u) ∧ ExS a H1 H' ∧ StAt H' a ∧ NL K (wds us) H' Dl) ⟨[], rfl, fun u hu => absurd hu List.not_mem_nil, ExS.mut .refl hD, (st.mono e1).upd hDa, [], upd_same, .nil⟩ (fun i H' _ p => by
    obtain ⟨us, p1, p2, p3, p4, p5⟩ := p
    exact st_of (p3 _ _ hba hb)) (fun i x H' hi p => ⟨hw x, ?_⟩) fun H' p => ?_
  · obtain ⟨us, p1, p2, p3, p4, ys, p5, p6⟩ := p
    have hil : i < xs.length := (List.getElem?_eq_some_iff.mp hi).1
    refine ht x H' ((Ex.s e1).trans p3) p4 _ fun u v H2 hu hv e2 s2 => ?_
    have x3 := e2 _ _ hDa p5
    have hl := dpAll_len p6
    rw [List.length_map] at hl
    refine ⟨_, x3, sz_lt (by omega), us ++ [u], by rw [List.length_append, p1] <;> rfl, fun y hy => ?_, ExS.mut (p3.trans e2) hD, s2.upd hDa, _, upd_same, ?_⟩
    · rcases List.mem_append.mp hy with hy | hy
      · exact p2 y hy
      · rw [List.mem_singleton.mp hy]
        exact hu
    · unfold wds
      rw [List.map_append]
      exact dpAll_snoc (dpAll_updL x3 (tOnly_wds _) (dpAll_S p4 e2 (tOnly_wds _) p6)) (dp_updL x3 (tOnly_wd _) hv)
  · obtain ⟨us, p1, p2, p3, p4, p5⟩ := p
    exact hQ us Dl H' (by omega) p2 (fresh_back e1 hD) p5 ((Ex.s e1).trans p3) p4
/-- the calls of the drawing defs -/
theorem rows_call {n m : Nat} {p : Int} {E : XK} {ta : TA} {Q : VK} (ha : EvA ta σ H [XP (.ref a), DP K (.int (n : Int)), DP K (.int p), DP K (.int (m : Int))]) (st : StAt H a) (hm : n ≤ 100 ∧ 1 ≤ p ∧ p ≤ 100 ∧ m ≤ 100)
    (k : ∀ (us : List W) q H', us.length ≤ m → (∀ u ∈ us, WOk p n u) → H q = none → NL K (wds us) H' q → ExS a H H' → StAt H' a → Q (.ref q) H') : tCall (sp_law_rows K) [] E ta σ H Q :=
  ha H (Ex.refl _) _ fun vs H1 e ps => by
    obtain ⟨x, y, z, t, rfl, hx, hy, hz, ht⟩ := allP4 ps
    have hx' : x = .ref a := hx
    have hy' := dp_int hy
    have hz' := dp_int hz
    have ht' := dp_int ht
    subst hx' hy' hz' ht'
    rw [List.append_nil]
    exact ⟨a, n, p, m, rfl, st.mono e, hm.1, hm.2.1, hm.2.2.1, hm.2.2.2, fun us q H' h1 h2 h3 h4 e1 s1 => k us q H' h1 h2 (fresh_back e h3) h4 ((Ex.s e).trans e1) s1⟩
theorem map_call {n : Nat} {p : Int} {E : XK} {ta : TA} {Q : VK} (ha : EvA ta σ H [XP (.ref a), DP K (.int (n : Int)), DP K (.int p)]) (st : StAt H a) (hm : n ≤ 100 ∧ 2 ≤ p ∧ p ≤ 100)
    (k : ∀ (pl : List Nat) (mu : W) v H', pl.Perm (List.range n) → mu.length = n → (∀ m ∈ mu, 1 ≤ m ∧ m < p) → Dp K H' v (.tuple [wd (nw pl), wd mu]) → ExS a H H' → StAt H' a → Q v H') : tCall (sp_law_drawn_map K) [] E ta σ H Q :=
  ha H (Ex.refl _) _ fun vs H1 e ps => by
    obtain ⟨x, y, z, rfl, hx, hy, hz⟩ := allP3 ps
    have hx' : x = .ref a := hx
    have hy' := dp_int hy
    have hz' := dp_int hz
    subst hx' hy' hz'
    rw [List.append_nil]
    exact ⟨a, n, p, rfl, st.mono e, hm.1, hm.2.1, hm.2.2, fun pl mu v H' h1 h2 h3 h4 e1 s1 => k pl mu v H' h1 h2 h3 h4 ((Ex.s e).trans e1) s1⟩
theorem q_cut {t : TT} {tu : TS} {b : Bool} {I : L2.St → Hp → Prop} (h : EvB t σ H b) (hI : ∀ σ' H', I σ' H' → tz D σ' H') (h1 : b = true → ∀ H1, Ex H H1 → ∀ nx : L2.St → Hp → Prop, (∀ σ' H', I σ' H' → nx σ' H') → tu { D with nx := nx } σ H1) (h2 : b = false → ∀ H1, Ex H H1 → I σ H1) : tSeq (tIfS t tu tNext) tz D σ H :=
  q_when h (fun hb H1 e => h1 hb H1 e _ hI) (fun hb H1 e => hI _ _ (h2 hb H1 e))
theorem q_ixN {r : R2} {tb : TE} {j : Nat} {PA : Hp → Addr → Prop} (h : EvN ta σ H PA) (k : ∀ p H1, H p = none → Ex H H1 → PA H1 p → tb σ H1 fun y H2 => r (.ref p) y H2 fun v H3 => tz D (σ.set j (some v)) H3) : tSeq (tAsg (tOp r ta tb) (gName j)) tz D σ H := h H (Ex.refl H) _ fun p H1 hp e pa => k p H1 hp e pa
def bump (p : Int) (u : W) (i : Nat) : W := u.take i ++ [(u.getD i 0 + 1) % p] ++ u.drop (i + 1)
theorem bump_ok {p : Int} {n i : Nat} {u : W} (hp : 0 < p) (h : WOk p n u) (hi : i < n) : WOk p n (bump p u i) := by
  refine ⟨?_, fun x hx => ?_⟩
  · have := h.1
    unfold bump
    rw [List.length_append, List.length_append, List.length_take, List.length_drop, List.length_singleton]
    omega
  · rcases List.mem_append.mp hx with hx | hx
    · rcases List.mem_append.mp hx with hx | hx
      · exact h.2 x (List.mem_of_mem_take hx)
      · rw [List.mem_singleton.mp hx]
        exact ⟨Int.emod_nonneg _ (by omega), Int.emod_lt_of_pos _ hp⟩
    · exact h.2 x (List.mem_of_mem_drop hx)
theorem moved_ok {p : Int} {n : Nat} {r mu : W} {pl : List Nat} (h : WOk p n r) (hp : 0 < p) : WOk p n (movedM p r pl mu) := by
  have go : ∀ (ks : List Nat) (f : W), WOk p n f → WOk p n (ks.foldl (fun f k => f.set (pl.getD k 0) (r.getD k 0 * mu.getD k 0 % p)) f) := fun ks => by
    induction ks with
    | nil => exact fun f h => h
    | cons k ks ih =>
      intro f hf
      refine ih _ ⟨by rw [List.length_set]; exact hf.1, fun x hx => ?_⟩
      rcases List.mem_or_eq_of_mem_set hx with hx | hx
      · exact hf.2 x hx
      · rw [hx]
        exact ⟨Int.emod_nonneg _ (by omega), Int.emod_lt_of_pos _ hp⟩
  refine go _ _ ⟨by unfold zeroM; rw [List.length_replicate]; exact h.1, fun x hx => ?_⟩
  rw [(List.mem_replicate.mp hx).2]
  exact ⟨by decide, hp⟩
def lim2 (p : Int) : Int := if p = 2 then 5 else if p = 3 then 4 else 3
def most2 (p : Int) : Nat := if p = 2 then 3 else 2
end
end WK

set_option Elab.async false
set_option linter.all false
set_option maxRecDepth 100000
set_option maxHeartbeats 4000000
/-! law: the wrong papers, the refusals (statements 19 to 28). -/
namespace WK
open PySem PySem.Spec PyProof.Rows L2 WM
open Evl (Ex ex_l ex_t ex_rd sq_of st_of sz_of sz_lt fresh_back rLenS rListS)
section
variable {K : PySem.W.Frag} {σ : L2.St} {H H' H2 : Hp} {a : Addr} {ta te tl : TE} {P : VP} {D : Ends} {tz : TS} {d : PyData} {v : V}
theorem EvN.dpe {ds : List PyData} (st : StAt H a) (h : EvN te σ H (NLe K a ds)) : EvP te σ H (DPe K a (.list ds)) := fun H1 e Q q => h H1 e Q fun p H2 hp e2 hn => q _ H2 e2 (by
  obtain ⟨xs, h1, h2⟩ := hn
  exact .lst (by rw [er_ne ((st.mono e).ne hp)]; exact h1) h2)
theorem spoilt_call {n : Nat} {p : Int} {pl mu z : W} {E : XK} {ta : TA} {Q : VK} (ha : EvA ta σ H [XP (.ref a), DP K (.int p), DP K (wd pl), DP K (wd mu), DP K (wd z)]) (st : StAt H a) (hm : 0 < n ∧ n ≤ 100 ∧ pl.length = n ∧ mu.length = n ∧ z.length = n)
    (k : ∀ i q H', i < n → H q = none → NLe K a (spoilM p n pl mu z i) H' q → ExS a H H' → StAt H' a → Q (.ref q) H') : tCall (sp_law_spoilt K) [] E ta σ H Q :=
  ha H (Ex.refl _) _ fun vs H1 e ps => by
    obtain ⟨v1, v2, v3, v4, v5, rfl, h1, h2⟩ := allP5 ps
    have hx' : v1 = .ref a := h1
    subst hx'
    rw [List.append_nil]
    exact ⟨a, n, p, pl, mu, z, ps, st.mono e, hm.1, hm.2.1, hm.2.2.1, hm.2.2.2.1, hm.2.2.2.2, fun i q H' hi h1 h4 e1 s1 => k i q H' hi (fresh_back e h1) h4 ((Ex.s e).trans e1) s1⟩
theorem ed_isNotB {tb : TE} {b b2 : Bool} (ha : EvD K ta σ H (.bool b)) (hb : EvD K tb σ H (.bool b2)) : EvD K (tOp rNotB ta tb) σ H (.bool (!decide (b = b2))) := ev_op ha hb fun x y H1 _ p1 p2 Q q => ⟨b, b2, dp_bl p1, dp_bl p2, q _ H1 (Ex.refl H1) (.bl _)⟩
theorem ip_wd (u : W) : itemsPlain (wd u) = true := by
  show (u.map PyData.int).all plainD = true
  rw [List.all_map]
  exact List.all_eq_true.mpr fun _ _ => rfl
theorem ip_map (u : W) : (u.map PyData.int).all plainD = true := ip_wd u
theorem ip_hole (u : W) (i : Nat) {x : PyData} (h : plainD x = true) : itemsPlain (hole u i x) = true := by
  show ((u.take i).map PyData.int ++ [x] ++ (u.drop (i + 1)).map PyData.int).all plainD = true
  rw [List.all_append, List.all_append, ip_map, ip_map]
  show (true && (plainD x && true) && true) = true
  rw [h] <;> rfl
theorem pap2 {s : Str} {y : PyData} (h : itemsPlain y = true) : papOk (.tuple [.str s, y]) = true := by
  show (true && itemsPlain y && true) = true
  rw [h] <;> rfl
theorem pap3 {s : Str} {y z : PyData} (h : itemsPlain y = true) (h2 : itemsPlain z = true) : papOk (.tuple [.str s, y, z]) = true := by
  show (true && itemsPlain y && (itemsPlain z && true)) = true
  rw [h, h2] <;> rfl
theorem pap4 {s : Str} {y z : PyData} (h : itemsPlain y = true) (h2 : itemsPlain z = true) : papOk (.tuple [.str s, y, z, .int 0]) = true := by
  show (true && itemsPlain y && (itemsPlain z && (true && true))) = true
  rw [h, h2] <;> rfl
theorem pap_w1 (n : Nat) (pl mu : W) : ∀ d ∈ wrong1 n pl mu, papOk d = true := by
  intro d hd
  rcases List.mem_append.mp hd with hd | hd
  · rcases List.mem_append.mp hd with hd | hd
    · rcases List.mem_append.mp hd with hd | hd
      · simp only [w1a, List.mem_cons, List.not_mem_nil, or_false] at hd
        rcases hd with rfl | rfl | rfl | rfl | rfl | rfl
        · exact pap2 (ip_wd _)
        · exact pap2 (ip_wd _)
        · rfl
        · exact pap2 rfl
        · exact pap2 (ip_wd _)
        · rfl
      · simp only [w1b, List.mem_cons, List.not_mem_nil, or_false] at hd
        rcases hd with rfl | rfl | rfl | rfl
        · exact pap4 (ip_wd _) (ip_wd _)
        · exact pap3 (ip_wd _) (ip_wd _)
        · rfl
        · exact pap3 rfl (ip_wd _)
    · simp only [w1c, List.mem_cons, List.not_mem_nil, or_false] at hd
      rcases hd with rfl | rfl | rfl | rfl | rfl | rfl | rfl
      · exact pap3 (ip_wd _) (ip_wd _)
      · rfl
      · rfl
      · rfl
      · rfl
      · exact pap2 (ip_wd _)
      · rfl
  · obtain ⟨o, ho, rfl⟩ := List.mem_map.mp hd
    exact pap3 (ip_wd _) (ip_wd _)
theorem pap_sp (p : Int) (n : Nat) (pl mu z : W) (i : Nat) : ∀ d ∈ spoilM p n pl mu z i, papOk d = true := by
  intro d hd
  rcases List.mem_append.mp hd with hd | hd
  · rcases List.mem_append.mp hd with hd | hd
    · simp only [base4, List.mem_cons, List.not_mem_nil, or_false] at hd
      rcases hd with rfl | rfl | rfl | rfl
      · exact pap3 (ip_wd _) rfl
      · exact pap2 (ip_wd _)
      · exact pap2 (ip_wd _)
      · refine pap2 ?_
        show ((z.take (z.length - 1)).map PyData.int ++ [PyData.bool true]).all plainD = true
        rw [List.all_append, ip_map] <;> rfl
    · obtain ⟨x, hx, rfl⟩ := List.mem_map.mp hd
      refine pap3 (ip_wd _) (ip_hole _ _ ?_)
      simp only [vals1, List.mem_cons, List.not_mem_nil, or_false] at hx
      rcases hx with rfl | rfl | rfl | rfl | rfl <;> rfl
  · obtain ⟨x, hx, rfl⟩ := List.mem_map.mp hd
    refine pap3 (ip_hole _ _ ?_) (ip_wd _)
    simp only [vals2, List.mem_cons, List.not_mem_nil, or_false] at hx
    rcases hx with rfl | rfl | rfl | rfl <;> rfl
theorem pap_w2 (u : W) : ∀ d ∈ wrong2 u, papOk d = true := by
  intro d hd
  simp only [wrong2, List.mem_cons, List.not_mem_nil, or_false] at hd
  rcases hd with rfl | rfl | rfl | rfl
  · exact pap3 (ip_wd _) rfl
  · rfl
  · exact pap2 (ip_wd _)
  · exact pap2 rfl
theorem tOnly_tup2 {s : Str} {d : PyData} (h : tOnly d = true) : tOnly (.tuple [.str s, d]) = true := by
  show (true && (tOnly d && true)) = true
  rw [h] <;> rfl
theorem tOnly_tup3 {s : Str} {d e : PyData} (h : tOnly d = true) (h2 : tOnly e = true) : tOnly (.tuple [.str s, d, e]) = true := by
  show (true && (tOnly d && (tOnly e && true))) = true
  rw [h, h2] <;> rfl
end
section
variable {P : Program} {w : World} {K : PySem.W.Frag} {mg : Str → Option Value} {base : Heap}
theorem law_C (T : Txt K mg) {cdv : Value} {A : Around} {outer : List Env} {s : Shared} {H0 : Hp} {E : XK} (hr : Room 8 (A.deeper (envOfC ("law" : Str) (defScope s_law) s.heap.objs.size T.law.f cdv))) :
    ∃ tz, PSs (cxOf CX0 P w K mg base N_law ("law" : Str) (defScope s_law) T.law.f cdv A outer s H0 E).nox ((defBody s_law).drop 19) tz ∧ ∀ (D : Ends) (H : Hp) (p : Int) (n : Nat) (c : CodeM) (imgs ws : List W) (kl km : W) (pl : List Nat) (mu : W) (a C chg : Addr) (vx vR vI v17 v18 : V) (z7 z8 z10 z11 z12 z13 z14 z15 z16 z19 z20 z21 z22 z23 z24 : Option V),
      LawOk p n c imgs ws kl km → Pr p → n ≤ 4 → imgs.length = c.rows.length → pl.Perm (List.range n) → mu.length = n → (∀ m ∈ mu, 1 ≤ m ∧ m < p) → StAt H a → CodeAt K T.cCode c H C → Dp K H vI (.tuple (wds imgs)) → Dp K H v17 (wd (nw pl)) → Dp K H v18 (wd mu) → chg ≠ a → NL K (wds (changedM p n c.rows imgs)) H chg →
      (∀ v H', ExS a H H' → Dp K H' v (.bool true) → D.rt v H') →
      tz D [some vx, some (.ref a), some (.int p), some (.int (n : Int)), some (.ref C), some vR, some vI, z7, z8, some (.ref chg), z10, z11, z12, z13, z14, z15, z16, some v17, some v18, z19, z20, z21, z22, z23, z24] H := by
  refine ⟨_, (pss_cons (ps_set (i := 10) sc_law.nd rfl (Or.inl rfl) (pe_callTy (kc_tuple K) (by rfl) T.z_tuple (by decide +kernel) (pa_cons (pe_lc (own := [("_law_k", 19)]) (g := gName 19) rfl sc_law.nd (pi_range1 (by rfl) T.z_range (pa_cons (pv 3) pa_nil)) (blkOk_by (own := [("_law_k", 19)]) (N := N_law) (sc := (defScope s_law)) (by decide +kernel)) (fun _ _ _ _ _ => pg_name (i := 19) sc_law.nd rfl (Or.inl rfl)) (fun _ _ _ _ _ => pts_nil) (fun _ _ _ _ _ => pe_int)) pa_nil)))
      (pss_cons (ps_set (i := 14) sc_law.nd rfl (Or.inl rfl) (pe_lst (pa_cons (pe_tup (pa_cons pe_str (pa_cons (pv 10) pa_nil))) (pa_cons (pe_tup (pa_cons pe_str (pa_cons (pe_op (ko_catA K) (pv 10) (pe_tup (pa_cons pe_int pa_nil))) pa_nil))) (pa_cons (pe_tup (pa_cons pe_str (pa_cons pe_non pa_nil))) (pa_cons (pe_tup (pa_cons pe_str (pa_cons (pe_callTy (kc_list K) (by rfl) T.z_list (by decide +kernel) (pa_cons (pv 10) pa_nil)) pa_nil))) (pa_cons (pe_tup (pa_cons pe_str (pa_cons (pv 17) pa_nil))) (pa_cons (pe_tup (pa_cons pe_str pa_nil)) pa_nil))))))))
      (pss_cons (ps_set (i := 14) sc_law.nd rfl (Or.inl rfl) (pe_op op_cat (pv 14) (pe_lst (pa_cons (pe_tup (pa_cons pe_str (pa_cons (pv 17) (pa_cons (pv 18) (pa_cons pe_int pa_nil))))) (pa_cons (pe_tup (pa_cons pe_str (pa_cons (pv 17) (pa_cons (pv 18) pa_nil)))) (pa_cons (pe_lst (pa_cons pe_str (pa_cons (pv 17) (pa_cons (pv 18) pa_nil)))) (pa_cons (pe_tup (pa_cons pe_str (pa_cons (pe_callTy (kc_list K) (by rfl) T.z_list (by decide +kernel) (pa_cons (pv 17) pa_nil)) (pa_cons (pv 18) pa_nil)))) pa_nil)))))))
      (pss_cons (ps_set (i := 14) sc_law.nd rfl (Or.inl rfl) (pe_op op_cat (pv 14) (pe_lst (pa_cons (pe_tup (pa_cons pe_str (pa_cons (pe_op (ko_catA K) (pv 17) (pe_tup (pa_cons (pv 3) pa_nil))) (pa_cons (pe_op (ko_catA K) (pv 18) (pe_tup (pa_cons pe_int pa_nil))) pa_nil)))) (pa_cons pe_non (pa_cons (pe_tup pa_nil) (pa_cons pe_str (pa_cons (pe_tup (pa_cons pe_str pa_nil)) (pa_cons (pe_tup (pa_cons pe_str (pa_cons (pv 10) pa_nil))) (pa_cons (pe_tup (pa_cons pe_str (pa_cons pe_non (pa_cons pe_non pa_nil)))) pa_nil))))))))))
      (pss_cons (ps_set (i := 15) sc_law.nd rfl (Or.inr rfl) (pe_callTy (kc_tuple K) (by rfl) T.z_tuple (by decide +kernel) (pa_cons (pe_lc (own := [("_law_k", 19)]) (g := gName 19) rfl sc_law.nd (pi_range1 (by rfl) T.z_range (pa_cons (pv 3) pa_nil)) (blkOk_by (own := [("_law_k", 19)]) (N := N_law) (sc := (defScope s_law)) (by decide +kernel)) (fun _ _ _ _ _ => pg_name (i := 19) sc_law.nd rfl (Or.inl rfl)) (fun _ _ _ _ _ => pts_nil) (fun _ _ _ _ _ => pe_int)) pa_nil)))
      (pss_cons (ps_set (i := 14) sc_law.nd rfl (Or.inl rfl) (pe_op op_cat (pv 14) (pe_lc (own := [("_law_other", 24)]) (g := gName 24) rfl sc_law.nd (kpi_list K (pe_call (ok_law_doubled T) (hr.mono (by decide)) (by rfl) T.law_doubled.g T.law_doubled.F.kp T.law_doubled.b .nil pass0 (pa_cons (pv 3) pa_nil))) (blkOk_by (own := [("_law_other", 24)]) (N := N_law) (sc := (defScope s_law)) (by decide +kernel)) (fun _ _ _ _ _ => pg_name (i := 24) sc_law.nd rfl (Or.inl rfl)) (fun _ _ _ _ _ => pts_nil) (fun _ _ _ _ _ => (pe_tup (pa_cons pe_str (pa_cons (pv 24) (pa_cons (pv 15) pa_nil))))))))
      (pss_cons (ps_if (pt_cmpR op_gt (pv 3) pe_int (nomark _)) (pss_one (ps_set (i := 14) sc_law.nd rfl (Or.inl rfl) (pe_op op_cat (pv 14) (pe_call (ok_law_spoilt T) (hr.mono (by decide)) (by rfl) T.law_spoilt.g T.law_spoilt.F.kp T.law_spoilt.b .nil pass0 (pa_cons (pv 1) (pa_cons (pv 2) (pa_cons (pv 17) (pa_cons (pv 18) (pa_cons (pv 10) pa_nil))))))))) pss_nil)
      (pss_cons (ps_if (pt_cmpR op_gt (pe_callB (kc_len K) (by rfl) T.z_len PySem.boot_len (pa_cons (pv 9) pa_nil)) pe_int (nomark _)) (pss_one (ps_set (i := 14) sc_law.nd rfl (Or.inl rfl) (pe_op op_cat (pv 14) (pe_lst (pa_cons (pe_tup (pa_cons pe_str (pa_cons (pe_ix (kx_list K) (pv 9) pe_int (fun _ _ => rfl)) (pa_cons pe_int pa_nil)))) (pa_cons (pe_lst (pa_cons pe_str (pa_cons (pe_ix (kx_list K) (pv 9) pe_int (fun _ _ => rfl)) pa_nil))) (pa_cons (pe_tup (pa_cons pe_str (pa_cons (pe_ix (kx_list K) (pv 9) pe_int (fun _ _ => rfl)) pa_nil))) (pa_cons (pe_tup (pa_cons pe_str (pa_cons (pe_callTy (kc_list K) (by rfl) T.z_list (by decide +kernel) (pa_cons (pe_ix (kx_list K) (pv 9) pe_int (fun _ _ => rfl)) pa_nil)) pa_nil))) pa_nil)))))))) pss_nil)
      (pss_cons (ps_for PassesOwn.never rfl (kpi_list K (pv 14)) (pg_name (i := 16) sc_law.nd rfl (Or.inl rfl)) (pss_one (ps_if (pt_cmpR op_notBl (pe_call (ok_takes_map T) (hr.mono (by decide)) (by rfl) T.takes_map.g T.takes_map.F.kp T.takes_map.b .nil pass0 (pa_cons (pv 4) (pa_cons (pv 6) (pa_cons (pv 16) pa_nil)))) pe_bl (nomark _)) (pss_one (ps_ret pe_bl)) pss_nil)))
      (pss_one (ps_ret (pe_and (pe_call (ok_law_refuses T) (hr.mono (by decide)) (by rfl) T.law_refuses.g T.law_refuses.F.kp T.law_refuses.b .nil pass0 (pa_cons (pv 4) (pa_cons (pe_callTy (kc_list K) (by rfl) T.z_list (by decide +kernel) (pa_cons (pv 6) pa_nil)) pa_nil))) (pe_and (pe_call (ok_law_refuses T) (hr.mono (by decide)) (by rfl) T.law_refuses.g T.law_refuses.F.kp T.law_refuses.b .nil pass0 (pa_cons (pv 4) (pa_cons (pe_op (ko_catA K) (pv 6) (pe_tup (pa_cons (pv 10) pa_nil))) pa_nil))) (pe_one (pe_call (ok_law_refuses T) (hr.mono (by decide)) (by rfl) T.law_refuses.g T.law_refuses.F.kp T.law_refuses.b .nil pass0 (pa_cons (pv 4) (pa_cons pe_non pa_nil))))))))))))))))), ?_⟩
  intro D H p n c imgs ws kl km pl mu a C chg vx vR vI v17 v18 z7 z8 z10 z11 z12 z13 z14 z15 z16 z19 z20 z21 z22 z23 z24 L hp hn hil hpl hmu hmm st cA pI ppl pmu hca nC k
  have hpll : (nw pl).length = n := by rw [nw_len, hpl.length_eq, List.length_range]
  have hdoub : (doubM n).length ≤ 1000 := by
    have : n = 0 ∨ n = 1 ∨ n = 2 ∨ n = 3 ∨ n = 4 := by omega
    rcases this with rfl | rfl | rfl | rfl | rfl <;> decide
  refine q_asg (P := DP K (wd (zeroM n))) (ed_tupL (tOnly_ints _) (EvN.ls (EvN.is (en_lcR (n := (n : Int)) (fun _ => true) (fun _ => .int 0) (fun _ => rfl) (ea_cons (ed_var rfl (.int _)) ea_nil) ⟨by omega, by omega⟩ (fun _ => rfl) (fun _ _ _ _ => eb_yes) (fun i H1 e hi _ => ed_int)) (by
    rw [filter_yes, Int.toNat_natCast]
    unfold zeroM
    rw [List.map_replicate, List.map_const', List.length_range] <;> rfl)))) fun vw H1 e1 pw => ?_
  have st1 := st.mono e1
  refine q_asgN (PA := NLe K a (w1a n (nw pl))) (en_lstE (ds := w1a n (nw pl)) st1 (ea_cons (EvP.e st1 (tOnly_tup2 (tOnly_wd _)) (ed_tup (ds := [.str "changes", wd (zeroM n)]) (ea_cons ed_str (ea_cons (ed_var rfl pw) ea_nil)) (by show 2 ≤ 100000; decide)))
    (ea_cons (EvP.e st1 (tOnly_tup2 (tOnly_wd _)) (ed_tup (ds := [.str "changes", wd (zeroM n ++ [1])]) (ea_cons ed_str (ea_cons (EvP.is (ed_catT (ed_var rfl pw) (ed_tup (ds := [.int 1]) (ea_cons ed_int ea_nil) (by show 1 ≤ 100000; decide)) (by rw [List.length_map]; unfold zeroM; rw [List.length_replicate]; show _ + 1 ≤ _; omega)) (by unfold wd; rw [List.map_append] <;> rfl)) ea_nil)) (by show 2 ≤ 100000; decide)))
    (ea_cons (EvP.e st1 rfl (ed_tup (ds := [.str "changes", .none]) (ea_cons ed_str (ea_cons ed_non ea_nil)) (by show 2 ≤ 100000; decide)))
    (ea_cons (ed_tupE (ds := [.str "changes", lw (zeroM n)]) st1 (ea_cons (EvP.e st1 rfl ed_str) (ea_cons (EvN.e st1 (tOnly_ints _) (en_listT (ed_var rfl pw))) ea_nil)) (by show 2 ≤ 100000; decide))
    (ea_cons (EvP.e st1 (tOnly_tup2 (tOnly_wd _)) (ed_tup (ds := [.str "keeps", wd (nw pl)]) (ea_cons ed_str (ea_cons (ed_var rfl (dp_mono e1 ppl)) ea_nil)) (by show 2 ≤ 100000; decide)))
    (ea_cons (EvP.e st1 rfl (ed_tup (ds := [.str "keeps"]) (ea_cons ed_str ea_nil) (by show 1 ≤ 100000; decide))) ea_nil)))))) (by show 6 ≤ 100000; decide)) fun l1 H2 hl1 e2 n2 => ?_
  have st2 := st1.mono e2
  have E2 := e1.trans e2
  have pw2 := dp_mono e2 pw
  have ppl2 := dp_mono E2 ppl
  have pmu2 := dp_mono E2 pmu
  refine q_asgN (PA := NLe K a (w1a n (nw pl) ++ w1b (nw pl) mu)) (en_catE st2 (ex_var rfl) n2 (en_lstE (ds := w1b (nw pl) mu) st2 (ea_cons (ed_tupE (ds := [.str "keeps", wd (nw pl), wd mu, .int 0]) st2 (ea_cons (EvP.e st2 rfl ed_str) (ea_cons (EvP.e st2 (tOnly_wd _) (ed_var rfl ppl2)) (ea_cons (EvP.e st2 (tOnly_wd _) (ed_var rfl pmu2)) (ea_cons (EvP.e st2 rfl ed_int) ea_nil)))) (by show 4 ≤ 100000; decide))
    (ea_cons (EvP.e st2 (tOnly_tup3 (tOnly_wd _) (tOnly_wd _)) (ed_tup (ds := [.str "keep", wd (nw pl), wd mu]) (ea_cons ed_str (ea_cons (ed_var rfl ppl2) (ea_cons (ed_var rfl pmu2) ea_nil))) (by show 3 ≤ 100000; decide)))
    (ea_cons (EvN.dpe st2 (en_lstE (ds := [.str "keeps", wd (nw pl), wd mu]) st2 (ea_cons (EvP.e st2 rfl ed_str) (ea_cons (EvP.e st2 (tOnly_wd _) (ed_var rfl ppl2)) (ea_cons (EvP.e st2 (tOnly_wd _) (ed_var rfl pmu2)) ea_nil))) (by show 3 ≤ 100000; decide)))
    (ea_cons (ed_tupE (ds := [.str "keeps", lw (nw pl), wd mu]) st2 (ea_cons (EvP.e st2 rfl ed_str) (ea_cons (EvN.e st2 (tOnly_ints _) (en_listT (ed_var rfl ppl2))) (ea_cons (EvP.e st2 (tOnly_wd _) (ed_var rfl pmu2)) ea_nil))) (by show 3 ≤ 100000; decide)) ea_nil)))) (by show 4 ≤ 100000; decide)) (by show 6 + 4 ≤ 100000; decide)) fun l2 H3 hl2 e3 n3 => ?_
  have st3 := st2.mono e3
  have pw3 := dp_mono e3 pw2
  have ppl3 := dp_mono e3 ppl2
  have pmu3 := dp_mono e3 pmu2
  refine q_asgN (PA := NLe K a (w1a n (nw pl) ++ w1b (nw pl) mu ++ w1c n (nw pl) mu)) (en_catE st3 (ex_var rfl) n3 (en_lstE (ds := w1c n (nw pl) mu) st3 (ea_cons (EvP.e st3 (tOnly_tup3 (tOnly_wd _) (tOnly_wd _)) (ed_tup (ds := [.str "keeps", wd (nw pl ++ [(n : Int)]), wd (mu ++ [1])]) (ea_cons ed_str (ea_cons (EvP.is (ed_catT (ed_var rfl ppl3) (ed_tup (ds := [.int (n : Int)]) (ea_cons (ed_var rfl (.int _)) ea_nil) (by show 1 ≤ 100000; decide)) (by rw [List.length_map]; show _ + 1 ≤ _; omega)) (by unfold wd; rw [List.map_append] <;> rfl))
        (ea_cons (EvP.is (ed_catT (ed_var rfl pmu3) (ed_tup (ds := [.int 1]) (ea_cons ed_int ea_nil) (by show 1 ≤ 100000; decide)) (by rw [List.length_map]; show _ + 1 ≤ _; omega)) (by unfold wd; rw [List.map_append] <;> rfl)) ea_nil))) (by show 3 ≤ 100000; decide)))
    (ea_cons (EvP.e st3 rfl ed_non) (ea_cons (EvP.e st3 rfl (ed_tup (ds := []) ea_nil (by decide))) (ea_cons (EvP.e st3 rfl ed_str) (ea_cons (EvP.e st3 rfl (ed_tup (ds := [.str "changes"]) (ea_cons ed_str ea_nil) (by show 1 ≤ 100000; decide)))
    (ea_cons (EvP.e st3 (tOnly_tup2 (tOnly_wd _)) (ed_tup (ds := [.str "", wd (zeroM n)]) (ea_cons ed_str (ea_cons (ed_var rfl pw3) ea_nil)) (by show 2 ≤ 100000; decide)))
    (ea_cons (EvP.e st3 rfl (ed_tup (ds := [.str "keeps", .none, .none]) (ea_cons ed_str (ea_cons ed_non (ea_cons ed_non ea_nil))) (by show 3 ≤ 100000; decide))) ea_nil))))))) (by show 7 ≤ 100000; decide)) (by show 6 + 4 + 7 ≤ 100000; decide)) fun l3 H4 hl3 e4 n4 => ?_
  refine q_asg (P := DP K (wd (List.replicate n 1))) (ed_tupL (tOnly_ints _) (EvN.ls (EvN.is (en_lcR (n := (n : Int)) (fun _ => true) (fun _ => .int 1) (fun _ => rfl) (ea_cons (ed_var rfl (.int _)) ea_nil) ⟨by omega, by omega⟩ (fun _ => rfl) (fun _ _ _ _ => eb_yes) (fun i H1 e hi _ => ed_int)) (by
    rw [filter_yes, Int.toNat_natCast, List.map_replicate, List.map_const', List.length_range] <;> rfl)))) fun vo H5 e5 po => ?_
  have st5 := (st3.mono e4).mono e5
  have E5 := ((E2.trans e3).trans e4).trans e5
  have hdt : tOnlyAll (w1d n) = true := tOnlyAll_of fun x hx => by
    obtain ⟨o, ho, rfl⟩ := List.mem_map.mp hx
    exact tOnly_tup3 (tOnly_wd _) (tOnly_wd _)
  refine q_asgN (PA := NLe K a (wrong1 n (nw pl) mu)) (en_catE st5 (ex_var rfl) (n4.mono e5) (EvN.toE st5 hdt (EvN.is (en_lcL wd (doubM n) (fun _ => true) (fun o => .tuple [.str "keeps", wd o, wd (List.replicate n 1)]) (fun _ => tOnly_tup3 (tOnly_wd _) (tOnly_wd _)) (EvN.ls (en_call n hn (ea_cons (ed_var rfl (.int _)) ea_nil))) (by omega) (fun _ => rfl) (fun _ _ _ _ _ _ _ => eb_yes)
    (fun i x o H1 e hi px _ => ed_tup (ds := [.str "keeps", wd o, wd (List.replicate n 1)]) (ea_cons ed_str (ea_cons (ed_var rfl px) (ea_cons (ed_var rfl (dp_mono e po)) ea_nil))) (by show 3 ≤ 100000; decide))) (by rw [filter_yes] <;> rfl))) (by show 6 + 4 + 7 + (w1d n).length ≤ 100000; unfold w1d; rw [List.length_map]; omega)) fun l4 H6 hl4 e6 n6 => ?_
  have st6 := st5.mono e6
  have E6 := E5.trans e6
  have pw6 := dp_mono ((((e2.trans e3).trans e4).trans e5).trans e6) pw
  have ppl6 := dp_mono E6 ppl
  have pmu6 := dp_mono E6 pmu
  have hw1l : (wrong1 n (nw pl) mu).length ≤ 2000 := by
    show (w1a n (nw pl) ++ w1b (nw pl) mu ++ w1c n (nw pl) mu ++ w1d n).length ≤ 2000
    rw [List.length_append]
    show 6 + 4 + 7 + (w1d n).length ≤ 2000
    unfold w1d
    rw [List.length_map]
    omega
  refine q_cut (b := decide (0 < (n : Int)))
    (I := fun σ' H' => ∃ l Wl, σ' = [some vx, some (.ref a), some (.int p), some (.int (n : Int)), some (.ref C), some vR, some vI, z7, z8, some (.ref chg), some vw, z11, z12, z13, some (.ref l), some vo, z16, some v17, some v18, z19, z20, z21, z22, z23, z24] ∧ l ≠ a ∧ NLe K a Wl H' l ∧ Wl.length ≤ 3000 ∧ (∀ d ∈ Wl, takesD c imgs d = false ∧ papOk d = true) ∧ Dp K H' vw (wd (zeroM n)) ∧ ExS a H H' ∧ StAt H' a)
    (eb_test (K := K) (ed_gt (ed_var rfl (.int (n : Int))) ed_int)) (fun σ' H'' h => ?_) (fun hb H7 e7 nx hI => ?_) (fun hb H7 e7 => ?_)
  · obtain ⟨l, Wl, rfl, hla, nl, hwl, hW, pwI, eI, sI⟩ := h
    have nC2 := nC.S st eI hca (tOnly_wds _)
    generalize hCH : changedM p n c.rows imgs = CH at nC2
    refine q_cut (b := decide (0 < (CH.length : Int)))
      (I := fun σ' H' => ∃ l Wl, σ' = [some vx, some (.ref a), some (.int p), some (.int (n : Int)), some (.ref C), some vR, some vI, z7, z8, some (.ref chg), some vw, z11, z12, z13, some (.ref l), some vo, z16, some v17, some v18, z19, z20, z21, z22, z23, z24] ∧ l ≠ a ∧ NLe K a Wl H' l ∧ Wl.length ≤ 4000 ∧ (∀ d ∈ Wl, takesD c imgs d = false ∧ papOk d = true) ∧ Dp K H' vw (wd (zeroM n)) ∧ ExS a H H' ∧ StAt H' a)
      (eb_test (K := K) (EvP.is (ed_gt (ed_lenL (ed_var rfl nC2.dp)) ed_int) (by unfold wds; rw [List.length_map]))) (fun σ' H'' h => ?_) (fun hb H7 e7 nx hI => ?_) (fun hb H7 e7 => ?_)
    · obtain ⟨l, Wl, rfl, hla, nl, hwl, hW, pwI, eI, sI⟩ := h
      have cA2 := cA.S st eI
      have pI2 : Dp K H'' vI (.tuple (wds imgs)) := dp_S st eI (tOnly_wds _) pI
      obtain ⟨xs, x1, x2⟩ := nl
      refine q_forL0 (H0 := H'') (a := l) (xs := xs) (ex_var rfl) (Ex.refl _) (sq_of x1)
        (fun i σ' H' => ∃ z, σ' = [some vx, some (.ref a), some (.int p), some (.int (n : Int)), some (.ref C), some vR, some vI, z7, z8, some (.ref chg), some vw, z11, z12, z13, some (.ref l), some vo, z, some v17, some v18, z19, z20, z21, z22, z23, z24] ∧ Ex H'' H')
        (fun H1 e1 => ⟨_, rfl, e1⟩) (fun i σ' H' ⟨_, _, e⟩ => e) (fun i x σ' H' hi h => ?_) (fun σ' H' h => ?_)
      · obtain ⟨z, rfl, e⟩ := h
        have hil2 : i < Wl.length := by
          rw [← dpAll_len x2]
          exact (List.getElem?_eq_some_iff.mp hi).1
        have hwi : Wl[i]? = some Wl[i] := List.getElem?_eq_getElem hil2
        have px : Dp K H' x Wl[i] := by
          obtain ⟨v, a1, a2⟩ := dpAll_at x2 hwi
          rw [hi] at a1
          cases a1
          exact dp_mono e (dp_mono er_sub a2)
        obtain ⟨hT, hP⟩ := hW _ (List.getElem_mem hil2)
        refine s_when (b := false) (eb_test (EvP.is (ed_isNotB (ev_call (ι := CodeM × List W × PyData) (c, imgs, Wl[i]) ⟨L.ok, hil, L.io.wd, hP⟩ (ea_cons (ev_var rfl ⟨_, rfl, cA2.mono e⟩) (ea_cons (ed_var rfl (dp_mono e pI2)) (ea_cons (ed_var rfl px) ea_nil)))) ed_bl) ?_)) (fun hb => nomatch hb) (fun hb H1 e1 => ⟨_, rfl, e.trans e1⟩)
        show PyData.bool (!decide (takesD c imgs Wl[i] = false)) = .bool false
        rw [hT] <;> rfl
      · obtain ⟨z, rfl, e⟩ := h
        have cA3 := cA2.mono e
        have pI3 := dp_mono e pI2
        refine s_ret (P := DP K (.bool true)) (EvP.is (ed_andV (b := true) (ev_call (ι := CodeM × PyData) (c, .list (wds imgs)) ⟨rfl, fun ds h => nomatch h⟩ (ea_cons (ev_var rfl ⟨_, rfl, cA3⟩) (ea_cons (EvN.ls (en_listT (ed_var rfl pI3))) ea_nil)))
          fun _ => ed_andV (b := true) (ev_call (ι := CodeM × PyData) (c, .tuple (wds imgs ++ [wd (zeroM n)])) ⟨rfl, fun ds h => ?_⟩ (ea_cons (ev_var rfl ⟨_, rfl, cA3⟩) (ea_cons (ed_catT (ed_var rfl pI3) (ed_tup (ds := [wd (zeroM n)]) (ea_cons (ed_var rfl (dp_mono e pwI)) ea_nil) (by show 1 ≤ 100000; decide)) (by unfold wds; rw [List.length_map]; show _ + 1 ≤ _; have := L.k4; omega)) ea_nil)))
          fun _ => ev_call (ι := CodeM × PyData) (c, .none) ⟨rfl, fun ds h => nomatch h⟩ (ea_cons (ev_var rfl ⟨_, rfl, cA3⟩) (ea_cons ed_non ea_nil))) rfl) fun v H1 e1 pv => k v H1 ((eI.trans (Ex.s e)).trans (Ex.s e1)) pv
        have h' : wds imgs ++ [wd (zeroM n)] = ds := PyData.tuple.inj h
        show ds.length ≠ c.rows.length
        rw [← h', List.length_append]
        unfold wds
        rw [List.length_map]
        show imgs.length + 1 ≠ _
        omega
    · have hCH0 : 0 < CH.length := by
        rw [decide_eq_true_eq] at hb
        omega
      have s7 := sI.mono e7
      have hu := getD_at (l := CH) [] hCH0
      have huM : CH.getD 0 [] ∈ changedM p n c.rows imgs := by
        rw [hCH]
        exact List.mem_of_getElem? hu
      generalize CH.getD 0 [] = u at hu huM
      have hat : atI (wds CH) ((0 : Nat) : Int) = some (wd u) := atI_nat (by unfold wds; rw [List.getElem?_map, hu] <;> rfl)
      have eU : EvD K (tOp (rIxL K) (tVar 9) (tC (.int 0))) [some vx, some (.ref a), some (.int p), some (.int (n : Int)), some (.ref C), some vR, some vI, z7, z8, some (.ref chg), some vw, z11, z12, z13, some (.ref l), some vo, z16, some v17, some v18, z19, z20, z21, z22, z23, z24] H7 (wd u) :=
        ed_ixL (i := 0) hat (ed_var rfl (nC2.mono e7).dp) ed_int
      refine s_asgN (PA := NLe K a (Wl ++ wrong2 u)) (en_catE s7 (ex_var rfl) (nl.mono e7) (en_lstE (ds := wrong2 u) s7 (ea_cons (EvP.e s7 (tOnly_tup3 (tOnly_wd _) rfl) (ed_tup (ds := [.str "changes", wd u, .int 0]) (ea_cons ed_str (ea_cons eU (ea_cons ed_int ea_nil))) (by show 3 ≤ 100000; decide)))
        (ea_cons (EvN.dpe s7 (en_lstE (ds := [.str "changes", wd u]) s7 (ea_cons (EvP.e s7 rfl ed_str) (ea_cons (EvP.e s7 (tOnly_wd _) eU) ea_nil)) (by show 2 ≤ 100000; decide)))
        (ea_cons (EvP.e s7 (tOnly_tup2 (tOnly_wd _)) (ed_tup (ds := [.str "change", wd u]) (ea_cons ed_str (ea_cons eU ea_nil)) (by show 2 ≤ 100000; decide)))
        (ea_cons (ed_tupE (ds := [.str "changes", lw u]) s7 (ea_cons (EvP.e s7 rfl ed_str) (ea_cons (EvN.e s7 (tOnly_ints _) (en_listT eU)) ea_nil)) (by show 2 ≤ 100000; decide)) ea_nil)))) (by show 4 ≤ 100000; decide)) (by show _ + 4 ≤ 100000; omega)) fun l5 H8 hl5 e8 n8 => ?_
      refine hI _ _ ⟨l5, _, rfl, s7.ne hl5, n8, by rw [List.length_append]; show _ + 4 ≤ 4000; omega, fun d hd => ?_, dp_mono (e7.trans e8) pwI, eI.trans (Ex.s (e7.trans e8)), s7.mono e8⟩
      rcases List.mem_append.mp hd with hd | hd
      · exact hW d hd
      · exact ⟨L.w3 u huM d hd, pap_w2 u d hd⟩
    · exact ⟨l, Wl, rfl, hla, nl.mono e7, by omega, hW, dp_mono e7 pwI, eI.trans (Ex.s e7), sI.mono e7⟩
  · have hn0 : 0 < n := by
      rw [decide_eq_true_eq] at hb
      omega
    have st7 := st6.mono e7
    refine ⟨_, rfl, ?_⟩
    refine spoilt_call (K := K) (a := a) (n := n) (p := p) (pl := nw pl) (mu := mu) (z := zeroM n) (ea_cons (ex_var rfl) (ea_cons (ed_var rfl (.int p)) (ea_cons (ed_var rfl (dp_mono e7 ppl6)) (ea_cons (ed_var rfl (dp_mono e7 pmu6)) (ea_cons (ed_var rfl (dp_mono e7 pw6)) ea_nil))))) st7 ⟨hn0, by omega, hpll, hmu, by unfold zeroM; rw [List.length_replicate]⟩ fun i q H8 hi hq n8 e8 s8 => ?_
    have hl4a : l4 ≠ a := st5.ne hl4
    obtain ⟨xs, x1, x2⟩ := (n6.mono e7).S e8 hl4a
    obtain ⟨ys, y1, y2⟩ := n8
    have hsl : (spoilM p n (nw pl) mu (zeroM n) i).length = 13 := rfl
    refine ⟨l4, q, xs, ys, rfl, rfl, x1, y1, sz_of (by rw [dpAll_len x2, dpAll_len y2, hsl]; omega), fun l hl => ?_⟩
    have eN : Ex H8 (upd H8 l (.lst (xs ++ ys))) := ex_of_new hl
    have er8 := er_ex (a := a) (Ex.s eN)
    refine hI _ _ ⟨l, wrong1 n (nw pl) mu ++ spoilM p n (nw pl) mu (zeroM n) i, rfl, s8.ne hl, ⟨_, upd_same, dpAll_app (dpAll_mono er8 x2) (dpAll_mono er8 y2)⟩, by rw [List.length_append, hsl]; omega, fun d hd => ?_, dp_mono eN (dp_S st7 e8 (tOnly_wd _) (dp_mono e7 pw6)), ((Ex.s (E6.trans e7)).trans e8).trans (Ex.s eN), s8.mono eN⟩
    rcases List.mem_append.mp hd with hd | hd
    · exact ⟨L.w1 pl mu hpl hmu hmm d hd, pap_w1 _ _ _ d hd⟩
    · exact ⟨L.w2 pl mu i hpl hmu hmm hi d hd, pap_sp _ _ _ _ _ _ d hd⟩
  · exact ⟨l4, _, rfl, st5.ne hl4, n6.mono e7, by omega, fun d hd => ⟨L.w1 pl mu hpl hmu hmm d hd, pap_w1 _ _ _ d hd⟩, dp_mono e7 pw6, Ex.s (E6.trans e7), st6.mono e7⟩
end
end WK

set_option Elab.async false
set_option linter.all false
set_option maxRecDepth 100000
set_option maxHeartbeats 4000000
/-! law: the table, all papers, the paper (statements 10 to 18). -/
namespace WK
open PySem PySem.Spec PyProof.Rows L2 WM
open Evl (Ex ex_l ex_t ex_rd sq_of st_of sz_of sz_lt fresh_back rLenS rListS)
section
variable {P : Program} {w : World} {K : PySem.W.Frag} {mg : Str → Option Value} {base : Heap}
def keptIn (p : Int) (rows imgs : List W) (one : W) (two : List W) : Bool := two.any fun t => fitK p rows imgs (unN (wd one)) t
def keptGo (p : Int) (n : Nat) (rows imgs : List W) (i : Nat) : Bool := ((arrM n).take i).any fun one => keptIn p rows imgs one (mulM n p.toNat)
theorem any_snoc {α : Type} (f : α → Bool) (xs : List α) (x : α) : (xs ++ [x]).any f = (xs.any f || f x) := by
  rw [List.any_append]
  show (xs.any f || (f x || false)) = _
  rw [Bool.or_false]
theorem eqv_ch (u : W) : PyData.eqv (.tuple [.str "changes", wd u]) (.tuple [.str "changes", wd u]) = true := by
  show (PyData.eqv (.str "changes") (.str "changes") && (PyData.eqv (wd u) (wd u) && true)) = true
  rw [eqv_wd, decide_eq_true rfl] <;> rfl
theorem shaped_ch (u : W) : SeqAt.shaped (.tuple [.str "changes", wd u]) = true := by
  unfold SeqAt.shaped
  have h1 : (PyData.tuple [.str "changes", .tuple (u.map PyData.int)]).canLay0 = true := by
    simp only [PyData.canLay0, PyData.canLayAll0, canLay_ints, Bool.and_self]
    decide +kernel
  have h2 : (PyData.tuple [.str "changes", .tuple (u.map PyData.int)]).depth ≤ 64 := by
    have := depth_ints u
    simp only [PyData.depth, PyData.depthAll]
    omega
  show (_ && _) = true
  exact (congr (congrArg _ h1) (decide_eq_true h2)).trans rfl
theorem law_B (T : Txt K mg) {cdv : Value} {A : Around} {outer : List Env} {s : Shared} {H0 : Hp} {E : XK} (hr : Room 8 (A.deeper (envOfC ("law" : Str) (defScope s_law) s.heap.objs.size T.law.f cdv))) :
    ∃ tz, PSs (cxOf CX0 P w K mg base N_law ("law" : Str) (defScope s_law) T.law.f cdv A outer s H0 E).nox ((defBody s_law).drop 10) tz ∧ ∀ (D : Ends) (H : Hp) (pn : Nat) (n : Nat) (c : CodeM) (imgs ws : List W) (kl km : W) (pl : List Nat) (mu : W) (a C il : Addr) (vx vR v17 v18 : V) (z7 z8 z9 z10 z11 z12 z13 z14 z15 z16 z19 z20 z21 z22 z23 z24 : Option V),
      LawOk (pn : Int) n c imgs ws kl km → Pr (pn : Int) → n ≤ 4 → imgs.length = c.rows.length → pl.Perm (List.range n) → mu.length = n → (∀ m ∈ mu, 1 ≤ m ∧ m < (pn : Int)) → StAt H a → CodeAt K T.cCode c H C → Dp K H vR (.tuple (wds c.rows)) → NL K (wds imgs) H il → Dp K H v17 (wd (nw pl)) → Dp K H v18 (wd mu) →
      (∀ v H', ExS a H H' → Dp K H' v (.bool true) → D.rt v H') →
      tz D [some vx, some (.ref a), some (.int (pn : Int)), some (.int (n : Int)), some (.ref C), some vR, some (.ref il), z7, z8, z9, z10, z11, z12, z13, z14, z15, z16, some v17, some v18, z19, z20, z21, z22, z23, z24] H := by
  obtain ⟨tC, hC, wC⟩ := law_C (P := P) (w := w) (K := K) (mg := mg) (base := base) T (outer := outer) (H0 := H0) (E := E) hr
  refine ⟨_, (pss_cons (ps_set (i := 6) sc_law.nd rfl (Or.inl rfl) (pe_callTy (kc_tuple K) (by rfl) T.z_tuple (by decide +kernel) (pa_cons (pv 6) pa_nil)))
      (pss_cons (ps_set (i := 8) sc_law.nd rfl (Or.inl rfl) (pe_call (ok_law_table T) (hr.mono (by decide)) (by rfl) T.law_table.g T.law_table.F.kp T.law_table.b .nil pass0 (pa_cons (pv 5) (pa_cons (pv 6) (pa_cons (pv 3) (pa_cons (pv 2) pa_nil))))))
      (pss_cons (ps_set (i := 9) sc_law.nd rfl (Or.inl rfl) (pe_lst pa_nil))
      (pss_cons (ps_for PassesOwn.never rfl (kpi_list K (pe_call (ok_law_all T) (hr.mono (by decide)) (by rfl) T.law_all.g T.law_all.F.kp T.law_all.b .nil pass0 (pa_cons (pv 3) (pa_cons (pv 2) pa_nil)))) (pg_name (i := 10) sc_law.nd rfl (Or.inl rfl)) (pss_cons (ps_set (i := 21) sc_law.nd rfl (Or.inl rfl) (pe_and (pe_cmp (pc_din (hu_of hr) (pv 10) (pv 8))) (pe_one (pe_cmpR op_ne (pe_call (ok_law_weight T) (hr.mono (by decide)) (by rfl) T.law_weight.g T.law_weight.F.kp T.law_weight.b .nil pass0 (pa_cons (pv 10) pa_nil)) (pe_call (ok_law_weight T) (hr.mono (by decide)) (by rfl) T.law_weight.g T.law_weight.F.kp T.law_weight.b .nil pass0 (pa_cons (pe_dget (hu_of hr) (pv 8) (pv 10) (fun _ _ => rfl)) pa_nil)) (nomark _)))))
      (pss_cons (ps_if (pt_cmpR op_ne (pe_call (ok_takes_map T) (hr.mono (by decide)) (by rfl) T.takes_map.g T.takes_map.F.kp T.takes_map.b .nil pass0 (pa_cons (pv 4) (pa_cons (pv 6) (pa_cons (pe_tup (pa_cons pe_str (pa_cons (pv 10) pa_nil))) pa_nil)))) (pv 21) (nomark _)) (pss_one (ps_ret pe_bl)) pss_nil)
      (pss_one (ps_if (pt_val (pv 21)) (pss_one (ps_expr (kpe_bm K PySem.F.plainAttrs_list PySem.F.slot_list_append PySem.F.type_list_append mt_append (pv 9) (pa_cons (pv 10) pa_nil)))) pss_nil)))))
      (pss_cons (ps_set (i := 11) sc_law.nd rfl (Or.inl rfl) pe_bl)
      (pss_cons (ps_for PassesOwn.never rfl (kpi_list K (pe_call (ok_law_arrangements T) (hr.mono (by decide)) (by rfl) T.law_arrangements.g T.law_arrangements.F.kp T.law_arrangements.b .nil pass0 (pa_cons (pv 3) pa_nil))) (pg_name (i := 12) sc_law.nd rfl (Or.inr rfl)) (pss_one (ps_for PassesOwn.never rfl (kpi_list K (pe_call (ok_law_multiples T) (hr.mono (by decide)) (by rfl) T.law_multiples.g T.law_multiples.F.kp T.law_multiples.b .nil pass0 (pa_cons (pv 3) (pa_cons (pv 2) pa_nil)))) (pg_name (i := 22) sc_law.nd rfl (Or.inr rfl)) (pss_cons (ps_set (i := 21) sc_law.nd rfl (Or.inl rfl) (pe_cmpR (ko_eqD K hr) (pe_lc (own := [("_law_row", 23)]) (g := gName 23) rfl sc_law.nd (kpi_tup K (pv 5)) (blkOk_by (own := [("_law_row", 23)]) (N := N_law) (sc := (defScope s_law)) (by decide +kernel)) (fun _ _ _ _ _ => pg_name (i := 23) sc_law.nd rfl (Or.inl rfl)) (fun _ _ _ _ _ => pts_nil) (fun _ _ _ _ _ => (pe_call (ok_law_carried T) (hr.mono (by decide)) (by rfl) T.law_carried.g T.law_carried.F.kp T.law_carried.b .nil pass0 (pa_cons (pv 23) (pa_cons (pv 12) (pa_cons (pv 22) (pa_cons (pv 2) pa_nil))))))) (pe_callTy (kc_list K) (by rfl) T.z_list (by decide +kernel) (pa_cons (pv 6) pa_nil)) (nomark _)))
      (pss_cons (ps_set (i := 11) sc_law.nd rfl (Or.inl rfl) (pe_or (pv 11) (pe_one (pv 21))))
      (pss_one (ps_if (pt_cmpR op_ne (pe_call (ok_takes_map T) (hr.mono (by decide)) (by rfl) T.takes_map.g T.takes_map.F.kp T.takes_map.b .nil pass0 (pa_cons (pv 4) (pa_cons (pv 6) (pa_cons (pe_tup (pa_cons pe_str (pa_cons (pv 12) (pa_cons (pv 22) pa_nil)))) pa_nil)))) (pv 21) (nomark _)) (pss_one (ps_ret pe_bl)) pss_nil)))))))
      (pss_cons (ps_set (i := 13) sc_law.nd rfl (Or.inl rfl) (pe_call (ok_map_paper T) (hr.mono (by decide)) (by rfl) T.map_paper.g T.map_paper.F.kp T.map_paper.b .nil pass0 (pa_cons (pv 4) (pa_cons (pv 6) pa_nil))))
      (pss_cons (ps_if (PW.pt (pw_or (pt_cmpR op_eq (pv 11) (pe_cmpR op_gt (pe_callB (kc_len K) (by rfl) T.z_len PySem.boot_len (pa_cons (pv 9) pa_nil)) pe_int (nomark _)) (nomark _)) (pw_or1 (pt_cmpR op_notBl (pe_call (ok_takes_map T) (hr.mono (by decide)) (by rfl) T.takes_map.g T.takes_map.F.kp T.takes_map.b .nil pass0 (pa_cons (pv 4) (pa_cons (pv 6) (pa_cons (pv 13) pa_nil)))) pe_bl (nomark _))))) (pss_one (ps_ret pe_bl)) pss_nil)
      (pss_cons (ps_if (PW.pt (pw_or (PW.pt (pw_and (pt_cmpR op_gt (pe_callB (kc_len K) (by rfl) T.z_len PySem.boot_len (pa_cons (pv 9) pa_nil)) pe_int (nomark _)) (pw_and1 (pt_cmpR (ko_neD K hr) (pv 13) (pe_tup (pa_cons pe_str (pa_cons (pe_ix (kx_list K) (pv 9) pe_int (fun _ _ => rfl)) pa_nil))) (nomark _))))) (pw_or1 (PW.pt (pw_and (pt_val (pv 11)) (pw_and1 (pt_cmpR op_ne (pe_ix (kx_tup K) (pv 13) pe_int (fun _ _ => rfl)) pe_str (nomark _)))))))) (pss_one (ps_ret pe_bl)) pss_nil)
      hC))))))))), ?_⟩
  intro D H pn n c imgs ws kl km pl mu a C il vx vR v17 v18 z7 z8 z9 z10 z11 z12 z13 z14 z15 z16 z19 z20 z21 z22 z23 z24 L hp hn hil hpl hmu hmm st cA pR nI ppl pmu k
  have hp5 := pr_pos hp
  have hcp := L.cp
  have hcn := L.cn
  have hRw : ∀ r ∈ c.rows, WOk (pn : Int) n r := by
    have := L.ok.rows
    rw [hcp, hcn] at this
    exact this
  have hIw : ∀ r ∈ imgs, WOk (pn : Int) n r := by
    have := L.io.wd
    rw [hcp, hcn] at this
    exact this
  have k4 := L.k4
  refine q_asg (P := DP K (.tuple (wds imgs))) (ed_tupL (tOnly_wds _) (ed_var rfl nI.dp)) fun vI H1 e1 pI => ?_
  refine q_asgN (PA := DT K (tableM (pn : Int) n c.rows imgs)) (en_call (ι := List W × List W × Nat × Int) (c.rows, imgs, n, (pn : Int)) ⟨hp, hil, k4, by show n ≤ 5; omega, hRw, hIw⟩ (ea_cons (ed_var rfl (dp_mono e1 pR)) (ea_cons (ed_var rfl pI) (ea_cons (ed_var rfl (.int _)) (ea_cons (ed_var rfl (.int _)) ea_nil))))) fun tA H2 htA e2 dT => ?_
  refine q_asgN (PA := NL K []) (en_lst (ds := []) ea_nil (by decide)) fun chg H3 hchg e3 n3 => ?_
  have E2 := e1.trans e2
  have st2 := st.mono E2
  have cA2 := cA.mono E2
  have pI2 := dp_mono e2 pI
  have pR2 := dp_mono E2 pR
  have ppl2 := dp_mono E2 ppl
  have pmu2 := dp_mono E2 pmu
  have hca : chg ≠ a := st2.ne hchg
  obtain ⟨xs0, y1, y2⟩ := n3
  cases y2
  have cp : ∀ {H' : Hp} {σ : L2.St}, Ex H2 H' → σ[4]? = some (some (.ref C)) → EvP (tVar 4) σ H' (CP K T.cCode c) := fun e h => ev_var h ⟨_, rfl, cA2.mono e⟩
  refine q_forN (ds := wds (allM n pn)) (en_call (ι := Nat × Nat) (n, pn) ⟨hn, by show pn ≤ 5; omega⟩ (ea_cons (ed_var rfl (.int _)) (ea_cons (ed_var rfl (.int _)) ea_nil)))
    (fun q xs i σ' H' => ∃ z10 z21, σ' = [some vx, some (.ref a), some (.int (pn : Int)), some (.int (n : Int)), some (.ref C), some vR, some vI, z7, some (.ref tA), some (.ref chg), z10, z11, z12, z13, z14, z15, z16, some v17, some v18, z19, z20, z21, z22, z23, z24] ∧ Ex H2 H' ∧ H' q = some (.lst xs) ∧ DpAll K H' xs (wds (allM n pn)) ∧ q ≠ chg ∧ ∃ us, H' chg = some (.lst us) ∧ DpAll K H' us (wds (((allM n pn).take i).filter (fitC (pn : Int) n c.rows imgs))))
    (fun q xs H4 hq e4 h4 al4 => ⟨_, _, rfl, e3.trans e4, h4, al4, (fun z => by rw [z, y1] at hq; cases hq), [], e4 _ _ y1, .nil⟩) (fun q xs i σ' H' ⟨_, _, _, _, h, _⟩ => h) (fun q xs i x σ' H' hlx hi h => ?_) (fun q xs σ' H' h => ?_)
  · obtain ⟨z10, z21, rfl, e, h1, al1, hne, us, u1, u2⟩ := h
    have hi' : i < (allM n pn).length := by
      have := (List.getElem?_eq_some_iff.mp hi).1
      rw [dpAll_len al1] at this
      unfold wds at this
      rw [List.length_map] at this
      exact this
    have hwi := getD_at (l := allM n pn) [] hi'
    have hmem : (allM n pn).getD i [] ∈ allM n pn := List.mem_of_getElem? hwi
    generalize (allM n pn).getD i [] = u at hwi hmem
    have px : Dp K H' x (wd u) := by
      obtain ⟨v, a1, a2⟩ := dpAll_at al1 (i := i) (d := wd u) (by unfold wds; rw [List.getElem?_map, hwi] <;> rfl)
      rw [hi] at a1
      cases a1
      exact a2
    have hul := L.tl u hmem
    have dT' := dT.mono e
    refine q_asg (P := DP K (.bool (fitC (pn : Int) n c.rows imgs u))) (ed_andV (ed_dinT dT' (ed_var rfl px) (ex_var rfl)) fun hs => ?_) fun v21 H5 e5 p21 => ?_
    · cases hg : tabGet (tableM (pn : Int) n c.rows imgs) u with
      | none => rw [hg] at hs; cases hs
      | some y =>
        have hyl := L.tt u y hg
        exact EvP.is (ed_neI (ev_call u (by show u.length ≤ 1000; omega) (ea_cons (ed_var rfl px) ea_nil)) (ev_call y (by show y.length ≤ 1000; omega) (ea_cons (ed_dgetT dT' hg (ex_var rfl) (ed_var rfl px)) ea_nil))) (by
          show PyData.bool (!decide ((weightM u : Int) = (weightM y : Int))) = .bool (!decide (weightM u = weightM y))
          exact congrArg (fun b => PyData.bool (!b)) (decide_eq_decide.mpr Int.ofNat_inj))
    have ev21 := dp_bl p21
    subst ev21
    have eH5 := e.trans e5
    have hch := L.ch u hmem
    refine q_when (b := false) (eb_test (EvP.is (ed_neB (ev_call (ι := CodeM × List W × PyData) (c, imgs, .tuple [.str "changes", wd u]) ⟨L.ok, hil, L.io.wd, pap2 (ip_wd _)⟩ (ea_cons (cp eH5 rfl) (ea_cons (ed_var rfl (dp_mono eH5 pI2)) (ea_cons (ed_tup (ds := [.str "changes", wd u]) (ea_cons ed_str (ea_cons (ed_var rfl (dp_mono e5 px)) ea_nil)) (by show 2 ≤ 100000; decide)) ea_nil)))) (ed_var rfl (.bl _))) ?_)) (fun hb => nomatch hb) (fun hb H6 e6 => ?_)
    · show PyData.bool (!decide (takesD c imgs (.tuple [.str "changes", wd u]) = fitC (pn : Int) n c.rows imgs u)) = .bool false
      rw [hch, decide_eq_true rfl] <;> rfl
    have hflt : ((allM n pn).take (i + 1)).filter (fitC (pn : Int) n c.rows imgs) = ((allM n pn).take i).filter (fitC (pn : Int) n c.rows imgs) ++ (if fitC (pn : Int) n c.rows imgs u then [u] else []) := by
      rw [take_snoc hwi, List.filter_append]
      congr 1
      cases hf : fitC (pn : Int) n c.rows imgs u <;> simp [List.filter, hf]
    have eH6 := eH5.trans e6
    have u1' := (e5.trans e6) _ _ u1
    have hus : us.length ≤ 1000 := by
      rw [dpAll_len u2]
      unfold wds
      rw [List.length_map]
      have h1 := List.length_filter_le (fitC (pn : Int) n c.rows imgs) ((allM n pn).take i)
      have h3 : ((allM n pn).take i).length ≤ (allM n pn).length := List.length_take_le' i _
      have h4 : (allM n pn).length ≤ 1000 := L.sz
      omega
    refine s_when (b := fitC (pn : Int) n c.rows imgs u) (eb_B (K := K) (ed_var rfl (.bl _))) (fun hb H7 e7 => ?_) (fun hb H7 e7 => ?_)
    · have u17 := e7 _ _ u1'
      refine s_app (P := DP K (wd u)) u17 (ex_var rfl) (ed_var rfl (dp_mono ((e5.trans e6).trans e7) px)) (by omega) fun v H8 e8 pv => ?_
      have u18 := e8 _ _ u17
      have e68 := ((e5.trans e6).trans e7).trans e8
      refine ⟨_, _, rfl, Ex.mut (e.trans e68) hchg, by rw [upd_ne hne]; exact e68 _ _ h1, dpAll_updL u18 (tOnly_wds _) (dpAll_mono e68 al1), hne, us ++ [v], upd_same, ?_⟩
      rw [hflt, hb]
      unfold wds
      rw [List.map_append]
      exact dpAll_snoc (dpAll_updL u18 (tOnly_wds _) (dpAll_mono e68 u2)) (dp_updL u18 (tOnly_wd _) pv)
    · have e57 := (e5.trans e6).trans e7
      refine ⟨_, _, rfl, e.trans e57, e57 _ _ h1, dpAll_mono e57 al1, hne, us, e57 _ _ u1, ?_⟩
      rw [hflt, hb]
      show DpAll K H7 us (wds (_ ++ []))
      rw [List.append_nil]
      exact dpAll_mono e57 u2
  · obtain ⟨z10', z21', rfl, eA, h1, al1, hne, us, u1, u2⟩ := h
    have u2' : DpAll K H' us (wds (changedM (pn : Int) n c.rows imgs)) := by
      unfold wds at u2
      rw [List.length_map, List.take_length] at u2
      exact u2
    have nC : NL K (wds (changedM (pn : Int) n c.rows imgs)) H' chg := ⟨us, u1, u2'⟩
    have pI' := dp_mono eA pI2
    have pR' := dp_mono eA pR2
    refine q_asg (P := DP K (.bool false)) ed_bl fun v11 H4 e4 p11 => ?_
    have ev11 := dp_bl p11
    subst ev11
    have eA4 := eA.trans e4
    have pI4 := dp_mono eA4 pI2
    have pR4 := dp_mono eA4 pR2
    have cp4 : ∀ {H5 : Hp} {σ : L2.St}, Ex H4 H5 → σ[4]? = some (some (.ref C)) → EvP (tVar 4) σ H5 (CP K T.cCode c) := fun e h => cp (eA4.trans e) h
    refine q_forN (ds := wds (arrM n)) (en_call (ι := Nat) n hn (ea_cons (ed_var rfl (.int _)) ea_nil))
      (fun q xs i σ' H' => ∃ z12 z21 z22, σ' = [some vx, some (.ref a), some (.int (pn : Int)), some (.int (n : Int)), some (.ref C), some vR, some vI, z7, some (.ref tA), some (.ref chg), z10', some (.bl (keptGo (pn : Int) n c.rows imgs i)), z12, z13, z14, z15, z16, some v17, some v18, z19, z20, z21, z22, z23, z24] ∧ Ex H4 H' ∧ H' q = some (.lst xs) ∧ DpAll K H' xs (wds (arrM n)))
      (fun q xs H5 hq e5 h5 al5 => ⟨_, _, _, rfl, e5, h5, al5⟩) (fun q xs i σ' H' ⟨_, _, _, _, _, h, _⟩ => h) (fun q xs i x σ' H' hlx hi h => ?_) (fun q xs σ' H' h => ?_)
    · obtain ⟨z12, z21, z22, rfl, e, g1, al2⟩ := h
      have hi' : i < (arrM n).length := by
        have := (List.getElem?_eq_some_iff.mp hi).1
        rw [dpAll_len al2] at this
        unfold wds at this
        rw [List.length_map] at this
        exact this
      have hwi := getD_at (l := arrM n) [] hi'
      have hmem : (arrM n).getD i [] ∈ arrM n := List.mem_of_getElem? hwi
      generalize (arrM n).getD i [] = one at hwi hmem
      have px : Dp K H' x (wd one) := by
        obtain ⟨v, a1, a2⟩ := dpAll_at al2 (i := i) (d := wd one) (by unfold wds; rw [List.getElem?_map, hwi] <;> rfl)
        rw [hi] at a1
        cases a1
        exact a2
      refine s_forN (ds := wds (mulM n pn)) (en_call (ι := Nat × Nat) (n, pn) ⟨hn, by show pn ≤ 5; omega⟩ (ea_cons (ed_var rfl (.int _)) (ea_cons (ed_var rfl (.int _)) ea_nil)))
        (fun q xs j σ' H'' => ∃ z21 z22, σ' = [some vx, some (.ref a), some (.int (pn : Int)), some (.int (n : Int)), some (.ref C), some vR, some vI, z7, some (.ref tA), some (.ref chg), z10', some (.bl (keptGo (pn : Int) n c.rows imgs i || keptIn (pn : Int) c.rows imgs one ((mulM n pn).take j))), some x, z13, z14, z15, z16, some v17, some v18, z19, z20, z21, z22, z23, z24] ∧ Ex H' H'' ∧ H'' q = some (.lst xs) ∧ DpAll K H'' xs (wds (mulM n pn)))
        (fun q xs H5 hq e5 h5 al5 => ⟨_, _, by rw [List.take_zero]; show _ = [_, _, _, _, _, _, _, _, _, _, _, some (V.bl (_ || false)), _, _, _, _, _, _, _, _, _, _, _, _, _]; rw [Bool.or_false] <;> rfl, e5, h5, al5⟩) (fun q xs i σ' H' ⟨_, _, _, _, h, _⟩ => h) (fun q2 xs2 j y σ' H'' hlx2 hj h => ?_) (fun q2 xs2 σ' H'' h => ?_)
      · obtain ⟨z21, z22, rfl, eB, g2, al3⟩ := h
        have hj' : j < (mulM n pn).length := by
          have := (List.getElem?_eq_some_iff.mp hj).1
          rw [dpAll_len al3] at this
          unfold wds at this
          rw [List.length_map] at this
          exact this
        have hwj := getD_at (l := mulM n pn) [] hj'
        have hmem2 : (mulM n pn).getD j [] ∈ mulM n pn := List.mem_of_getElem? hwj
        generalize (mulM n pn).getD j [] = two at hwj hmem2
        have py : Dp K H'' y (wd two) := by
          obtain ⟨v, a1, a2⟩ := dpAll_at al3 (i := j) (d := wd two) (by unfold wds; rw [List.getElem?_map, hwj] <;> rfl)
          rw [hj] at a1
          cases a1
          exact a2
        obtain ⟨ko1, ko2, ko3, ko4, ko5, kT⟩ := L.ke one hmem two hmem2
        have px2 := dp_mono eB px
        have px' : Dp K H'' x (wd (nw (unN (wd one)))) := by
          rw [← ko1]
          exact px2
        have eC := e.trans eB
        have pI5 := dp_mono eC pI4
        have pR5 := dp_mono eC pR4
        have hp0 : (0 : Int) < (pn : Int) := by omega
        refine q_asg (P := DP K (.bool (fitK (pn : Int) c.rows imgs (unN (wd one)) two))) (EvP.is (ed_eqD (shaped_wdsL _) (shaped_wdsL _) (EvN.ls (EvN.is (es := wds (c.rows.map fun r => movedM (pn : Int) r (unN (wd one)) two)) (en_lcT wd c.rows (fun _ => true) (fun r => wd (movedM (pn : Int) r (unN (wd one)) two)) (fun _ => tOnly_wd _) (ed_var rfl pR5) (by omega) (fun _ => rfl) (fun _ _ _ _ _ _ _ => eb_yes)
          (fun i v u H1 e hi pv _ => ev_call (ι := W × List Nat × W × Int) (u, unN (wd one), two, (pn : Int)) (by
            have := (hRw u (List.mem_of_getElem? hi)).1
            exact ⟨by show (unN (wd one)).length = u.length; omega, by show two.length = u.length; omega, by show u.length ≤ 100; omega, fun q hq => by show q < u.length; have := ko4 q hq; omega, ko5, hp0⟩) (ea_cons (ed_var rfl pv) (ea_cons (ed_var rfl (dp_mono e px')) (ea_cons (ed_var rfl (dp_mono e py)) (ea_cons (ed_var rfl (.int _)) ea_nil)))))) (by
              rw [filter_yes]
              unfold wds
              rw [List.map_map] <;> rfl))) (EvN.ls (en_listT (ed_var rfl pI5)))) (by rw [eqv_wdsL] <;> rfl)) fun v21 H5 e5 p21 => ?_
        have ev21 := dp_bl p21
        subst ev21
        refine q_asg (P := DP K (.bool ((keptGo (pn : Int) n c.rows imgs i || keptIn (pn : Int) c.rows imgs one ((mulM n pn).take j)) || fitK (pn : Int) c.rows imgs (unN (wd one)) two))) (ed_orV (ed_var rfl (.bl _)) fun _ => ed_var rfl (.bl _)) fun v11 H6 e6 p11 => ?_
        have ev11 := dp_bl p11
        subst ev11
        have e56 := e5.trans e6
        have eD := eC.trans e56
        refine s_when (b := false) (eb_test (EvP.is (ed_neB (ev_call (ι := CodeM × List W × PyData) (c, imgs, .tuple [.str "keeps", wd one, wd two]) ⟨L.ok, hil, L.io.wd, pap3 (ip_wd _) (ip_wd _)⟩ (ea_cons (cp4 eD rfl) (ea_cons (ed_var rfl (dp_mono e56 pI5)) (ea_cons (ed_tup (ds := [.str "keeps", wd one, wd two]) (ea_cons ed_str (ea_cons (ed_var rfl (dp_mono e56 px2)) (ea_cons (ed_var rfl (dp_mono e56 py)) ea_nil))) (by show 3 ≤ 100000; decide)) ea_nil)))) (ed_var rfl (.bl _))) ?_)) (fun hb => nomatch hb) (fun hb H7 e7 => ?_)
        · show PyData.bool (!decide (takesD c imgs (.tuple [.str "keeps", wd one, wd two]) = fitK (pn : Int) c.rows imgs (unN (wd one)) two)) = .bool false
          rw [kT, decide_eq_true rfl] <;> rfl
        · have e57 := e56.trans e7
          refine ⟨some (.bl (fitK (pn : Int) c.rows imgs (unN (wd one)) two)), some y, ?_, eB.trans e57, e57 _ _ g2, dpAll_mono e57 al3⟩
          have hk : (keptGo (pn : Int) n c.rows imgs i || keptIn (pn : Int) c.rows imgs one ((mulM n pn).take (j + 1))) = ((keptGo (pn : Int) n c.rows imgs i || keptIn (pn : Int) c.rows imgs one ((mulM n pn).take j)) || fitK (pn : Int) c.rows imgs (unN (wd one)) two) := by
            unfold keptIn
            rw [take_snoc hwj, any_snoc, Bool.or_assoc]
          rw [hk] <;> rfl
      · obtain ⟨z21, z22, rfl, eB, g2, al3⟩ := h
        refine ⟨some x, z21, z22, ?_, e.trans eB, eB _ _ g1, dpAll_mono eB al2⟩
        have hk : keptGo (pn : Int) n c.rows imgs (i + 1) = (keptGo (pn : Int) n c.rows imgs i || keptIn (pn : Int) c.rows imgs one ((mulM n pn).take (wds (mulM n pn)).length)) := by
          unfold keptGo
          rw [take_snoc hwi, any_snoc]
          unfold wds
          rw [List.length_map, List.take_length] <;> rfl
        rw [hk]
    · obtain ⟨z12', z21'', z22', rfl, e, g1, al2⟩ := h
      have hkept : keptGo (pn : Int) n c.rows imgs (wds (arrM n)).length = keptM (pn : Int) n c.rows imgs := by
        unfold keptGo
        unfold wds
        rw [List.length_map, List.take_length] <;> rfl
      rw [hkept]
      have cA6 := cA2.mono (eA4.trans e)
      have pI6 := dp_mono e pI4
      have nC6 := nC.mono (e4.trans e)
      refine q_asg (P := DP K (paperM (chgM c imgs ws) kl km)) (ev_call (ι := CodeM × List W × List W × W × W) (c, imgs, ws, kl, km) ⟨L.ok, L.io, L.wg, L.pa⟩ (ea_cons (cp4 e rfl) (ea_cons (ed_var rfl pI6) ea_nil))) fun v13 H7 e7 p13 => ?_
      have hpap : papOk (paperM (chgM c imgs ws) kl km) = true := by
        cases chgM c imgs ws with
        | none => exact pap3 (ip_wd _) (ip_wd _)
        | some u => exact pap2 (ip_wd _)
      have e47 := e.trans e7
      have E7 : Ex H H7 := (E2.trans eA4).trans e47
      have kc : keptM (pn : Int) n c.rows imgs = !decide (0 < (changedM (pn : Int) n c.rows imgs).length) := L.kc
      have hd : chgM c imgs ws = (changedM (pn : Int) n c.rows imgs).head? := L.hd
      have hT := L.tp
      have w1 := fun (D : Ends) (H : Hp) => wC D H (pn : Int) n c imgs ws kl km pl mu a C chg vx vR vI v17 v18
      generalize hCH : changedM (pn : Int) n c.rows imgs = CH at kc hd nC6
      have nC7 := nC6.mono e7
      have elen : ∀ {σ : L2.St} {H8 : Hp}, Ex H7 H8 → σ[9]? = some (some (.ref chg)) → EvD K (tCB (rLenS K) (tCons (tVar 9) tNil)) σ H8 (.int (CH.length : Int)) := fun e h => EvP.is (ed_lenL (ed_var h (nC7.mono e).dp)) (by unfold wds; rw [List.length_map])
      refine q_when (b := false) (EvB.is (eb_or (b := false) (b2 := false) (eb_test (EvP.is (ed_eqB (ed_var rfl (.bl _)) (ed_gt (elen (Ex.refl _) rfl) ed_int)) ?_)) fun _ => eb_test (EvP.is (ed_isNotB (ev_call (ι := CodeM × List W × PyData) (c, imgs, paperM (chgM c imgs ws) kl km) ⟨L.ok, hil, L.io.wd, hpap⟩ (ea_cons (cp4 e47 rfl) (ea_cons (ed_var rfl (dp_mono e7 pI6)) (ea_cons (ed_var rfl p13) ea_nil)))) ed_bl) ?_)) rfl) (fun hb => nomatch hb) (fun hb H8 e8 => ?_)
      · rw [kc]
        show PyData.bool (decide ((!decide (0 < CH.length)) = decide (0 < (CH.length : Int)))) = .bool false
        rw [show decide (0 < (CH.length : Int)) = decide (0 < CH.length) from decide_eq_decide.mpr (by omega)]
        cases decide (0 < CH.length) <;> rfl
      · show PyData.bool (!decide (takesD c imgs (paperM (chgM c imgs ws) kl km) = true)) = .bool false
        rw [hT] <;> rfl
      have fin : ∀ H9, Ex H8 H9 → tC D [some vx, some (.ref a), some (.int (pn : Int)), some (.int (n : Int)), some (.ref C), some vR, some vI, z7, some (.ref tA), some (.ref chg), z10', some (.bl (keptM (pn : Int) n c.rows imgs)), z12', some v13, z14, z15, z16, some v17, some v18, z19, z20, z21'', z22', z23, z24] H9 := fun H9 e9 => by
        have e89 := e8.trans e9
        have E9 := E7.trans e89
        have e49 := e47.trans e89
        exact w1 D H9 _ _ _ _ _ _ _ _ _ _ _ _ _ _ _ L hp hn hil hpl hmu hmm (st.mono E9) (cA.mono E9) (dp_mono (e7.trans e89) pI6) (dp_mono E9 ppl) (dp_mono E9 pmu) hca (by rw [hCH]; exact nC7.mono e89) (fun v Hz eZ pz => k v Hz ((Ex.s E9).trans eZ) pz)
      cases CH with
      | nil =>
        have hd' : chgM c imgs ws = none := hd
        rw [hd'] at p13
        have p13' : Dp K H7 v13 (.tuple [.str "keeps", wd kl, wd km]) := p13
        have hat : atI [PyData.str "keeps", wd kl, wd km] ((0 : Nat) : Int) = some (.str "keeps") := atI_nat rfl
        refine q_when (b := false) (EvB.is (eb_or (b := false) (b2 := false) (EvB.is (eb_and (b := false) (b2 := false) (eb_test (EvP.is (ed_gt (elen e8 rfl) ed_int) rfl)) fun h => nomatch h) rfl) fun _ => EvB.is (eb_and (b2 := false) (eb_B (K := K) (ed_var rfl (.bl _))) fun _ => eb_test (EvP.is (ed_neS (ed_ixT hat (ed_var rfl (dp_mono e8 p13')) ed_int) ed_str) (congrArg (fun b => PyData.bool (!b)) (decide_eq_true rfl)))) (Bool.and_false _)) rfl) (fun hb => nomatch hb) (fun hb H9 e9 => fin H9 e9)
      | cons u us =>
        have hd' : chgM c imgs ws = some u := hd
        rw [hd'] at p13
        have p13' : Dp K H7 v13 (.tuple [.str "changes", wd u]) := p13
        have hkf : keptM (pn : Int) n c.rows imgs = false := by
          rw [kc, decide_eq_true (by show 0 < us.length + 1; omega)] <;> rfl
        have hat : atI (wds (u :: us)) ((0 : Nat) : Int) = some (wd u) := atI_nat rfl
        refine q_when (b := false) (EvB.is (eb_or (b := false) (b2 := false) (EvB.is (eb_and (b2 := false) (eb_test (K := K) (ed_gt (elen e8 rfl) ed_int)) fun _ => eb_test (EvP.is (ed_neD (shaped_ch u) (shaped_ch u) (ed_var rfl (dp_mono e8 p13')) (ed_tup (ds := [.str "changes", wd u]) (ea_cons ed_str (ea_cons (ed_ixL (i := 0) hat (ed_var rfl (nC7.mono e8).dp) ed_int) ea_nil)) (by show 2 ≤ 100000; decide))) (by rw [eqv_ch] <;> rfl))) (Bool.and_false _)) fun _ => EvB.is (eb_and (b := false) (b2 := false) (eb_B (K := K) (ed_var rfl (by rw [hkf]; exact .bl false))) fun h => nomatch h) rfl) rfl) (fun hb => nomatch hb) (fun hb H9 e9 => fin H9 e9)
end
end WK

set_option Elab.async false
set_option linter.all false
set_option maxRecDepth 100000
set_option maxHeartbeats 4000000
/-! law: the drawing. -/
namespace WK
open PySem PySem.Spec PyProof.Rows L2 WM
open Evl (Ex ex_l ex_t ex_rd sq_of st_of sz_of sz_lt fresh_back rLenS rListS)
section
variable {P : Program} {w : World} {K : PySem.W.Frag} {mg : Str → Option Value} {base : Heap}
def sp_law (K : PySem.W.Frag) : Sp := spOf (fun x : W => [ScP K x]) (fun _ => True) (fun _ => DP K (.bool true))
theorem ok_law (hA : LawAll) (T : Txt K mg) : FnOk P w K mg base CX0 9 T.law.f T.law.fd ["_law_script"] (sp_law K) := by
  refine T.law.F.ok sc_law (fun vs H Q E h => spOf_len (n := 1) (fun _ => rfl) h) (fun cdv A outer s H vs Q E hr h => ?_)
  obtain ⟨x, ps, _, k⟩ := h
  dsimp only at ps k
  obtain ⟨vx, rfl, px⟩ := allP1 ps
  obtain ⟨tB, hB, wB⟩ := law_B (P := P) (w := w) (K := K) (mg := mg) (base := base) T (outer := outer) (H0 := H) (E := E) hr
  refine ⟨_, (pss_cons (ps_set (i := 1) sc_law.nd rfl (Or.inr rfl) (pe_call (ok_law_state T) (hr.mono (by decide)) (by rfl) T.law_state.g T.law_state.F.kp T.law_state.b .nil pass0 (pa_cons (pv 0) pa_nil)))
      (pss_cons (ps_set (i := 2) sc_law.nd rfl (Or.inr rfl) (pe_ix (kx_list K) (pe_lst (pa_cons pe_int (pa_cons pe_int (pa_cons pe_int (pa_cons pe_int pa_nil))))) (pe_call (ok_law_take T) (hr.mono (by decide)) (by rfl) T.law_take.g T.law_take.F.kp T.law_take.b .nil pass0 (pa_cons (pv 1) (pa_cons pe_int pa_nil))) (fun _ _ => rfl)))
      (pss_cons (ps_set (i := 3) sc_law.nd rfl (Or.inr rfl) (pe_call (ok_law_take T) (hr.mono (by decide)) (by rfl) T.law_take.g T.law_take.F.kp T.law_take.b .nil pass0 (pa_cons (pv 1) (pa_cons (pe_op op_sub (pe_op op_sub pe_int (pe_callTy kc_int1 (by rfl) T.z_int (by decide +kernel) (pa_cons (pe_cmpR op_gt (pv 2) pe_int (nomark _)) pa_nil))) (pe_callTy kc_int1 (by rfl) T.z_int (by decide +kernel) (pa_cons (pe_cmpR op_gt (pv 2) pe_int (nomark _)) pa_nil))) pa_nil))))
      (pss_cons (ps_set (i := 4) sc_law.nd rfl (Or.inl rfl) (pe_make T.mk_Code (ok_Code_init T) (hr.mono (by decide)) rfl T.g_Code T.Code_init.b .nil pass0 (pa_cons (pv 2) (pa_cons (pv 3) (pa_cons (pe_call (ok_law_rows T) (hr.mono (by decide)) (by rfl) T.law_rows.g T.law_rows.F.kp T.law_rows.b .nil pass0 (pa_cons (pv 1) (pa_cons (pv 3) (pa_cons (pv 2) (pa_cons (pe_op op_add pe_int (pe_callTy kc_int1 (by rfl) T.z_int (by decide +kernel) (pa_cons (pe_cmpR op_eq (pv 2) pe_int (nomark _)) pa_nil))) pa_nil))))) pa_nil)))))
      (pss_cons (ps_set (i := 5) sc_law.nd rfl (Or.inl rfl) (kpe_fld K (pv 4)))
      (pss_cons (ps_asg (pe_call (ok_law_drawn_map T) (hr.mono (by decide)) (by rfl) T.law_drawn_map.g T.law_drawn_map.F.kp T.law_drawn_map.b .nil pass0 (pa_cons (pv 1) (pa_cons (pv 3) (pa_cons (pv 2) pa_nil)))) (kpg_tup K (n := 2) rfl (pgs_cons (pg_name (i := 17) sc_law.nd rfl (Or.inr rfl)) (pgs_cons (pg_name (i := 18) sc_law.nd rfl (Or.inr rfl)) pgs_nil))))
      (pss_cons (ps_setLc (i := 6) (own := [("_law_row", 23)]) (g := gName 23) rfl sc_law.nd rfl rfl (sw_true rfl rfl rfl (by decide +kernel)) (kpi_tup K (pv 5)) (blkOk_by (own := [("_law_row", 23)]) (N := N_law) (sc := (defScope s_law)) (by decide +kernel)) (fun _ _ _ _ _ => pg_name (i := 23) sc_law.nd rfl (Or.inl rfl)) (fun _ _ _ _ _ => pts_nil) (fun _ _ _ _ _ => (pe_call (ok_law_carried T) (hr.mono (by decide)) (by rfl) T.law_carried.g T.law_carried.F.kp T.law_carried.b .nil pass0 (pa_cons (pv 23) (pa_cons (pv 17) (pa_cons (pv 18) (pa_cons (pv 2) pa_nil)))))))
      (pss_cons (ps_set (i := 7) sc_law.nd rfl (Or.inl rfl) (pe_call (ok_law_take T) (hr.mono (by decide)) (by rfl) T.law_take.g T.law_take.F.kp T.law_take.b .nil pass0 (pa_cons (pv 1) (pa_cons pe_int pa_nil))))
      (pss_cons (ps_if (PW.pt (pw_and (pt_cmpR op_eq (pv 7) pe_int (nomark _)) (pw_and (pt_cmpR op_gt (pe_callB (kc_len K) (by rfl) T.z_len PySem.boot_len (pa_cons (pv 6) pa_nil)) pe_int (nomark _)) (pw_and1 (pt_cmpR op_gt (pv 3) pe_int (nomark _)))))) (pss_cons (ps_set (i := 19) sc_law.nd rfl (Or.inl rfl) (pe_call (ok_law_take T) (hr.mono (by decide)) (by rfl) T.law_take.g T.law_take.F.kp T.law_take.b .nil pass0 (pa_cons (pv 1) (pa_cons (pe_callB (kc_len K) (by rfl) T.z_len PySem.boot_len (pa_cons (pv 6) pa_nil)) pa_nil))))
      (pss_cons (ps_set (i := 20) sc_law.nd rfl (Or.inl rfl) (pe_call (ok_law_take T) (hr.mono (by decide)) (by rfl) T.law_take.g T.law_take.F.kp T.law_take.b .nil pass0 (pa_cons (pv 1) (pa_cons (pv 3) pa_nil))))
      (pss_one (ps_asg (pe_op (ko_catA K) (pe_op (ko_catA K) (pe_slice (ks_tup K) (pe_ix (kx_list K) (pv 6) (pv 19) (fun _ _ => rfl)) po_none (po_some (pv 20))) (pe_tup (pa_cons (pe_op op_mod (pe_callTy kc_int1 (by rfl) T.z_int (by decide +kernel) (pa_cons (pe_op op_add (pe_ix (kx_tup K) (pe_ix (kx_list K) (pv 6) (pv 19) (fun _ _ => rfl)) (pv 20) (fun _ _ => rfl)) pe_int) pa_nil)) (pv 2)) pa_nil))) (pe_slice (ks_tup K) (pe_ix (kx_list K) (pv 6) (pv 19) (fun _ _ => rfl)) (po_some (pe_op op_add (pv 20) pe_int)) po_none)) (pg_sub (pv 6) (pv 19) set_list))))) pss_nil)
      (pss_cons (ps_if (pt_cmpR op_eq (pv 7) pe_int (nomark _)) (pss_one (ps_setLc (i := 6) (own := [("_law_row", 23)]) (g := gName 23) rfl sc_law.nd rfl rfl (sw_true rfl rfl rfl (by decide +kernel)) (kpi_tup K (pv 5)) (blkOk_by (own := [("_law_row", 23)]) (N := N_law) (sc := (defScope s_law)) (by decide +kernel)) (fun _ _ _ _ _ => pg_name (i := 23) sc_law.nd rfl (Or.inl rfl)) (fun _ _ _ _ _ => pts_nil) (fun _ _ _ _ _ => (pe_call (ok_law_word T) (hr.mono (by decide)) (by rfl) T.law_word.g T.law_word.F.kp T.law_word.b .nil pass0 (pa_cons (pv 1) (pa_cons (pv 3) (pa_cons (pv 2) pa_nil))))))) pss_nil)
      hB)))))))))), ?_⟩
  refine q_asgN (PA := StAt) (en_call x trivial (ea_cons (ev_var rfl px) ea_nil)) fun a H1 ha e1 st1 => ?_
  -- p and n
  refine q_ixN (en_lst (K := K) (ds := ([2, 2, 3, 5] : W).map PyData.int) (ea_cons ed_int (ea_cons ed_int (ea_cons ed_int (ea_cons ed_int ea_nil)))) (by decide)) fun pr H2 hpr e2 npr => ?_
  refine take_call (K := K) (a := a) (m := 4) (ea_cons (ex_var rfl) (ea_cons ed_int ea_nil)) (st1.mono e2) ⟨by decide, by decide⟩ fun r H3 r0 r1 e3 s3 => ?_
  obtain ⟨xs, x1, x2⟩ := npr
  rw [ints_of_dp x2] at x1
  have x3 := e3 _ _ (st1.ne hpr) x1
  obtain ⟨p, hp, hat⟩ : ∃ p : Int, Pr p ∧ atI (([2, 2, 3, 5] : W).map V.int) r = some (.int p) := by
    have : r = 0 ∨ r = 1 ∨ r = 2 ∨ r = 3 := by omega
    rcases this with rfl | rfl | rfl | rfl
    · exact ⟨2, .inl rfl, rfl⟩
    · exact ⟨2, .inl rfl, rfl⟩
    · exact ⟨3, .inr (.inl rfl), rfl⟩
    · exact ⟨5, .inr (.inr rfl), rfl⟩
  have hp5 := pr_pos hp
  refine ⟨pr, _, r, _, rfl, rfl, sq_of x3, hat, ?_⟩
  refine take_call (K := K) (a := a) (m := lim2 p) (ea_cons (ex_var rfl) (ea_cons (EvP.is (ed_sub (ed_sub ed_int (ed_intB (ed_gt (ed_var rfl (.int p)) ed_int))) (ed_intB (ed_gt (ed_var rfl (.int p)) ed_int))) (by rcases hp with rfl | rfl | rfl <;> rfl)) ea_nil)) s3 (by rcases hp with rfl | rfl | rfl <;> exact ⟨by decide, by decide⟩) fun n0 H4 n00 n01 e4 s4 => ?_
  obtain ⟨n, rfl⟩ : ∃ n : Nat, n0 = (n : Int) := ⟨n0.toNat, by omega⟩
  have hn4 : n ≤ 4 := by
    have : lim2 p ≤ 5 := by rcases hp with rfl | rfl | rfl <;> decide
    omega
  -- the code
  refine ⟨_, rfl, _, rfl, ?_⟩
  refine rows_call (K := K) (a := a) (n := n) (m := most2 p) (p := p) (ea_cons (ex_var rfl) (ea_cons (ed_var rfl (.int _)) (ea_cons (ed_var rfl (.int _)) (ea_cons (EvP.is (ed_add ed_int (ed_intB (ed_eqI (ed_var rfl (.int p)) ed_int))) (by rcases hp with rfl | rfl | rfl <;> rfl)) ea_nil)))) s4 (by rcases hp with rfl | rfl | rfl <;> exact ⟨by omega, by decide, by decide, by decide⟩) fun us q H5 hul hus hq nq e5 s5 => ?_
  have dr : Drawn p n us := ⟨by
    rcases hp with rfl | rfl | rfl
    · exact .inl ⟨rfl, by have : lim2 2 = 5 := rfl; omega, hul⟩
    · exact .inr (.inl ⟨rfl, by have : lim2 3 = 4 := rfl; omega, hul⟩)
    · exact .inr (.inr ⟨rfl, by have : lim2 5 = 3 := rfl; omega, hul⟩), hus⟩
  obtain ⟨hR4, hRw, hL⟩ := hA p n us dr
  intro C dx hC hdx hne
  have hCdx : C ≠ dx := Ne.symm hne
  have eC : Ex H5 (upd (upd H5 dx (.own C)) C (.ins T.cCode dx [])) := (ex_of_new hdx).trans (ex_of_new (by rw [upd_ne hCdx]; exact hC))
  refine ⟨(p, n, us), C, dx, _, rfl, ⟨.int _, .int _, (nq.mono eC).dp, trivial⟩, upd_same, ⟨hp, by show n ≤ 5; omega, by have : us.length ≤ 3 := Nat.le_trans hul (by rcases hp with rfl | rfl | rfl <;> decide); show us.length ≤ 90; omega, hus⟩, fun H6 hk6 cA => ⟨rfl, ?_⟩⟩
  have e6 : Ex H5 H6 := fun b o hb => hk6 b o (fun z => by rw [z, hC] at hb; cases hb) (eC b o hb)
  have s6 := s5.mono e6
  have cA' : CodeAt K T.cCode (mkCode p n us) H6 C := cA
  clear cA
  generalize hc : mkCode p n us = c at cA' hR4 hRw hL
  refine q_asg (P := DP K (.tuple (wds c.rows))) (cf_rows T (ex_var rfl) cA') fun vR H7 e7 pR => ?_
  have s7 := s6.mono e7
  refine map_call (K := K) (a := a) (n := n) (p := p) (ea_cons (ex_var rfl) (ea_cons (ed_var rfl (.int _)) (ea_cons (ed_var rfl (.int _)) ea_nil))) s7 ⟨by omega, by omega, by omega⟩ fun pl mu v H8 hpl hmu hmm pv e8 s8 => ?_
  obtain ⟨vt, ts, rfl, hts, al⟩ := dp_tupX pv
  obtain ⟨v17, v18, rfl, ppl, pmu⟩ : ∃ v w, ts = [v, w] ∧ Dp K H8 v (wd (nw pl)) ∧ Dp K H8 w (wd mu) := by
    cases al with
    | cons p1 r =>
      cases r with
      | cons p2 r =>
        cases r
        exact ⟨_, _, rfl, p1, p2⟩
  refine ⟨vt, _, rfl, st_of hts, rfl, _, _, rfl, _, _, rfl, rfl, ?_⟩
  have pR8 : Dp K H8 vR (.tuple (wds c.rows)) := dp_S s7 e8 (tOnly_wds _) pR
  have cA8 : CodeAt K T.cCode c H8 C := (cA'.mono e7).S s7 e8
  have hp0 : 0 < p := by omega
  have hpr2 : ∀ x ∈ pl, x < n := fun x hx => List.mem_range.mp (hpl.mem_iff.mp hx)
  have hpll : pl.length = n := by rw [hpl.length_eq, List.length_range]
  have hcar : ∀ u, WOk p n u → pl.length = u.length ∧ mu.length = u.length ∧ u.length ≤ 100 ∧ (∀ q ∈ pl, q < u.length) ∧ (∀ c ∈ mu, -1000 ≤ c ∧ c ≤ 1000) ∧ 0 < p := fun u hu => by
    have := hu.1
    exact ⟨by omega, by omega, by omega, fun q hq => by have := hpr2 q hq; omega, fun c hc => by have := hmm c hc; omega, hp0⟩
  generalize hIM : c.rows.map (fun r => movedM p r pl mu) = IM
  have hIMl : IM.length = c.rows.length := by rw [← hIM, List.length_map]
  have hIMw : ∀ u ∈ IM, WOk p n u := by
    rw [← hIM]
    intro u hu
    obtain ⟨r, hr1, rfl⟩ := List.mem_map.mp hu
    exact moved_ok (hRw r hr1) hp0
  refine q_asgN (PA := NL K (wds IM)) (EvN.is (en_lcT wd c.rows (fun _ => true) (fun r => wd (movedM p r pl mu)) (fun _ => tOnly_wd _) (ed_var rfl pR8) (by omega) (fun _ => rfl) (fun _ _ _ _ _ _ _ => eb_yes)
    (fun i x u H1 e hi px _ => ev_call (ι := W × List Nat × W × Int) (u, pl, mu, p) (hcar u (hRw u (List.mem_of_getElem? hi))) (ea_cons (ed_var rfl px) (ea_cons (ed_var rfl (dp_mono e ppl)) (ea_cons (ed_var rfl (dp_mono e pmu)) (ea_cons (ed_var rfl (.int p)) ea_nil)))))) (by
      rw [filter_yes, ← hIM]
      unfold wds
      rw [List.map_map] <;> rfl)) fun il H9 hil e9 n9 => ?_
  have s9 := s8.mono e9
  refine take_call (K := K) (a := a) (m := 3) (ea_cons (ex_var rfl) (ea_cons ed_int ea_nil)) s9 ⟨by decide, by decide⟩ fun kd H10 k0 k1 e10 s10 => ?_
  have n10 := n9.S s9 e10 (s8.ne hil) (tOnly_wds _)
  have e810 := (Ex.s e9).trans e10
  refine q_cut (b := decide (kd = 1) && (decide (0 < ((wds IM).length : Int)) && decide (0 < (n : Int))))
    (I := fun σ' H' => ∃ imgs il z19 z20, σ' = [some vx, some (.ref a), some (.int p), some (.int (n : Int)), some (.ref C), some vR, some (.ref il), some (.int kd), none, none, none, none, none, none, none, none, none, some v17, some v18, z19, z20, none, none, none, none] ∧ imgs.length = c.rows.length ∧ (∀ u ∈ imgs, WOk p n u) ∧ H8 il = none ∧ NL K (wds imgs) H' il ∧ ExS a H8 H' ∧ StAt H' a)
    (eb_and (eb_test (K := K) (ed_eqI (ed_var rfl (.int kd)) ed_int)) fun _ => eb_and (eb_test (ed_gt (ed_lenL (ed_var rfl n10.dp)) ed_int)) fun _ => eb_test (K := K) (ed_gt (ed_var rfl (.int (n : Int))) ed_int)) (fun σ' H' h => ?_) (fun hb H11 e11 nx hI => ?_) (fun hb H11 e11 => ?_)
  · obtain ⟨IM2, il2, z19, z20, rfl, hl2, hw2, hil2, nI, eI, sI⟩ := h
    refine q_cut (b := decide (kd = 2))
      (I := fun σ' H' => ∃ imgs il z19 z20, σ' = [some vx, some (.ref a), some (.int p), some (.int (n : Int)), some (.ref C), some vR, some (.ref il), some (.int kd), none, none, none, none, none, none, none, none, none, some v17, some v18, z19, z20, none, none, none, none] ∧ imgs.length = c.rows.length ∧ (∀ u ∈ imgs, WOk p n u) ∧ H8 il = none ∧ NL K (wds imgs) H' il ∧ ExS a H8 H' ∧ StAt H' a)
      (eb_test (K := K) (ed_eqI (ed_var rfl (.int kd)) ed_int)) (fun σ' H'' h => ?_) (fun hb H11 e11 nx hI => ?_) (fun hb H11 e11 => ?_)
    · obtain ⟨imgs, il3, z19, z20, rfl, hl3, hw3, hil3, n3, e38, s38⟩ := h
      obtain ⟨ws, kl, km, L⟩ := hL imgs hl3 hw3
      obtain ⟨pn, rfl⟩ : ∃ pn : Nat, p = (pn : Int) := ⟨p.toNat, by omega⟩
      have e08 : ExS a H H8 := (((((((Ex.s e1).trans (Ex.s e2)).trans e3).trans e4).trans e5).trans (Ex.s e6)).trans (Ex.s e7)).trans e8
      refine wB _ H'' pn n c imgs ws kl km pl mu a C il3 vx vR v17 v18 _ _ _ _ _ _ _ _ _ _ _ _ _ _ _ _ L hp hn4 hl3 hpl hmu hmm s38 (cA8.S s8 e38) (dp_S s8 e38 (tOnly_wds _) pR8) n3 (dp_S s8 e38 (tOnly_wd _) ppl) (dp_S s8 e38 (tOnly_wd _) pmu) fun v Hz eZ pz => k v Hz (fun b o hb => ?_) pz
      exact ((e08.trans e38).trans eZ) b o (fun z => by rw [z, ha] at hb; cases hb) hb
    · have s11 := sI.mono e11
      refine lc_word (K := K) (a := a) (n := n) (p := p) (rows := c.rows) (ed_var rfl (dp_mono e11 (dp_S s8 eI (tOnly_wds _) pR8))) (by omega) (fun _ => rfl) s11 (fun x H1 e1 s1 Q' q' => word_call (K := K) (ea_cons (ex_var rfl) (ea_cons (ed_var rfl (.int _)) (ea_cons (ed_var rfl (.int _)) ea_nil))) s1 ⟨by omega, by omega, by omega⟩ q') fun us2 q2 H12 hl hb2 hq2 n12 e12 s12 => ?_
      exact hI _ _ ⟨us2, q2, _, _, rfl, hl, hb2, (eI.trans (Ex.s e11)).fresh s8 hq2 s11, n12, (eI.trans (Ex.s e11)).trans e12, s12⟩
    · exact ⟨IM2, il2, z19, z20, rfl, hl2, hw2, hil2, nI.mono e11, eI.trans (Ex.s e11), sI.mono e11⟩
  · have n11 := n10.mono e11
    have s11 := s10.mono e11
    have hb' : 0 < IM.length ∧ 0 < n := by
      simp only [Bool.and_eq_true, decide_eq_true_eq, wds, List.length_map] at hb
      exact ⟨by omega, by omega⟩
    refine take_call (K := K) (a := a) (m := (IM.length : Int)) (ea_cons (ex_var rfl) (ea_cons (EvP.is (ed_lenL (ed_var rfl n11.dp)) (by unfold wds; rw [List.length_map])) ea_nil)) s11 ⟨by omega, by omega⟩ fun k0' H12 k00 k01 e12 s12 => ?_
    obtain ⟨k0, rfl⟩ : ∃ k0 : Nat, k0' = (k0 : Int) := ⟨k0'.toNat, by omega⟩
    refine take_call (K := K) (a := a) (m := (n : Int)) (ea_cons (ex_var rfl) (ea_cons (ed_var rfl (.int (n : Int))) ea_nil)) s12 ⟨by omega, by omega⟩ fun t0' H13 t00 t01 e13 s13 => ?_
    obtain ⟨t0, rfl⟩ : ∃ t0 : Nat, t0' = (t0 : Int) := ⟨t0'.toNat, by omega⟩
    have hk0 : k0 < IM.length := by omega
    have ht0 : t0 < n := by omega
    have n13 := (n11.S s11 e12 (s8.ne hil) (tOnly_wds _)).S s12 e13 (s8.ne hil) (tOnly_wds _)
    have e813 := ((e810.trans (Ex.s e11)).trans e12).trans e13
    have hku := getD_at (l := IM) [] hk0
    have hu : WOk p n (IM.getD k0 []) := hIMw _ (List.mem_of_getElem? hku)
    generalize IM.getD k0 [] = u at hku hu
    have eW : EvD K (tOp (rIxL K) (tVar 6) (tVar 19)) [some vx, some (.ref a), some (.int p), some (.int (n : Int)), some (.ref C), some vR, some (.ref il), some (.int kd), none, none, none, none, none, none, none, none, none, some v17, some v18, some (.int (k0 : Int)), some (.int (t0 : Int)), none, none, none, none] H13 (wd u) :=
      ed_ixL (atI_nat (by unfold wds; rw [List.getElem?_map, hku] <;> rfl)) (ed_var rfl n13.dp) (ed_var rfl (.int (k0 : Int)))
    obtain ⟨ys, y1, y2⟩ := n13
    have hys : ys.length = IM.length := by rw [dpAll_len y2]; unfold wds; rw [List.length_map]
    have hul2 := hu.1
    refine s_setL (P := DP K (wd (bump p u t0))) (m := k0) y1 (EvP.is (ed_catT (ds := (u.take t0).map PyData.int ++ [.int ((u.getD t0 0 + 1) % p)]) (es := (u.drop (t0 + 1)).map PyData.int) (EvP.is (ed_catT (ds := (u.take t0).map PyData.int) (es := [.int ((u.getD t0 0 + 1) % p)]) (EvP.is (ed_slT eW eo_none (eo_some (ed_var (K := K) rfl (.int (t0 : Int))))) (by rw [cutTo, ints_take]))
        (ed_tup (ds := [.int ((u.getD t0 0 + 1) % p)]) (ea_cons (ed_mod hp0 (ed_intI (ed_add (ed_ixT (at_int (getD_at 0 (by omega)) rfl) eW (ed_var rfl (.int (t0 : Int)))) ed_int)) (ed_var rfl (.int p))) ea_nil) (by show 1 ≤ 100000; decide)) (by rw [List.length_map, List.length_take]; show _ + 1 ≤ _; omega)) rfl)
        (EvP.is (ed_slT eW (eo_some (ed_add (ed_var (K := K) rfl (.int (t0 : Int))) (ed_int (i := 1)))) eo_none) (by rw [show ((t0 : Int) + 1) = ((t0 + 1 : Nat) : Int) from rfl, cutFrom, ints_drop])) (by rw [List.length_append, List.length_map, List.length_take, List.length_map, List.length_drop]; show _ + 1 + _ ≤ _; omega)) (by
          unfold bump wd
          rw [List.map_append, List.map_append] <;> rfl)) (ex_var rfl) (ed_var (K := K) rfl (.int (k0 : Int))) (by omega) fun v H14 e14 pv => ?_
    have y14 := e14 _ _ y1
    refine hI _ _ ⟨IM.set k0 (bump p u t0), il, _, _, rfl, by rw [List.length_set, hIMl], fun y hy => ?_, hil, ⟨_, upd_same, ?_⟩, ExS.mut (e813.trans (Ex.s e14)) hil, (s13.mono e14).upd (s8.ne hil)⟩
    · rcases List.mem_or_eq_of_mem_set hy with hy | hy
      · exact hIMw y hy
      · rw [hy]
        exact bump_ok hp0 hu ht0
    · unfold wds
      rw [List.map_set]
      exact dpAll_set _ (dpAll_updL y14 (tOnly_wds _) (dpAll_mono e14 y2)) (dp_updL y14 (tOnly_wd _) pv)
  · exact ⟨IM, il, none, none, rfl, hIMl, hIMw, hil, n10.mono e11, e810.trans (Ex.s e11), s10.mono e11⟩
end
end WK

set_option Elab.async false
set_option linter.all false
set_option maxRecDepth 100000
set_option maxHeartbeats 4000000
/-! plain law: what the rows reduce to. -/
namespace WK
open PySem PySem.Spec WM
theorem getD_lt {v : W} {i : Nat} (h : i < v.length) : v.getD i 0 ∈ v := List.mem_of_getElem? (getD_at 0 h)
theorem add_at {p : Int} {v u : W} {i : Nat} (h1 : i < v.length) (h2 : i < u.length) : (addM v u p).getD i 0 = (v.getD i 0 + u.getD i 0) % p := by
  have e1 := getD_at (l := v) 0 h1
  have e2 := getD_at (l := u) 0 h2
  have : (addM v u p)[i]? = some ((v.getD i 0 + u.getD i 0) % p) := by
    unfold addM
    rw [List.getElem?_zipWith, e1, e2]
  rw [List.getD_eq_getElem?_getD, this] <;> rfl
theorem scale_at {p a : Int} {v : W} {i : Nat} (h1 : i < v.length) : (scaleM v a p).getD i 0 = v.getD i 0 * a % p := by
  have e1 := getD_at (l := v) 0 h1
  have : (scaleM v a p)[i]? = some (v.getD i 0 * a % p) := by
    unfold scaleM
    rw [List.getElem?_map, e1] <;> rfl
  rw [List.getD_eq_getElem?_getD, this] <;> rfl
theorem inv_mul {p x : Int} (hp : Pr p) (h0 : 0 ≤ x) (h1 : x < p) (hx : x ≠ 0) : x * invM x p % p = 1 := by
  rcases hp with rfl | rfl | rfl
  · have e : x = 1 := by omega
    subst e
    decide
  · have e : x = 1 ∨ x = 2 := by omega
    rcases e with rfl | rfl <;> decide
  · have e : x = 1 ∨ x = 2 ∨ x = 3 ∨ x = 4 := by omega
    rcases e with rfl | rfl | rfl | rfl <;> decide
theorem scale_wok {p a : Int} {n : Nat} {v : W} (hp : 0 < p) (h : WOk p n v) : WOk p n (scaleM v a p) := by
  refine ⟨by unfold scaleM; rw [List.length_map]; exact h.1, fun x hx => ?_⟩
  obtain ⟨y, _, rfl⟩ := List.mem_map.mp hx
  exact ⟨Int.emod_nonneg _ (by omega), Int.emod_lt_of_pos _ hp⟩
theorem add_wok {p : Int} {n : Nat} {v u : W} (hp : 0 < p) (h : WOk p n v) (h2 : WOk p n u) : WOk p n (addM v u p) := by
  refine ⟨by unfold addM; rw [List.length_zipWith, h.1, h2.1, Nat.min_self], fun x hx => ?_⟩
  unfold addM at hx
  rw [List.mem_iff_getElem?] at hx
  obtain ⟨i, hi⟩ := hx
  rw [List.getElem?_zipWith] at hi
  cases e1 : v[i]? with
  | none => rw [e1] at hi; cases hi
  | some a =>
    cases e2 : u[i]? with
    | none => rw [e1, e2] at hi; cases hi
    | some b =>
      rw [e1, e2] at hi
      cases hi
      exact ⟨Int.emod_nonneg _ (by omega), Int.emod_lt_of_pos _ hp⟩
theorem wrd_at {p : Int} {n : Nat} {v : W} (h : WOk p n v) {i : Nat} (hi : i < n) : 0 ≤ v.getD i 0 ∧ v.getD i 0 < p := h.2 _ (getD_lt (by rw [h.1]; exact hi))
theorem clear_wok {p : Int} {n at_ : Nat} {h r : W} (hp : 0 < p) (hh : WOk p n h) (hr : WOk p n r) : WOk p n (clearM p h at_ r) := add_wok hp hr (scale_wok hp hh)
theorem clear_at {p : Int} {n at_ : Nat} {h r : W} (hp : 0 < p) (hh : WOk p n h) (hr : WOk p n r) {j : Nat} (hj : j < n) : (clearM p h at_ r).getD j 0 = (r.getD j 0 + h.getD j 0 * (-(r.getD at_ 0)) % p) % p := by
  unfold clearM
  rw [add_at (by rw [hr.1]; exact hj) (by rw [(scale_wok hp hh).1]; exact hj), scale_at (by rw [hh.1]; exact hj)]
theorem clear_keep {p : Int} {n at_ : Nat} {h r : W} (hp : 0 < p) (hh : WOk p n h) (hr : WOk p n r) {j : Nat} (hj : j < n) (h0 : h.getD j 0 = 0) : (clearM p h at_ r).getD j 0 = r.getD j 0 := by
  rw [clear_at hp hh hr hj, h0, Int.zero_mul, Int.zero_emod, Int.add_zero]
  exact Int.emod_eq_of_lt (wrd_at hr hj).1 (wrd_at hr hj).2
theorem clear_zero {p : Int} {n at_ : Nat} {h r : W} (hp : 0 < p) (hh : WOk p n h) (hr : WOk p n r) (hj : at_ < n) (h0 : h.getD at_ 0 = 1) : (clearM p h at_ r).getD at_ 0 = 0 := by
  rw [clear_at hp hh hr hj, h0, Int.one_mul, Int.add_emod, Int.emod_emod_of_dvd _ (Int.dvd_refl p), ← Int.add_emod]
  rw [Int.add_right_neg, Int.zero_emod]
/-- one reduced row with its place -/
def RowU (p : Int) (n : Nat) (x : W × Nat) : Prop := WOk p n x.1 ∧ x.2 < n ∧ x.1.getD x.2 0 = 1 ∧ ∀ j, j < x.2 → x.1.getD j 0 = 0
def RowR (x y : W × Nat) : Prop := x.2 < y.2 ∧ x.1.getD y.2 0 = 0 ∧ y.1.getD x.2 0 = 0
structure RInv (p : Int) (n at_ k : Nat) (s : List W × List W × List Nat) : Prop where
  len : s.2.1.length = s.2.2.length
  cnt : s.1.length + s.2.1.length ≤ k
  rest : ∀ r ∈ s.1, WOk p n r ∧ ∀ j, j < at_ → r.getD j 0 = 0
  u : ∀ x ∈ s.2.1.zip s.2.2, RowU p n x ∧ x.2 < at_
  pw : (s.2.1.zip s.2.2).Pairwise RowR
theorem rinv_step {p : Int} {n at_ k : Nat} {s : List W × List W × List Nat} (hp : Pr p) (ha : at_ < n) (h : RInv p n at_ k s) : RInv p n (at_ + 1) k (redStep p s at_) := by
  have hp0 : 0 < p := by have := pr_pos hp; omega
  unfold redStep
  cases hf : s.1.find? (fun r => r.getD at_ 0 != 0) with
  | none =>
    refine ⟨h.len, h.cnt, fun r hr => ⟨(h.rest r hr).1, fun j hj => ?_⟩, fun x hx => ⟨(h.u x hx).1, Nat.lt_succ_of_lt (h.u x hx).2⟩, h.pw⟩
    by_cases e : j = at_
    · have := List.find?_eq_none.mp hf r hr
      rw [e]
      simpa using this
    · exact (h.rest r hr).2 j (by omega)
  | some h0 =>
    have hm := List.mem_of_find?_eq_some hf
    have hne : h0.getD at_ 0 ≠ 0 := by simpa using List.find?_some hf
    obtain ⟨w0, z0⟩ := h.rest h0 hm
    dsimp only
    generalize hH : scaleM h0 (invM (h0.getD at_ 0) p) p = H
    have wH : WOk p n H := hH ▸ scale_wok hp0 w0
    have oneH : H.getD at_ 0 = 1 := by
      rw [← hH, scale_at (by rw [w0.1]; exact ha)]
      exact inv_mul hp (wrd_at w0 ha).1 (wrd_at w0 ha).2 hne
    have zH : ∀ j, j < at_ → H.getD j 0 = 0 := fun j hj => by
      rw [← hH, scale_at (by rw [w0.1]; omega), z0 j hj, Int.zero_mul, Int.zero_emod]
    have hz : ((s.2.1.map (clearM p H at_)) ++ [H]).zip (s.2.2 ++ [at_]) = ((s.2.1.zip s.2.2).map fun x => (clearM p H at_ x.1, x.2)) ++ [(H, at_)] := by
      rw [List.zip_append (by rw [List.length_map, h.len]), List.zip_map_left]
      rfl
    have hk : ∀ x ∈ s.2.1.zip s.2.2, ∀ j, j < at_ → (clearM p H at_ x.1).getD j 0 = x.1.getD j 0 := fun x hx j hj => clear_keep hp0 wH (h.u x hx).1.1 (by omega) (zH j hj)
    refine ⟨?_, ?_, fun r hr => ?_, fun x hx => ?_, ?_⟩
    · show (s.2.1.map (clearM p H at_) ++ [H]).length = (s.2.2 ++ [at_]).length
      rw [List.length_append, List.length_append, List.length_map, h.len] <;> rfl
    · show ((s.1.erase h0).map (clearM p H at_)).length + (s.2.1.map (clearM p H at_) ++ [H]).length ≤ k
      have h1 := List.length_erase_of_mem hm
      have h2 := List.length_pos_of_mem hm
      have h3 := h.cnt
      rw [List.length_append, List.length_map, List.length_map, h1]
      show _ + (_ + 1) ≤ k
      omega
    · obtain ⟨r0, hr0, rfl⟩ := List.mem_map.mp hr
      obtain ⟨w1, z1⟩ := h.rest r0 (List.mem_of_mem_erase hr0)
      refine ⟨clear_wok hp0 wH w1, fun j hj => ?_⟩
      by_cases e : j = at_
      · rw [e]
        exact clear_zero hp0 wH w1 ha oneH
      · rw [clear_keep hp0 wH w1 (by omega) (zH j (by omega))]
        exact z1 j (by omega)
    · have hx' : x ∈ ((s.2.1.zip s.2.2).map fun x => (clearM p H at_ x.1, x.2)) ++ [(H, at_)] := hz ▸ hx
      rcases List.mem_append.mp hx' with hx' | hx'
      · obtain ⟨y, hy, rfl⟩ := List.mem_map.mp hx'
        obtain ⟨⟨y1, y2, y3, y4⟩, y5⟩ := h.u y hy
        exact ⟨⟨clear_wok hp0 wH y1, y2, by show (clearM p H at_ y.1).getD y.2 0 = 1; rw [hk y hy y.2 y5]; exact y3, fun j hj => by show (clearM p H at_ y.1).getD j 0 = 0; rw [hk y hy j (Nat.lt_trans hj y5)]; exact y4 j hj⟩, Nat.lt_succ_of_lt y5⟩
      · rw [List.mem_singleton.mp hx']
        exact ⟨⟨wH, ha, oneH, zH⟩, Nat.lt_succ_self _⟩
    · show (((s.2.1.map (clearM p H at_)) ++ [H]).zip (s.2.2 ++ [at_])).Pairwise RowR
      rw [hz, List.pairwise_append]
      refine ⟨?_, List.pairwise_singleton _ _, fun x hx y hy => ?_⟩
      · rw [List.pairwise_map]
        refine List.Pairwise.imp_of_mem (fun {x y} hx hy r => ?_) h.pw
        exact ⟨r.1, by show (clearM p H at_ x.1).getD y.2 0 = 0; rw [hk x hx y.2 (h.u y hy).2]; exact r.2.1, by show (clearM p H at_ y.1).getD x.2 0 = 0; rw [hk y hy x.2 (h.u x hx).2]; exact r.2.2⟩
      · rw [List.mem_singleton.mp hy]
        obtain ⟨z, hz', rfl⟩ := List.mem_map.mp hx
        obtain ⟨⟨y1, y2, y3, y4⟩, y5⟩ := h.u z hz'
        exact ⟨y5, clear_zero hp0 wH y1 ha oneH, zH _ y5⟩
theorem rinv_all {p : Int} {n k : Nat} {rows : List W} (hp : Pr p) (hr : ∀ r ∈ rows, WOk p n r) (hk : rows.length ≤ k) : RInv p n n k (redM p n rows) := by
  have go : ∀ i, i ≤ n → RInv p n i k ((List.range i).foldl (redStep p) (rows, [], [])) := fun i => by
    induction i with
    | zero => exact fun _ => ⟨rfl, hk, fun r h => ⟨hr r h, fun j hj => absurd hj (Nat.not_lt_zero _)⟩, fun x hx => absurd hx List.not_mem_nil, List.Pairwise.nil⟩
    | succ i ih =>
      intro hi
      rw [List.range_succ, List.foldl_append]
      exact rinv_step hp (by omega) (ih (by omega))
  exact go n (Nat.le_refl _)
end WK

set_option Elab.async false
set_option linter.all false
set_option maxRecDepth 100000
set_option maxHeartbeats 4000000
/-! plain law: the codes that law can draw, as a finite list. -/
namespace WK
open PySem PySem.Spec WM
theorem mem_allM {p : Nat} : ∀ {n : Nat} {w : W}, WOk (p : Int) n w → w ∈ allM n p
  | 0, w, h => by
    rw [List.eq_nil_of_length_eq_zero h.1]
    exact List.mem_singleton.mpr rfl
  | n + 1, w, h => by
    have hne : w ≠ [] := fun z => by rw [z] at h; exact absurd h.1 (by simp)
    have e := List.dropLast_concat_getLast hne
    have hl : w.dropLast.length = n := by rw [List.length_dropLast, h.1] <;> rfl
    have ih := mem_allM (n := n) (w := w.dropLast) ⟨hl, fun x hx => h.2 x ((List.dropLast_sublist w).subset hx)⟩
    have hx := h.2 _ (List.getLast_mem hne)
    unfold allM at ih ⊢
    rw [growGo_succ]
    refine List.mem_flatMap.mpr ⟨_, ih, ?_⟩
    unfold allF
    refine List.mem_map.mpr ⟨(w.getLast hne).toNat, List.mem_range.mpr (by omega), ?_⟩
    rw [Int.toNat_of_nonneg hx.1]
    exact e
def rowUB (x : W × Nat) : Bool := decide (x.1.getD x.2 0 = 1) && (List.range x.2).all fun j => decide (x.1.getD j 0 = 0)
def rowRB (x y : W × Nat) : Bool := decide (x.2 < y.2) && (decide (x.1.getD y.2 0 = 0) && decide (y.1.getD x.2 0 = 0))
def unitsL (p n : Nat) : List (W × Nat) := ((allM n p).flatMap fun w => (List.range n).map fun q => (w, q)).filter rowUB
def rrefL (p n : Nat) : Nat → List (List (W × Nat))
  | 0 => [[]]
  | k + 1 => (rrefL p n k).flatMap fun l => ((unitsL p n).filter fun u => l.all (rowRB u)).map fun u => u :: l
def codeOf (p n : Nat) (l : List (W × Nat)) : CodeM := ⟨(p : Int), n, l.map (·.1), l.map (·.2)⟩
/-- every reduced set of at most k rows -/
def codesL (p n k : Nat) : List (List (W × Nat)) := (List.range (k + 1)).flatMap (rrefL p n)
theorem mem_units {p n : Nat} {x : W × Nat} (h : RowU (p : Int) n x) : x ∈ unitsL p n := by
  obtain ⟨h1, h2, h3, h4⟩ := h
  refine List.mem_filter.mpr ⟨List.mem_flatMap.mpr ⟨x.1, mem_allM h1, List.mem_map.mpr ⟨x.2, List.mem_range.mpr h2, rfl⟩⟩, ?_⟩
  unfold rowUB
  rw [h3, Bool.and_eq_true, List.all_eq_true]
  exact ⟨rfl, fun j hj => decide_eq_true (h4 j (List.mem_range.mp hj))⟩
theorem mem_rref {p n : Nat} : ∀ {l : List (W × Nat)}, (∀ x ∈ l, RowU (p : Int) n x) → l.Pairwise RowR → l ∈ rrefL p n l.length
  | [], _, _ => List.mem_singleton.mpr rfl
  | x :: l, h, hp => by
    rw [List.pairwise_cons] at hp
    have ih := mem_rref (l := l) (fun y hy => h y (List.mem_cons_of_mem _ hy)) hp.2
    refine List.mem_flatMap.mpr ⟨l, ih, List.mem_map.mpr ⟨x, List.mem_filter.mpr ⟨mem_units (h x List.mem_cons_self), List.all_eq_true.mpr fun y hy => ?_⟩, rfl⟩⟩
    obtain ⟨r1, r2, r3⟩ := hp.1 y hy
    unfold rowRB
    rw [decide_eq_true r1, decide_eq_true r2, decide_eq_true r3] <;> rfl
theorem code_mem {p n k : Nat} {rows : List W} (hp : Pr (p : Int)) (hr : ∀ r ∈ rows, WOk (p : Int) n r) (hk : rows.length ≤ k) : ∃ l ∈ codesL p n k, mkCode (p : Int) n rows = codeOf p n l := by
  have h := rinv_all (k := k) hp hr hk
  generalize hs : redM (p : Int) n rows = s at h
  have hl := h.len
  have hc := h.cnt
  refine ⟨s.2.1.zip s.2.2, List.mem_flatMap.mpr ⟨(s.2.1.zip s.2.2).length, List.mem_range.mpr ?_, mem_rref (fun x hx => (h.u x hx).1) h.pw⟩, ?_⟩
  · rw [List.length_zip]
    omega
  · unfold mkCode codeOf
    rw [hs, List.map_fst_zip (by omega), List.map_snd_zip (by omega)]
theorem n_codes : ((codesL 2 4 3).length, (codesL 3 3 2).length, (codesL 5 2 2).length) = (66, 27, 8) := by decide +kernel
end WK

set_option Elab.async false
set_option linter.all false
set_option maxRecDepth 100000
set_option maxHeartbeats 4000000
/-! plain law: images, tables as combinations of the images. -/
namespace WK
open PySem PySem.Spec WM
theorem comb_snoc {p : Int} {n : Nat} {rows : List W} {cs : W} {r : W} {a : Int} (h : rows.length = cs.length) : combM p n (rows ++ [r]) (cs ++ [a]) = addM (combM p n rows cs) (scaleM r a p) p := by
  unfold combM
  rw [List.zip_append h, List.foldl_append] <;> rfl
def facGo (c : CodeM) (v : W) (i : Nat) : W × W := (List.range i).foldl (fun s k => (addM s.1 (scaleM (c.rows.getD k []) (-(s.1.getD (pivOf c.n (c.rows.getD k [])) 0)) c.p) c.p, s.2 ++ [s.1.getD (pivOf c.n (c.rows.getD k [])) 0])) (v, [])
def facs (c : CodeM) (v : W) : W := (facGo c v c.rows.length).2
theorem facGo_succ (c : CodeM) (v : W) (i : Nat) : facGo c v (i + 1) = (addM (facGo c v i).1 (scaleM (c.rows.getD i []) (-((facGo c v i).1.getD (pivOf c.n (c.rows.getD i [])) 0)) c.p) c.p, (facGo c v i).2 ++ [(facGo c v i).1.getD (pivOf c.n (c.rows.getD i [])) 0]) := by
  unfold facGo
  rw [List.range_succ, List.foldl_append] <;> rfl
theorem facGo_len (c : CodeM) (v : W) : ∀ i, (facGo c v i).2.length = i
  | 0 => rfl
  | i + 1 => by
    rw [facGo_succ, List.length_append, facGo_len c v i] <;> rfl
theorem img_facGo {c : CodeM} {imgs : List W} {v : W} : ∀ i, i ≤ imgs.length → imgGo c imgs v i = ((facGo c v i).1, combM c.p c.n (imgs.take i) (facGo c v i).2)
  | 0, _ => by rw [List.take_zero] <;> rfl
  | i + 1, h => by
    rw [imgGo_succ, img_facGo i (by omega), facGo_succ, take_snoc (getD_at [] (by omega)), comb_snoc (by rw [facGo_len, List.length_take]; omega)] <;> rfl
theorem image_facs {c : CodeM} {imgs : List W} (h : imgs.length = c.rows.length) (v : W) : imageM c imgs v = combM c.p c.n imgs (facs c v) := by
  unfold imageM facs
  rw [img_facGo _ (by omega), ← h, List.take_length]
/-! the table -/
theorem tabPut_new {t : Tab} {k v : W} (h : k ∉ t.map (·.1)) : tabPut t k v = t ++ [(k, v)] := by
  unfold tabPut
  rw [if_neg]
  intro hc
  rw [List.any_eq_true] at hc
  obtain ⟨e, he, hk⟩ := hc
  exact h (List.mem_map.mpr ⟨e, he, of_decide_eq_true hk⟩)
theorem tabGet_none {t : Tab} {k : W} (h : k ∉ t.map (·.1)) : tabGet t k = none := by
  unfold tabGet
  rw [List.find?_eq_none.mpr fun e he => ?_]
  · rfl
  · intro hk
    exact h (List.mem_map.mpr ⟨e, he, of_decide_eq_true hk⟩)
theorem tabGet_at {k v : W} : ∀ {t : Tab}, (t.map (·.1)).Nodup → (k, v) ∈ t → tabGet t k = some v
  | [], _, h => absurd h List.not_mem_nil
  | e :: t, hn, h => by
    rw [List.map_cons, List.nodup_cons] at hn
    unfold tabGet
    rcases List.mem_cons.mp h with h | h
    · rw [← h, List.find?_cons_of_pos (by simp)] <;> rfl
    · have hne : e.1 ≠ k := fun z => hn.1 (z ▸ List.mem_map.mpr ⟨(k, v), h, rfl⟩)
      rw [List.find?_cons_of_neg (by simpa using hne)]
      exact tabGet_at hn.2 h
def entL (p : Int) (row img : W) (m : Nat) (e : W × W) : Tab := (List.range m).map fun (a : Nat) => (addM e.1 (scaleM row (a : Int) p) p, addM e.2 (scaleM img (a : Int) p) p)
theorem puts_eq {p : Int} {row img w x : W} {t : Tab} : ∀ m, (t.map (·.1) ++ (entL p row img m (w, x)).map (·.1)).Nodup → putsM p row img w x m t = t ++ entL p row img m (w, x)
  | 0, _ => (List.append_nil t).symm
  | m + 1, h => by
    have es : entL p row img (m + 1) (w, x) = entL p row img m (w, x) ++ [(addM w (scaleM row (m : Int) p) p, addM x (scaleM img (m : Int) p) p)] := by
      unfold entL
      rw [List.range_succ, List.map_append] <;> rfl
    rw [es, List.map_append, ← List.append_assoc, ← List.map_append] at h
    have h1 : ((t ++ entL p row img m (w, x)).map (·.1)).Nodup := (List.nodup_append.mp h).1
    have h2 : addM w (scaleM row (m : Int) p) p ∉ (t ++ entL p row img m (w, x)).map (·.1) := fun hm => (List.nodup_append.mp h).2.2 _ hm _ (List.mem_singleton.mpr rfl) rfl
    have ih := puts_eq (p := p) (row := row) (img := img) (w := w) (x := x) (t := t) m (by rw [← List.map_append]; exact h1)
    unfold putsM at ih ⊢
    rw [List.range_succ, List.foldl_append, ih, es, ← List.append_assoc]
    exact tabPut_new h2
theorem step_go {p : Int} {row img : W} {found : Tab} (hf : (found.map (·.1)).Nodup) : ∀ (l : Tab) (t : Tab), (∀ e ∈ l, e ∈ found) → (t.map (·.1) ++ (l.flatMap (entL p row img p.toNat)).map (·.1)).Nodup →
    (l.map (·.1)).foldl (fun t w => putsM p row img w ((tabGet found w).getD []) p.toNat t) t = t ++ l.flatMap (entL p row img p.toNat)
  | [], t, _, _ => (List.append_nil t).symm
  | e :: l, t, hm, hn => by
    rw [List.flatMap_cons, List.map_append, ← List.append_assoc] at hn
    rw [List.map_cons, List.foldl_cons, tabGet_at (v := e.2) hf (hm e List.mem_cons_self)]
    show (l.map (·.1)).foldl _ (putsM p row img e.1 e.2 p.toNat t) = _
    rw [puts_eq (w := e.1) (x := e.2) _ (List.nodup_append.mp hn).1, step_go hf l _ (fun y hy => hm y (List.mem_cons_of_mem _ hy)) (by rw [List.map_append]; exact hn), List.flatMap_cons, List.append_assoc]
theorem tab_step {p : Int} {row img : W} {found : Tab} (hf : (found.map (·.1)).Nodup) (hn : ((found.flatMap (entL p row img p.toNat)).map (·.1)).Nodup) : tabStep p found (row, img) = found.flatMap (entL p row img p.toNat) := by
  unfold tabStep tabStepGo
  rw [step_go hf found [] (fun e h => h) hn] <;> rfl
theorem flat_congr {α β : Type} {f g : α → List β} : ∀ (l : List α), (∀ x ∈ l, f x = g x) → l.flatMap f = l.flatMap g
  | [], _ => rfl
  | x :: l, h => by
    rw [List.flatMap_cons, List.flatMap_cons, h x List.mem_cons_self, flat_congr l fun y hy => h y (List.mem_cons_of_mem _ hy)]
/-- the table as a list of combinations -/
def spanT (p n : Nat) (rows imgs : List W) (i : Nat) : Tab := (allM i p).map fun cs => (combM (p : Int) n (rows.take i) cs, combM (p : Int) n (imgs.take i) cs)
theorem span_succ {p n : Nat} {rows imgs : List W} {i : Nat} (h1 : i < rows.length) (h2 : i < imgs.length) : spanT p n rows imgs (i + 1) = (spanT p n rows imgs i).flatMap (entL (p : Int) (rows.getD i []) (imgs.getD i []) p) := by
  have e1 := take_snoc (getD_at (l := rows) [] h1)
  have e2 := take_snoc (getD_at (l := imgs) [] h2)
  unfold spanT
  rw [show allM (i + 1) p = (allM i p).flatMap (allF p) from growGo_succ _ _, List.map_flatMap, List.flatMap_map]
  refine flat_congr _ fun cs hcs => ?_
  have hl := allM_wl i p cs hcs
  unfold allF entL
  rw [List.map_map]
  refine List.map_congr_left fun a _ => ?_
  show (combM _ n (rows.take (i + 1)) (cs ++ [(a : Int)]), combM _ n (imgs.take (i + 1)) (cs ++ [(a : Int)])) = _
  rw [e1, e2, comb_snoc (by rw [List.length_take]; omega), comb_snoc (by rw [List.length_take]; omega)]
theorem table_span {p n : Nat} {rows imgs : List W} (hl : imgs.length = rows.length) (hN : ∀ i, i ≤ rows.length → ((allM i p).map fun cs => combM (p : Int) n (rows.take i) cs).Nodup) : tableM (p : Int) n rows imgs = spanT p n rows imgs rows.length := by
  have hk : ∀ i, (spanT p n rows imgs i).map (·.1) = (allM i p).map fun cs => combM (p : Int) n (rows.take i) cs := fun i => by
    unfold spanT
    rw [List.map_map] <;> rfl
  have go : ∀ i, i ≤ rows.length → tblGo (p : Int) n rows imgs i = spanT p n rows imgs i := fun i => by
    induction i with
    | zero => exact fun _ => rfl
    | succ i ih =>
      intro hi
      have ez : (rows.zip imgs)[i]? = some (rows.getD i [], imgs.getD i []) := by
        rw [List.getElem?_zip_eq_some]
        exact ⟨getD_at [] (by omega), getD_at [] (by omega)⟩
      unfold tblGo at ih ⊢
      rw [take_snoc ez, List.foldl_append, ih (by omega)]
      show tabStep (p : Int) (spanT p n rows imgs i) (rows.getD i [], imgs.getD i []) = _
      rw [tab_step (by rw [hk]; exact hN i (by omega)) (by rw [Int.toNat_natCast, ← span_succ (by omega) (by omega), hk]; exact hN _ hi), Int.toNat_natCast, ← span_succ (by omega) (by omega)]
  have e := go rows.length (Nat.le_refl _)
  unfold tblGo at e
  rw [List.take_of_length_le (by rw [List.length_zip]; omega)] at e
  exact e
end WK

set_option Elab.async false
set_option linter.all false
set_option maxRecDepth 100000
set_option maxHeartbeats 4000000
/-! plain law: the finite checks, per code. -/
namespace WK
open PySem PySem.Spec WM
def wokB (p : Int) (n : Nat) (v : W) : Bool := decide (v.length = n) && v.all fun x => decide (0 ≤ x) && decide (x < p)
theorem wokB_iff {p : Int} {n : Nat} {v : W} (h : wokB p n v = true) : WOk p n v := by
  unfold wokB at h
  rw [Bool.and_eq_true, List.all_eq_true] at h
  exact ⟨of_decide_eq_true h.1, fun x hx => by
    have := h.2 x hx
    rw [Bool.and_eq_true] at this
    exact ⟨of_decide_eq_true this.1, of_decide_eq_true this.2⟩⟩
/-- the images whose rows keep their weights -/
def candL (p n : Nat) : List W → List (List W)
  | [] => [[]]
  | r :: rs => (candL p n rs).flatMap fun l => ((allM n p).filter fun w => decide (weightM w = weightM r)).map fun w => w :: l
def wsOf (p n : Nat) (c : CodeM) : List W := (allM n p).filter (holdsM c)
def chk1 (p n : Nat) (c : CodeM) : Bool := c.rows.all (wokB (p : Int) n) && (decide (c.rows.length ≤ 4) && (c.piv.all (fun x => decide (x < n)) && c.rows.all fun r => decide ((List.range n).filter (fun i => r.getD i 0 != 0) ≠ [])))
def chk2 (p n : Nat) (c : CodeM) : Bool := (List.range (c.rows.length + 1)).all fun i => decide ((allM i p).map fun cs => combM (p : Int) n (c.rows.take i) cs).Nodup
def chk3 (p n : Nat) (c : CodeM) : Bool := (allM c.rows.length p).all fun cs => decide (facs c (combM (p : Int) n c.rows cs) = cs) && (decide (coordM c (combM (p : Int) n c.rows cs) = cs) && (holdsM c (combM (p : Int) n c.rows cs) && wokB (p : Int) n (combM (p : Int) n c.rows cs)))
def chk4 (p n : Nat) (c : CodeM) : Bool := (wsOf p n c).all fun w => decide (w ∈ (allM c.rows.length p).map (combM (p : Int) n c.rows))
def chk5 (p n : Nat) (c : CodeM) : Bool := decide ((wsOf p n c).Perm (wordsM c)) && (decide ((wsOf p n c).Pairwise fun a b => TS.code (p : Int) a < TS.code (p : Int) b) && (decide (p ^ c.rows.length < 64) && (decide (n = 0 → c.rows.length = 0) && (wsOf p n c).all fun w => decide (c.rows.length ∉ (redM c.p (c.rows.length + 1) (wideM c.p (colsM c.rows c.n) w)).2.2))))
def chk6 (p n : Nat) (c : CodeM) : Bool := (arrM n).all fun one => (mulM n p).all fun two => (allM c.rows.length p).all fun cs => decide (weightM (combM (p : Int) n (c.rows.map fun r => movedM (p : Int) r (unN (wd one)) two) cs) = weightM (combM (p : Int) n c.rows cs))
def keepsW (p n : Nat) (c : CodeM) (imgs : List W) : Bool := (allM c.rows.length p).all fun cs => decide (weightM (combM (p : Int) n imgs cs) = weightM (combM (p : Int) n c.rows cs))
def foundB (p n : Nat) (c : CodeM) (imgs : List W) : Bool := match firstM (p : Int) n c.rows imgs with
  | some (kl, km) => decide (kl ∈ arrM n) && (decide (km ∈ mulM n p) && decide ((c.rows.map fun r => movedM (p : Int) r (unN (wd kl)) km) = imgs))
  | none => false
def chk7 (p n : Nat) (c : CodeM) : Bool := (candL p n c.rows).all fun imgs => !keepsW p n c imgs || foundB p n c imgs
def pnB (p n : Nat) : Bool := ((arrM n).all fun one => decide (one = nw (unN (wd one))) && decide ((unN (wd one)).Perm (List.range n))) && (((mulM n p).all fun two => decide (two.length = n) && two.all fun m => decide (1 ≤ m) && decide (m < (p : Int))) &&
  (((arrM n).all fun one => (mulM n p).all fun two => isMonoD (p : Int) n (wd one) (wd two)) && (doubM n).all fun o => !isMonoD (p : Int) n (wd o) (wd (List.replicate n 1))))
theorem pn_2_0 : pnB 2 0 = true := by decide +kernel
theorem k1_2_0 : ((codesL 2 0 3).all fun l => chk1 2 0 (codeOf 2 0 l)) = true := by decide +kernel
theorem k2_2_0 : ((codesL 2 0 3).all fun l => chk2 2 0 (codeOf 2 0 l)) = true := by decide +kernel
theorem k3_2_0 : ((codesL 2 0 3).all fun l => chk3 2 0 (codeOf 2 0 l)) = true := by decide +kernel
theorem k4_2_0 : ((codesL 2 0 3).all fun l => chk4 2 0 (codeOf 2 0 l)) = true := by decide +kernel
theorem k5_2_0 : ((codesL 2 0 3).all fun l => chk5 2 0 (codeOf 2 0 l)) = true := by decide +kernel
theorem k6_2_0 : ((codesL 2 0 3).all fun l => chk6 2 0 (codeOf 2 0 l)) = true := by decide +kernel
theorem k7_2_0 : ((codesL 2 0 3).all fun l => chk7 2 0 (codeOf 2 0 l)) = true := by decide +kernel
theorem pn_2_1 : pnB 2 1 = true := by decide +kernel
theorem k1_2_1 : ((codesL 2 1 3).all fun l => chk1 2 1 (codeOf 2 1 l)) = true := by decide +kernel
theorem k2_2_1 : ((codesL 2 1 3).all fun l => chk2 2 1 (codeOf 2 1 l)) = true := by decide +kernel
theorem k3_2_1 : ((codesL 2 1 3).all fun l => chk3 2 1 (codeOf 2 1 l)) = true := by decide +kernel
theorem k4_2_1 : ((codesL 2 1 3).all fun l => chk4 2 1 (codeOf 2 1 l)) = true := by decide +kernel
theorem k5_2_1 : ((codesL 2 1 3).all fun l => chk5 2 1 (codeOf 2 1 l)) = true := by decide +kernel
theorem k6_2_1 : ((codesL 2 1 3).all fun l => chk6 2 1 (codeOf 2 1 l)) = true := by decide +kernel
theorem k7_2_1 : ((codesL 2 1 3).all fun l => chk7 2 1 (codeOf 2 1 l)) = true := by decide +kernel
theorem pn_2_2 : pnB 2 2 = true := by decide +kernel
theorem k1_2_2 : ((codesL 2 2 3).all fun l => chk1 2 2 (codeOf 2 2 l)) = true := by decide +kernel
theorem k2_2_2 : ((codesL 2 2 3).all fun l => chk2 2 2 (codeOf 2 2 l)) = true := by decide +kernel
theorem k3_2_2 : ((codesL 2 2 3).all fun l => chk3 2 2 (codeOf 2 2 l)) = true := by decide +kernel
theorem k4_2_2 : ((codesL 2 2 3).all fun l => chk4 2 2 (codeOf 2 2 l)) = true := by decide +kernel
theorem k5_2_2 : ((codesL 2 2 3).all fun l => chk5 2 2 (codeOf 2 2 l)) = true := by decide +kernel
theorem k6_2_2 : ((codesL 2 2 3).all fun l => chk6 2 2 (codeOf 2 2 l)) = true := by decide +kernel
theorem k7_2_2 : ((codesL 2 2 3).all fun l => chk7 2 2 (codeOf 2 2 l)) = true := by decide +kernel
theorem pn_2_3 : pnB 2 3 = true := by decide +kernel
theorem k1_2_3 : ((codesL 2 3 3).all fun l => chk1 2 3 (codeOf 2 3 l)) = true := by decide +kernel
theorem k2_2_3 : ((codesL 2 3 3).all fun l => chk2 2 3 (codeOf 2 3 l)) = true := by decide +kernel
theorem k3_2_3 : ((codesL 2 3 3).all fun l => chk3 2 3 (codeOf 2 3 l)) = true := by decide +kernel
theorem k4_2_3 : ((codesL 2 3 3).all fun l => chk4 2 3 (codeOf 2 3 l)) = true := by decide +kernel
theorem k5_2_3 : ((codesL 2 3 3).all fun l => chk5 2 3 (codeOf 2 3 l)) = true := by decide +kernel
theorem k6_2_3 : ((codesL 2 3 3).all fun l => chk6 2 3 (codeOf 2 3 l)) = true := by decide +kernel
theorem k7_2_3 : ((codesL 2 3 3).all fun l => chk7 2 3 (codeOf 2 3 l)) = true := by decide +kernel
theorem pn_2_4 : pnB 2 4 = true := by decide +kernel
theorem k1_2_4 : ((codesL 2 4 3).all fun l => chk1 2 4 (codeOf 2 4 l)) = true := by decide +kernel
theorem k2_2_4 : ((codesL 2 4 3).all fun l => chk2 2 4 (codeOf 2 4 l)) = true := by decide +kernel
theorem k3_2_4 : ((codesL 2 4 3).all fun l => chk3 2 4 (codeOf 2 4 l)) = true := by decide +kernel
theorem k4_2_4 : ((codesL 2 4 3).all fun l => chk4 2 4 (codeOf 2 4 l)) = true := by decide +kernel
theorem k5_2_4 : ((codesL 2 4 3).all fun l => chk5 2 4 (codeOf 2 4 l)) = true := by decide +kernel
theorem k6_2_4 : ((codesL 2 4 3).all fun l => chk6 2 4 (codeOf 2 4 l)) = true := by decide +kernel
theorem k7_2_4 : ((codesL 2 4 3).all fun l => chk7 2 4 (codeOf 2 4 l)) = true := by decide +kernel
theorem pn_3_0 : pnB 3 0 = true := by decide +kernel
theorem k1_3_0 : ((codesL 3 0 2).all fun l => chk1 3 0 (codeOf 3 0 l)) = true := by decide +kernel
theorem k2_3_0 : ((codesL 3 0 2).all fun l => chk2 3 0 (codeOf 3 0 l)) = true := by decide +kernel
theorem k3_3_0 : ((codesL 3 0 2).all fun l => chk3 3 0 (codeOf 3 0 l)) = true := by decide +kernel
theorem k4_3_0 : ((codesL 3 0 2).all fun l => chk4 3 0 (codeOf 3 0 l)) = true := by decide +kernel
theorem k5_3_0 : ((codesL 3 0 2).all fun l => chk5 3 0 (codeOf 3 0 l)) = true := by decide +kernel
theorem k6_3_0 : ((codesL 3 0 2).all fun l => chk6 3 0 (codeOf 3 0 l)) = true := by decide +kernel
theorem k7_3_0 : ((codesL 3 0 2).all fun l => chk7 3 0 (codeOf 3 0 l)) = true := by decide +kernel
theorem pn_3_1 : pnB 3 1 = true := by decide +kernel
theorem k1_3_1 : ((codesL 3 1 2).all fun l => chk1 3 1 (codeOf 3 1 l)) = true := by decide +kernel
theorem k2_3_1 : ((codesL 3 1 2).all fun l => chk2 3 1 (codeOf 3 1 l)) = true := by decide +kernel
theorem k3_3_1 : ((codesL 3 1 2).all fun l => chk3 3 1 (codeOf 3 1 l)) = true := by decide +kernel
theorem k4_3_1 : ((codesL 3 1 2).all fun l => chk4 3 1 (codeOf 3 1 l)) = true := by decide +kernel
theorem k5_3_1 : ((codesL 3 1 2).all fun l => chk5 3 1 (codeOf 3 1 l)) = true := by decide +kernel
theorem k6_3_1 : ((codesL 3 1 2).all fun l => chk6 3 1 (codeOf 3 1 l)) = true := by decide +kernel
theorem k7_3_1 : ((codesL 3 1 2).all fun l => chk7 3 1 (codeOf 3 1 l)) = true := by decide +kernel
theorem pn_3_2 : pnB 3 2 = true := by decide +kernel
theorem k1_3_2 : ((codesL 3 2 2).all fun l => chk1 3 2 (codeOf 3 2 l)) = true := by decide +kernel
theorem k2_3_2 : ((codesL 3 2 2).all fun l => chk2 3 2 (codeOf 3 2 l)) = true := by decide +kernel
theorem k3_3_2 : ((codesL 3 2 2).all fun l => chk3 3 2 (codeOf 3 2 l)) = true := by decide +kernel
theorem k4_3_2 : ((codesL 3 2 2).all fun l => chk4 3 2 (codeOf 3 2 l)) = true := by decide +kernel
theorem k5_3_2 : ((codesL 3 2 2).all fun l => chk5 3 2 (codeOf 3 2 l)) = true := by decide +kernel
theorem k6_3_2 : ((codesL 3 2 2).all fun l => chk6 3 2 (codeOf 3 2 l)) = true := by decide +kernel
theorem k7_3_2 : ((codesL 3 2 2).all fun l => chk7 3 2 (codeOf 3 2 l)) = true := by decide +kernel
theorem pn_3_3 : pnB 3 3 = true := by decide +kernel
theorem k1_3_3 : ((codesL 3 3 2).all fun l => chk1 3 3 (codeOf 3 3 l)) = true := by decide +kernel
theorem k2_3_3 : ((codesL 3 3 2).all fun l => chk2 3 3 (codeOf 3 3 l)) = true := by decide +kernel
theorem k3_3_3 : ((codesL 3 3 2).all fun l => chk3 3 3 (codeOf 3 3 l)) = true := by decide +kernel
theorem k4_3_3 : ((codesL 3 3 2).all fun l => chk4 3 3 (codeOf 3 3 l)) = true := by decide +kernel
theorem k5_3_3 : ((codesL 3 3 2).all fun l => chk5 3 3 (codeOf 3 3 l)) = true := by decide +kernel
theorem k6_3_3 : ((codesL 3 3 2).all fun l => chk6 3 3 (codeOf 3 3 l)) = true := by decide +kernel
theorem k7_3_3 : ((codesL 3 3 2).all fun l => chk7 3 3 (codeOf 3 3 l)) = true := by decide +kernel
theorem pn_5_0 : pnB 5 0 = true := by decide +kernel
theorem k1_5_0 : ((codesL 5 0 2).all fun l => chk1 5 0 (codeOf 5 0 l)) = true := by decide +kernel
theorem k2_5_0 : ((codesL 5 0 2).all fun l => chk2 5 0 (codeOf 5 0 l)) = true := by decide +kernel
theorem k3_5_0 : ((codesL 5 0 2).all fun l => chk3 5 0 (codeOf 5 0 l)) = true := by decide +kernel
theorem k4_5_0 : ((codesL 5 0 2).all fun l => chk4 5 0 (codeOf 5 0 l)) = true := by decide +kernel
theorem k5_5_0 : ((codesL 5 0 2).all fun l => chk5 5 0 (codeOf 5 0 l)) = true := by decide +kernel
theorem k6_5_0 : ((codesL 5 0 2).all fun l => chk6 5 0 (codeOf 5 0 l)) = true := by decide +kernel
theorem k7_5_0 : ((codesL 5 0 2).all fun l => chk7 5 0 (codeOf 5 0 l)) = true := by decide +kernel
theorem pn_5_1 : pnB 5 1 = true := by decide +kernel
theorem k1_5_1 : ((codesL 5 1 2).all fun l => chk1 5 1 (codeOf 5 1 l)) = true := by decide +kernel
theorem k2_5_1 : ((codesL 5 1 2).all fun l => chk2 5 1 (codeOf 5 1 l)) = true := by decide +kernel
theorem k3_5_1 : ((codesL 5 1 2).all fun l => chk3 5 1 (codeOf 5 1 l)) = true := by decide +kernel
theorem k4_5_1 : ((codesL 5 1 2).all fun l => chk4 5 1 (codeOf 5 1 l)) = true := by decide +kernel
theorem k5_5_1 : ((codesL 5 1 2).all fun l => chk5 5 1 (codeOf 5 1 l)) = true := by decide +kernel
theorem k6_5_1 : ((codesL 5 1 2).all fun l => chk6 5 1 (codeOf 5 1 l)) = true := by decide +kernel
theorem k7_5_1 : ((codesL 5 1 2).all fun l => chk7 5 1 (codeOf 5 1 l)) = true := by decide +kernel
theorem pn_5_2 : pnB 5 2 = true := by decide +kernel
theorem k1_5_2 : ((codesL 5 2 2).all fun l => chk1 5 2 (codeOf 5 2 l)) = true := by decide +kernel
theorem k2_5_2 : ((codesL 5 2 2).all fun l => chk2 5 2 (codeOf 5 2 l)) = true := by decide +kernel
theorem k3_5_2 : ((codesL 5 2 2).all fun l => chk3 5 2 (codeOf 5 2 l)) = true := by decide +kernel
theorem k4_5_2 : ((codesL 5 2 2).all fun l => chk4 5 2 (codeOf 5 2 l)) = true := by decide +kernel
theorem k5_5_2 : ((codesL 5 2 2).all fun l => chk5 5 2 (codeOf 5 2 l)) = true := by decide +kernel
theorem k6_5_2 : ((codesL 5 2 2).all fun l => chk6 5 2 (codeOf 5 2 l)) = true := by decide +kernel
theorem k7_5_2 : ((codesL 5 2 2).all fun l => chk7 5 2 (codeOf 5 2 l)) = true := by decide +kernel
end WK

set_option Elab.async false
set_option linter.all false
set_option maxRecDepth 100000
set_option maxHeartbeats 4000000
/-! plain law: words that combine; papers that are wrong. -/
namespace WK
open PySem PySem.Spec WM
theorem add_zero {p : Int} {n : Nat} {v u : W} (hv : WOk p n v) (hu : u = zeroM n) : addM v u p = v := by
  subst hu
  refine List.ext_getElem? fun i => ?_
  unfold addM zeroM
  rw [List.getElem?_zipWith]
  by_cases hi : i < n
  · have e := getD_at (l := v) 0 (by rw [hv.1]; exact hi)
    rw [e, List.getElem?_replicate, if_pos hi]
    show some ((v.getD i 0 + 0) % p) = _
    rw [Int.add_zero, Int.emod_eq_of_lt (wrd_at hv hi).1 (wrd_at hv hi).2]
  · rw [List.getElem?_eq_none (by rw [hv.1]; omega)] <;> rfl
theorem zero_add {p : Int} {n : Nat} {v u : W} (hv : WOk p n v) (hu : u = zeroM n) : addM u v p = v := by
  subst hu
  refine List.ext_getElem? fun i => ?_
  unfold addM zeroM
  rw [List.getElem?_zipWith]
  by_cases hi : i < n
  · have e := getD_at (l := v) 0 (by rw [hv.1]; exact hi)
    rw [e, List.getElem?_replicate, if_pos hi]
    show some ((0 + v.getD i 0) % p) = _
    rw [Int.zero_add, Int.emod_eq_of_lt (wrd_at hv hi).1 (wrd_at hv hi).2]
  · have e : v[i]? = none := List.getElem?_eq_none (by rw [hv.1]; omega)
    rw [e, List.getElem?_replicate, if_neg hi]
theorem scale_zero {p : Int} {n : Nat} {v : W} (hv : WOk p n v) : scaleM v 0 p = zeroM n := by
  refine List.ext_getElem? fun i => ?_
  unfold scaleM zeroM
  rw [List.getElem?_map, List.getElem?_replicate]
  by_cases hi : i < n
  · rw [getD_at (l := v) 0 (by rw [hv.1]; exact hi), if_pos hi]
    show some (v.getD i 0 * 0 % p) = _
    rw [Int.mul_zero, Int.zero_emod]
  · rw [List.getElem?_eq_none (by rw [hv.1]; omega), if_neg hi] <;> rfl
theorem scale_one {p : Int} {n : Nat} {v : W} (hv : WOk p n v) : scaleM v 1 p = v := by
  refine List.ext_getElem? fun i => ?_
  unfold scaleM
  rw [List.getElem?_map]
  by_cases hi : i < n
  · rw [getD_at (l := v) 0 (by rw [hv.1]; exact hi)]
    show some (v.getD i 0 * 1 % p) = _
    rw [Int.mul_one, Int.emod_eq_of_lt (wrd_at hv hi).1 (wrd_at hv hi).2]
  · rw [List.getElem?_eq_none (by rw [hv.1]; omega)] <;> rfl
theorem comb_zeros {p : Int} {n : Nat} (hp : 0 < p) : ∀ {k : Nat} {rows : List W}, rows.length = k → (∀ r ∈ rows, WOk p n r) → combM p n rows (zeroM k) = zeroM n := by
  intro k
  induction k with
  | zero =>
    intro rows h _
    rw [List.eq_nil_of_length_eq_zero h] <;> rfl
  | succ k ih =>
    intro rows h hw
    have hne : rows ≠ [] := fun z => by rw [z] at h; cases h
    have e := List.dropLast_concat_getLast hne
    have hz : zeroM (k + 1) = zeroM k ++ [0] := List.replicate_succ'
    have hl : rows.dropLast.length = k := by rw [List.length_dropLast, h] <;> rfl
    rw [← e, hz, comb_snoc (by rw [hl]; unfold zeroM; rw [List.length_replicate]), ih hl fun r hr => hw r ((List.dropLast_sublist rows).subset hr)]
    exact add_zero (zero_ok hp n) (scale_zero (hw _ (List.getLast_mem hne)))
def unitM (k i : Nat) : W := (List.range k).map fun j => if j = i then 1 else 0
theorem unitM_succ (k i : Nat) : unitM (k + 1) i = unitM k i ++ [if k = i then 1 else 0] := by
  unfold unitM
  rw [List.range_succ, List.map_append] <;> rfl
theorem unitM_len (k i : Nat) : (unitM k i).length = k := by
  unfold unitM
  rw [List.length_map, List.length_range]
theorem unitM_self (k i : Nat) (h : k ≤ i) : unitM k i = zeroM k := by
  unfold unitM zeroM
  refine List.ext_getElem? fun j => ?_
  rw [List.getElem?_map, List.getElem?_replicate]
  by_cases hj : j < k
  · rw [List.getElem?_range hj, if_pos hj]
    show some (if j = i then (1 : Int) else 0) = _
    rw [if_neg (by omega)]
  · rw [List.getElem?_eq_none (by rw [List.length_range]; omega), if_neg hj] <;> rfl
theorem comb_unit {p : Int} {n : Nat} (hp : 0 < p) : ∀ {k : Nat} {rows : List W}, rows.length = k → (∀ r ∈ rows, WOk p n r) → ∀ i, i < k → combM p n rows (unitM k i) = rows.getD i [] := by
  intro k
  induction k with
  | zero => exact fun _ _ i h => absurd h (Nat.not_lt_zero i)
  | succ k ih =>
    intro rows h hw i hi
    have hne : rows ≠ [] := fun z => by rw [z] at h; cases h
    have e := List.dropLast_concat_getLast hne
    have hl : rows.dropLast.length = k := by rw [List.length_dropLast, h] <;> rfl
    have hd : ∀ r ∈ rows.dropLast, WOk p n r := fun r hr => hw r ((List.dropLast_sublist rows).subset hr)
    have hwl := hw _ (List.getLast_mem hne)
    generalize rows.getLast hne = r at e hwl
    generalize rows.dropLast = ds at e hl hd
    subst e
    rw [unitM_succ, comb_snoc (by rw [hl, unitM_len])]
    by_cases hk : k = i
    · subst hk
      rw [if_pos rfl, unitM_self k k (Nat.le_refl _), comb_zeros hp hl hd, scale_one hwl, zero_add hwl rfl]
      rw [List.getD_eq_getElem?_getD, List.getElem?_append_right (by omega), hl, Nat.sub_self] <;> rfl
    · rw [if_neg hk, ih hl hd i (by omega), scale_zero hwl, add_zero (hd _ (List.mem_of_getElem? (getD_at [] (by omega)))) rfl]
      rw [List.getD_eq_getElem?_getD, List.getD_eq_getElem?_getD, List.getElem?_append_left (by omega)]
theorem mem_cand {p n : Nat} : ∀ {rows imgs : List W}, imgs.length = rows.length → (∀ w ∈ imgs, w ∈ allM n p) → (∀ i, i < rows.length → weightM (imgs.getD i []) = weightM (rows.getD i [])) → imgs ∈ candL p n rows
  | [], [], _, _, _ => List.mem_singleton.mpr rfl
  | r :: rows, w :: imgs, hl, hw, hk => by
    have ih := mem_cand (rows := rows) (imgs := imgs) (Nat.succ.inj hl) (fun x hx => hw x (List.mem_cons_of_mem _ hx)) (fun i hi => hk (i + 1) (Nat.succ_lt_succ hi))
    refine List.mem_flatMap.mpr ⟨imgs, ih, List.mem_map.mpr ⟨w, List.mem_filter.mpr ⟨hw w List.mem_cons_self, decide_eq_true ?_⟩, rfl⟩⟩
    exact hk 0 (Nat.succ_pos _)
end WK

set_option Elab.async false
set_option linter.all false
set_option maxRecDepth 100000
set_option maxHeartbeats 4000000
/-! plain law: takes_map says no of the wrong papers. -/
namespace WK
open PySem PySem.Spec WM
section
variable {c : CodeM} {imgs : List W}
theorem tk_ch {y : PyData} (h : isWordD c.p c.n y = false) : takesD c imgs (.tuple [.str "changes", y]) = false := by
  rw [takesD_ch]
  unfold holdsD
  rw [h] <;> rfl
theorem tk_ke (y : PyData) (r : List PyData) : takesD c imgs (.tuple (.str "keeps" :: y :: r)) = keepsD c imgs y r := (takesD_ke c imgs "keeps" y r (by decide)).trans (if_pos rfl)
theorem tk_ke2 {y z : PyData} (h : isMonoD c.p c.n y z = false) : takesD c imgs (.tuple [.str "keeps", y, z]) = false := by
  rw [tk_ke]
  show (isMonoD c.p c.n y z && _) = false
  rw [h] <;> rfl
theorem tk_no {s : Str} {y : PyData} {r : List PyData} (h : ¬ s = "changes") (h2 : ¬ s = "keeps") : takesD c imgs (.tuple (.str s :: y :: r)) = false := (takesD_ke c imgs s y r h).trans (if_neg h2)
theorem word_len {p : Int} {n : Nat} {u : W} (h : u.length ≠ n) : isWordD p n (wd u) = false := by
  show ((u.map PyData.int).length == n && _) = false
  rw [List.length_map, beq_eq_false_iff_ne.mpr h] <;> rfl
theorem mono_len1 {p : Int} {n : Nat} {u : W} {z : PyData} (h : u.length ≠ n) : isMonoD p n (wd u) z = false := by
  cases hb : isMonoD p n (wd u) z with
  | false => rfl
  | true =>
    obtain ⟨_, _, h3, _⟩ := mono_of hb
    have : (unN (wd u)).length = u.length := by
      unfold unN
      rw [unW_wd, List.length_map]
    omega
theorem ipr_len {n : Nat} {pl : List Nat} (h : pl.Perm (List.range n)) : (nw pl).length = n := by
  rw [nw_len, h.length_eq, List.length_range]
theorem w1_no {p n : Nat} {pl : List Nat} {mu : W} (hcp : c.p = (p : Int)) (hcn : c.n = n) (h0 : takesD c imgs (.tuple [.str "changes", wd (zeroM n)]) = false) (hd : ∀ o ∈ doubM n, isMonoD (p : Int) n (wd o) (wd (List.replicate n 1)) = false) (hpl : pl.Perm (List.range n)) : ∀ d ∈ wrong1 n (nw pl) mu, takesD c imgs d = false := by
  intro d hm
  rcases List.mem_append.mp hm with hm | hm
  · rcases List.mem_append.mp hm with hm | hm
    · rcases List.mem_append.mp hm with hm | hm
      · simp only [w1a, List.mem_cons, List.not_mem_nil, or_false] at hm
        rcases hm with rfl | rfl | rfl | rfl | rfl | rfl
        · exact h0
        · exact tk_ch (word_len (by rw [List.length_append]; unfold zeroM; rw [List.length_replicate, hcn]; show n + 1 ≠ n; omega))
        · exact tk_ch rfl
        · exact tk_ch rfl
        · exact tk_ke _ _
        · rfl
      · simp only [w1b, List.mem_cons, List.not_mem_nil, or_false] at hm
        rcases hm with rfl | rfl | rfl | rfl
        · exact tk_ke _ _
        · exact tk_no (by decide) (by decide)
        · rfl
        · exact tk_ke2 rfl
    · simp only [w1c, List.mem_cons, List.not_mem_nil, or_false] at hm
      rcases hm with rfl | rfl | rfl | rfl | rfl | rfl | rfl
      · exact tk_ke2 (mono_len1 (by rw [List.length_append, ipr_len hpl, hcn]; show n + 1 ≠ n; omega))
      · rfl
      · rfl
      · rfl
      · rfl
      · exact tk_no (by decide) (by decide)
      · exact tk_ke2 rfl
  · obtain ⟨o, ho, rfl⟩ := List.mem_map.mp hm
    exact tk_ke2 (by rw [hcp, hcn]; exact hd o ho)
theorem w3_no (u : W) : ∀ d ∈ wrong2 u, takesD c imgs d = false := by
  intro d hm
  simp only [wrong2, List.mem_cons, List.not_mem_nil, or_false] at hm
  rcases hm with rfl | rfl | rfl | rfl
  · rw [takesD_ch] <;> rfl
  · rfl
  · exact tk_no (by decide) (by decide)
  · exact tk_ch rfl
/-- a hole's item -/
theorem hole_at (u : W) {i : Nat} (x : PyData) (hi : i < u.length) : ((u.take i).map PyData.int ++ [x] ++ (u.drop (i + 1)).map PyData.int)[i]? = some x := by
  rw [List.append_assoc, List.getElem?_append_right (by rw [List.length_map, List.length_take]; omega), List.length_map, List.length_take, Nat.min_eq_left (by omega), Nat.sub_self] <;> rfl
theorem mono_hole2 {p : Int} {n i : Nat} {y x : PyData} {u : W} (hi : i < u.length) (hx : ∀ m, x = .int m → ¬ (1 ≤ m ∧ m < p)) : isMonoD p n y (hole u i x) = false := by
  cases hb : isMonoD p n y (hole u i x) with
  | false => rfl
  | true =>
    obtain ⟨_, h2, _, _, _, h6⟩ := mono_of hb
    have h3 : (u.take i).map PyData.int ++ [x] ++ (u.drop (i + 1)).map PyData.int = (unW (hole u i x)).map PyData.int := PyData.tuple.inj h2
    have h4 := hole_at u x hi
    rw [h3, List.getElem?_map] at h4
    cases h5 : (unW (hole u i x))[i]? with
    | none => rw [h5] at h4; cases h4
    | some m =>
      rw [h5] at h4
      exact absurd (h6 m (List.mem_of_getElem? h5)) (hx m (Option.some.inj h4).symm)
theorem mono_hole1 {p : Int} {n i : Nat} {z x : PyData} {u : W} (hi : i < u.length) (hx : ∀ m, x = .int m → ¬ (0 ≤ m ∧ m < (n : Int))) : isMonoD p n (hole u i x) z = false := by
  cases hb : isMonoD p n (hole u i x) z with
  | false => rfl
  | true =>
    obtain ⟨h2, _, _, _, h6, _⟩ := mono_of hb
    have h3 : (u.take i).map PyData.int ++ [x] ++ (u.drop (i + 1)).map PyData.int = (nw (unN (hole u i x))).map PyData.int := PyData.tuple.inj h2
    have h4 := hole_at u x hi
    rw [h3, List.getElem?_map] at h4
    cases h5 : (nw (unN (hole u i x)))[i]? with
    | none => rw [h5] at h4; cases h4
    | some m =>
      rw [h5] at h4
      obtain ⟨q, hq, rfl⟩ := List.mem_map.mp (List.mem_of_getElem? h5)
      have := h6 q hq
      exact absurd ⟨by omega, by omega⟩ (hx _ (Option.some.inj h4).symm)
theorem w2_no {p n : Nat} {pl : List Nat} {mu : W} {i : Nat} (hcp : c.p = (p : Int)) (hcn : c.n = n) (hpl : pl.Perm (List.range n)) (hmu : mu.length = n) (hi : i < n) : ∀ d ∈ spoilM (p : Int) n (nw pl) mu (zeroM n) i, takesD c imgs d = false := by
  have hz : (zeroM n).length = n := by unfold zeroM; rw [List.length_replicate]
  have hzt : ((zeroM n).take ((zeroM n).length - 1)).length = n - 1 := by rw [List.length_take, hz]; omega
  have bad : ∀ x : PyData, okItem c.p x = false → isWordD c.p c.n (.tuple (((zeroM n).take ((zeroM n).length - 1)).map PyData.int ++ [x])) = false := fun x hx => by
    show ((_ == c.n) && (((zeroM n).take ((zeroM n).length - 1)).map PyData.int ++ [x]).all (okItem c.p)) = false
    rw [List.all_append]
    show (_ && (_ && (okItem c.p x && true))) = false
    rw [hx]
    simp
  intro d hm
  rcases List.mem_append.mp hm with hm | hm
  · rcases List.mem_append.mp hm with hm | hm
    · simp only [base4, List.mem_cons, List.not_mem_nil, or_false] at hm
      rcases hm with rfl | rfl | rfl | rfl
      · exact tk_ke2 rfl
      · exact tk_ch (word_len (by rw [hzt, hcn]; omega))
      · have e : wd ((zeroM n).take ((zeroM n).length - 1) ++ [(p : Int)]) = .tuple (((zeroM n).take ((zeroM n).length - 1)).map PyData.int ++ [.int (p : Int)]) := by
          unfold wd
          rw [List.map_append] <;> rfl
        rw [e]
        refine tk_ch (bad _ ?_)
        show (decide (0 ≤ (p : Int)) && decide ((p : Int) < c.p)) = false
        rw [hcp, decide_eq_false (Int.lt_irrefl _), Bool.and_false]
      · exact tk_ch (bad _ rfl)
    · obtain ⟨x, hx, rfl⟩ := List.mem_map.mp hm
      refine tk_ke2 (mono_hole2 (by omega) fun m hxm => ?_)
      simp only [vals1, List.mem_cons, List.not_mem_nil, or_false] at hx
      rw [hcp]
      rcases hx with rfl | rfl | rfl | rfl | rfl
      · cases hxm
        omega
      · cases hxm
        omega
      · cases hxm
        omega
      · cases hxm
      · cases hxm
  · obtain ⟨x, hx, rfl⟩ := List.mem_map.mp hm
    refine tk_ke2 (mono_hole1 (by rw [ipr_len hpl]; exact hi) fun m hxm => ?_)
    simp only [vals2, List.mem_cons, List.not_mem_nil, or_false] at hx
    rw [hcn]
    rcases hx with rfl | rfl | rfl | rfl
    · cases hxm
      omega
    · cases hxm
      omega
    · cases hxm
    · cases hxm
end
end WK

set_option Elab.async false
set_option linter.all false
set_option maxRecDepth 100000
set_option maxHeartbeats 4000000
/-! plain law: LawAll from the checks. -/
namespace WK
open PySem PySem.Spec WM
theorem find_congr {α : Type} {f g : α → Bool} : ∀ (l : List α), (∀ x ∈ l, f x = g x) → l.find? f = l.find? g
  | [], _ => rfl
  | x :: l, h => by
    have ih := find_congr l fun y hy => h y (List.mem_cons_of_mem _ hy)
    rw [List.find?_cons, List.find?_cons, h x List.mem_cons_self, ih]
structure Good (p n : Nat) (c : CodeM) : Prop where
  cp : c.p = (p : Int)
  cn : c.n = n
  pl : c.piv.length = c.rows.length
  c1 : chk1 p n c = true
  c2 : chk2 p n c = true
  c3 : chk3 p n c = true
  c4 : chk4 p n c = true
  c5 : chk5 p n c = true
  c6 : chk6 p n c = true
  c7 : chk7 p n c = true
section
variable {p n : Nat} {c : CodeM}
theorem Good.rows (g : Good p n c) : ∀ r ∈ c.rows, WOk (p : Int) n r := fun r hr => by
  have h := g.c1
  unfold chk1 at h
  rw [Bool.and_eq_true, List.all_eq_true] at h
  exact wokB_iff (h.1 r hr)
theorem Good.k4 (g : Good p n c) : c.rows.length ≤ 4 := by
  have h := g.c1
  unfold chk1 at h
  rw [Bool.and_eq_true, Bool.and_eq_true] at h
  exact of_decide_eq_true h.2.1
theorem Good.ok (g : Good p n c) (hp : Pr (p : Int)) (hn : n ≤ 4) : CodeOk c := by
  have h := g.c1
  unfold chk1 at h
  rw [Bool.and_eq_true, Bool.and_eq_true, Bool.and_eq_true, List.all_eq_true, List.all_eq_true, List.all_eq_true] at h
  obtain ⟨h1, h2, h3, h4⟩ := h
  refine ⟨g.cp ▸ hp, by rw [g.cn]; omega, fun r hr => by rw [g.cp, g.cn]; exact g.rows r hr, by have := g.k4; omega, g.pl, fun x hx => by rw [g.cn]; exact of_decide_eq_true (h3 x hx), fun r hr => by rw [g.cn]; exact of_decide_eq_true (h4 r hr)⟩
theorem Good.span (g : Good p n c) {cs : W} (h : cs ∈ allM c.rows.length p) : facs c (combM (p : Int) n c.rows cs) = cs ∧ coordM c (combM (p : Int) n c.rows cs) = cs ∧ holdsM c (combM (p : Int) n c.rows cs) = true ∧ WOk (p : Int) n (combM (p : Int) n c.rows cs) := by
  have h3 := g.c3
  unfold chk3 at h3
  rw [List.all_eq_true] at h3
  have := h3 cs h
  rw [Bool.and_eq_true, Bool.and_eq_true, Bool.and_eq_true] at this
  exact ⟨of_decide_eq_true this.1, of_decide_eq_true this.2.1, this.2.2.1, wokB_iff this.2.2.2⟩
theorem Good.of_holds (g : Good p n c) {u : W} (h : u ∈ allM n p) (hh : holdsM c u = true) : ∃ cs ∈ allM c.rows.length p, combM (p : Int) n c.rows cs = u := by
  have h4 := g.c4
  unfold chk4 at h4
  rw [List.all_eq_true] at h4
  exact List.mem_map.mp (of_decide_eq_true (h4 u (List.mem_filter.mpr ⟨h, hh⟩)))
theorem Good.nodup (g : Good p n c) {i : Nat} (h : i ≤ c.rows.length) : ((allM i p).map fun cs => combM (p : Int) n (c.rows.take i) cs).Nodup := by
  have h2 := g.c2
  unfold chk2 at h2
  rw [List.all_eq_true] at h2
  exact of_decide_eq_true (h2 i (List.mem_range.mpr (by omega)))
theorem Good.table (g : Good p n c) {imgs : List W} (hl : imgs.length = c.rows.length) : tableM (p : Int) n c.rows imgs = (allM c.rows.length p).map fun cs => (combM (p : Int) n c.rows cs, combM (p : Int) n imgs cs) := by
  rw [table_span hl fun i hi => g.nodup hi]
  unfold spanT
  rw [List.take_length, ← hl, List.take_length]
theorem Good.get (g : Good p n c) {imgs : List W} (hl : imgs.length = c.rows.length) {cs : W} (h : cs ∈ allM c.rows.length p) : tabGet (tableM (p : Int) n c.rows imgs) (combM (p : Int) n c.rows cs) = some (combM (p : Int) n imgs cs) := by
  have hn := g.nodup (Nat.le_refl _)
  rw [List.take_length] at hn
  rw [g.table hl]
  refine tabGet_at ?_ (List.mem_map.mpr ⟨cs, h, rfl⟩)
  rw [List.map_map]
  exact hn
theorem Good.none (g : Good p n c) {imgs : List W} (hl : imgs.length = c.rows.length) {u : W} (h : holdsM c u = false) : tabGet (tableM (p : Int) n c.rows imgs) u = none := by
  rw [g.table hl]
  refine tabGet_none fun hm => ?_
  rw [List.map_map] at hm
  obtain ⟨cs, hcs, rfl⟩ := List.mem_map.mp hm
  have h2 := (g.span hcs).2.2.1
  have h3 : holdsM c (combM (p : Int) n c.rows cs) = false := h
  rw [h2] at h3
  cases h3
theorem Good.image (g : Good p n c) {imgs : List W} (hl : imgs.length = c.rows.length) {cs : W} (h : cs ∈ allM c.rows.length p) : imageM c imgs (combM (p : Int) n c.rows cs) = combM (p : Int) n imgs cs := by
  rw [image_facs hl, (g.span h).1, g.cp, g.cn]
theorem Good.other (g : Good p n c) {imgs : List W} {cs : W} (h : cs ∈ allM c.rows.length p) : otherM c imgs (combM (p : Int) n c.rows cs) = combM (p : Int) n imgs cs := by
  unfold otherM
  rw [(g.span h).2.1, g.cp, g.cn]
def badB (c : CodeM) (imgs : List W) (u : W) : Bool := !decide (weightM u = weightM (imageM c imgs u))
theorem Good.fit (g : Good p n c) {imgs : List W} (hl : imgs.length = c.rows.length) {u : W} (h : u ∈ allM n p) : fitC (p : Int) n c.rows imgs u = (holdsM c u && badB c imgs u) := by
  unfold fitC
  cases hh : holdsM c u with
  | false => rw [g.none hl hh] <;> rfl
  | true =>
    obtain ⟨cs, hcs, rfl⟩ := g.of_holds h hh
    unfold badB
    rw [g.get hl hcs, g.image hl hcs] <;> rfl
theorem Good.chg (g : Good p n c) {imgs : List W} {u : W} (hl : imgs.length = c.rows.length) (h : u ∈ allM n p) (hh : holdsM c u = true) : chgB c imgs u = badB c imgs u := by
  obtain ⟨cs, hcs, rfl⟩ := g.of_holds h hh
  unfold chgB badB
  rw [g.other hcs, g.image hl hcs]
theorem Good.head (g : Good p n c) {imgs : List W} (hl : imgs.length = c.rows.length) : chgM c imgs (wsOf p n c) = (changedM (p : Int) n c.rows imgs).head? := by
  unfold chgM wsOf changedM
  rw [List.find?_filter, List.head?_filter, Int.toNat_natCast]
  refine find_congr _ fun u hu => ?_
  rw [g.fit hl hu]
  cases hh : holdsM c u with
  | false => simp [hh]
  | true => simp [hh, g.chg hl hu hh]
end
end WK

set_option Elab.async false
set_option linter.all false
set_option maxRecDepth 100000
set_option maxHeartbeats 4000000
/-! plain law: LawOk for every good code. -/
namespace WK
open PySem PySem.Spec WM
theorem allM_wok {p : Nat} : ∀ {n : Nat} {u : W}, u ∈ allM n p → WOk (p : Int) n u
  | 0, u, h => by
    rw [List.mem_singleton.mp h]
    exact ⟨rfl, fun x hx => absurd hx List.not_mem_nil⟩
  | n + 1, u, h => by
    rw [show allM (n + 1) p = (allM n p).flatMap (allF p) from growGo_succ _ _] at h
    obtain ⟨v, hv, hu⟩ := List.mem_flatMap.mp h
    unfold allF at hu
    obtain ⟨a, ha, rfl⟩ := List.mem_map.mp hu
    have ih := allM_wok hv
    refine ⟨by rw [List.length_append, ih.1] <;> rfl, fun x hx => ?_⟩
    rcases List.mem_append.mp hx with hx | hx
    · exact ih.2 x hx
    · rw [List.mem_singleton.mp hx]
      have := List.mem_range.mp ha
      omega
structure PNOk (p n : Nat) : Prop where
  one : ∀ one ∈ arrM n, one = nw (unN (wd one)) ∧ (unN (wd one)).Perm (List.range n)
  two : ∀ two ∈ mulM n p, two.length = n ∧ ∀ m ∈ two, 1 ≤ m ∧ m < (p : Int)
  mono : ∀ one ∈ arrM n, ∀ two ∈ mulM n p, isMonoD (p : Int) n (wd one) (wd two) = true
  doub : ∀ o ∈ doubM n, isMonoD (p : Int) n (wd o) (wd (List.replicate n 1)) = false
theorem pn_of {p n : Nat} (h : pnB p n = true) : PNOk p n := by
  unfold pnB at h
  rw [Bool.and_eq_true, Bool.and_eq_true, Bool.and_eq_true, List.all_eq_true, List.all_eq_true, List.all_eq_true, List.all_eq_true] at h
  obtain ⟨h1, h2, h3, h4⟩ := h
  refine ⟨fun o ho => ?_, fun t ht => ?_, fun o ho t ht => ?_, fun o ho => ?_⟩
  · have := h1 o ho
    rw [Bool.and_eq_true] at this
    exact ⟨of_decide_eq_true this.1, of_decide_eq_true this.2⟩
  · have := h2 t ht
    rw [Bool.and_eq_true, List.all_eq_true] at this
    refine ⟨of_decide_eq_true this.1, fun m hm => ?_⟩
    have h5 := this.2 m hm
    rw [Bool.and_eq_true] at h5
    exact ⟨of_decide_eq_true h5.1, of_decide_eq_true h5.2⟩
  · exact List.all_eq_true.mp (h3 o ho) t ht
  · have := h4 o ho
    simpa using this
section
variable {p n : Nat} {c : CodeM}
theorem Good.words (g : Good p n c) : WordsGood c (wsOf p n c) := by
  have h := g.c5
  unfold chk5 at h
  rw [Bool.and_eq_true, Bool.and_eq_true, Bool.and_eq_true, Bool.and_eq_true, List.all_eq_true] at h
  obtain ⟨h1, h2, h3, h4, h5⟩ := h
  have hx : ∀ u ∈ wsOf p n c, ∃ cs ∈ allM c.rows.length p, combM (p : Int) n c.rows cs = u := fun u hu => g.of_holds (List.mem_filter.mp hu).1 (List.mem_filter.mp hu).2
  refine ⟨⟨of_decide_eq_true h1, by rw [g.cp]; exact of_decide_eq_true h2, by rw [g.cp, Int.toNat_natCast]; exact of_decide_eq_true h3, fun hn => of_decide_eq_true h4 (g.cn ▸ hn)⟩, fun u hu => ?_, fun u hu => by unfold solvable; exact of_decide_eq_true (h5 u hu), fun u hu => ?_⟩
  · rw [g.cp, g.cn]
    exact allM_wok (List.mem_filter.mp hu).1
  · obtain ⟨cs, hcs, rfl⟩ := hx u hu
    rw [(g.span hcs).2.1, g.cp]
    exact allM_wok hcs
theorem Good.keepsW_of (g : Good p n c) {imgs : List W} (hl : imgs.length = c.rows.length) (h : chgM c imgs (wsOf p n c) = Option.none) : keepsW p n c imgs = true := by
  unfold keepsW
  rw [List.all_eq_true]
  intro cs hcs
  have hs := g.span hcs
  have hu : combM (p : Int) n c.rows cs ∈ allM n p := mem_allM hs.2.2.2
  have h1 := List.find?_eq_none.mp h _ (List.mem_filter.mpr ⟨hu, hs.2.2.1⟩)
  rw [g.chg hl hu hs.2.2.1] at h1
  unfold badB at h1
  rw [g.image hl hcs] at h1
  refine decide_eq_true ?_
  simpa using Eq.symm (by simpa using h1 : weightM (combM (p : Int) n c.rows cs) = weightM (combM (p : Int) n imgs cs))
theorem Good.none_of (g : Good p n c) {imgs : List W} (hl : imgs.length = c.rows.length) (h : keepsW p n c imgs = true) : chgM c imgs (wsOf p n c) = Option.none := by
  unfold keepsW at h
  rw [List.all_eq_true] at h
  refine List.find?_eq_none.mpr fun u hu => ?_
  obtain ⟨h1, h2⟩ := List.mem_filter.mp hu
  rw [g.chg hl h1 h2]
  obtain ⟨cs, hcs, rfl⟩ := g.of_holds h1 h2
  have h3 := of_decide_eq_true (h cs hcs)
  unfold badB
  rw [g.image hl hcs, h3]
  simp
theorem Good.found (g : Good p n c) (hp : 2 ≤ p) {imgs : List W} (hl : imgs.length = c.rows.length) (hw : ∀ u ∈ imgs, WOk (p : Int) n u) (h : keepsW p n c imgs = true) : ∃ kl km, firstM (p : Int) n c.rows imgs = some (kl, km) ∧ kl ∈ arrM n ∧ km ∈ mulM n p ∧ (c.rows.map fun r => movedM (p : Int) r (unN (wd kl)) km) = imgs := by
  have h7 := g.c7
  unfold chk7 at h7
  rw [List.all_eq_true] at h7
  have hk := h
  unfold keepsW at hk
  rw [List.all_eq_true] at hk
  have hm : imgs ∈ candL p n c.rows := mem_cand hl (fun u hu => mem_allM (hw u hu)) fun i hi => by
    have hu : unitM c.rows.length i ∈ allM c.rows.length p := mem_allM ⟨unitM_len _ _, fun x hx => ?_⟩
    · have := of_decide_eq_true (hk _ hu)
      rw [comb_unit (by omega) hl hw i hi, comb_unit (by omega) rfl g.rows i hi] at this
      exact this
    · unfold unitM at hx
      obtain ⟨j, _, rfl⟩ := List.mem_map.mp hx
      show 0 ≤ (if j = i then (1 : Int) else 0) ∧ (if j = i then (1 : Int) else 0) < (p : Int)
      split <;> omega
  have h8 := h7 imgs hm
  rw [h] at h8
  have h9 : foundB p n c imgs = true := by simpa using h8
  unfold foundB at h9
  cases hf : firstM (p : Int) n c.rows imgs with
  | none => rw [hf] at h9; cases h9
  | some z =>
    obtain ⟨kl, km⟩ := z
    rw [hf] at h9
    dsimp only at h9
    rw [Bool.and_eq_true, Bool.and_eq_true] at h9
    exact ⟨kl, km, rfl, of_decide_eq_true h9.1, of_decide_eq_true h9.2.1, of_decide_eq_true h9.2.2⟩
end
end WK

set_option Elab.async false
set_option linter.all false
set_option maxRecDepth 100000
set_option maxHeartbeats 4000000
/-! plain law: LawAll. -/
namespace WK
open PySem PySem.Spec WM
theorem same_iff {c : CodeM} {imgs : List W} {y : List Nat} {z : W} (hl : imgs.length = c.rows.length) : sameGo c imgs y z c.rows.length = decide ((c.rows.map fun r => movedM c.p r y z) = imgs) := by
  rw [Bool.eq_iff_iff, decide_eq_true_iff]
  unfold sameGo
  rw [List.all_eq_true]
  constructor
  · intro h
    refine List.ext_getElem? fun i => ?_
    rw [List.getElem?_map]
    by_cases hi : i < c.rows.length
    · have := of_decide_eq_true (h i (List.mem_range.mpr hi))
      rw [getD_at (l := c.rows) [] hi, getD_at (l := imgs) [] (by omega), ← this] <;> rfl
    · rw [List.getElem?_eq_none (by omega), List.getElem?_eq_none (by omega)] <;> rfl
  · intro h i hi
    have hi' := List.mem_range.mp hi
    refine decide_eq_true ?_
    rw [← h, List.getD_eq_getElem?_getD (l := c.rows.map _), List.getElem?_map, getD_at (l := c.rows) [] hi'] <;> rfl
section
variable {p n : Nat} {c : CodeM}
theorem Good.law (g : Good p n c) (q : PNOk p n) (hp : Pr (p : Int)) (hn : n ≤ 4) {imgs : List W} (hl : imgs.length = c.rows.length) (hw : ∀ u ∈ imgs, WOk (p : Int) n u) : ∃ ws kl km, LawOk (p : Int) n c imgs ws kl km := by
  have hp2 : 2 ≤ p := by have := pr_pos hp; omega
  have hp5 : p ≤ 5 := by have := pr_pos hp; omega
  have hd := g.head hl
  have hfit : ∀ one ∈ arrM n, ∀ two ∈ mulM n p, takesD c imgs (.tuple [.str "keeps", wd one, wd two]) = fitK (p : Int) c.rows imgs (unN (wd one)) two := fun one h1 two h2 => by
    rw [tk_ke]
    show (isMonoD c.p c.n (wd one) (wd two) && sameGo c imgs (unN (wd one)) (unW (wd two)) c.rows.length) = _
    rw [g.cp, g.cn, q.mono one h1 two h2, unW_wd, same_iff hl, g.cp] <;> rfl
  have hch : ∀ u ∈ allM n p, takesD c imgs (.tuple [.str "changes", wd u]) = fitC (p : Int) n c.rows imgs u := fun u hu => by
    rw [takesD_ch, g.fit hl hu, unW_wd]
    unfold holdsD
    rw [g.cp, g.cn, isWordD_wd (allM_wok hu), unW_wd] <;> rfl
  have hz : takesD c imgs (.tuple [.str "changes", wd (zeroM n)]) = false := by
    have hzc : zeroM c.rows.length ∈ allM c.rows.length p := mem_allM (zero_ok (by omega) _)
    have e : combM (p : Int) n c.rows (zeroM c.rows.length) = zeroM n := comb_zeros (by omega) rfl g.rows
    have e2 : combM (p : Int) n imgs (zeroM c.rows.length) = zeroM n := comb_zeros (by omega) hl hw
    have hzm : zeroM n ∈ allM n p := mem_allM (zero_ok (by omega) _)
    rw [hch _ hzm, g.fit hl hzm]
    have hi := g.image hl hzc
    rw [e, e2] at hi
    unfold badB
    rw [hi, decide_eq_true rfl]
    simp
  have hkeep : keptM (p : Int) n c.rows imgs = true → chgM c imgs (wsOf p n c) = Option.none := fun h => by
    unfold keptM at h
    rw [List.any_eq_true] at h
    obtain ⟨one, h1, h⟩ := h
    rw [List.any_eq_true, Int.toNat_natCast] at h
    obtain ⟨two, h2, h⟩ := h
    have h3 : (c.rows.map fun r => movedM (p : Int) r (unN (wd one)) two) = imgs := of_decide_eq_true h
    refine g.none_of hl ?_
    have h6 := g.c6
    unfold chk6 at h6
    rw [List.all_eq_true] at h6
    have h7 := List.all_eq_true.mp (h6 one h1) two h2
    unfold keepsW
    rw [h3] at h7
    exact h7
  have hkc : keptM (p : Int) n c.rows imgs = !decide (0 < (changedM (p : Int) n c.rows imgs).length) := by
    cases hC : changedM (p : Int) n c.rows imgs with
    | nil =>
      rw [hC] at hd
      obtain ⟨kl, km, h1, h2, h3, h4⟩ := g.found hp2 hl hw (g.keepsW_of hl hd)
      show keptM (p : Int) n c.rows imgs = true
      unfold keptM
      rw [List.any_eq_true]
      refine ⟨kl, h2, ?_⟩
      rw [List.any_eq_true, Int.toNat_natCast]
      exact ⟨km, h3, decide_eq_true h4⟩
    | cons u us =>
      rw [hC] at hd
      cases hk : keptM (p : Int) n c.rows imgs with
      | false => rfl
      | true =>
        have := hkeep hk
        rw [hd] at this
        cases this
  have base : ∀ kl km, (chgM c imgs (wsOf p n c) = Option.none → firstM c.p c.n c.rows imgs = some (kl, km) ∧ monOk c.p kl km) → takesD c imgs (paperM (chgM c imgs (wsOf p n c)) kl km) = true → LawOk (p : Int) n c imgs (wsOf p n c) kl km := fun kl km h1 h2 => {
    cp := g.cp
    cn := g.cn
    ok := g.ok hp hn
    k4 := g.k4
    io := ⟨hl, fun r hr => by rw [g.cp, g.cn]; exact hw r hr⟩
    wg := g.words
    ch := hch
    tl := fun u hu => (allM_wok hu).1
    tt := fun u v h => by
      rw [g.table hl] at h
      unfold tabGet at h
      obtain ⟨e, he, rfl⟩ := Option.map_eq_some_iff.mp h
      obtain ⟨cs, hcs, rfl⟩ := List.mem_map.mp (List.mem_of_find?_eq_some he)
      exact combM_len fun r hr => (hw r hr).1
    ke := fun one h1 two h2 => by
      obtain ⟨a1, a2⟩ := q.one one h1
      obtain ⟨b1, b2⟩ := q.two two h2
      exact ⟨a1, by rw [a2.length_eq, List.length_range], b1, fun x hx => List.mem_range.mp (a2.mem_iff.mp hx), fun x hx => by have := b2 x hx; omega, hfit one h1 two h2⟩
    kc := hkc
    hd := hd
    pa := h1
    tp := h2
    sz := Nat.le_trans (allM_few hn hp5) (by decide)
    w1 := fun pl mu hpl _ _ => w1_no g.cp g.cn hz q.doub hpl
    w2 := fun pl mu i hpl hmu _ hi => w2_no g.cp g.cn hpl hmu hi
    w3 := fun u _ => w3_no u }
  cases hC : chgM c imgs (wsOf p n c) with
  | none =>
    obtain ⟨kl, km, h1, h2, h3, h4⟩ := g.found hp2 hl hw (g.keepsW_of hl hC)
    refine ⟨_, kl, km, base kl km (fun _ => ⟨by rw [g.cp, g.cn]; exact h1, ?_⟩) ?_⟩
    · obtain ⟨a1, a2⟩ := q.one kl h2
      obtain ⟨b1, b2⟩ := q.two km h3
      exact ⟨unN (wd kl), a1, by rw [b1]; exact a2, by omega, by rw [g.cp]; exact b2⟩
    · rw [hC]
      show takesD c imgs (.tuple [.str "keeps", wd kl, wd km]) = true
      rw [hfit kl h2 km h3]
      exact decide_eq_true h4
  | some u =>
    refine ⟨_, [], [], base [] [] (fun h => by rw [hC] at h; cases h) ?_⟩
    rw [hC]
    show takesD c imgs (.tuple [.str "changes", wd u]) = true
    have hm := List.mem_of_find?_eq_some hC
    obtain ⟨h1, h2⟩ := List.mem_filter.mp hm
    have h3 : chgB c imgs u = true := List.find?_some hC
    rw [hch u h1, g.fit hl h1, h2, ← g.chg hl h1 h2, h3] <;> rfl
end
theorem all_of {p n k : Nat} (hp : Pr (p : Int)) (hn : n ≤ 4) (pn : pnB p n = true) (h1 : ((codesL p n k).all fun l => chk1 p n (codeOf p n l)) = true) (h2 : ((codesL p n k).all fun l => chk2 p n (codeOf p n l)) = true) (h3 : ((codesL p n k).all fun l => chk3 p n (codeOf p n l)) = true) (h4 : ((codesL p n k).all fun l => chk4 p n (codeOf p n l)) = true)
    (h5 : ((codesL p n k).all fun l => chk5 p n (codeOf p n l)) = true) (h6 : ((codesL p n k).all fun l => chk6 p n (codeOf p n l)) = true) (h7 : ((codesL p n k).all fun l => chk7 p n (codeOf p n l)) = true) {rows : List W} (hk : rows.length ≤ k) (hr : ∀ r ∈ rows, WOk (p : Int) n r) :
    (mkCode (p : Int) n rows).rows.length ≤ 4 ∧ (∀ r ∈ (mkCode (p : Int) n rows).rows, WOk (p : Int) n r) ∧ ∀ imgs : List W, imgs.length = (mkCode (p : Int) n rows).rows.length → (∀ u ∈ imgs, WOk (p : Int) n u) → ∃ ws kl km, LawOk (p : Int) n (mkCode (p : Int) n rows) imgs ws kl km := by
  obtain ⟨l, hl, e⟩ := code_mem hp hr hk
  have g : Good p n (codeOf p n l) := ⟨rfl, rfl, by show (l.map _).length = (l.map _).length; rw [List.length_map, List.length_map], List.all_eq_true.mp h1 l hl, List.all_eq_true.mp h2 l hl, List.all_eq_true.mp h3 l hl, List.all_eq_true.mp h4 l hl, List.all_eq_true.mp h5 l hl, List.all_eq_true.mp h6 l hl, List.all_eq_true.mp h7 l hl⟩
  rw [e]
  exact ⟨g.k4, g.rows, fun imgs a b => g.law (pn_of pn) hp hn a b⟩
theorem law_all : LawAll := by
  intro p n rows ⟨h, hr⟩
  rcases h with ⟨rfl, hn, hk⟩ | ⟨rfl, hn, hk⟩ | ⟨rfl, hn, hk⟩
  · have hn' : n = 0 ∨ n = 1 ∨ n = 2 ∨ n = 3 ∨ n = 4 := by omega
    rcases hn' with rfl | rfl | rfl | rfl | rfl
    · exact all_of (p := 2) (.inl rfl) (by decide) pn_2_0 k1_2_0 k2_2_0 k3_2_0 k4_2_0 k5_2_0 k6_2_0 k7_2_0 hk hr
    · exact all_of (p := 2) (.inl rfl) (by decide) pn_2_1 k1_2_1 k2_2_1 k3_2_1 k4_2_1 k5_2_1 k6_2_1 k7_2_1 hk hr
    · exact all_of (p := 2) (.inl rfl) (by decide) pn_2_2 k1_2_2 k2_2_2 k3_2_2 k4_2_2 k5_2_2 k6_2_2 k7_2_2 hk hr
    · exact all_of (p := 2) (.inl rfl) (by decide) pn_2_3 k1_2_3 k2_2_3 k3_2_3 k4_2_3 k5_2_3 k6_2_3 k7_2_3 hk hr
    · exact all_of (p := 2) (.inl rfl) (by decide) pn_2_4 k1_2_4 k2_2_4 k3_2_4 k4_2_4 k5_2_4 k6_2_4 k7_2_4 hk hr
  · have hn' : n = 0 ∨ n = 1 ∨ n = 2 ∨ n = 3 := by omega
    rcases hn' with rfl | rfl | rfl | rfl
    · exact all_of (p := 3) (.inr (.inl rfl)) (by decide) pn_3_0 k1_3_0 k2_3_0 k3_3_0 k4_3_0 k5_3_0 k6_3_0 k7_3_0 hk hr
    · exact all_of (p := 3) (.inr (.inl rfl)) (by decide) pn_3_1 k1_3_1 k2_3_1 k3_3_1 k4_3_1 k5_3_1 k6_3_1 k7_3_1 hk hr
    · exact all_of (p := 3) (.inr (.inl rfl)) (by decide) pn_3_2 k1_3_2 k2_3_2 k3_3_2 k4_3_2 k5_3_2 k6_3_2 k7_3_2 hk hr
    · exact all_of (p := 3) (.inr (.inl rfl)) (by decide) pn_3_3 k1_3_3 k2_3_3 k3_3_3 k4_3_3 k5_3_3 k6_3_3 k7_3_3 hk hr
  · have hn' : n = 0 ∨ n = 1 ∨ n = 2 := by omega
    rcases hn' with rfl | rfl | rfl
    · exact all_of (p := 5) (.inr (.inr rfl)) (by decide) pn_5_0 k1_5_0 k2_5_0 k3_5_0 k4_5_0 k5_5_0 k6_5_0 k7_5_0 hk hr
    · exact all_of (p := 5) (.inr (.inr rfl)) (by decide) pn_5_1 k1_5_1 k2_5_1 k3_5_1 k4_5_1 k5_5_1 k6_5_1 k7_5_1 hk hr
    · exact all_of (p := 5) (.inr (.inr rfl)) (by decide) pn_5_2 k1_5_2 k2_5_2 k3_5_2 k4_5_2 k5_5_2 k6_5_2 k7_5_2 hk hr
end WK

set_option Elab.async false
set_option linter.all false
set_option maxRecDepth 100000
set_option maxHeartbeats 0
/-! The head: the top in one kernel run, its facts read by a Hook of our own; the law. -/
namespace WK
open PySem PySem.Spec PyProof.Rows L2
def zd_is_integer : He.DefD := ⟨("is_integer", none), "is_integer", "is_integer", defArgs s_is_integer, defBody s_is_integer, defScope s_is_integer, [], []⟩
def zd_inverse : He.DefD := ⟨("inverse", none), "inverse", "inverse", defArgs s_inverse, defBody s_inverse, defScope s_inverse, [], []⟩
def zd_power : He.DefD := ⟨("power", none), "power", "power", defArgs s_power, defBody s_power, defScope s_power, [], []⟩
def zd_is_word : He.DefD := ⟨("is_word", none), "is_word", "is_word", defArgs s_is_word, defBody s_is_word, defScope s_is_word, [], []⟩
def zd_add : He.DefD := ⟨("add", none), "add", "add", defArgs s_add, defBody s_add, defScope s_add, [], []⟩
def zd_scaled : He.DefD := ⟨("scaled", none), "scaled", "scaled", defArgs s_scaled, defBody s_scaled, defScope s_scaled, [], []⟩
def zd_combine : He.DefD := ⟨("combine", none), "combine", "combine", defArgs s_combine, defBody s_combine, defScope s_combine, [], []⟩
def zd_reduced : He.DefD := ⟨("reduced", none), "reduced", "reduced", defArgs s_reduced, defBody s_reduced, defScope s_reduced, [], []⟩
def zd_cleared : He.DefD := ⟨("cleared", none), "cleared", "cleared", defArgs s_cleared, defBody s_cleared, defScope s_cleared, [], []⟩
def zd_solve : He.DefD := ⟨("solve", none), "solve", "solve", defArgs s_solve, defBody s_solve, defScope s_solve, [], []⟩
def zd_coordinates : He.DefD := ⟨("coordinates", none), "coordinates", "coordinates", defArgs s_coordinates, defBody s_coordinates, defScope s_coordinates, [], []⟩
def zd_weight_of : He.DefD := ⟨("weight_of", none), "weight_of", "weight_of", defArgs s_weight_of, defBody s_weight_of, defScope s_weight_of, [], []⟩
def zd_is_monomial : He.DefD := ⟨("is_monomial", none), "is_monomial", "is_monomial", defArgs s_is_monomial, defBody s_is_monomial, defScope s_is_monomial, [], []⟩
def zd_moved : He.DefD := ⟨("moved", none), "moved", "moved", defArgs s_moved, defBody s_moved, defScope s_moved, [], []⟩
def zd_image_of : He.DefD := ⟨("image_of", none), "image_of", "image_of", defArgs s_image_of, defBody s_image_of, defScope s_image_of, [], []⟩
def zd_takes_map : He.DefD := ⟨("takes_map", none), "takes_map", "takes_map", defArgs s_takes_map, defBody s_takes_map, defScope s_takes_map, [], []⟩
def zd_weight : He.DefD := ⟨("weight", none), "weight", "weight", defArgs s_weight, defBody s_weight, defScope s_weight, [], []⟩
def zd_check_prime : He.DefD := ⟨("check_prime", none), "check_prime", "check_prime", defArgs s_check_prime, defBody s_check_prime, defScope s_check_prime, [], []⟩
def zd_Code_init : He.DefD := ⟨("Code", some "__init__"), "__init__", "Code.__init__", defArgs s_Code_init, defBody s_Code_init, defScope s_Code_init, [], []⟩
def zd_Code_holds : He.DefD := ⟨("Code", some "holds"), "holds", "Code.holds", defArgs s_Code_holds, defBody s_Code_holds, defScope s_Code_holds, [], []⟩
def zd_Code_words : He.DefD := ⟨("Code", some "words"), "words", "Code.words", defArgs s_Code_words, defBody s_Code_words, defScope s_Code_words, [], []⟩
def zd_line : He.DefD := ⟨("line", none), "line", "line", defArgs s_line, defBody s_line, defScope s_line, [], []⟩
def zd_columns_of : He.DefD := ⟨("columns_of", none), "columns_of", "columns_of", defArgs s_columns_of, defBody s_columns_of, defScope s_columns_of, [], []⟩
def zd_Monomial_init : He.DefD := ⟨("Monomial", some "__init__"), "__init__", "Monomial.__init__", defArgs s_Monomial_init, defBody s_Monomial_init, defScope s_Monomial_init, [], []⟩
def zd_multiple_of : He.DefD := ⟨("multiple_of", none), "multiple_of", "multiple_of", defArgs s_multiple_of, defBody s_multiple_of, defScope s_multiple_of, [], []⟩
def zd_lines_of : He.DefD := ⟨("lines_of", none), "lines_of", "lines_of", defArgs s_lines_of, defBody s_lines_of, defScope s_lines_of, [], []⟩
def zd_first_map : He.DefD := ⟨("first_map", none), "first_map", "first_map", defArgs s_first_map, defBody s_first_map, defScope s_first_map, [], []⟩
def zd_check_images : He.DefD := ⟨("check_images", none), "check_images", "check_images", defArgs s_check_images, defBody s_check_images, defScope s_check_images, [], []⟩
def zd_changed_weight : He.DefD := ⟨("changed_weight", none), "changed_weight", "changed_weight", defArgs s_changed_weight, defBody s_changed_weight, defScope s_changed_weight, [], []⟩
def zd_extension : He.DefD := ⟨("extension", none), "extension", "extension", defArgs s_extension, defBody s_extension, defScope s_extension, [], []⟩
def zd_map_paper : He.DefD := ⟨("map_paper", none), "map_paper", "map_paper", defArgs s_map_paper, defBody s_map_paper, defScope s_map_paper, [], []⟩
def zd_law_state : He.DefD := ⟨("_law_state", none), "_law_state", "_law_state", defArgs s_law_state, defBody s_law_state, defScope s_law_state, [], []⟩
def zd_law_take : He.DefD := ⟨("_law_take", none), "_law_take", "_law_take", defArgs s_law_take, defBody s_law_take, defScope s_law_take, [], []⟩
def zd_law_sum : He.DefD := ⟨("_law_sum", none), "_law_sum", "_law_sum", defArgs s_law_sum, defBody s_law_sum, defScope s_law_sum, [], []⟩
def zd_law_scaled : He.DefD := ⟨("_law_scaled", none), "_law_scaled", "_law_scaled", defArgs s_law_scaled, defBody s_law_scaled, defScope s_law_scaled, [], []⟩
def zd_law_weight : He.DefD := ⟨("_law_weight", none), "_law_weight", "_law_weight", defArgs s_law_weight, defBody s_law_weight, defScope s_law_weight, [], []⟩
def zd_law_all : He.DefD := ⟨("_law_all", none), "_law_all", "_law_all", defArgs s_law_all, defBody s_law_all, defScope s_law_all, [], []⟩
def zd_law_word : He.DefD := ⟨("_law_word", none), "_law_word", "_law_word", defArgs s_law_word, defBody s_law_word, defScope s_law_word, [], []⟩
def zd_law_rows : He.DefD := ⟨("_law_rows", none), "_law_rows", "_law_rows", defArgs s_law_rows, defBody s_law_rows, defScope s_law_rows, [], []⟩
def zd_law_arrangements : He.DefD := ⟨("_law_arrangements", none), "_law_arrangements", "_law_arrangements", defArgs s_law_arrangements, defBody s_law_arrangements, defScope s_law_arrangements, [], []⟩
def zd_law_multiples : He.DefD := ⟨("_law_multiples", none), "_law_multiples", "_law_multiples", defArgs s_law_multiples, defBody s_law_multiples, defScope s_law_multiples, [], []⟩
def zd_law_carried : He.DefD := ⟨("_law_carried", none), "_law_carried", "_law_carried", defArgs s_law_carried, defBody s_law_carried, defScope s_law_carried, [], []⟩
def zd_law_drawn_map : He.DefD := ⟨("_law_drawn_map", none), "_law_drawn_map", "_law_drawn_map", defArgs s_law_drawn_map, defBody s_law_drawn_map, defScope s_law_drawn_map, [], []⟩
def zd_law_table : He.DefD := ⟨("_law_table", none), "_law_table", "_law_table", defArgs s_law_table, defBody s_law_table, defScope s_law_table, [], []⟩
def zd_law_doubled : He.DefD := ⟨("_law_doubled", none), "_law_doubled", "_law_doubled", defArgs s_law_doubled, defBody s_law_doubled, defScope s_law_doubled, [], []⟩
def zd_law_spoilt : He.DefD := ⟨("_law_spoilt", none), "_law_spoilt", "_law_spoilt", defArgs s_law_spoilt, defBody s_law_spoilt, defScope s_law_spoilt, [], []⟩
def zd_law_refuses : He.DefD := ⟨("_law_refuses", none), "_law_refuses", "_law_refuses", defArgs s_law_refuses, defBody s_law_refuses, defScope s_law_refuses, [], []⟩
def zd_law : He.DefD := ⟨("law", none), "law", "law", defArgs s_law, defBody s_law, defScope s_law, [], []⟩
def zfn0 : List He.DefD := [zd_is_integer, zd_inverse, zd_power, zd_is_word, zd_add, zd_scaled, zd_combine, zd_reduced, zd_cleared, zd_solve, zd_coordinates, zd_weight_of, zd_is_monomial, zd_moved, zd_image_of, zd_takes_map, zd_weight, zd_check_prime, zd_Code_init, zd_Code_holds]
def zfn1 : List He.DefD := [zd_Code_words, zd_line, zd_columns_of, zd_Monomial_init, zd_multiple_of, zd_lines_of, zd_first_map, zd_check_images, zd_changed_weight, zd_extension, zd_map_paper, zd_law_state, zd_law_take, zd_law_sum, zd_law_scaled, zd_law_weight, zd_law_all, zd_law_word, zd_law_rows, zd_law_arrangements]
def zfn2 : List He.DefD := [zd_law_multiples, zd_law_carried, zd_law_drawn_map, zd_law_table, zd_law_doubled, zd_law_spoilt, zd_law_refuses, zd_law]
def zfn : List He.DefD := zfn0 ++ (zfn1 ++ (zfn2))
def zfa0 : List He.Fa := [.glo "is_integer", .glo "inverse", .glo "power", .glo "is_word", .glo "add", .glo "scaled", .glo "combine", .glo "reduced", .glo "cleared", .glo "solve", .glo "coordinates", .glo "weight_of", .glo "is_monomial", .glo "moved", .glo "image_of", .glo "takes_map", .glo "weight", .glo "check_prime", .glo "line", .glo "columns_of"]
def zfa1 : List He.Fa := [.glo "multiple_of", .glo "lines_of", .glo "first_map", .glo "check_images", .glo "changed_weight", .glo "extension", .glo "map_paper", .glo "_law_state", .glo "_law_take", .glo "_law_sum", .glo "_law_scaled", .glo "_law_weight", .glo "_law_all", .glo "_law_word", .glo "_law_rows", .glo "_law_arrangements", .glo "_law_multiples", .glo "_law_carried", .glo "_law_drawn_map", .glo "_law_table"]
def zfa2 : List He.Fa := [.glo "_law_doubled", .glo "_law_spoilt", .glo "_law_refuses", .glo "law", .free "len", .free "tuple", .free "list", .free "range", .free "isinstance", .free "abs", .free "int", .free "bool", .free "sorted", .glo "PRIMES", .int "MOST_LENGTH" 12, .int "MOST_WORDS" 4096, .glo "Code", .mkr "Code", .cls "Code", .noat "Code" "p"]
def zfa3 : List He.Fa := [.noat "Code" "n", .noat "Code" "rows", .noat "Code" "k", .noat "Code" "_pivots", .glo "Monomial", .mkr "Monomial", .cls "Monomial", .noat "Monomial" "p", .noat "Monomial" "places", .noat "Monomial" "multiples", .meth "Code" "holds", .meth "Code" "words", .glo "Malformed", .exc "Malformed", .exm "Malformed" "Malformed" true]
def zfa : List He.Fa := zfa0 ++ (zfa1 ++ (zfa2 ++ (zfa3)))
def znm0 : List Str := ["_wall", "Fault", "Malformed", "Refused", "is_integer", "inverse", "power", "is_word", "add", "scaled", "combine", "reduced", "cleared", "solve", "coordinates", "weight_of", "is_monomial", "moved", "image_of", "takes_map"]
def znm1 : List Str := ["DIGITS", "weight", "written", "PRIMES", "MOST_LENGTH", "MOST_WORDS", "check_prime", "Code", "line", "columns_of", "Monomial", "multiple_of", "lines_of", "first_map", "check_images", "changed_weight", "extension", "map_paper", "_law_state", "_law_take"]
def znm2 : List Str := ["_law_sum", "_law_scaled", "_law_weight", "_law_all", "_law_word", "_law_rows", "_law_arrangements", "_law_multiples", "_law_carried", "_law_drawn_map", "_law_table", "_law_doubled", "_law_spoilt", "_law_refuses"]
def znm : List Str := znm0 ++ (znm1 ++ (znm2))
def zprimes : List He.Dv := [.int 2, .int 3, .int 5, .int 7]
abbrev ZR : PySem.W.OpenRow := PySem.W.OpenLaw.row PySem.Challenge.rw_weightkeepers_k42_whole_papers_of_maps
abbrev ZAl : Type := He.AlD × Bool
def zobs (K : PySem.W.Frag) : ZAl := (He.obsD zfa zfn K, He.tupB K "PRIMES" zprimes)
def zobsG (g : Addr → Option Obj) : ZAl := zobs (He.frG g (He.asD g 5))
def zval : ZAl := (He.valD zfn, true)
def zhook : PySem.W.Hook where
  α := ZAl
  obs := fun s => zobsG s.heap.get?
  val := fun _ => zval
  says := fun _ h => ∃ K : PySem.W.Frag, K.In h ∧ zobs K = zval
  of := fun _ _ e => ⟨_, He.frG_in, e⟩
  keeps := fun _ _ _ ⟨K, hK, c⟩ k => ⟨K, PySem.W.Frag.In.keeps hK k, c⟩
def zob (s : PySem.W.SharedT) : ZAl := zobsG (HandSHeadRun.getT s)
theorem zob_eq (s : PySem.W.SharedT) : zob s = zhook.obs s.abs := by
  have e : HandSHeadRun.getT s = s.abs.heap.get? := funext (HandSHeadRun.getT_eq s)
  show zobsG (HandSHeadRun.getT s) = zobsG s.abs.heap.get?
  rw [e]
theorem zrun (w : World) : HandSHeadRun.RunEq ZR (PySem.W.view ZR.prog [65]) zhook zob 20000 znm w := by
  intro os
  kernel_rfl
end WK

set_option Elab.async false
set_option linter.all false
set_option maxRecDepth 100000
set_option maxHeartbeats 0
/-! The head: the law. -/
namespace WK
open PySem PySem.Spec PyProof.Rows L2
theorem fun_ofD {K : PySem.W.Frag} {x qual : Str} {st : Stmt} {f : Addr} {fd : FuncData} (F : FunD K x qual (defArgs st) (defBody st) (defScope st) [] [] f fd) : Fun K x qual st f fd := by
  obtain ⟨oc, od, dV, kV, doc, pm, an, cdv, ct, osl, e, lk, hcd, hd, _⟩ := F.ex
  rcases hd with ⟨_, rfl⟩ | ⟨h, _⟩
  · exact ⟨⟨oc, od, kV, doc, pm, an, cdv, ct, osl, e, lk, hcd⟩, F.kp⟩
  · exact absurd rfl h
theorem z_spec (K : PySem.W.Frag) (H : Hp) (a : Addr) (ns : List Int) (hS : SqL K H a (ns.map V.int)) : sp_law K [.ref a] H (fun v _ => v = .bl true) fun _ _ _ => False := by
  refine ⟨ns, ⟨⟨a, rfl, hS⟩, trivial⟩, trivial, fun v H1 e p => ?_⟩
  cases p
  rfl
theorem z_all {P : Program} {w : World} {K : PySem.W.Frag} {h : Heap} {mg : Str → Option Value} {fa : Addr} (X : K.In h) (G : h.Ns mainGlobals mg) (hfa : mg ("law" : Str) = some (.ref fa)) (c0 : zobs K = zval) :
    ∃ fd : FuncData, (∀ (s : Shared) (v : Value), BindsTo s fd ⟨[v], []⟩ [("_law_script", v)]) ∧ ∀ base : Heap, K.In base → base.Ns mainGlobals mg → FnOk P w K mg base CX0 9 fa fd ["_law_script"] (sp_law K) := by
  have c : He.SaysD zfa zfn K := congrArg (fun z : ZAl => z.1) c0
  have ct : He.tupB K "PRIMES" zprimes = true := congrArg (fun z : ZAl => z.2) c0
  obtain ⟨d_is_integer, F_is_integer⟩ := c.def_ 0 (d := zd_is_integer) rfl
  have b_is_integer := FunD.bindsN (ps := ["value"]) F_is_integer fun _ _ _ _ _ _ us hl => match us, hl with | [_], _ => rfl
  obtain ⟨d_inverse, F_inverse⟩ := c.def_ 1 (d := zd_inverse) rfl
  have b_inverse := FunD.bindsN (ps := ["a", "p"]) F_inverse fun _ _ _ _ _ _ us hl => match us, hl with | [_, _], _ => rfl
  obtain ⟨d_power, F_power⟩ := c.def_ 2 (d := zd_power) rfl
  have b_power := FunD.bindsN (ps := ["a", "k"]) F_power fun _ _ _ _ _ _ us hl => match us, hl with | [_, _], _ => rfl
  obtain ⟨d_is_word, F_is_word⟩ := c.def_ 3 (d := zd_is_word) rfl
  have b_is_word := FunD.bindsN (ps := ["value", "p", "n"]) F_is_word fun _ _ _ _ _ _ us hl => match us, hl with | [_, _, _], _ => rfl
  obtain ⟨d_add, F_add⟩ := c.def_ 4 (d := zd_add) rfl
  have b_add := FunD.bindsN (ps := ["v", "w", "p"]) F_add fun _ _ _ _ _ _ us hl => match us, hl with | [_, _, _], _ => rfl
  obtain ⟨d_scaled, F_scaled⟩ := c.def_ 5 (d := zd_scaled) rfl
  have b_scaled := FunD.bindsN (ps := ["v", "a", "p"]) F_scaled fun _ _ _ _ _ _ us hl => match us, hl with | [_, _, _], _ => rfl
  obtain ⟨d_combine, F_combine⟩ := c.def_ 6 (d := zd_combine) rfl
  have b_combine := FunD.bindsN (ps := ["rows", "weights", "width", "p"]) F_combine fun _ _ _ _ _ _ us hl => match us, hl with | [_, _, _, _], _ => rfl
  obtain ⟨d_reduced, F_reduced⟩ := c.def_ 7 (d := zd_reduced) rfl
  have b_reduced := FunD.bindsN (ps := ["rows", "width", "p"]) F_reduced fun _ _ _ _ _ _ us hl => match us, hl with | [_, _, _], _ => rfl
  obtain ⟨d_cleared, F_cleared⟩ := c.def_ 8 (d := zd_cleared) rfl
  have b_cleared := FunD.bindsN (ps := ["row", "head", "at", "p"]) F_cleared fun _ _ _ _ _ _ us hl => match us, hl with | [_, _, _, _], _ => rfl
  obtain ⟨d_solve, F_solve⟩ := c.def_ 9 (d := zd_solve) rfl
  have b_solve := FunD.bindsN (ps := ["rows", "width", "right", "p"]) F_solve fun _ _ _ _ _ _ us hl => match us, hl with | [_, _, _, _], _ => rfl
  obtain ⟨d_coordinates, F_coordinates⟩ := c.def_ 10 (d := zd_coordinates) rfl
  have b_coordinates := FunD.bindsN (ps := ["rows", "word", "p"]) F_coordinates fun _ _ _ _ _ _ us hl => match us, hl with | [_, _, _], _ => rfl
  obtain ⟨d_weight_of, F_weight_of⟩ := c.def_ 11 (d := zd_weight_of) rfl
  have b_weight_of := FunD.bindsN (ps := ["word"]) F_weight_of fun _ _ _ _ _ _ us hl => match us, hl with | [_], _ => rfl
  obtain ⟨d_is_monomial, F_is_monomial⟩ := c.def_ 12 (d := zd_is_monomial) rfl
  have b_is_monomial := FunD.bindsN (ps := ["p", "n", "places", "multiples"]) F_is_monomial fun _ _ _ _ _ _ us hl => match us, hl with | [_, _, _, _], _ => rfl
  obtain ⟨d_moved, F_moved⟩ := c.def_ 13 (d := zd_moved) rfl
  have b_moved := FunD.bindsN (ps := ["word", "p", "places", "multiples"]) F_moved fun _ _ _ _ _ _ us hl => match us, hl with | [_, _, _, _], _ => rfl
  obtain ⟨d_image_of, F_image_of⟩ := c.def_ 14 (d := zd_image_of) rfl
  have b_image_of := FunD.bindsN (ps := ["a", "images", "word"]) F_image_of fun _ _ _ _ _ _ us hl => match us, hl with | [_, _, _], _ => rfl
  obtain ⟨d_takes_map, F_takes_map⟩ := c.def_ 15 (d := zd_takes_map) rfl
  have b_takes_map := FunD.bindsN (ps := ["a", "images", "paper"]) F_takes_map fun _ _ _ _ _ _ us hl => match us, hl with | [_, _, _], _ => rfl
  obtain ⟨d_weight, F_weight⟩ := c.def_ 16 (d := zd_weight) rfl
  have b_weight := FunD.bindsN (ps := ["word"]) F_weight fun _ _ _ _ _ _ us hl => match us, hl with | [_], _ => rfl
  obtain ⟨d_check_prime, F_check_prime⟩ := c.def_ 17 (d := zd_check_prime) rfl
  have b_check_prime := FunD.bindsN (ps := ["p"]) F_check_prime fun _ _ _ _ _ _ us hl => match us, hl with | [_], _ => rfl
  obtain ⟨d_Code_init, F_Code_init⟩ := c.def_ 18 (d := zd_Code_init) rfl
  have b_Code_init := FunD.bindsN (ps := ["self", "p", "n", "rows"]) F_Code_init fun _ _ _ _ _ _ us hl => match us, hl with | [_, _, _, _], _ => rfl
  obtain ⟨d_Code_holds, F_Code_holds⟩ := c.def_ 19 (d := zd_Code_holds) rfl
  have b_Code_holds := FunD.bindsN (ps := ["self", "value"]) F_Code_holds fun _ _ _ _ _ _ us hl => match us, hl with | [_, _], _ => rfl
  obtain ⟨d_Code_words, F_Code_words⟩ := c.def_ 20 (d := zd_Code_words) rfl
  have b_Code_words := FunD.bindsN (ps := ["self"]) F_Code_words fun _ _ _ _ _ _ us hl => match us, hl with | [_], _ => rfl
  obtain ⟨d_line, F_line⟩ := c.def_ 21 (d := zd_line) rfl
  have b_line := FunD.bindsN (ps := ["column", "p"]) F_line fun _ _ _ _ _ _ us hl => match us, hl with | [_, _], _ => rfl
  obtain ⟨d_columns_of, F_columns_of⟩ := c.def_ 22 (d := zd_columns_of) rfl
  have b_columns_of := FunD.bindsN (ps := ["words", "n"]) F_columns_of fun _ _ _ _ _ _ us hl => match us, hl with | [_, _], _ => rfl
  obtain ⟨d_Monomial_init, F_Monomial_init⟩ := c.def_ 23 (d := zd_Monomial_init) rfl
  have b_Monomial_init := FunD.bindsN (ps := ["self", "p", "places", "multiples"]) F_Monomial_init fun _ _ _ _ _ _ us hl => match us, hl with | [_, _, _, _], _ => rfl
  obtain ⟨d_multiple_of, F_multiple_of⟩ := c.def_ 24 (d := zd_multiple_of) rfl
  have b_multiple_of := FunD.bindsN (ps := ["one", "two", "p"]) F_multiple_of fun _ _ _ _ _ _ us hl => match us, hl with | [_, _, _], _ => rfl
  obtain ⟨d_lines_of, F_lines_of⟩ := c.def_ 25 (d := zd_lines_of) rfl
  have b_lines_of := FunD.bindsN (ps := ["columns", "p"]) F_lines_of fun _ _ _ _ _ _ us hl => match us, hl with | [_, _], _ => rfl
  obtain ⟨d_first_map, F_first_map⟩ := c.def_ 26 (d := zd_first_map) rfl
  have b_first_map := FunD.bindsN (ps := ["one", "two", "n", "p"]) F_first_map fun _ _ _ _ _ _ us hl => match us, hl with | [_, _, _, _], _ => rfl
  obtain ⟨d_check_images, F_check_images⟩ := c.def_ 27 (d := zd_check_images) rfl
  have b_check_images := FunD.bindsN (ps := ["a", "images", "n"]) F_check_images fun _ _ _ _ _ _ us hl => match us, hl with | [_, _, _], _ => rfl
  obtain ⟨d_changed_weight, F_changed_weight⟩ := c.def_ 28 (d := zd_changed_weight) rfl
  have b_changed_weight := FunD.bindsN (ps := ["a", "images"]) F_changed_weight fun _ _ _ _ _ _ us hl => match us, hl with | [_, _], _ => rfl
  obtain ⟨d_extension, F_extension⟩ := c.def_ 29 (d := zd_extension) rfl
  have b_extension := FunD.bindsN (ps := ["a", "images"]) F_extension fun _ _ _ _ _ _ us hl => match us, hl with | [_, _], _ => rfl
  obtain ⟨d_map_paper, F_map_paper⟩ := c.def_ 30 (d := zd_map_paper) rfl
  have b_map_paper := FunD.bindsN (ps := ["a", "images"]) F_map_paper fun _ _ _ _ _ _ us hl => match us, hl with | [_, _], _ => rfl
  obtain ⟨d_law_state, F_law_state⟩ := c.def_ 31 (d := zd_law_state) rfl
  have b_law_state := FunD.bindsN (ps := ["_law_script"]) F_law_state fun _ _ _ _ _ _ us hl => match us, hl with | [_], _ => rfl
  obtain ⟨d_law_take, F_law_take⟩ := c.def_ 32 (d := zd_law_take) rfl
  have b_law_take := FunD.bindsN (ps := ["_law_state_here", "_law_m"]) F_law_take fun _ _ _ _ _ _ us hl => match us, hl with | [_, _], _ => rfl
  obtain ⟨d_law_sum, F_law_sum⟩ := c.def_ 33 (d := zd_law_sum) rfl
  have b_law_sum := FunD.bindsN (ps := ["_law_v", "_law_w", "_law_p"]) F_law_sum fun _ _ _ _ _ _ us hl => match us, hl with | [_, _, _], _ => rfl
  obtain ⟨d_law_scaled, F_law_scaled⟩ := c.def_ 34 (d := zd_law_scaled) rfl
  have b_law_scaled := FunD.bindsN (ps := ["_law_v", "_law_a", "_law_p"]) F_law_scaled fun _ _ _ _ _ _ us hl => match us, hl with | [_, _, _], _ => rfl
  obtain ⟨d_law_weight, F_law_weight⟩ := c.def_ 35 (d := zd_law_weight) rfl
  have b_law_weight := FunD.bindsN (ps := ["_law_word_here"]) F_law_weight fun _ _ _ _ _ _ us hl => match us, hl with | [_], _ => rfl
  obtain ⟨d_law_all, F_law_all⟩ := c.def_ 36 (d := zd_law_all) rfl
  have b_law_all := FunD.bindsN (ps := ["_law_n", "_law_p"]) F_law_all fun _ _ _ _ _ _ us hl => match us, hl with | [_, _], _ => rfl
  obtain ⟨d_law_word, F_law_word⟩ := c.def_ 37 (d := zd_law_word) rfl
  have b_law_word := FunD.bindsN (ps := ["_law_state_here", "_law_n", "_law_p"]) F_law_word fun _ _ _ _ _ _ us hl => match us, hl with | [_, _, _], _ => rfl
  obtain ⟨d_law_rows, F_law_rows⟩ := c.def_ 38 (d := zd_law_rows) rfl
  have b_law_rows := FunD.bindsN (ps := ["_law_state_here", "_law_n", "_law_p", "_law_most"]) F_law_rows fun _ _ _ _ _ _ us hl => match us, hl with | [_, _, _, _], _ => rfl
  obtain ⟨d_law_arrangements, F_law_arrangements⟩ := c.def_ 39 (d := zd_law_arrangements) rfl
  have b_law_arrangements := FunD.bindsN (ps := ["_law_n"]) F_law_arrangements fun _ _ _ _ _ _ us hl => match us, hl with | [_], _ => rfl
  obtain ⟨d_law_multiples, F_law_multiples⟩ := c.def_ 40 (d := zd_law_multiples) rfl
  have b_law_multiples := FunD.bindsN (ps := ["_law_n", "_law_p"]) F_law_multiples fun _ _ _ _ _ _ us hl => match us, hl with | [_, _], _ => rfl
  obtain ⟨d_law_carried, F_law_carried⟩ := c.def_ 41 (d := zd_law_carried) rfl
  have b_law_carried := FunD.bindsN (ps := ["_law_word_here", "_law_places", "_law_multiples_here", "_law_p"]) F_law_carried fun _ _ _ _ _ _ us hl => match us, hl with | [_, _, _, _], _ => rfl
  obtain ⟨d_law_drawn_map, F_law_drawn_map⟩ := c.def_ 42 (d := zd_law_drawn_map) rfl
  have b_law_drawn_map := FunD.bindsN (ps := ["_law_state_here", "_law_n", "_law_p"]) F_law_drawn_map fun _ _ _ _ _ _ us hl => match us, hl with | [_, _, _], _ => rfl
  obtain ⟨d_law_table, F_law_table⟩ := c.def_ 43 (d := zd_law_table) rfl
  have b_law_table := FunD.bindsN (ps := ["_law_rows_here", "_law_images", "_law_n", "_law_p"]) F_law_table fun _ _ _ _ _ _ us hl => match us, hl with | [_, _, _, _], _ => rfl
  obtain ⟨d_law_doubled, F_law_doubled⟩ := c.def_ 44 (d := zd_law_doubled) rfl
  have b_law_doubled := FunD.bindsN (ps := ["_law_n"]) F_law_doubled fun _ _ _ _ _ _ us hl => match us, hl with | [_], _ => rfl
  obtain ⟨d_law_spoilt, F_law_spoilt⟩ := c.def_ 45 (d := zd_law_spoilt) rfl
  have b_law_spoilt := FunD.bindsN (ps := ["_law_state_here", "_law_p", "_law_places", "_law_multiples_here", "_law_word_here"]) F_law_spoilt fun _ _ _ _ _ _ us hl => match us, hl with | [_, _, _, _, _], _ => rfl
  obtain ⟨d_law_refuses, F_law_refuses⟩ := c.def_ 46 (d := zd_law_refuses) rfl
  have b_law_refuses := FunD.bindsN (ps := ["_law_code", "_law_images"]) F_law_refuses fun _ _ _ _ _ _ us hl => match us, hl with | [_, _], _ => rfl
  obtain ⟨d_law, F_law⟩ := c.def_ 47 (d := zd_law) rfl
  have b_law := FunD.bindsN (ps := ["_law_script"]) F_law fun _ _ _ _ _ _ us hl => match us, hl with | [_], _ => rfl
  have ba := FunD.bindsA (ps := ["_law_script"]) F_law fun _ _ _ _ _ _ us hl => match us, hl with | [_], _ => rfl
  have e := hfa.symm.trans (He.glo_ok X G (c.fact 43 (f := .glo "law") rfl))
  cases e
  have T : ∃ T : Txt K mg, T.law.f = He.ga K "law" ∧ T.law.fd = d_law := ⟨{
    is_integer := ⟨He.ga K "is_integer", d_is_integer, fun_ofD F_is_integer, He.glo_ok X G (c.fact 0 (f := .glo "is_integer") rfl), b_is_integer⟩
    inverse := ⟨He.ga K "inverse", d_inverse, fun_ofD F_inverse, He.glo_ok X G (c.fact 1 (f := .glo "inverse") rfl), b_inverse⟩
    power := ⟨He.ga K "power", d_power, fun_ofD F_power, He.glo_ok X G (c.fact 2 (f := .glo "power") rfl), b_power⟩
    is_word := ⟨He.ga K "is_word", d_is_word, fun_ofD F_is_word, He.glo_ok X G (c.fact 3 (f := .glo "is_word") rfl), b_is_word⟩
    add := ⟨He.ga K "add", d_add, fun_ofD F_add, He.glo_ok X G (c.fact 4 (f := .glo "add") rfl), b_add⟩
    scaled := ⟨He.ga K "scaled", d_scaled, fun_ofD F_scaled, He.glo_ok X G (c.fact 5 (f := .glo "scaled") rfl), b_scaled⟩
    combine := ⟨He.ga K "combine", d_combine, fun_ofD F_combine, He.glo_ok X G (c.fact 6 (f := .glo "combine") rfl), b_combine⟩
    reduced := ⟨He.ga K "reduced", d_reduced, fun_ofD F_reduced, He.glo_ok X G (c.fact 7 (f := .glo "reduced") rfl), b_reduced⟩
    cleared := ⟨He.ga K "cleared", d_cleared, fun_ofD F_cleared, He.glo_ok X G (c.fact 8 (f := .glo "cleared") rfl), b_cleared⟩
    solve := ⟨He.ga K "solve", d_solve, fun_ofD F_solve, He.glo_ok X G (c.fact 9 (f := .glo "solve") rfl), b_solve⟩
    coordinates := ⟨He.ga K "coordinates", d_coordinates, fun_ofD F_coordinates, He.glo_ok X G (c.fact 10 (f := .glo "coordinates") rfl), b_coordinates⟩
    weight_of := ⟨He.ga K "weight_of", d_weight_of, fun_ofD F_weight_of, He.glo_ok X G (c.fact 11 (f := .glo "weight_of") rfl), b_weight_of⟩
    is_monomial := ⟨He.ga K "is_monomial", d_is_monomial, fun_ofD F_is_monomial, He.glo_ok X G (c.fact 12 (f := .glo "is_monomial") rfl), b_is_monomial⟩
    moved := ⟨He.ga K "moved", d_moved, fun_ofD F_moved, He.glo_ok X G (c.fact 13 (f := .glo "moved") rfl), b_moved⟩
    image_of := ⟨He.ga K "image_of", d_image_of, fun_ofD F_image_of, He.glo_ok X G (c.fact 14 (f := .glo "image_of") rfl), b_image_of⟩
    takes_map := ⟨He.ga K "takes_map", d_takes_map, fun_ofD F_takes_map, He.glo_ok X G (c.fact 15 (f := .glo "takes_map") rfl), b_takes_map⟩
    weight := ⟨He.ga K "weight", d_weight, fun_ofD F_weight, He.glo_ok X G (c.fact 16 (f := .glo "weight") rfl), b_weight⟩
    check_prime := ⟨He.ga K "check_prime", d_check_prime, fun_ofD F_check_prime, He.glo_ok X G (c.fact 17 (f := .glo "check_prime") rfl), b_check_prime⟩
    Code_init := ⟨He.ma K (He.ga K "Code") "__init__", d_Code_init, fun_ofD F_Code_init, b_Code_init⟩
    Code_holds := ⟨He.ma K (He.ga K "Code") "holds", d_Code_holds, fun_ofD F_Code_holds, b_Code_holds⟩
    Code_words := ⟨He.ma K (He.ga K "Code") "words", d_Code_words, fun_ofD F_Code_words, b_Code_words⟩
    line := ⟨He.ga K "line", d_line, fun_ofD F_line, He.glo_ok X G (c.fact 18 (f := .glo "line") rfl), b_line⟩
    columns_of := ⟨He.ga K "columns_of", d_columns_of, fun_ofD F_columns_of, He.glo_ok X G (c.fact 19 (f := .glo "columns_of") rfl), b_columns_of⟩
    Monomial_init := ⟨He.ma K (He.ga K "Monomial") "__init__", d_Monomial_init, fun_ofD F_Monomial_init, b_Monomial_init⟩
    multiple_of := ⟨He.ga K "multiple_of", d_multiple_of, fun_ofD F_multiple_of, He.glo_ok X G (c.fact 20 (f := .glo "multiple_of") rfl), b_multiple_of⟩
    lines_of := ⟨He.ga K "lines_of", d_lines_of, fun_ofD F_lines_of, He.glo_ok X G (c.fact 21 (f := .glo "lines_of") rfl), b_lines_of⟩
    first_map := ⟨He.ga K "first_map", d_first_map, fun_ofD F_first_map, He.glo_ok X G (c.fact 22 (f := .glo "first_map") rfl), b_first_map⟩
    check_images := ⟨He.ga K "check_images", d_check_images, fun_ofD F_check_images, He.glo_ok X G (c.fact 23 (f := .glo "check_images") rfl), b_check_images⟩
    changed_weight := ⟨He.ga K "changed_weight", d_changed_weight, fun_ofD F_changed_weight, He.glo_ok X G (c.fact 24 (f := .glo "changed_weight") rfl), b_changed_weight⟩
    extension := ⟨He.ga K "extension", d_extension, fun_ofD F_extension, He.glo_ok X G (c.fact 25 (f := .glo "extension") rfl), b_extension⟩
    map_paper := ⟨He.ga K "map_paper", d_map_paper, fun_ofD F_map_paper, He.glo_ok X G (c.fact 26 (f := .glo "map_paper") rfl), b_map_paper⟩
    law_state := ⟨He.ga K "_law_state", d_law_state, fun_ofD F_law_state, He.glo_ok X G (c.fact 27 (f := .glo "_law_state") rfl), b_law_state⟩
    law_take := ⟨He.ga K "_law_take", d_law_take, fun_ofD F_law_take, He.glo_ok X G (c.fact 28 (f := .glo "_law_take") rfl), b_law_take⟩
    law_sum := ⟨He.ga K "_law_sum", d_law_sum, fun_ofD F_law_sum, He.glo_ok X G (c.fact 29 (f := .glo "_law_sum") rfl), b_law_sum⟩
    law_scaled := ⟨He.ga K "_law_scaled", d_law_scaled, fun_ofD F_law_scaled, He.glo_ok X G (c.fact 30 (f := .glo "_law_scaled") rfl), b_law_scaled⟩
    law_weight := ⟨He.ga K "_law_weight", d_law_weight, fun_ofD F_law_weight, He.glo_ok X G (c.fact 31 (f := .glo "_law_weight") rfl), b_law_weight⟩
    law_all := ⟨He.ga K "_law_all", d_law_all, fun_ofD F_law_all, He.glo_ok X G (c.fact 32 (f := .glo "_law_all") rfl), b_law_all⟩
    law_word := ⟨He.ga K "_law_word", d_law_word, fun_ofD F_law_word, He.glo_ok X G (c.fact 33 (f := .glo "_law_word") rfl), b_law_word⟩
    law_rows := ⟨He.ga K "_law_rows", d_law_rows, fun_ofD F_law_rows, He.glo_ok X G (c.fact 34 (f := .glo "_law_rows") rfl), b_law_rows⟩
    law_arrangements := ⟨He.ga K "_law_arrangements", d_law_arrangements, fun_ofD F_law_arrangements, He.glo_ok X G (c.fact 35 (f := .glo "_law_arrangements") rfl), b_law_arrangements⟩
    law_multiples := ⟨He.ga K "_law_multiples", d_law_multiples, fun_ofD F_law_multiples, He.glo_ok X G (c.fact 36 (f := .glo "_law_multiples") rfl), b_law_multiples⟩
    law_carried := ⟨He.ga K "_law_carried", d_law_carried, fun_ofD F_law_carried, He.glo_ok X G (c.fact 37 (f := .glo "_law_carried") rfl), b_law_carried⟩
    law_drawn_map := ⟨He.ga K "_law_drawn_map", d_law_drawn_map, fun_ofD F_law_drawn_map, He.glo_ok X G (c.fact 38 (f := .glo "_law_drawn_map") rfl), b_law_drawn_map⟩
    law_table := ⟨He.ga K "_law_table", d_law_table, fun_ofD F_law_table, He.glo_ok X G (c.fact 39 (f := .glo "_law_table") rfl), b_law_table⟩
    law_doubled := ⟨He.ga K "_law_doubled", d_law_doubled, fun_ofD F_law_doubled, He.glo_ok X G (c.fact 40 (f := .glo "_law_doubled") rfl), b_law_doubled⟩
    law_spoilt := ⟨He.ga K "_law_spoilt", d_law_spoilt, fun_ofD F_law_spoilt, He.glo_ok X G (c.fact 41 (f := .glo "_law_spoilt") rfl), b_law_spoilt⟩
    law_refuses := ⟨He.ga K "_law_refuses", d_law_refuses, fun_ofD F_law_refuses, He.glo_ok X G (c.fact 42 (f := .glo "_law_refuses") rfl), b_law_refuses⟩
    law := ⟨He.ga K "law", d_law, fun_ofD F_law, He.glo_ok X G (c.fact 43 (f := .glo "law") rfl), b_law⟩
    z_len := He.free_ok X G (c.fact 44 (f := .free "len") rfl)
    z_tuple := He.free_ok X G (c.fact 45 (f := .free "tuple") rfl)
    z_list := He.free_ok X G (c.fact 46 (f := .free "list") rfl)
    z_range := He.free_ok X G (c.fact 47 (f := .free "range") rfl)
    z_isinstance := He.free_ok X G (c.fact 48 (f := .free "isinstance") rfl)
    z_abs := He.free_ok X G (c.fact 49 (f := .free "abs") rfl)
    z_int := He.free_ok X G (c.fact 50 (f := .free "int") rfl)
    z_bool := He.free_ok X G (c.fact 51 (f := .free "bool") rfl)
    z_sorted := He.free_ok X G (c.fact 52 (f := .free "sorted") rfl)
    aPRIMES := He.ga K "PRIMES"
    gPRIMES := He.glo_ok X G (c.fact 53 (f := .glo "PRIMES") rfl)
    oPRIMES := fun H => He.tupB_ok ct H
    gMOST_LENGTH := He.int_ok X G (c.fact 54 (f := .int "MOST_LENGTH" 12) rfl)
    gMOST_WORDS := He.int_ok X G (c.fact 55 (f := .int "MOST_WORDS" 4096) rfl)
    cCode := He.ga K "Code"
    g_Code := He.glo_ok X G (c.fact 56 (f := .glo "Code") rfl)
    mk_Code := He.mkr_ok (c.fact 57 (f := .mkr "Code") rfl)
    cl_Code := He.cls_ok (c.fact 58 (f := .cls "Code") rfl)
    no_Code := fun f hf => by
      simp only [List.mem_cons, List.not_mem_nil, or_false] at hf
      rcases hf with rfl | rfl | rfl | rfl | rfl
      all_goals first
        | exact He.noat_ok (c.fact 59 (f := .noat "Code" "p") rfl)
        | exact He.noat_ok (c.fact 60 (f := .noat "Code" "n") rfl)
        | exact He.noat_ok (c.fact 61 (f := .noat "Code" "rows") rfl)
        | exact He.noat_ok (c.fact 62 (f := .noat "Code" "k") rfl)
        | exact He.noat_ok (c.fact 63 (f := .noat "Code" "_pivots") rfl)
    cMon := He.ga K "Monomial"
    g_Monomial := He.glo_ok X G (c.fact 64 (f := .glo "Monomial") rfl)
    mk_Monomial := He.mkr_ok (c.fact 65 (f := .mkr "Monomial") rfl)
    cl_Mon := He.cls_ok (c.fact 66 (f := .cls "Monomial") rfl)
    no_Mon := fun f hf => by
      simp only [List.mem_cons, List.not_mem_nil, or_false] at hf
      rcases hf with rfl | rfl | rfl
      all_goals first
        | exact He.noat_ok (c.fact 67 (f := .noat "Monomial" "p") rfl)
        | exact He.noat_ok (c.fact 68 (f := .noat "Monomial" "places") rfl)
        | exact He.noat_ok (c.fact 69 (f := .noat "Monomial" "multiples") rfl)
    mt_holds := He.meth_ok (c.fact 70 (f := .meth "Code" "holds") rfl)
    mt_words := He.meth_ok (c.fact 71 (f := .meth "Code" "words") rfl)
    cMal := He.ga K "Malformed"
    g_Mal := He.glo_ok X G (c.fact 72 (f := .glo "Malformed") rfl)
    k_Mal := (He.exc_ok (c.fact 73 (f := .exc "Malformed") rfl)).2.1
    b_Mal := (He.exc_ok (c.fact 73 (f := .exc "Malformed") rfl)).2.2.1
    t_Mal := (He.exc_ok (c.fact 73 (f := .exc "Malformed") rfl)).2.2.2
    x_Mal := (He.exc_ok (c.fact 73 (f := .exc "Malformed") rfl)).1
    e_Mal := He.exm_ok (c.fact 74 (f := .exm "Malformed" "Malformed" true) rfl) }, rfl, rfl⟩
  obtain ⟨T, e1, e2⟩ := T
  refine ⟨d_law, fun s v => ba s [v] rfl, fun base _ _ => ?_⟩
  rw [← e1, ← e2]
  exact ok_law law_all T
end WK
open PySem PySem.W PySem.Calls PyProof.Rows
theorem PySem.Challenge.cw_weightkeepers_k42_whole_papers_of_maps_holds : PySem.Challenge.rw_weightkeepers_k42_whole_papers_of_maps.Holds := by
  w_on; o_law
  refine HandSHeadRun.head_any (r := WK.ZR) (q := view WK.ZR.prog [65]) (H := WK.zhook) (ob := WK.zob) (M := 20000) (loose := WK.znm) (d := HandSHeadRun.topDef WK.ZR.prog 65) (kwd := []) WK.zob_eq
    (by kernel_rfl) (fun s => by kernel_rfl) WK.zrun (by kernel_rfl) (by kernel_rfl) (by kernel_rfl) (by rfl) (by first | assumption | decide +kernel) (by decide +kernel) ⟨rfl, rfl, rfl, rfl, rfl, by decide +kernel⟩ ?hw ?hc
  case hw => w_witness2
  case hc =>
    refine L2.walk_ofE (l := PySem.Challenge.rw_weightkeepers_k42_whole_papers_of_maps) (n := 63) (k := 9) (x := "_law_script") (CX := L2.CX0) rfl (by decide) (by kernel_rfl) ⟨rfl, by decide, by decide⟩ ?F (fun _ _ _ _ z => z)
    intro w mg fa h Y G hmg0
    obtain ⟨K, KX, c⟩ := Y
    have hmg : mg ("law" : PySem.Str) = some (.ref fa) := by
      have e : (HandSHeadRun.topDef WK.ZR.prog 65).name = ("law" : PySem.Str) := by kernel_rfl
      rw [← e]
      exact hmg0
    obtain ⟨fd, hb, hF⟩ := WK.z_all (P := (PySem.Challenge.rw_weightkeepers_k42_whole_papers_of_maps).prog) (w := w) KX G hmg c
    exact ⟨K, fd, WK.sp_law K, KX, hb, fun H a ns hl _ hS => WK.z_spec K H a ns hS, hF⟩

