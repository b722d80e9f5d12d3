import PyProof.Rows.All
import Wide.All
import OpenK.AllK
import Wide.FinOn
import HandS.ForMost
import HandS.ForExc
import HandS.IsInst
import HandS.More
import HandS.SortKw
import KE.DataMinMax
import HandS.Strs
import HandS.SortInts
import HandS.ExcIs
import HandS.DictTup
import HandS.TupLe
import HandS.Zip
import PySem.Challenge.RW_decidebook_k02_worths_of_sentences
set_option Elab.async false
set_option linter.all false
set_option maxRecDepth 100000
set_option maxHeartbeats 4000000
/-! the walk's own words -/
local macro_rules | `(tactic| walk_at "hp") => `(tactic| first | assumption | exact upd_same | (refine Db.Fr.at (by assumption) ?_; walk_at "hp") | (refine Db.Fr.tu (by assumption) _ _ ?_; walk_at "hp"))
local macro_rules | `(tactic| walk_at "ob") => `(tactic| first | rfl | assumption | exact upd_same | exact L2.SqL.of (by walk_at "hp") | exact L2.SqT.of (by walk_at "hp") | exact Or.inl (L2.SqL.of (by walk_at "hp")) | exact Or.inr (L2.SqT.of (by walk_at "hp")) | exact Or.inl (by assumption) | exact Or.inr (by assumption) | exact Or.inl (Db.Fr.seq (by assumption) (by assumption)) | (refine Db.Fr.seq (by assumption) ?_; assumption) | walk_at "hp" | exact L2.ClsV.ty _ | exact L2.TyX.base (L2.TyOf.str _) | exact L2.TyX.base (L2.TyOf.int _) | exact L2.TyX.base (L2.TyOf.bl _) | exact L2.TyX.base (L2.TyOf.tup (by walk_at "hp")) | exact L2.TyX.base (L2.TyOf.lst (by walk_at "hp")) | exact Db.k_ss | exact Db.k_tt | exact Db.k_st | exact Db.k_ts | exact Db.k_ii | exact Db.k_ib | exact Db.k_bi | exact Db.k_bb | exact Db.k_ll | omega | decide)
local macro_rules | `(tactic| walk_at "go") => `(tactic| repeat (first | refine And.intro (by walk_at "ob") ?_ | apply Exists.intro))

/-! Base: letters, frames of the heap, trees of tuples, sentences -/
namespace Db
open PySem L2 PyProof.Rows

/-! ### marks -/
def ltr (i : Fin 8) : Str := ⟨#[97 + i.val]⟩
theorem ltr_inj {i j : Fin 8} (h : ltr i = ltr j) : i = j := by
  unfold ltr at h
  have h2 : #[97 + i.val] = #[97 + j.val] := congrArg Str.cps h
  have h3 : 97 + i.val = 97 + j.val := by simpa using h2
  exact Fin.ext (by omega)
theorem ltr_iff {i j : Fin 8} : ltr i = ltr j ↔ i = j := ⟨ltr_inj, fun e => by rw [e]⟩
def isMarkS (s : Str) : Bool := decide (∃ i : Fin 8, s = ltr i)
theorem isMarkS_ltr (i : Fin 8) : isMarkS (ltr i) = true := decide_eq_true ⟨i, rfl⟩
theorem isMarkS_iff {s : Str} : isMarkS s = true ↔ ∃ i, s = ltr i := ⟨of_decide_eq_true, decide_eq_true⟩
theorem ltr_len (i : Fin 8) : (ltr i).length = 1 := rfl

/-! ### frames: what a piece of program leaves as it was; S: what it may have changed -/
structure Fr (S : List Addr) (H H' : Hp) : Prop where
  kp : ∀ a o, H a = some o → a ∉ S → H' a = some o
  tu : ∀ a xs, H a = some (.tup xs) → H' a = some (.tup xs)
  dm : ∀ a, H' a = none → H a = none
section
variable {S T : List Addr} {H H0 H1 H2 H3 : Hp} {p a : Addr} {o u : HO} {xs : List V}
theorem Fr.refl : Fr S H H := ⟨fun _ _ h _ => h, fun _ _ h => h, fun _ h => h⟩
theorem Fr.trans (f : Fr S H1 H2) (g : Fr S H2 H3) : Fr S H1 H3 :=
  ⟨fun a o h n => g.kp a o (f.kp a o h n) n, fun a xs h => g.tu a xs (f.tu a xs h), fun a h => f.dm a (g.dm a h)⟩
theorem Fr.mono (f : Fr S H1 H2) (h : ∀ a ∈ S, a ∈ T) : Fr T H1 H2 := ⟨fun a o e n => f.kp a o e fun z => n (h a z), f.tu, f.dm⟩
theorem Fr.less (f : Fr S H1 H2) (h : ∀ a ∈ S, a ∈ T ∨ H1 a = none) : Fr T H1 H2 := by
  refine ⟨fun a o e n => f.kp a o e fun z => ?_, f.tu, f.dm⟩
  rcases h a z with q | q
  · exact n q
  · rw [q] at e; cases e
theorem Fr.any (f : Fr [] H1 H2) : Fr S H1 H2 := f.mono fun _ z => absurd z (by simp)
theorem Fr.new (h : H p = none) : Fr S H (upd H p o) :=
  ⟨fun a u e _ => by rw [upd_ne (ne_of_none e h)]; exact e, fun a xs e => by rw [upd_ne (ne_of_none e h)]; exact e, fun a e => by
    by_cases q : a = p
    · subst q; exact h
    · rw [upd_ne q] at e; exact e⟩
theorem Fr.put (hm : p ∈ S) (ht : ∀ xs, H p ≠ some (.tup xs)) : Fr S H (upd H p o) :=
  ⟨fun a u e n => by rw [upd_ne (show a ≠ p from fun q => n (by rw [q]; exact hm))]; exact e, fun a xs e => by rw [upd_ne (show a ≠ p from fun q => ht xs (by rw [← q]; exact e))]; exact e, fun a e => by
    by_cases q : a = p
    · subst q; rw [upd_same] at e; cases e
    · rw [upd_ne q] at e; exact e⟩
/-- a new object is written again -/
theorem Fr.own (f : Fr S H0 H) (h0 : H0 p = none) : Fr S H0 (upd H p o) :=
  ⟨fun a u e n => by rw [upd_ne (ne_of_none e h0)]; exact f.kp a u e n, fun a xs e => by rw [upd_ne (ne_of_none e h0)]; exact f.tu a xs e, fun a e => by
    by_cases q : a = p
    · subst q; exact h0
    · rw [upd_ne q] at e; exact f.dm a e⟩
theorem Fr.same (f : Fr [] H1 H2) : Same H1 H2 := fun b o e => f.kp b o e (by simp)
theorem Fr.of_same (f : Same H1 H2) : Fr S H1 H2 := ⟨fun a o e _ => f a o e, fun a xs e => f a _ e, fun a e => f.free e⟩
theorem Fr.at (f : Fr [] H1 H2) (e : H1 a = some o) : H2 a = some o := f.kp a o e (by simp)
theorem Fr.seqL {K : PySem.W.Frag} (f : Fr S H1 H2) (n : a ∉ S) (h : SqL K H1 a xs) : SqL K H2 a xs := by
  rcases h with (h | ⟨o, h⟩) | h
  · exact .inl (.inl (f.kp _ _ h n))
  · exact .inl (.inr ⟨o, f.kp _ _ h n⟩)
  · exact .inr h
theorem Fr.seq {K : PySem.W.Frag} (f : Fr [] H1 H2) (h : SqL K H1 a xs) : SqL K H2 a xs := f.seqL (by simp) h
end
/-- what of the tuples stays -/
abbrev Tu (H H' : Hp) : Prop := ∀ a xs, H a = some (.tup xs) → H' a = some (.tup xs)

/-! ### trees of texts and tuples -/
inductive PT where
  | txt (s : Str)
  | tup (ts : List PT)
mutual
def TreeAt (H : Hp) : PT → V → Prop
  | .txt s, v => v = .str s
  | .tup ts, v => ∃ a vs, v = .ref a ∧ H a = some (.tup vs) ∧ TreesAt H ts vs
def TreesAt (H : Hp) : List PT → List V → Prop
  | [], vs => vs = []
  | t :: ts, vs => ∃ v r, vs = v :: r ∧ TreeAt H t v ∧ TreesAt H ts r
end
mutual
theorem TreeAt.mono {H H' : Hp} (h : Tu H H') : ∀ {t : PT} {v : V}, TreeAt H t v → TreeAt H' t v
  | .txt s, v, q => by unfold TreeAt at q ⊢; exact q
  | .tup ts, v, q => by
    unfold TreeAt at q ⊢
    obtain ⟨a, vs, e, ha, r⟩ := q
    exact ⟨a, vs, e, h _ _ ha, TreesAt.mono h r⟩
theorem TreesAt.mono {H H' : Hp} (h : Tu H H') : ∀ {ts : List PT} {vs : List V}, TreesAt H ts vs → TreesAt H' ts vs
  | [], v, q => by unfold TreesAt at q ⊢; exact q
  | t :: ts, v, q => by
    unfold TreesAt at q ⊢
    obtain ⟨x, r, e, h1, h2⟩ := q
    exact ⟨x, r, e, TreeAt.mono h h1, TreesAt.mono h h2⟩
end

/-! ### sentences -/
inductive Bop where
  | and | or | eit | imp
  deriving DecidableEq
def Bop.w : Bop → Str
  | .and => "and"
  | .or => "or"
  | .eit => "either"
  | .imp => "if"
def Bop.f : Bop → Bool → Bool → Bool
  | .and, a, b => a && b
  | .or, a, b => a || b
  | .eit, a, b => a != b
  | .imp, a, b => !a || b
inductive Sen where
  | yes | no
  | mark (m : Fin 8)
  | not (s : Sen)
  | bin (o : Bop) (s t : Sen)
  | qu (e : Bool) (m : Fin 8) (s : Sen)
/-- the word of some (true), each (false) -/
def quW (e : Bool) : Str := if e then "some" else "each"
def Sen.pt : Sen → PT
  | .yes => .tup [.txt "yes"]
  | .no => .tup [.txt "no"]
  | .mark m => .tup [.txt "mark", .txt (ltr m)]
  | .not s => .tup [.txt "not", s.pt]
  | .bin o s t => .tup [.txt o.w, s.pt, t.pt]
  | .qu e m s => .tup [.txt (quW e), .txt (ltr m), s.pt]
def Sen.kids : Sen → List Sen
  | .yes => []
  | .no => []
  | .mark _ => []
  | .not s => [s]
  | .bin _ s t => [s, t]
  | .qu _ _ s => [s]
def Sen.cnt : Sen → Nat
  | .yes => 1
  | .no => 1
  | .mark _ => 1
  | .not s => s.cnt + 1
  | .bin _ s t => s.cnt + t.cnt + 1
  | .qu _ _ s => s.cnt + 1
def Sen.dep : Sen → Nat
  | .yes => 1
  | .no => 1
  | .mark _ => 1
  | .not s => s.dep + 1
  | .bin _ s t => max s.dep t.dep + 1
  | .qu _ _ s => s.dep + 1
/-- the letters, with those told twice -/
def Sen.lets : Sen → List (Fin 8)
  | .yes => []
  | .no => []
  | .mark m => [m]
  | .not s => s.lets
  | .bin _ s t => s.lets ++ t.lets
  | .qu _ m s => m :: s.lets
abbrev Val := Fin 8 → Bool
def vset (r : Val) (m : Fin 8) (b : Bool) : Val := fun j => if j = m then b else r j
def Sen.val : Sen → Val → Bool
  | .yes, _ => true
  | .no, _ => false
  | .mark m, r => r m
  | .not s, r => !s.val r
  | .bin o s t, r => o.f (s.val r) (t.val r)
  | .qu true m s, r => s.val (vset r m false) || s.val (vset r m true)
  | .qu false m s, r => s.val (vset r m false) && s.val (vset r m true)
/-- a sentence stands at v -/
def SenAt (H : Hp) (v : V) (s : Sen) : Prop := TreeAt H s.pt v
theorem SenAt.mono {H H' : Hp} {v : V} {s : Sen} (h : Tu H H') (q : SenAt H v s) : SenAt H' v s := TreeAt.mono h q
theorem SenAt.fr {S : List Addr} {H H' : Hp} {v : V} {s : Sen} (h : Fr S H H') (q : SenAt H v s) : SenAt H' v s := TreeAt.mono h.tu q
/-- its first word -/
def Sen.w : Sen → Str
  | .yes => "yes"
  | .no => "no"
  | .mark _ => "mark"
  | .not _ => "not"
  | .bin o _ _ => o.w
  | .qu e _ _ => quW e
section
variable {H : Hp} {v : V}
theorem senAt_yes : SenAt H v .yes ↔ ∃ a, v = .ref a ∧ H a = some (.tup [.str "yes"]) := by
  simp [SenAt, Sen.pt, TreeAt, TreesAt]
theorem senAt_no : SenAt H v .no ↔ ∃ a, v = .ref a ∧ H a = some (.tup [.str "no"]) := by
  simp [SenAt, Sen.pt, TreeAt, TreesAt]
theorem senAt_mark {m : Fin 8} : SenAt H v (.mark m) ↔ ∃ a, v = .ref a ∧ H a = some (.tup [.str "mark", .str (ltr m)]) := by
  simp [SenAt, Sen.pt, TreeAt, TreesAt]
theorem senAt_not {s : Sen} : SenAt H v (.not s) ↔ ∃ a u, v = .ref a ∧ H a = some (.tup [.str "not", u]) ∧ SenAt H u s := by
  simp only [SenAt, Sen.pt, TreeAt, TreesAt]
  constructor
  · rintro ⟨a, vs, e, h, x, r, rfl, rfl, y, r2, rfl, h2, rfl⟩
    exact ⟨a, y, e, h, h2⟩
  · rintro ⟨a, u, e, h, h2⟩
    exact ⟨a, _, e, h, _, _, rfl, rfl, u, [], rfl, h2, rfl⟩
theorem senAt_bin {o : Bop} {s t : Sen} : SenAt H v (.bin o s t) ↔ ∃ a u w, v = .ref a ∧ H a = some (.tup [.str o.w, u, w]) ∧ SenAt H u s ∧ SenAt H w t := by
  simp only [SenAt, Sen.pt, TreeAt, TreesAt]
  constructor
  · rintro ⟨a, vs, e, h, x, r, rfl, rfl, y, r2, rfl, h2, z, r3, rfl, h3, rfl⟩
    exact ⟨a, y, z, e, h, h2, h3⟩
  · rintro ⟨a, u, w, e, h, h2, h3⟩
    exact ⟨a, _, e, h, _, _, rfl, rfl, u, _, rfl, h2, w, [], rfl, h3, rfl⟩
theorem senAt_qu {e : Bool} {m : Fin 8} {s : Sen} : SenAt H v (.qu e m s) ↔ ∃ a u, v = .ref a ∧ H a = some (.tup [.str (quW e), .str (ltr m), u]) ∧ SenAt H u s := by
  simp only [SenAt, Sen.pt, TreeAt, TreesAt]
  constructor
  · rintro ⟨a, vs, e, h, x, r, rfl, rfl, y, r2, rfl, rfl, z, r3, rfl, h3, rfl⟩
    exact ⟨a, z, e, h, h3⟩
  · rintro ⟨a, u, e, h, h2⟩
    exact ⟨a, _, e, h, _, _, rfl, rfl, _, _, rfl, rfl, u, [], rfl, h2, rfl⟩
end
/-- a sentence's tuple: its first word, its letter (mark, some, each), its parts -/
def Sen.mks : Sen → List V
  | .mark m => [.str (ltr m)]
  | .qu _ m _ => [.str (ltr m)]
  | _ => []
theorem senAt_gen {H : Hp} {v : V} : ∀ {s : Sen}, SenAt H v s → ∃ a us, v = .ref a ∧ H a = some (.tup (.str s.w :: (s.mks ++ us))) ∧ Paired (fun u t => SenAt H u t) us s.kids
  | .yes, h => by
    obtain ⟨a, e, h⟩ := senAt_yes.mp h
    exact ⟨a, [], e, h, .nil⟩
  | .no, h => by
    obtain ⟨a, e, h⟩ := senAt_no.mp h
    exact ⟨a, [], e, h, .nil⟩
  | .mark m, h => by
    obtain ⟨a, e, h⟩ := senAt_mark.mp h
    exact ⟨a, [], e, h, .nil⟩
  | .not s, h => by
    obtain ⟨a, u, e, h, h2⟩ := senAt_not.mp h
    exact ⟨a, [u], e, h, .cons h2 .nil⟩
  | .bin o s t, h => by
    obtain ⟨a, u, w, e, h, h2, h3⟩ := senAt_bin.mp h
    exact ⟨a, [u, w], e, h, .cons h2 (.cons h3 .nil)⟩
  | .qu q m s, h => by
    obtain ⟨a, u, e, h, h2⟩ := senAt_qu.mp h
    exact ⟨a, [u], e, h, .cons h2 .nil⟩
theorem Sen.kids_dep : ∀ {s t : Sen}, t ∈ s.kids → t.dep < s.dep
  | .not s, t, h => by simp [Sen.kids] at h; subst h; simp [Sen.dep]
  | .bin o a b, t, h => by simp [Sen.kids] at h; rcases h with rfl | rfl <;> simp [Sen.dep] <;> omega
  | .qu e m s, t, h => by simp [Sen.kids] at h; subst h; simp [Sen.dep]
theorem Sen.cnt_eq : ∀ s : Sen, (s.cnt : Int) = 1 + (s.kids.map fun t => (t.cnt : Int)).sum
  | .yes => rfl
  | .no => rfl
  | .mark _ => rfl
  | .not s => by simp [Sen.cnt, Sen.kids]; omega
  | .bin o s t => by simp [Sen.cnt, Sen.kids]; omega
  | .qu e m s => by simp [Sen.cnt, Sen.kids]; omega

/-! ### x in (a, b, ..): the tuple is forgotten -/
section
variable {X : Cx} {a : Expr} {es : List Expr} {ta : TE} {t : TA} {x1 : Nat} {p2 : Pos}
def tInT (neg : Bool) (ta : TE) (t : TA) : TE := fun σ H Q => ta σ H fun x H1 => t σ H1 fun xs H2 => xs.length ≤ sizeLine ∧ flatV x = true ∧ xs.all flatV = true ∧ Q (.bl (if neg then !inV x xs else inV x xs)) H2
theorem pc_inT (ha : PE X a ta) (hb : PA X es t) : PC X .In a (.Tuple es x1 p2) (tInT false ta t) := by
  refine ⟨fun pins s σ H Q I h => ?_⟩
  refine thn (ha.run pins s σ H _ I h) fun v s1 ⟨x, H1, I1, r1, q1⟩ => ?_
  refine wpAny_Tuple_spliced (thn (hb.run p2 pins s1 σ H1 _ I1 q1) fun us s2 ⟨xs, H2, I2, r, z, fx, fs, q⟩ => ⟨by rw [← r.length]; exact z, ?_⟩)
  have I3 : Inv X pins σ H2 { s2 with heap := s2.heap.push { cls := .type "tuple", data := .seq us.toArray } } := I2.kept (t' := s2.toks) fun b u e => Heap.get?_push_of_some _ e
  have pl : IsTup (s2.heap.push { cls := .type "tuple", data := .seq us.toArray }) s2.heap.objs.size us.toArray := ⟨_, Heap.get?_push_size _ rfl, rfl, _, rfl⟩
  refine SeqAt.in_tupleAt (eqU x) pl (fun w hw => mem_eqAt r1 fx r fs w (by simpa using hw)) ⟨.bl _, H2, I3, rfl, ?_⟩
  rw [show us.toArray.any (eqU x) = us.any (eqU x) by simp, any_eqU r fs]
  exact q
theorem pc_notInT (ha : PE X a ta) (hb : PA X es t) : PC X .NotIn a (.Tuple es x1 p2) (tInT true ta t) := by
  refine ⟨fun pins s σ H Q I h => ?_⟩
  refine thn (ha.run pins s σ H _ I h) fun v s1 ⟨x, H1, I1, r1, q1⟩ => ?_
  refine wpAny_Tuple_spliced (thn (hb.run p2 pins s1 σ H1 _ I1 q1) fun us s2 ⟨xs, H2, I2, r, z, fx, fs, q⟩ => ⟨by rw [← r.length]; exact z, ?_⟩)
  have I3 : Inv X pins σ H2 { s2 with heap := s2.heap.push { cls := .type "tuple", data := .seq us.toArray } } := I2.kept (t' := s2.toks) fun b u e => Heap.get?_push_of_some _ e
  have pl : IsTup (s2.heap.push { cls := .type "tuple", data := .seq us.toArray }) s2.heap.objs.size us.toArray := ⟨_, Heap.get?_push_size _ rfl, rfl, _, rfl⟩
  refine SeqAt.notIn_tupleAt (eqU x) pl (fun w hw => mem_eqAt r1 fx r fs w (by simpa using hw)) ⟨.bl _, H2, I3, rfl, ?_⟩
  rw [show us.toArray.any (eqU x) = us.any (eqU x) by simp, any_eqU r fs]
  exact q
end
end Db

/-! further rules over the layer: max with a default, the set of a list of texts -/
namespace Db
open PySem PySem.W L2 PyProof.Rows
section
variable {X : Cx}
/-- the greatest of some numbers, or what is told of none -/
def topI (d : Int) : List Int → Int
  | [] => d
  | n :: r => r.foldl max n
theorem alike_ints (ns : List Int) : AlikeAll (ns.map PyData.int) := by
  refine ⟨fun x hx y hy => ?_, fun x hx => ?_⟩
  · obtain ⟨i, _, rfl⟩ := List.mem_map.mp hx
    obtain ⟨j, _, rfl⟩ := List.mem_map.mp hy
    rfl
  · obtain ⟨i, _, rfl⟩ := List.mem_map.mp hx
    intro e
    cases e
theorem dp_ints {K : PySem.W.Frag} {H : Hp} : ∀ ns : List Int, DpAll K H (ns.map V.int) (ns.map PyData.int)
  | [] => .nil
  | n :: r => .cons (.int n) (dp_ints r)
theorem depth_ints : ∀ ns : List Int, PyData.depthAll (ns.map PyData.int) ≤ 1
  | [] => by simp [PyData.depthAll]
  | n :: r => by
    have ih := depth_ints r
    simp only [List.map_cons, PyData.depthAll, PyData.depth]
    omega
def rTopD (K : PySem.W.Frag) : List V → List V → Hp → VK → Prop := fun vs zs H Q => ∃ (a : Addr) (ns : List Int) (d : Int), vs = [V.ref a] ∧ zs = [V.int d] ∧ SqL K H a (ns.map V.int) ∧ Q (.int (topI d ns)) H
theorem cr_maxDef (hc : X.calm = true) (hu : X.A.units + 64 < cLine) : CallRK X (.builtin "max") [Str.ofString "default"] (rTopD X.K) := by
  intro pins s σ H vs zs us ws Q I r rz h
  obtain ⟨a, ns, d, rfl, rfl, hs, q⟩ := h
  obtain ⟨its, rv, hl, _⟩ := I.list hs
  obtain ⟨dz, rfl, rd⟩ := vals1 rz
  rw [Vals.ref1 r]
  obtain ⟨as, hr⟩ := Dp.readsAll I _ _ _ (dp_ints ns) rv
  have hdp := depth_ints ns
  refine max_list_default (xs := ns.map PyData.int) (d := dz) (I.ok.hd hc) hl.isList (by simpa using hr) (alike_ints ns) (by omega) (fun e h' tk hk => ?_) (fun y ys i v h' tk bs e hv hrd hk => ?_)
  · have en : ns = [] := by simpa using e
    subst en
    exact ⟨.int d, H, I.kept hk, rd, q⟩
  · cases ns with
    | nil => simp at e
    | cons n r' =>
      simp only [List.map_cons, List.cons.injEq] at e
      obtain ⟨rfl, rfl⟩ := e
      rw [maxD_ints] at hrd
      cases hrd
      exact ⟨.int (topI d (n :: r')), H, I.kept hk, ⟨_, rfl⟩, q⟩
end
end Db

/-! len(set(xs)) of a list of texts: how many unlike ones there are -/
namespace Db
open PySem PySem.Spec L2 PyProof.Rows
/-- one text more -/
def more1 (acc : List Str) (x : Str) : List Str := if x ∈ acc then acc else acc ++ [x]
/-- the unlike ones of some texts, as they are met -/
def unl (xs : List Str) : List Str := xs.foldl more1 []
theorem more1_any (acc : List Str) (x k : Str) : (more1 acc x).any (· == k) = (acc.any (· == k) || decide (k = x)) := by
  unfold more1
  by_cases hx : x ∈ acc
  · rw [if_pos hx]
    by_cases e : k = x
    · subst e
      have : acc.any (· == k) = true := List.any_eq_true.mpr ⟨k, hx, by simp⟩
      rw [this]
      simp
    · simp [e]
  · rw [if_neg hx, List.any_append]
    have : ([x] : List Str).any (· == k) = decide (k = x) := by
      by_cases e : k = x
      · subst e; simp
      · have e2 : ¬ x = k := fun q => e q.symm
        simp [e, e2]
    rw [this]
theorem more1_len (acc : List Str) (x : Str) : (more1 acc x).length = if acc.any (· == x) then acc.length else acc.length + 1 := by
  unfold more1
  by_cases hx : x ∈ acc
  · have : acc.any (· == x) = true := List.any_eq_true.mpr ⟨x, hx, by simp⟩
    rw [if_pos hx, this, if_pos rfl]
  · have : acc.any (· == x) = false := by
      rw [List.any_eq_false]
      intro y hy e
      have : y = x := by simpa using e
      exact hx (this ▸ hy)
    rw [if_neg hx, this, List.length_append]
    simp
theorem unl_succ (xs : List Str) {i : Nat} (h : i < xs.length) : unl (xs.take (i + 1)) = more1 (unl (xs.take i)) (xs.getD i Str.empty) := by
  unfold unl
  rw [List.take_succ_eq_append_getElem h, List.foldl_append]
  simp [h]
theorem fold1_le : ∀ (xs acc : List Str), (xs.foldl more1 acc).length ≤ acc.length + xs.length
  | [], acc => by simp
  | x :: r, acc => by
    have ih := fold1_le r (more1 acc x)
    have h1 := more1_len acc x
    simp only [List.foldl_cons, List.length_cons]
    split at h1 <;> omega
theorem unl_le (xs : List Str) : (unl xs).length ≤ xs.length := by
  have := fold1_le xs []
  simpa [unl] using this
theorem fold1_nodup : ∀ (xs acc : List Str), (∀ x ∈ xs, x ∉ acc) → xs.Nodup → xs.foldl more1 acc = acc ++ xs
  | [], acc, _, _ => by simp
  | x :: r, acc, h, hn => by
    have hx : x ∉ acc := h x List.mem_cons_self
    obtain ⟨h1, h2⟩ := List.nodup_cons.mp hn
    have e : more1 acc x = acc ++ [x] := by unfold more1; rw [if_neg hx]
    rw [List.foldl_cons, e, fold1_nodup r (acc ++ [x]) (fun y hy m => ?_) h2]
    · simp
    · rcases List.mem_append.mp m with q | q
      · exact h y (List.mem_cons_of_mem _ hy) q
      · have : y = x := by simpa using q
        exact h1 (this ▸ hy)
theorem fold1_dup : ∀ (xs acc : List Str), (xs.foldl more1 acc).length = acc.length + xs.length → (∀ x ∈ xs, x ∉ acc) ∧ xs.Nodup
  | [], acc, _ => ⟨fun _ h => absurd h (by simp), List.nodup_nil⟩
  | x :: r, acc, h => by
    simp only [List.foldl_cons, List.length_cons] at h
    have hle := fold1_le r (more1 acc x)
    have hx : x ∉ acc := fun m => by
      have e : more1 acc x = acc := by unfold more1; rw [if_pos m]
      rw [e] at hle h
      omega
    have e : more1 acc x = acc ++ [x] := by unfold more1; rw [if_neg hx]
    rw [e] at h
    obtain ⟨h1, h2⟩ := fold1_dup r (acc ++ [x]) (by rw [h, List.length_append, List.length_singleton]; omega)
    refine ⟨fun y hy m => ?_, List.nodup_cons.mpr ⟨fun m => h1 x m (by simp), h2⟩⟩
    rcases List.mem_cons.mp hy with rfl | q
    · exact hx m
    · exact h1 y q (List.mem_append_left _ m)
theorem unl_all {xs : List Str} : (unl xs).length = xs.length ↔ xs.Nodup := by
  constructor
  · intro h
    exact (fold1_dup xs [] (by simpa [unl] using h)).2
  · intro h
    unfold unl
    rw [fold1_nodup xs [] (by simp) h]
    simp
section
variable {prog : Program} {w : World} {A : Around} {R : Result → Shared → Prop} {I : Addr} {fp wr : List Addr} {G : Array GenState → Array GenState → Prop} {n : Nat} {P : Nat → Value → Prop} {St : Nat → Shared → Prop}
/-- the set at S holds just the texts ys -/
abbrev Holds1 (prog : Program) (w : World) (h : Heap) (S : Addr) (ys : List Str) : Prop := h.SetOf (PySem.strKind prog w) S (fun k => ys.any (· == k)) ys.length
theorem holds1_keep {h h' : Heap} {S : Addr} {ys : List Str} (x : Holds1 prog w h S ys) (k : ∀ o, h.get? S = some o → h'.get? S = some o) : Holds1 prog w h' S ys := by
  obtain ⟨o, es, ep, t, ho, rest⟩ := x
  exact ⟨o, es, ep, t, k o ho, rest⟩
theorem fill1 (W : WalksS prog w A.in1 I fp wr G n P St) (S : Addr) (off : S ∉ fp) (xs : List Str) (hn : xs.length = n) (hb : n + 1 < scanBound)
    (hval : ∀ i v, P i v → ∃ t, v = .str (xs.getD i Str.empty) t) (k : Nat) :
    ∀ (i : Nat) (s : Shared), n - i = k → i ≤ n → St i s → Holds1 prog w s.heap S (unl (xs.take i)) →
      (∀ s', Moved (S :: wr) G s s' → Holds1 prog w s'.heap S (unl xs) → R (.ok (.ret .none)) s') →
      codeAny (model prog w) A (.builtin "set.update.loop" ⟨[.ref S, .ref I], []⟩) R s := by
  have offW : S ∉ wr := fun z => off (W.sub _ z)
  have wider : ∀ b ∈ wr, b ∈ S :: wr := fun b z => List.mem_cons_of_mem _ z
  induction k with
  | zero =>
    intro i s hk hi st x fin
    have ei : i = xs.length := by omega
    refine codeAny_builtin PyProof.Rows.F.entry_set_update_loop ?_
    rw [Around.under_plainId PyProof.Rows.F.plain_set_update_loop _]
    show wpAny _ A.in1 (pyNext (.ref I) >>= _) _ _ s
    have st' : St n s := by
      have : i = n := by omega
      rw [← this]
      exact st
    refine wpAny_bind (W.done s _ _ st' fun s' mv => ?_)
    show wpAny _ A.in1 (ret Value.none) _ _ s'
    refine wpAny_pure (fin s' (mv.mono wider) ?_)
    rw [ei, List.take_length] at x
    exact holds1_keep x fun o e => mv.heap S o offW e
  | succ k ih =>
    intro i s hk hi st x fin
    have il : i < n := by omega
    refine codeAny_builtin PyProof.Rows.F.entry_set_update_loop ?_
    rw [Around.under_plainId PyProof.Rows.F.plain_set_update_loop _]
    show wpAny _ A.in1 (pyNext (.ref I) >>= _) _ _ s
    refine wpAny_bind (W.item i s _ _ il st fun v s' pv' st' mv => ?_)
    obtain ⟨t, rfl⟩ := hval i v pv'
    have x' : Holds1 prog w s'.heap S (unl (xs.take i)) := holds1_keep x fun o e => mv.heap S o offW e
    have room : (unl (xs.take i)).length + 1 < scanBound := by
      have h1 := unl_le (xs.take i)
      have h2 : (xs.take i).length ≤ i := by rw [List.length_take]; exact Nat.min_le_left _ _
      omega
    show wpAny _ A.in1 (holding [Value.str (xs.getD i Str.empty) t] (setAdd S (.str (xs.getD i Str.empty) t)) >>= _) _ _ s'
    refine wpAny_bind (wpAny_holding ?_)
    unfold setAdd
    refine wpAny_holding (wpAny_bind ((PySem.strKind prog w).pyHash (k := xs.getD i Str.empty) (strKind_is _ _ _ _) ?_))
    refine wpAny_setAddHashed_of (knd := PySem.strKind prog w) (s := { s' with toks := s'.toks + 1 }) (strKind_is _ _ _ _) rfl x' room fun h' sb x2 => ?_
    have x3 : Holds1 prog w h' S (unl (xs.take (i + 1))) :=
      SetOf_congr x2 (fun k' => by rw [unl_succ xs (by omega), more1_any]) (by rw [unl_succ xs (by omega), more1_len])
    refine wpAny_pure ⟨plainId_quiet PyProof.Rows.F.plain_set_update_loop _, ih (i + 1) _ (by omega) il (W.frame _ s' _ _ st' (Nat.le_succ _) fun b hb' o e => ?_) x3 fun s'' mv2 x4 => ?_⟩
    · exact (sb.2 b fun z : b = S => off (z ▸ hb')).trans e
    · refine fin s'' (Moved.trans W.gtrans ((mv.mono wider).then_heap (Nat.le_succ _) fun b o hb' e => ?_) mv2) x4
      exact (sb.2 b fun z : b = S => hb' (by rw [z]; exact List.mem_cons_self)).trans e
end
/-- the empty set's object -/
abbrev set0 (led : Bool) : Obj := { cls := .type "set", dict := none, data := .set #[] 0 (.fresh 0 0 led) }
section
variable {prog : Program} {w : World} {A : Around} {E : Value → Shared → Prop} {s : Shared}
set_option maxHeartbeats 4000000 in
theorem set_of_texts {l : Addr} {items : Array Value} {xs : List Str} {Q : Value → Shared → Prop} (calm : A.handled = none) (isl : s.heap.IsList l items) (his : StrsAre items.toList xs) (few : xs.length + 1 < scanBound)
    (h : ∀ (h' : Heap) (tk : Nat), Holds1 prog w h' s.heap.objs.size (unl xs) → (∀ b o, b < s.heap.objs.size → s.heap.get? b = some o → h'.get? b = some o) → Q (.ref s.heap.objs.size) { s with heap := h', toks := tk }) :
    wpAny (model prog w) A (call (.type "set") [.ref l]) Q E s := by
  have hlen : xs.length = items.size := by rw [← StrsAre.len_eq his, Array.length_toList]
  obtain ⟨mc, mt, hmro⟩ := PySem.F.called_set.mro
  have c1 := PySem.F.called_set.made
  have c2 := PySem.F.called_set.sub
  have c3 := PySem.F.called_set.notType
  have c4 := PySem.F.called_set.canCreate
  have c5 := PySem.F.typeCall_set_1 (.ref l)
  refine wpAny_call (codeAny_of_tree ?_)
  show wpAny _ _ (callAny (.type "set") _) _ _ _
  refine wpAny_pure ⟨Code.quiet_builtin _ (by decide +kernel), codeAny_builtin PySem.F.entry_type_call ?_⟩
  rw [Around.under_plain (weight_type_call_type "set" [.ref l] []) rfl]
  repeat (any_goals (first | assumption | wp_step))
  refine codeAny_mono (code_set_new_1 (.ref l) (E := E) (Q₁ := fun v s1 => ∃ led : Bool, v = .ref s.heap.objs.size ∧ s1 = { s with heap := s.heap.push (set0 led) }) fun led => ⟨led, rfl, rfl⟩) fun r s1 hr => ?_
  cases r with
  | error e => exact hr
  | ok fl =>
    cases fl with
    | next => exact hr.elim
    | brk => exact hr.elim
    | cont => exact hr.elim
    | ret v =>
      obtain ⟨led, rfl, rfl⟩ := hr
      have new1 : (s.heap.push (set0 led)).get? s.heap.objs.size = some (set0 led) := Heap.get?_push_size _ rfl
      have isS : Shared.TypeIs { s with heap := s.heap.push (set0 led) } (.ref s.heap.objs.size) "set" := ⟨_, new1, rfl⟩
      have d1 := PySem.F.called_set.init.lookup
      have d2 := PySem.F.called_set.init.bind (.ref s.heap.objs.size)
      repeat (any_goals (first | assumption | wp_step))
      refine codeAny_mono (codeAny_call_builtin (R := wants (fun r s2 => r = .none ∧ ∃ h' tk, s2 = { s with heap := h', toks := tk } ∧ Holds1 prog w h' s.heap.objs.size (unl xs) ∧
        (∀ b o, b < s.heap.objs.size → s.heap.get? b = some o → h'.get? b = some o)) E) PySem.F.called_set.init.plain PySem.F.entry_set_init (check_set_init_1 isS ?_)) fun r2 s2 hr2 => ?_
      · obtain ⟨⟨oc, od, odt, osl⟩, ho, hc, cap, hd⟩ := isl
        have hc : oc = .type "list" := hc
        have hd : odt = .seq items cap := hd
        subst hc hd
        have ho' : (s.heap.push (set0 led)).get? l = some { cls := .type "list", dict := od, data := .seq items cap, slots := osl } := Heap.get?_push_of_some _ ho
        have isl' : (s.heap.push (set0 led)).IsList l items := ⟨_, ho', rfl, cap, rfl⟩
        have e1 := PySem.F.sub_list_set
        have e2 := PySem.F.sub_list_frozenset
        have e3 : (Value.type "list" == Value.type "dict") = false := by decide
        unfold Builtin.«set.__init__» noKeywords Builtin.Frozenset.updateFrom
        generalize hPI : pyIter = PI
        wp_walk
        subst hPI
        refine wpAny_pyIter_list isl' (wpAny_bind (wpAny_runValue ?_))
        have ll : l < s.heap.objs.size := Heap.lt_size ho
        have calm3 : A.in1.in1.in1.handled = none := by simp [calm]
        have ne1 : l ≠ (s.heap.push (set0 led)).objs.size := by rw [Heap.size_push]; exact Nat.ne_of_lt (Nat.lt_succ_of_lt ll)
        have off : s.heap.objs.size ∉ [(s.heap.push (set0 led)).objs.size, l] := by
          rw [Heap.size_push]
          intro z
          simp only [List.mem_cons, List.not_mem_nil, or_false] at z
          rcases z with z | z
          · exact absurd z (Nat.ne_of_lt (Nat.lt_succ_self _))
          · exact absurd z (Nat.ne_of_gt ll)
        have hv : ∀ (i : Nat) (v : Value), items[i]? = some v → ∃ t, v = .str (xs.getD i Str.empty) t := fun i v e => SS.strs_at his i v (by rw [Array.getElem?_toList]; exact e)
        refine fill1 ((Walks.list calm3 _ l ne1 items).toS) s.heap.objs.size off xs hlen (by omega) hv (items.size - 0) 0 _ (by omega) (Nat.zero_le _) ⟨⟨_, Heap.get?_push_size _ rfl, rfl, rfl⟩, isl'.push _⟩ ?_ ?_
        · refine SetOf_congr ((setObjOf_fresh (knd := PySem.strKind prog w) led).setOf (Heap.get?_push_of_some _ new1) (by unfold scanBound; omega)) (fun _ => rfl) rfl
        · intro s' mv x
          obtain ⟨h', g', d', tk', os'⟩ := s'
          obtain rfl : g' = s.gens := mv.gens
          obtain rfl : d' = s.drawn := mv.drawn
          obtain rfl : os' = s.os := mv.os
          show wpAny _ _ _ _ _ _
          refine wpAny_pure ?_
          show wpAny _ _ (ret Value.none) _ _ _
          refine wpAny_pure ⟨rfl, h', tk', rfl, x, fun b o hb e => ?_⟩
          have z2 : b ≠ (s.heap.push (set0 led)).objs.size := by rw [Heap.size_push]; exact Nat.ne_of_lt (Nat.lt_succ_of_lt hb)
          refine mv.heap b o (fun z => ?_) (Heap.get?_push_of_some _ (Heap.get?_push_of_some _ e))
          simp only [List.mem_cons, List.not_mem_nil, or_false] at z
          rcases z with z | z
          · exact absurd z (Nat.ne_of_lt hb)
          · exact z2 z
      · cases r2 with
        | error e => exact hr2
        | ok fl2 =>
          cases fl2 with
          | next => exact hr2.elim
          | brk => exact hr2.elim
          | cont => exact hr2.elim
          | ret r =>
            obtain ⟨rfl, h', tk, rfl, x, kk⟩ := hr2
            repeat (any_goals (first | assumption | wp_step))
            exact h _ _ x kk
end
section
variable {X : Cx}
def tLenSetS (K : PySem.W.Frag) (ta : TE) : TE := fun σ H Q => ta σ H fun x H1 => ∃ (l : Addr) (xs : List Str), x = .ref l ∧ SqL K H1 l (xs.map V.str) ∧ xs.length ≤ 700 ∧ Q (.int ((unl xs).length : Nat)) H1
theorem pe_lenSetS {a : Expr} {ta : TE} {p p2 q pos : Pos} (hg : Gl X "len") (hm : X.mg "len" = none) (hg2 : Gl X "set") (hm2 : X.mg "set" = none) (ha : PE X a ta) (hc : X.calm = true := by rfl)
    (na : starEach [a] X.env = (false, eval a X.env) :: starEach [] X.env := by rfl) : PE X (.Call (.Name "len" p) [.Call (.Name "set" p2) [a] [] q] [] pos) (tLenSetS X.K ta) := by
  refine ⟨fun pins s σ H Q I h => ?_⟩
  refine Call_ (ld_blt I hg hm boot_len (PyProof.Rows.callWith_builtin1 (PyProof.Rows.args_cons ?_ rfl) rfl rfl))
  refine Call_ (ld_blt I hg2 hm2 boot_set (PyProof.Rows.callWith_type1 (PyProof.Rows.args_cons (thn (ha.run pins s σ H _ I h) fun v s1 hv => PyProof.Rows.args_nil ?_) na) na rfl))
  obtain ⟨x, H1, I1, r1, l, xs, rfl, hq, few, q1⟩ := hv
  cases r1
  obtain ⟨its, r, pl, hz⟩ := I1.list hq
  refine set_of_texts (I1.ok.hd hc) pl.isList (by simpa using strsAre_of r) (by unfold scanBound; omega) fun h' tk x kk => PyProof.Rows.args_nil ?_
  have hle := unl_le xs
  obtain ⟨o, es, ep, t, ho, hex, hd, _, _, _, hf, hn⟩ := x
  have I2 : Inv X pins σ H1 { s1 with heap := h', toks := tk } := I1.kept fun b o e => kk b o (Heap.lt_size e) e
  exact call_len_set ho hex hd hf (by rw [hn] <;> omega) ⟨.int (unl xs).length, H1, I2.tok _, ⟨_, by rw [hn]⟩, q1⟩
end
end Db

/-! comprehensions and loops in short -/
namespace Db
open PySem PySem.Spec L2 PyProof.Rows
theorem Paired.snoc {α β : Type} {F : α → β → Prop} : ∀ {l : List α} {r : List β} {x : α} {y : β}, Paired F l r → F x y → Paired F (l ++ [x]) (r ++ [y])
  | _, _, _, _, .nil, h => .cons h .nil
  | _, _, _, _, .cons a t, h => .cons a (Paired.snoc t h)
theorem take_snoc {α : Type} {xs : List α} {i : Nat} {x : α} (e : xs[i]? = some x) : xs.take (i + 1) = xs.take i ++ [x] := by
  rw [List.take_add_one, e]
  rfl
/-- what a comprehension's reading asks behind the new list at D -/
abbrev LcAsk (J : It) (g : TG) (tt : TT) (te : TE) (vs : List Nat) (σ : L2.St) (H1 : Hp) (D : Addr) (Qd : Hp → Prop) : Prop :=
  ∃ W : Nat → Nat → Hp → Prop, (∃ m, W 0 m (upd H1 D (.lst []))) ∧ ∀ i m H, W i m H →
    (J.stop i H ∧ Qd H) ∨ (J.go i H ∧ ∃ Nx : Hp → Prop, (∀ H', Nx H' → ∃ m', m' < m ∧ W (i + 1) m' H') ∧ ∀ x H', J.yld i H x H' → g x (wipe σ vs) H' fun σ2 H2 => wipe σ2 vs = wipe σ vs ∧ tt σ2 H2 fun b H3 =>
      if b = true then te σ2 H3 fun y H4 => ∃ acc, H4 D = some (.lst acc) ∧ acc.length < sizeLine ∧ Nx (upd H4 D (.lst (acc ++ [y]))) else Nx H3)
/-- two ways that meet again: Pj holds where they meet -/
theorem join_if {t u : TS} {D : Ends} {σ : L2.St} {H : Hp} {b : Bool} (Pj : L2.St → Hp → Prop) (h : ∀ σ' H', Pj σ' H' → D.nx σ' H')
    (h1 : b = true → (∀ σ' H', Pj σ' H' → D.nx σ' H') → t D σ H) (h2 : b = false → (∀ σ' H', Pj σ' H' → D.nx σ' H') → u D σ H) : if b = true then t D σ H else u D σ H := by
  cases b with
  | true => exact h1 rfl h
  | false => exact h2 rfl h
section
variable {K : PySem.W.Frag} {a : Addr} {xs : List V} {j : Nat} {te : TE} {tt : TT} {σ : L2.St} {H1 : Hp} {D : Addr} {Qd : Hp → Prop}
theorem wipe_one (σ : L2.St) (j : Nat) (x : Option V) : wipe ((wipe σ [j]).set j x) [j] = wipe σ [j] := by
  show ((σ.set j none).set j x).set j none = σ.set j none
  rw [List.set_set, List.set_set]
/-- how the layer's rules for comprehensions ask; xs what is walked, Still what must stand meanwhile -/
abbrev LcRule (J : It) (xs : List V) (Still : Hp → Prop) (j : Nat) (tt : TT) (te : TE) (σ : L2.St) (H1 : Hp) (D : Addr) (Qd : Hp → Prop) : Prop :=
  ∀ Pv : Nat → Hp → Prop, Pv 0 (upd H1 D (.lst [])) → (∀ i H, i ≤ xs.length → Pv i H → Still H) →
    (∀ i x H, xs[i]? = some x → Pv i H → gName j x (wipe σ [j]) H fun σ2 H2 => wipe σ2 [j] = wipe σ [j] ∧ tt σ2 H2 fun b H3 =>
      if b = true then te σ2 H3 fun y H4 => ∃ acc, H4 D = some (.lst acc) ∧ acc.length < sizeLine ∧ Pv (i + 1) (upd H4 D (.lst (acc ++ [y]))) else Pv (i + 1) H3) →
    (∀ H, Pv xs.length H → Qd H) → LcAsk J (gName j) tt te [j] σ H1 D Qd
/-- the comprehension, any walk, with a test: keep tells which are kept; each e gives a y with R x y; S is what it may change, J what holds of the heap meanwhile -/
theorem lc_anyJ {J : It} {Still : Hp → Prop} (rule : LcRule J xs Still j tt te σ H1 D Qd) (keep : V → Bool) (S : List Addr) (R : V → V → Hp → Prop) (Jn : Hp → Prop) (hD : H1 D = none) (hst : ∀ H, Fr S H1 H → Still H) (hDS : D ∉ S) (hl : xs.length ≤ 100000)
    (mono : ∀ x y H H', Fr (D :: S) H H' → R x y H → R x y H') (j0 : Jn H1) (js : ∀ H u, Fr S H1 H → Jn H → Jn (upd H D (.lst u)))
    (he : ∀ (i : Nat) x H, xs[i]? = some x → Fr S H1 H → Jn H → ∀ (Qk : VK) (Qs : Hp → Prop), (∀ y H', keep x = true → Fr S H H' → R x y H' → Jn H' → Qk y H') → (∀ H', keep x = false → Fr S H H' → Jn H' → Qs H') →
      tt ((wipe σ [j]).set j (some x)) H fun b H3 => if b = true then te ((wipe σ [j]).set j (some x)) H3 Qk else Qs H3)
    (hd : ∀ H ys, Fr S H1 H → Jn H → H D = some (.lst ys) → Paired (fun x y => R x y H) (xs.filter keep) ys → Qd H) :
    LcAsk J (gName j) tt te [j] σ H1 D Qd := by
  refine rule (fun i H => ∃ ys, Fr S H1 H ∧ Jn H ∧ H D = some (.lst ys) ∧ Paired (fun x y => R x y H) ((xs.take i).filter keep) ys)
    ⟨[], Fr.new hD, js _ _ Fr.refl j0, upd_same, .nil⟩ (fun i H _ p => ?_) (fun i x H e p => ?_) (fun H p => ?_)
  · obtain ⟨ys, f, _⟩ := p
    exact hst H f
  · obtain ⟨ys, f, jh, hy, pr⟩ := p
    refine ⟨wipe_one σ j (some x), ?_⟩
    refine he i x H e f jh _ _ (fun y H' kx f2 r jh' => ?_) (fun H' kx f2 jh' => ?_)
    · have hy' : H' D = some (.lst ys) := f2.kp D _ hy hDS
      have ly : ys.length ≤ xs.length := by
        rw [← Paired.length pr]
        have h1 := List.length_filter_le keep (xs.take i)
        have h2 : (xs.take i).length ≤ xs.length := by rw [List.length_take]; exact Nat.min_le_right _ _
        omega
      have fD : Fr (D :: S) H' (upd H' D (.lst (ys ++ [y]))) := Fr.put List.mem_cons_self (by rw [hy']; intro xs; simp)
      refine ⟨ys, hy', by rw [sizeLine_eq]; omega, ys ++ [y], (f.trans f2).own hD, js _ _ (f.trans f2) jh', upd_same, ?_⟩
      rw [take_snoc e, List.filter_append, show [x].filter keep = [x] by simp [kx]]
      exact Paired.snoc (Paired.mapP pr fun x y q => mono x y _ _ fD (mono x y _ _ (f2.mono fun a h => List.mem_cons_of_mem _ h) q)) (mono x y _ _ fD r)
    · refine ⟨ys, f.trans f2, jh', f2.kp D _ hy hDS, ?_⟩
      rw [take_snoc e, List.filter_append, show [x].filter keep = [] by simp [kx], List.append_nil]
      exact Paired.mapP pr fun x y q => mono x y _ _ (f2.mono fun a h => List.mem_cons_of_mem _ h) q
  · obtain ⟨ys, f, jh, hy, pr⟩ := p
    rw [List.take_length] at pr
    exact hd H ys f jh hy pr
/-- without a test -/
theorem lc_genJ {J : It} {Still : Hp → Prop} (rule : LcRule J xs Still j tYes te σ H1 D Qd) (S : List Addr) (R : V → V → Hp → Prop) (Jn : Hp → Prop) (hD : H1 D = none) (hst : ∀ H, Fr S H1 H → Still H) (hDS : D ∉ S) (hl : xs.length ≤ 100000)
    (mono : ∀ x y H H', Fr (D :: S) H H' → R x y H → R x y H') (j0 : Jn H1) (js : ∀ H u, Fr S H1 H → Jn H → Jn (upd H D (.lst u)))
    (he : ∀ (i : Nat) x H, xs[i]? = some x → Fr S H1 H → Jn H → ∀ Q : VK, (∀ y H', Fr S H H' → R x y H' → Jn H' → Q y H') → te ((wipe σ [j]).set j (some x)) H Q)
    (hd : ∀ H ys, Fr S H1 H → Jn H → H D = some (.lst ys) → Paired (fun x y => R x y H) xs ys → Qd H) :
    LcAsk J (gName j) tYes te [j] σ H1 D Qd :=
  lc_anyJ rule (fun _ => true) S R Jn hD hst hDS hl mono j0 js (fun i x H e f jh Qk Qs k1 _ => he i x H e f jh Qk fun y H' => k1 y H' rfl)
    fun H ys f jh e p => hd H ys f jh e (by rw [List.filter_eq_self.mpr fun _ _ => rfl] at p; exact p)
theorem lc_relJ (S : List Addr) (R : V → V → Hp → Prop) (J : Hp → Prop) (hD : H1 D = none) (hS : SqL K H1 a xs) (ha : a ∉ S) (hDS : D ∉ S) (hl : xs.length ≤ 100000)
    (mono : ∀ x y H H', Fr (D :: S) H H' → R x y H → R x y H') (j0 : J H1) (js : ∀ H u, Fr S H1 H → J H → J (upd H D (.lst u)))
    (he : ∀ (i : Nat) x H, xs[i]? = some x → Fr S H1 H → J H → ∀ Q : VK, (∀ y H', Fr S H H' → R x y H' → J H' → Q y H') → te ((wipe σ [j]).set j (some x)) H Q)
    (hd : ∀ H ys, Fr S H1 H → J H → H D = some (.lst ys) → Paired (fun x y => R x y H) xs ys → Qd H) :
    LcAsk (Itl K a) (gName j) tYes te [j] σ H1 D Qd :=
  lc_genJ (fun Pv => lc_list (K := K) (a := a) (xs := xs) Pv) S R J hD (fun H f => f.seqL ha hS) hDS hl mono j0 js he hd
theorem lc_ruleT (S : List Addr) (hS : H1 a = some (.tup xs)) : LcRule (Itt K a) xs (fun H => H a = some (.tup xs)) j tt te σ H1 D Qd :=
  fun Pv h0 hl hs hd => lc_tup (K := K) (a := a) (xs := xs) Pv h0 (fun i H hi p => SqT.of (hl i H hi p)) hs hd
/-- the numbers of a range -/
def rngV (lo : Int) (n : Nat) : List V := (List.range n).map fun (i : Nat) => V.int (lo + i)
theorem rngV_len (lo : Int) (n : Nat) : (rngV lo n).length = n := by simp [rngV]
theorem rngV_at {lo : Int} {n i : Nat} {x : V} : (rngV lo n)[i]? = some x ↔ i < n ∧ x = .int (lo + i) := by
  unfold rngV
  rw [List.getElem?_map]
  by_cases h : i < n
  · rw [List.getElem?_range h]
    constructor
    · intro e
      exact ⟨h, (Option.some.inj e).symm⟩
    · rintro ⟨_, rfl⟩
      rfl
  · rw [List.getElem?_eq_none (by simp; omega)]
    constructor
    · intro e
      cases e
    · rintro ⟨q, _⟩
      exact absurd q h
theorem lc_ruleR (lo : Int) (n : Nat) : LcRule (Itr lo n) (rngV lo n) (fun _ => True) j tt te σ H1 D Qd :=
  fun Pv h0 hl hs hd => lc_range (lo := lo) (n := n) Pv h0 (fun i H hi p => hs i _ H (rngV_at.mpr ⟨hi, rfl⟩) p) (fun H p => hd H (by rw [rngV_len]; exact p))
theorem paired_map {f : V → V} : ∀ {xs ys : List V}, Paired (fun x y => y = f x) xs ys → ys = xs.map f
  | _, _, .nil => rfl
  | _, _, .cons e t => by rw [e, paired_map t, List.map_cons]
/-- [e for x in xs], the values alone -/
theorem lc_pure (f : V → V) (hD : H1 D = none) (hS : SqL K H1 a xs) (hl : xs.length ≤ 100000)
    (he : ∀ (i : Nat) x H, xs[i]? = some x → Fr [] H1 H → ∀ Q : VK, (∀ H', Fr [] H H' → Q (f x) H') → te ((wipe σ [j]).set j (some x)) H Q)
    (hd : ∀ H, Fr [] H1 H → H D = some (.lst (xs.map f)) → Qd H) : LcAsk (Itl K a) (gName j) tYes te [j] σ H1 D Qd :=
  lc_relJ [] (fun x y _ => y = f x) (fun _ => True) hD hS (by simp) (by simp) hl (fun _ _ _ _ _ e => e) trivial (fun _ _ _ _ => trivial)
    (fun i x H e fr _ Q k => he i x H e fr Q fun H' f2 => k _ H' f2 rfl trivial) fun H ys fr _ e p => hd H fr (by rw [e, paired_map p])
end
end Db

/-! trees: depth, sentences among them; isinstance -/
namespace Db
open PySem L2 PyProof.Rows
mutual
def PT.dep : PT → Nat
  | .txt _ => 0
  | .tup ts => PT.deps ts + 1
def PT.deps : List PT → Nat
  | [] => 0
  | t :: r => max t.dep (PT.deps r)
end
mutual
def PT.fit : PT → Prop
  | .txt s => s.length ≤ sizeLine
  | .tup ts => ts.length ≤ 1000 ∧ PT.fits ts
def PT.fits : List PT → Prop
  | [] => True
  | t :: r => t.fit ∧ PT.fits r
end
/-- how many parts that are sentences a word wants -/
def pieceNo (w : Str) : Option Nat :=
  if w = "yes" then some 0 else if w = "no" then some 0 else if w = "not" then some 1 else if w = "and" then some 2 else if w = "or" then some 2 else if w = "either" then some 2 else if w = "if" then some 2 else none
mutual
/-- whether it is made as a sentence -/
def wm : PT → Bool
  | .txt _ => false
  | .tup [] => false
  | .tup (.tup _ :: _) => false
  | .tup (.txt w :: r) => if w = "mark" then wmMark r else if w = "some" ∨ w = "each" then wmQu r else decide (pieceNo w = some r.length) && wmAll r
def wmMark : List PT → Bool
  | [.txt m] => isMarkS m
  | _ => false
def wmQu : List PT → Bool
  | [.txt m, p] => isMarkS m && wm p
  | _ => false
def wmAll : List PT → Bool
  | [] => true
  | p :: r => wm p && wmAll r
end
theorem wm_txt (s : Str) : wm (.txt s) = false := by unfold wm; rfl
theorem deps_le : ∀ {ts : List PT} {t : PT}, t ∈ ts → t.dep ≤ PT.deps ts
  | x :: r, t, h => by
    unfold PT.deps
    rcases List.mem_cons.mp h with rfl | h
    · exact Nat.le_max_left _ _
    · exact Nat.le_trans (deps_le h) (Nat.le_max_right _ _)
theorem fits_mem : ∀ {ts : List PT} {t : PT}, t ∈ ts → PT.fits ts → t.fit
  | x :: r, t, h, f => by
    unfold PT.fits at f
    rcases List.mem_cons.mp h with rfl | h
    · exact f.1
    · exact fits_mem h f.2
theorem wmAll_eq : ∀ ts : List PT, wmAll ts = ts.all wm
  | [] => by unfold wmAll; rfl
  | t :: r => by
    unfold wmAll
    rw [wmAll_eq r]
    rfl
theorem TreesAt.paired {H : Hp} : ∀ {ts : List PT} {vs : List V}, TreesAt H ts vs → Paired (fun t v => TreeAt H t v) ts vs
  | [], vs, h => by unfold TreesAt at h; subst h; exact .nil
  | t :: r, vs, h => by
    unfold TreesAt at h
    obtain ⟨v, q, rfl, h1, h2⟩ := h
    exact .cons h1 (TreesAt.paired h2)
theorem Bop.w_no (o : Bop) : pieceNo o.w = some 2 := by cases o <;> decide +kernel
theorem Sen.wm : ∀ s : Sen, Db.wm s.pt = true
  | .yes => by unfold Sen.pt Db.wm; rw [if_neg (by decide +kernel), if_neg (by decide +kernel)]; unfold wmAll; decide +kernel
  | .no => by unfold Sen.pt Db.wm; rw [if_neg (by decide +kernel), if_neg (by decide +kernel)]; unfold wmAll; decide +kernel
  | .mark m => by unfold Sen.pt Db.wm; rw [if_pos rfl]; unfold wmMark; exact isMarkS_ltr m
  | .not s => by
    unfold Sen.pt Db.wm; rw [if_neg (by decide +kernel), if_neg (by decide +kernel)]
    have ih := Sen.wm s
    unfold wmAll; unfold wmAll; rw [ih]
    show (decide (pieceNo "not" = some 1) && (true && true)) = true
    decide +kernel
  | .bin o s t => by
    have i1 := Sen.wm s
    have i2 := Sen.wm t
    unfold Sen.pt Db.wm
    rw [if_neg (by cases o <;> decide +kernel), if_neg (by cases o <;> decide +kernel), Bop.w_no]
    unfold wmAll; unfold wmAll; unfold wmAll
    rw [i1, i2]
    rfl
  | .qu e m s => by
    have ih := Sen.wm s
    unfold Sen.pt Db.wm
    rw [if_neg (by cases e <;> decide +kernel), if_pos (by cases e <;> decide +kernel)]
    unfold wmQu
    rw [ih, isMarkS_ltr]
    rfl
theorem pieceNo_cases {w : Str} {k : Nat} (h : pieceNo w = some k) : (w = "yes" ∧ k = 0) ∨ (w = "no" ∧ k = 0) ∨ (w = "not" ∧ k = 1) ∨ ∃ o : Bop, w = o.w ∧ k = 2 := by
  unfold pieceNo at h
  repeat' split at h
  · exact .inl ⟨by assumption, (Option.some.inj h).symm⟩
  · exact .inr (.inl ⟨by assumption, (Option.some.inj h).symm⟩)
  · exact .inr (.inr (.inl ⟨by assumption, (Option.some.inj h).symm⟩))
  · exact .inr (.inr (.inr ⟨.and, by assumption, (Option.some.inj h).symm⟩))
  · exact .inr (.inr (.inr ⟨.or, by assumption, (Option.some.inj h).symm⟩))
  · exact .inr (.inr (.inr ⟨.eit, by assumption, (Option.some.inj h).symm⟩))
  · exact .inr (.inr (.inr ⟨.imp, by assumption, (Option.some.inj h).symm⟩))
  · cases h
theorem wm_sen (n : Nat) : ∀ p : PT, p.dep ≤ n → Db.wm p = true → ∃ s : Sen, p = s.pt := by
  induction n with
  | zero =>
    intro p hd h
    cases p with
    | txt s => rw [wm_txt] at h; cases h
    | tup ts => unfold PT.dep at hd; omega
  | succ n ih =>
    intro p hd h
    cases p with
    | txt s => rw [wm_txt] at h; cases h
    | tup ts =>
      unfold PT.dep at hd
      cases ts with
      | nil => unfold Db.wm at h; cases h
      | cons t r =>
        cases t with
        | tup us => unfold Db.wm at h; cases h
        | txt w =>
          have hr : ∀ t ∈ r, t.dep ≤ n := fun t m => by
            have z := deps_le (ts := .txt w :: r) (List.mem_cons_of_mem _ m)
            omega
          unfold Db.wm at h
          split at h
          · rename_i e
            subst e
            unfold wmMark at h
            split at h
            · obtain ⟨i, rfl⟩ := isMarkS_iff.mp h
              exact ⟨.mark i, rfl⟩
            · cases h
          · split at h
            · rename_i e
              unfold wmQu at h
              split at h
              · rename_i m p
                obtain ⟨h1, h2⟩ := Bool.and_eq_true_iff.mp h
                obtain ⟨i, rfl⟩ := isMarkS_iff.mp h1
                obtain ⟨s, rfl⟩ := ih p (hr p (by simp)) h2
                rcases e with rfl | rfl
                · exact ⟨.qu true i s, rfl⟩
                · exact ⟨.qu false i s, rfl⟩
              · cases h
            · obtain ⟨h1, h2⟩ := Bool.and_eq_true_iff.mp h
              have h1 : pieceNo w = some r.length := of_decide_eq_true h1
              rw [wmAll_eq, List.all_eq_true] at h2
              rcases pieceNo_cases h1 with ⟨rfl, e⟩ | ⟨rfl, e⟩ | ⟨rfl, e⟩ | ⟨o, rfl, e⟩
              · rw [List.length_eq_zero_iff.mp e]
                exact ⟨.yes, rfl⟩
              · rw [List.length_eq_zero_iff.mp e]
                exact ⟨.no, rfl⟩
              · match r, e with
                | [p], _ =>
                  obtain ⟨s, rfl⟩ := ih p (hr p (by simp)) (h2 p (by simp))
                  exact ⟨.not s, rfl⟩
              · match r, e with
                | [p, q], _ =>
                  obtain ⟨s, rfl⟩ := ih p (hr p (by simp)) (h2 p (by simp))
                  obtain ⟨t, rfl⟩ := ih q (hr q (by simp)) (h2 q (by simp))
                  exact ⟨.bin o s t, rfl⟩
theorem wm_iff {p : PT} : Db.wm p = true ↔ ∃ s : Sen, p = s.pt := ⟨wm_sen p.dep p (Nat.le_refl _), fun ⟨s, e⟩ => by rw [e]; exact s.wm⟩
theorem Sen.pt_dep : ∀ s : Sen, s.pt.dep = s.dep
  | .yes => by simp [Sen.pt, PT.dep, PT.deps, Sen.dep]
  | .no => by simp [Sen.pt, PT.dep, PT.deps, Sen.dep]
  | .mark m => by simp [Sen.pt, PT.dep, PT.deps, Sen.dep]
  | .not s => by have := Sen.pt_dep s; simp [Sen.pt, PT.dep, PT.deps, Sen.dep]; omega
  | .bin o s t => by have := Sen.pt_dep s; have := Sen.pt_dep t; simp [Sen.pt, PT.dep, PT.deps, Sen.dep]; omega
  | .qu e m s => by have := Sen.pt_dep s; simp [Sen.pt, PT.dep, PT.deps, Sen.dep]; omega
theorem Bop.w_len (o : Bop) : o.w.length ≤ 10 := by cases o <;> decide +kernel
theorem quW_len (e : Bool) : (quW e).length ≤ 10 := by cases e <;> decide +kernel
theorem len_line {s : Str} (h : s.length ≤ 10) : s.length ≤ sizeLine := by rw [sizeLine_eq]; omega
theorem Sen.fit : ∀ s : Sen, s.pt.fit
  | .yes => by simp only [Sen.pt, PT.fit, PT.fits, List.length]; exact ⟨by omega, len_line (by decide +kernel), trivial⟩
  | .no => by simp only [Sen.pt, PT.fit, PT.fits, List.length]; exact ⟨by omega, len_line (by decide +kernel), trivial⟩
  | .mark m => by simp only [Sen.pt, PT.fit, PT.fits, List.length]; exact ⟨by omega, len_line (by decide +kernel), len_line (by rw [ltr_len]; omega), trivial⟩
  | .not s => by simp only [Sen.pt, PT.fit, PT.fits, List.length]; exact ⟨by omega, len_line (by decide +kernel), s.fit, trivial⟩
  | .bin o s t => by simp only [Sen.pt, PT.fit, PT.fits, List.length]; exact ⟨by omega, len_line o.w_len, s.fit, t.fit, trivial⟩
  | .qu e m s => by simp only [Sen.pt, PT.fit, PT.fits, List.length]; exact ⟨by omega, len_line (quW_len e), len_line (by rw [ltr_len]; omega), s.fit, trivial⟩
/-- whether it is a sentence, whole -/
def isSen (p : PT) : Prop := ∃ s : Sen, p = s.pt ∧ s.cnt ≤ 200 ∧ s.dep ≤ 24
theorem Sen.pt_inj : ∀ {s t : Sen}, s.pt = t.pt → s = t := by
  have word : ∀ {a b : Str} {r q : List PT}, PT.tup (.txt a :: r) = .tup (.txt b :: q) → a = b ∧ r = q := fun h => by
    simp only [PT.tup.injEq, List.cons.injEq, PT.txt.injEq] at h
    exact h
  intro s
  induction s with
  | yes => intro t h; cases t with
    | yes => rfl
    | no => exact absurd (word h).1 (by decide +kernel)
    | mark m => exact absurd (word h).1 (by decide +kernel)
    | not s => exact absurd (word h).1 (by decide +kernel)
    | bin o s t => exact absurd (word h).1 (by cases o <;> decide +kernel)
    | qu e m s => exact absurd (word h).1 (by cases e <;> decide +kernel)
  | no => intro t h; cases t with
    | yes => exact absurd (word h).1 (by decide +kernel)
    | no => rfl
    | mark m => exact absurd (word h).1 (by decide +kernel)
    | not s => exact absurd (word h).1 (by decide +kernel)
    | bin o s t => exact absurd (word h).1 (by cases o <;> decide +kernel)
    | qu e m s => exact absurd (word h).1 (by cases e <;> decide +kernel)
  | mark m => intro t h; cases t with
    | yes => exact absurd (word h).1 (by decide +kernel)
    | no => exact absurd (word h).1 (by decide +kernel)
    | mark k =>
      have := (word h).2
      simp only [List.cons.injEq, PT.txt.injEq, and_true] at this
      rw [ltr_inj this]
    | not s => exact absurd (word h).1 (by decide +kernel)
    | bin o s t => exact absurd (word h).1 (by cases o <;> decide +kernel)
    | qu e k s => exact absurd (word h).1 (by cases e <;> decide +kernel)
  | not s ih => intro t h; cases t with
    | yes => exact absurd (word h).1 (by decide +kernel)
    | no => exact absurd (word h).1 (by decide +kernel)
    | mark k => exact absurd (word h).1 (by decide +kernel)
    | not t =>
      have := (word h).2
      simp only [List.cons.injEq, and_true] at this
      rw [ih this]
    | bin o s t => exact absurd (word h).1 (by cases o <;> decide +kernel)
    | qu e k s => exact absurd (word h).1 (by cases e <;> decide +kernel)
  | bin o s t ih1 ih2 => intro u h; cases u with
    | yes => exact absurd (word h).1 (by cases o <;> decide +kernel)
    | no => exact absurd (word h).1 (by cases o <;> decide +kernel)
    | mark k => exact absurd (word h).1 (by cases o <;> decide +kernel)
    | not t => exact absurd (word h).1 (by cases o <;> decide +kernel)
    | bin o' s' t' =>
      have h1 := (word h).1
      have h2 := (word h).2
      simp only [List.cons.injEq, and_true] at h2
      have eo : o = o' := by
        cases o <;> cases o' <;> first | rfl | exact absurd h1 (by decide +kernel)
      rw [eo, ih1 h2.1, ih2 h2.2]
    | qu e k s => exact absurd (word h).1 (by cases o <;> cases e <;> decide +kernel)
  | qu e m s ih => intro u h; cases u with
    | yes => exact absurd (word h).1 (by cases e <;> decide +kernel)
    | no => exact absurd (word h).1 (by cases e <;> decide +kernel)
    | mark k => exact absurd (word h).1 (by cases e <;> decide +kernel)
    | not t => exact absurd (word h).1 (by cases e <;> decide +kernel)
    | bin o' s' t' => exact absurd (word h).1 (by cases e <;> cases o' <;> decide +kernel)
    | qu e' k s' =>
      have h1 := (word h).1
      have h2 := (word h).2
      simp only [List.cons.injEq, PT.txt.injEq, and_true] at h2
      have ee : e = e' := by
        cases e <;> cases e' <;> first | rfl | exact absurd h1 (by decide +kernel)
      rw [ee, ltr_inj h2.1, ih h2.2]
mutual
theorem TreeAt.inj {H : Hp} : ∀ {t u : PT} {v : V}, TreeAt H t v → TreeAt H u v → t = u
  | .txt s, .txt z, v, h, q => by
    unfold TreeAt at h q
    rw [h] at q
    injection q with e
    rw [e]
  | .txt s, .tup z, v, h, q => by
    unfold TreeAt at h q
    obtain ⟨a, vs, e, _⟩ := q
    rw [h] at e
    cases e
  | .tup s, .txt z, v, h, q => by
    unfold TreeAt at h q
    obtain ⟨a, vs, e, _⟩ := h
    rw [q] at e
    cases e
  | .tup s, .tup z, v, h, q => by
    unfold TreeAt at h q
    obtain ⟨a, vs, e, h1, h2⟩ := h
    obtain ⟨b, us, e2, q1, q2⟩ := q
    rw [e] at e2
    cases e2
    rw [h1] at q1
    cases q1
    rw [TreesAt.inj h2 q2]
theorem TreesAt.inj {H : Hp} : ∀ {t u : List PT} {vs : List V}, TreesAt H t vs → TreesAt H u vs → t = u
  | [], [], _, _, _ => rfl
  | [], z :: r, v, h, q => by
    unfold TreesAt at h q
    obtain ⟨x, us, e, _⟩ := q
    rw [h] at e
    cases e
  | z :: r, [], v, h, q => by
    unfold TreesAt at h q
    obtain ⟨x, us, e, _⟩ := h
    rw [q] at e
    cases e
  | t :: r, u :: q, v, h1, h2 => by
    unfold TreesAt at h1 h2
    obtain ⟨x, us, e, a1, a2⟩ := h1
    obtain ⟨y, ws, e2, b1, b2⟩ := h2
    rw [e] at e2
    cases e2
    rw [TreeAt.inj a1 b1, TreesAt.inj a2 b2]
end
theorem senAt_inj {H : Hp} {v : V} {s t : Sen} (h : TreeAt H s.pt v) (q : TreeAt H t.pt v) : s = t := Sen.pt_inj (TreeAt.inj h q)
/-! ### isinstance's answers -/
section
variable {K : PySem.W.Frag} {H : Hp}
theorem k_ss : PySem.W.kitOne K (.type "str") (.type "str") = some true := kit_ty (by decide +kernel)
theorem k_st : PySem.W.kitOne K (.type "str") (.type "tuple") = some false := kit_ty (by decide +kernel)
theorem k_ts : PySem.W.kitOne K (.type "tuple") (.type "str") = some false := kit_ty (by decide +kernel)
theorem k_tt : PySem.W.kitOne K (.type "tuple") (.type "tuple") = some true := kit_ty (by decide +kernel)
theorem k_ii : PySem.W.kitOne K (.type "int") (.type "int") = some true := kit_ty (by decide +kernel)
theorem k_ib : PySem.W.kitOne K (.type "int") (.type "bool") = some false := kit_ty (by decide +kernel)
theorem k_bi : PySem.W.kitOne K (.type "bool") (.type "int") = some true := kit_ty (by decide +kernel)
theorem k_bb : PySem.W.kitOne K (.type "bool") (.type "bool") = some true := kit_ty (by decide +kernel)
theorem k_ll : PySem.W.kitOne K (.type "list") (.type "list") = some true := kit_ty (by decide +kernel)
end
/-! ### a written dict's other keys -/
def NoKey (z : Str) : List DictEntry → Prop
  | [] => True
  | e :: r => (∃ x t, e.key = .str x t ∧ z ≠ x) ∧ NoKey z r
theorem noKey_find {z : Str} : ∀ {es : List DictEntry}, NoKey z es → es.find? (·.key.isStr z) = none ∧ es.any (·.refKey) = false
  | [], _ => ⟨rfl, rfl⟩
  | e :: r, h => by
    obtain ⟨⟨x, t, hk, hx⟩, hr⟩ := h
    obtain ⟨h1, h2⟩ := noKey_find hr
    have e1 : e.key.isStr z = false := by
      rw [hk]
      show (x == z) = false
      exact beq_eq_false_iff_ne.mpr fun q => hx q.symm
    have e2 : e.refKey = false := by
      unfold DictEntry.refKey
      rw [hk]
    constructor
    · rw [List.find?_cons, e1]
      exact h1
    · rw [List.any_cons, e2, h2]
      rfl
theorem nsIn_none {K : PySem.W.Frag} {a : Addr} {es : List DictEntry} {n : Nat} {z : Str} (l : K.lookup a = some ⟨.type "dict", none, .dict es.toArray n, #[]⟩) (h : NoKey z es) : PySem.W.nsIn K a z = some none := by
  obtain ⟨h1, h2⟩ := noKey_find h
  unfold PySem.W.nsIn
  rw [l]
  show (match es.toArray.toList.find? (·.key.isStr z) with | some e => some (some e.val) | none => if es.toArray.toList.any (·.refKey) then none else some none) = some none
  rw [List.toList_toArray, h1, h2]
  rfl
end Db

/-! the rules with the written part named, for comprehensions' blocks, too -/
namespace Db
open PySem L2 PyProof.Rows
section
variable {X : Cx} {K : PySem.W.Frag}
theorem k_ixL (h : X.K = K) : IxR X (rIxL K) := h ▸ ix_list
theorem k_ixT (h : X.K = K) : IxR X (rIxT K) := h ▸ ix_tup
theorem k_ixD {w : World} (h : X.K = K) (h2 : X.w = w) : IxR X (rIxD K w) := h ▸ h2 ▸ ix_kdict
theorem k_slL (h : X.K = K) : SlR X (rSlL K) := h ▸ sl_list
theorem k_slT (h : X.K = K) : SlR X (rSlT K) := h ▸ sl_tup
theorem k_catT (h : X.K = K) : OpR X (binaryOp .Add) (rCatT K) := h ▸ op_catT
theorem k_in (h : X.K = K) : OpR X (compareOp .In) (rIn K false) := h ▸ op_in_seq
theorem k_notIn (h : X.K = K) : OpR X (compareOp .NotIn) (rIn K true) := h ▸ op_notIn_seq
theorem k_eqD (h : X.K = K) (hu : X.A.units + 64 < cLine) : OpR X (compareOp .Eq) (rEqD K) := h ▸ op_eqD hu
theorem k_neD (h : X.K = K) (hu : X.A.units + 64 < cLine) : OpR X (compareOp .NotEq) (rNeD K) := h ▸ op_neD hu
def rLenK (K : PySem.W.Frag) : List V → Hp → VK → Prop := fun xs H Q => ∃ p ys, xs = [.ref p] ∧ (SqL K H p ys ∨ SqT K H p ys) ∧ Q (.int ys.length) H
theorem k_len (h : X.K = K) : CallR X (.builtin "len") (rLenK K) := h ▸ call_len_seq
def rListK (K : PySem.W.Frag) : List V → Hp → VK → Prop := fun xs H Q => ∃ p ys, xs = [.ref p] ∧ (SqL K H p ys ∨ SqT K H p ys) ∧ ∀ l, H l = none → Q (.ref l) (upd H l (.lst ys))
theorem k_list (h : X.K = K) : CallR X (.type "list") (rListK K) := h ▸ call_list_of
theorem k_sum (h : X.K = K) (hc : X.calm = true) : CallR X (.builtin "sum") (rSum K) := h ▸ cr_sum hc
theorem k_max (h : X.K = K) (hc : X.calm = true) : CallR X (.builtin "max") (rMax K) := h ▸ cr_max hc
theorem k_min (h : X.K = K) (hc : X.calm = true) : CallR X (.builtin "min") (rMin K) := h ▸ cr_min hc
theorem k_any (h : X.K = K) (hc : X.calm = true) : CallR X (.builtin "any") (rAny K) := h ▸ cr_any hc
theorem k_all (h : X.K = K) (hc : X.calm = true) : CallR X (.builtin "all") (rAll K) := h ▸ cr_all hc
theorem k_isi (h : X.K = K) : CallR X (.builtin "isinstance") (rIsi K) := h ▸ call_isi
theorem k_index (h : X.K = K) : MtR X "list.index" (rIndex K) := h ▸ mt_index
theorem k_fld {e : Expr} {f : Str} {pos : Pos} {ta : TE} (h : X.K = K) (he : PE X e ta) (hb : attributeBase e f X.env (eval e X.env) = eval e X.env) : PE X (.Attribute e f pos) (tFld K ta f) := h ▸ pe_fld he hb
theorem k_put {o value : Expr} {f : Str} {pos pos' : Pos} {ta tv : TE} (h : X.K = K) (ha : PE X o ta) (hv : PE X value tv) (hs : swapsWith value (some (.Attribute o f pos')) pos.line X.env = pure false) :
    PS X (.Assign [.Attribute o f pos'] value pos) (sFld K ta tv f) := h ▸ ps_fld ha hv hs
end
end Db

/-! letters told in order; the keys of a dict of them -/
namespace Db
open PySem PySem.Spec L2 PyProof.Rows
/-- the letters of a list, rising, each once -/
def mset (l : List (Fin 8)) : List (Fin 8) := (List.finRange 8).filter (· ∈ l)
theorem fin_rising : (List.finRange 8).Pairwise (· < ·) := by decide
theorem mset_lt (l : List (Fin 8)) : (mset l).Pairwise (· < ·) := fin_rising.filter _
theorem mset_nodup (l : List (Fin 8)) : (mset l).Nodup := (mset_lt l).imp fun h e => by subst e; exact absurd h (by omega)
theorem mem_mset {l : List (Fin 8)} {i : Fin 8} : i ∈ mset l ↔ i ∈ l := by simp [mset, List.mem_finRange]
theorem mset_le (l : List (Fin 8)) : (mset l).length ≤ 8 := by
  have := List.length_filter_le (· ∈ l) (List.finRange 8)
  unfold mset
  simpa using this
noncomputable def unltr (s : Str) : Fin 8 := if h : ∃ i : Fin 8, s = ltr i then h.choose else 0
theorem unltr_ltr (i : Fin 8) : unltr (ltr i) = i := by
  unfold unltr
  have h : ∃ j : Fin 8, ltr i = ltr j := ⟨i, rfl⟩
  rw [dif_pos h]
  exact (ltr_inj h.choose_spec).symm
theorem lt_ltr (i j : Fin 8) : ltCps (ltr i).cps.toList (ltr j).cps.toList = decide (i < j) := by
  show ((decide (97 + i.val < 97 + j.val)) || ((97 + i.val == 97 + j.val) && false)) = decide (i < j)
  rw [Bool.and_false, Bool.or_false]
  exact decide_eq_decide.mpr ⟨fun h => by show i.val < j.val; omega, fun h => by have : i.val < j.val := h; omega⟩
theorem rising_le : ∀ {l : List (Fin 8)} {i : Fin 8}, risingS (ltr i) (l.map ltr) = true → (i :: l).Pairwise (· ≤ ·)
  | [], i, _ => by simp
  | j :: r, i, h => by
    have h : (!ltCps (ltr j).cps.toList (ltr i).cps.toList && risingS (ltr j) (r.map ltr)) = true := h
    rw [lt_ltr] at h
    obtain ⟨h1, h2⟩ := Bool.and_eq_true_iff.mp h
    have ih := rising_le h2
    have hij : i ≤ j := by
      simp at h1
      exact h1
    refine List.pairwise_cons.mpr ⟨fun k hk => ?_, ih⟩
    rcases List.mem_cons.mp hk with rfl | hk
    · exact hij
    · exact Fin.le_trans hij ((List.pairwise_cons.mp ih).1 k hk)
theorem sorted_letters {ys : List Str} {l : List (Fin 8)} (p : ys.Perm (l.map ltr)) (nd : l.Nodup) (s : sortedS ys = true) : ys = (mset l).map ltr := by
  have e1 : ys = (ys.map unltr).map ltr := by
    rw [List.map_map]
    conv => lhs; rw [← List.map_id ys]
    refine List.map_congr_left fun y hy => ?_
    obtain ⟨i, _, rfl⟩ := List.mem_map.mp (p.mem_iff.mp hy)
    show ltr i = ltr (unltr (ltr i))
    rw [unltr_ltr]
  have p2 : (ys.map unltr).Perm l := by
    have q := p.map unltr
    have e2 : (l.map ltr).map unltr = l := by
      rw [List.map_map]
      conv => rhs; rw [← List.map_id l]
      exact List.map_congr_left fun i _ => unltr_ltr i
    rw [e2] at q
    exact q
  have srt : (ys.map unltr).Pairwise (· ≤ ·) := by
    rw [e1] at s
    cases h : ys.map unltr with
    | nil => simp
    | cons i r =>
      rw [h] at s
      exact rising_le s
  have p3 : (ys.map unltr).Perm (mset l) := p2.trans ((List.perm_ext_iff_of_nodup nd (mset_nodup l)).mpr fun i => mem_mset.symm)
  rw [e1, List.Perm.eq_of_pairwise (le := (· ≤ ·)) (fun a b _ _ h1 h2 => Fin.le_antisymm h1 h2) srt ((mset_lt l).imp fun h => Fin.le_of_lt h) p3]
/-- the unlike letters, as they are met -/
def fmet (l : List (Fin 8)) : List (Fin 8) := l.foldl (fun acc i => if i ∈ acc then acc else acc ++ [i]) []
theorem fmet_go : ∀ (l acc : List (Fin 8)), acc.Nodup → (l.foldl (fun acc i => if i ∈ acc then acc else acc ++ [i]) acc).Nodup ∧ ∀ i, i ∈ l.foldl (fun acc i => if i ∈ acc then acc else acc ++ [i]) acc ↔ i ∈ acc ∨ i ∈ l
  | [], acc, h => ⟨h, fun i => by simp⟩
  | j :: r, acc, h => by
    rw [List.foldl_cons]
    by_cases hj : j ∈ acc
    · rw [if_pos hj]
      obtain ⟨h1, h2⟩ := fmet_go r acc h
      refine ⟨h1, fun i => ?_⟩
      rw [h2 i, List.mem_cons]
      constructor
      · rintro (q | q)
        · exact .inl q
        · exact .inr (.inr q)
      · rintro (q | rfl | q)
        · exact .inl q
        · exact .inl hj
        · exact .inr q
    · rw [if_neg hj]
      have hn : (acc ++ [j]).Nodup := by
        rw [List.nodup_append]
        refine ⟨h, by simp, fun a ha b hb => ?_⟩
        rw [List.mem_singleton.mp hb]
        rintro rfl
        exact hj ha
      obtain ⟨h1, h2⟩ := fmet_go r (acc ++ [j]) hn
      refine ⟨h1, fun i => ?_⟩
      rw [h2 i, List.mem_append, List.mem_singleton, List.mem_cons, or_assoc]
theorem fmet_nodup (l : List (Fin 8)) : (fmet l).Nodup := (fmet_go l [] List.nodup_nil).1
theorem mem_fmet {l : List (Fin 8)} {i : Fin 8} : i ∈ fmet l ↔ i ∈ l := by
  have := (fmet_go l [] List.nodup_nil).2 i
  simpa [fmet] using this
theorem mset_fmet (l : List (Fin 8)) : mset (fmet l) = mset l := List.filter_congr fun i _ => decide_eq_decide.mpr mem_fmet
theorem mergeK_letters : ∀ (l acc : List (Fin 8)), mergeK (acc.map fun i => ((Sum.inr (ltr i) : Key), V.bl true)) (l.map fun i => ((Sum.inr (ltr i) : Key), V.bl true)) =
    (l.foldl (fun acc i => if i ∈ acc then acc else acc ++ [i]) acc).map fun i => ((Sum.inr (ltr i) : Key), V.bl true)
  | [], acc => rfl
  | j :: r, acc => by
    have step : putK (acc.map fun i => ((Sum.inr (ltr i) : Key), V.bl true)) (Sum.inr (ltr j)) (V.bl true) = (if j ∈ acc then acc else acc ++ [j]).map fun i => ((Sum.inr (ltr i) : Key), V.bl true) := by
      unfold putK
      have ea : ((acc.map fun i => ((Sum.inr (ltr i) : Key), V.bl true)).any fun kv => decide (kv.1 = Sum.inr (ltr j))) = decide (j ∈ acc) := by
        rw [List.any_map]
        by_cases h : j ∈ acc
        · rw [decide_eq_true h, List.any_eq_true]
          exact ⟨j, h, by simp⟩
        · rw [decide_eq_false h, List.any_eq_false]
          intro i hi e
          have e : ltr i = ltr j := by simpa using e
          exact h (ltr_inj e ▸ hi)
      rw [ea]
      by_cases h : j ∈ acc
      · rw [if_pos (decide_eq_true h), if_pos h, List.map_map]
        refine List.map_congr_left fun i _ => ?_
        show (if (Sum.inr (ltr i) : Key) = Sum.inr (ltr j) then ((Sum.inr (ltr i) : Key), V.bl true) else _) = _
        split <;> rfl
      · rw [if_neg (by simp [h]), if_neg h, List.map_append]
        rfl
    have ih := mergeK_letters r (if j ∈ acc then acc else acc ++ [j])
    rw [← step] at ih
    exact ih
end Db

/-! rows of values and valuations of marks; slices -/
namespace Db
open PySem PySem.Spec L2 PyProof.Rows
def bI (b : Bool) : Int := if b then 1 else 0
theorem bI_01 (b : Bool) : bI b = 0 ∨ bI b = 1 := by cases b <;> simp [bI]
theorem bI_inj {a b : Bool} (h : bI a = bI b) : a = b := by cases a <;> cases b <;> simp [bI] at h <;> rfl
/-- what a row of an order says of each mark -/
def rowVal (ord : List (Fin 8)) (ns : List Int) : Val := fun m => decide (ns.getD (ord.idxOf m) 0 = 1)
/-- values of the marks of an order -/
def RowOk (ord : List (Fin 8)) (ns : List Int) : Prop := ns.length = ord.length ∧ ∀ v ∈ ns, v = 0 ∨ v = 1
theorem rowVal_at {ord : List (Fin 8)} {ns : List Int} (h : RowOk ord ns) {m : Fin 8} (hm : m ∈ ord) : ns[ord.idxOf m]? = some (bI (rowVal ord ns m)) := by
  have hl : ord.idxOf m < ns.length := by rw [h.1]; exact List.idxOf_lt_length_of_mem hm
  unfold rowVal
  rw [List.getElem?_eq_getElem hl, List.getD_eq_getElem?_getD, List.getElem?_eq_getElem hl]
  rcases h.2 _ (List.getElem_mem hl) with e | e
  · simp [e, bI]
  · simp [e, bI]
theorem idx_inj {ord : List (Fin 8)} {a b : Fin 8} (ha : a ∈ ord) (h : ord.idxOf a = ord.idxOf b) : a = b := by
  have h1 : ord[ord.idxOf a]'(List.idxOf_lt_length_of_mem ha) = a := List.getElem_idxOf _
  by_cases hb : b ∈ ord
  · have h2 : ord[ord.idxOf b]'(List.idxOf_lt_length_of_mem hb) = b := List.getElem_idxOf _
    rw [← h1, ← h2]
    congr 1
  · have h3 := List.idxOf_eq_length hb
    have h4 := List.idxOf_lt_length_of_mem ha
    omega
theorem rowVal_set {ord : List (Fin 8)} {ns : List Int} (h : ns.length = ord.length) {m : Fin 8} (hm : m ∈ ord) (v : Int) :
    rowVal ord (ns.set (ord.idxOf m) v) = vset (rowVal ord ns) m (decide (v = 1)) := by
  funext j
  unfold rowVal vset
  have hl : ord.idxOf m < ns.length := by rw [h]; exact List.idxOf_lt_length_of_mem hm
  by_cases e : j = m
  · subst e
    rw [if_pos rfl, List.getD_eq_getElem?_getD, List.getElem?_set_self hl]
    rfl
  · rw [if_neg e, List.getD_eq_getElem?_getD, List.getElem?_set_ne (fun q => e (idx_inj hm q).symm), ← List.getD_eq_getElem?_getD]
theorem RowOk.set {ord : List (Fin 8)} {ns : List Int} (h : RowOk ord ns) (j : Nat) {v : Int} (hv : v = 0 ∨ v = 1) : RowOk ord (ns.set j v) := by
  refine ⟨by rw [List.length_set]; exact h.1, fun x hx => ?_⟩
  rcases List.mem_or_eq_of_mem_set hx with q | rfl
  · exact h.2 x q
  · exact hv
theorem cut_take {xs : List V} {j : Nat} (h : j ≤ xs.length) : cutV xs none (some (j : Int)) = xs.take j := by
  unfold cutV
  rw [HT.sIx_none, HT.sIx_nat, Nat.min_eq_left h]
  simp
theorem cut_drop (xs : List V) (j : Nat) : cutV xs (some (j : Int)) none = xs.drop j := by
  unfold cutV
  rw [HT.sIx_none, HT.sIx_nat]
  by_cases h : j ≤ xs.length
  · rw [Nat.min_eq_left h]
    exact List.take_of_length_le (by rw [List.length_drop]; omega)
  · rw [Nat.min_eq_right (by omega), List.drop_of_length_le (by omega : xs.length ≤ j)]
    simp
theorem set_cut {α : Type} {xs : List α} {j : Nat} (h : j < xs.length) (v : α) : xs.take j ++ [v] ++ xs.drop (j + 1) = xs.set j v := by
  rw [List.set_eq_take_append_cons_drop, if_pos h]
  simp
end Db

/-! data as a whole: when two are one -/
namespace Db
open PySem PySem.Spec L2 PyProof.Rows
mutual
/-- data without truth values and dicts -/
def plD : PyData → Bool
  | .none => true
  | .int _ => true
  | .str _ => true
  | .list xs => plAll xs
  | .tuple xs => plAll xs
  | .bool _ => false
  | .dict _ => false
def plAll : List PyData → Bool
  | [] => true
  | x :: r => plD x && plAll r
end
mutual
theorem eqv_pl : ∀ {d e : PyData}, plD d = true → plD e = true → (PyData.eqv d e = true ↔ d = e)
  | .none, e, _, h => by cases e <;> simp [PyData.eqv, plD] at *
  | .int i, e, _, h => by cases e <;> simp [PyData.eqv, plD] at *
  | .str x, e, _, h => by cases e <;> simp [PyData.eqv, plD] at *
  | .list xs, e, hd, h => by
    cases e with
    | list ys =>
      rw [plD] at hd h
      rw [PyData.eqv, eqvAll_pl hd h]
      simp
    | _ => simp [PyData.eqv, plD] at *
  | .tuple xs, e, hd, h => by
    cases e with
    | tuple ys =>
      rw [plD] at hd h
      rw [PyData.eqv, eqvAll_pl hd h]
      simp
    | _ => simp [PyData.eqv, plD] at *
  | .bool _, _, h, _ => by simp [plD] at h
  | .dict _, _, h, _ => by simp [plD] at h
theorem eqvAll_pl : ∀ {d e : List PyData}, plAll d = true → plAll e = true → (PyData.eqvAll d e = true ↔ d = e)
  | [], [], _, _ => by simp [PyData.eqvAll]
  | [], _ :: _, _, _ => by simp [PyData.eqvAll]
  | _ :: _, [], _, _ => by simp [PyData.eqvAll]
  | x :: xs, y :: ys, hd, h => by
    rw [plAll, Bool.and_eq_true] at hd h
    rw [PyData.eqvAll, Bool.and_eq_true, eqv_pl hd.1 h.1, eqvAll_pl hd.2 h.2]
    simp
end
theorem eqv_dec {d e : PyData} (hd : plD d = true) (he : plD e = true) [Decidable (d = e)] : PyData.eqv d e = decide (d = e) := by
  by_cases h : d = e
  · rw [decide_eq_true h]
    exact (eqv_pl hd he).mpr h
  · rw [decide_eq_false h]
    exact Bool.eq_false_iff.mpr fun q => h ((eqv_pl hd he).mp q)
theorem eqv_same {d : PyData} (hd : plD d = true) : PyData.eqv d d = true := (eqv_pl hd hd).mpr rfl
theorem eqv_not {d e : PyData} (hd : plD d = true) (he : plD e = true) (h : d ≠ e) : PyData.eqv d e = false := Bool.eq_false_iff.mpr fun q => h ((eqv_pl hd he).mp q)
/-! ### lists of ints, of texts, of lists of ints -/
def datI (ns : List Int) : PyData := .list (ns.map .int)
def datS (xs : List Str) : PyData := .list (xs.map .str)
def datLL (rows : List (List Int)) : PyData := .list (rows.map datI)
theorem datI_inj {a b : List Int} (h : datI a = datI b) : a = b := by
  unfold datI at h
  injection h with h
  exact List.map_inj_right (fun x y e => by injection e) |>.mp h
theorem plAll_map {α : Type} {f : α → PyData} (h : ∀ x, plD (f x) = true) : ∀ l : List α, plAll (l.map f) = true
  | [] => by simp [plAll]
  | x :: r => by simp [plAll, h x, plAll_map h r]
theorem pl_datI (ns : List Int) : plD (datI ns) = true := by
  unfold datI
  rw [plD]
  exact plAll_map (fun _ => by simp [plD]) ns
theorem pl_datS (ns : List Str) : plD (datS ns) = true := by
  unfold datS
  rw [plD]
  exact plAll_map (fun _ => by simp [plD]) ns
theorem pl_datLL (rows : List (List Int)) : plD (datLL rows) = true := by
  unfold datLL
  rw [plD]
  exact plAll_map pl_datI rows
/-- may be laid, and is no deeper than n -/
def Shp (n : Nat) (d : PyData) : Prop := d.canLay0 = true ∧ d.depth ≤ n
theorem Shp.ok {n : Nat} {d : PyData} (h : Shp n d) (hn : n ≤ 64) : SeqAt.shaped d = true := by
  unfold SeqAt.shaped
  rw [h.1]
  simp
  exact Nat.le_trans h.2 hn
theorem shp_all {n : Nat} : ∀ {ds : List PyData}, (∀ d ∈ ds, Shp n d) → PyData.canLayAll0 ds = true ∧ PyData.depthAll ds ≤ n
  | [], _ => by simp [PyData.canLayAll0, PyData.depthAll]
  | d :: r, h => by
    obtain ⟨h1, h2⟩ := h d List.mem_cons_self
    obtain ⟨h3, h4⟩ := shp_all fun x hx => h x (List.mem_cons_of_mem _ hx)
    simp only [PyData.canLayAll0, PyData.depthAll, h1, h3]
    exact ⟨rfl, by omega⟩
theorem shp_list {n : Nat} {ds : List PyData} (h : ∀ d ∈ ds, Shp n d) : Shp (n + 1) (.list ds) := by
  obtain ⟨h1, h2⟩ := shp_all h
  exact ⟨by simp [PyData.canLay0, h1], by simp only [PyData.depth]; omega⟩
theorem shp_tuple {n : Nat} {ds : List PyData} (h : ∀ d ∈ ds, Shp n d) : Shp (n + 1) (.tuple ds) := by
  obtain ⟨h1, h2⟩ := shp_all h
  exact ⟨by simp [PyData.canLay0, h1], by simp only [PyData.depth]; omega⟩
theorem Shp.mono {m n : Nat} {d : PyData} (h : Shp m d) (hm : m ≤ n) : Shp n d := ⟨h.1, Nat.le_trans h.2 hm⟩
theorem shp_int (i : Int) : Shp 1 (.int i) := ⟨by simp [PyData.canLay0], by simp [PyData.depth]⟩
theorem shp_none : Shp 1 .none := ⟨by simp [PyData.canLay0], by simp [PyData.depth]⟩
theorem shp_str {x : Str} (h : PyData.strOk x = true) : Shp 1 (.str x) := ⟨by simp [PyData.canLay0, h], by simp [PyData.depth]⟩
theorem shp_datI (ns : List Int) : Shp 2 (datI ns) := shp_list fun d hd => by
  obtain ⟨i, _, rfl⟩ := List.mem_map.mp hd
  exact shp_int i
theorem shp_datLL (rows : List (List Int)) : Shp 3 (datLL rows) := shp_list fun d hd => by
  obtain ⟨i, _, rfl⟩ := List.mem_map.mp hd
  exact shp_datI i
section
variable {K : PySem.W.Frag} {H : Hp} {a : Addr}
theorem dp_I {ns : List Int} (h : SqL K H a (ns.map V.int)) : Dp K H (.ref a) (datI ns) := .lst h (by
  clear h
  induction ns with
  | nil => exact .nil
  | cons n r ih => exact .cons (.int n) ih)
theorem dp_S {ns : List Str} (h : SqL K H a (ns.map V.str)) : Dp K H (.ref a) (datS ns) := .lst h (by
  clear h
  induction ns with
  | nil => exact .nil
  | cons n r ih => exact .cons (.str n) ih)
theorem dp_paired {α : Type} {f : α → PyData} : ∀ {vs : List V} {xs : List α}, Paired (fun v x => Dp K H v (f x)) vs xs → DpAll K H vs (xs.map f)
  | _, _, .nil => .nil
  | _, _, .cons h t => .cons h (dp_paired t)
end
end Db

/-! the text by places, what the top has left -/
namespace Db
open PySem L2 PyProof.Rows
def topS (i : Nat) : Stmt := PySem.Challenge.pw_decidebook_k02_worths_of_sentences.main.body.getD i (.Pass ⟨0, 0, 0, 0⟩)
abbrev s_is_mark : Stmt := topS 11
abbrev n_is_mark : List Str := ["text"]
abbrev p_is_mark : List Str := ["text"]
theorem sc_is_mark : FnScope n_is_mark p_is_mark (defScope s_is_mark) := ⟨rfl, rfl, rfl, by decide +kernel, rfl, by decide +kernel, by decide +kernel⟩
abbrev s_is_order : Stmt := topS 12
abbrev n_is_order : List Str := ["order", "mark"]
abbrev p_is_order : List Str := ["order"]
theorem sc_is_order : FnScope n_is_order p_is_order (defScope s_is_order) := ⟨rfl, rfl, rfl, by decide +kernel, rfl, by decide +kernel, by decide +kernel⟩
abbrev s_ask_order : Stmt := topS 13
abbrev n_ask_order : List Str := ["order"]
abbrev p_ask_order : List Str := ["order"]
theorem sc_ask_order : FnScope n_ask_order p_ask_order (defScope s_ask_order) := ⟨rfl, rfl, rfl, by decide +kernel, rfl, by decide +kernel, by decide +kernel⟩
abbrev s_pieces_of : Stmt := topS 14
abbrev n_pieces_of : List Str := ["sentence"]
abbrev p_pieces_of : List Str := ["sentence"]
theorem sc_pieces_of : FnScope n_pieces_of p_pieces_of (defScope s_pieces_of) := ⟨rfl, rfl, rfl, by decide +kernel, rfl, by decide +kernel, by decide +kernel⟩
abbrev s_well_made : Stmt := topS 15
abbrev n_well_made : List Str := ["some", "piece"]
abbrev p_well_made : List Str := ["some"]
theorem sc_well_made : FnScope n_well_made p_well_made (defScope s_well_made) := ⟨rfl, rfl, rfl, by decide +kernel, rfl, by decide +kernel, by decide +kernel⟩
abbrev s_count : Stmt := topS 16
abbrev n_count : List Str := ["sentence", "piece"]
abbrev p_count : List Str := ["sentence"]
theorem sc_count : FnScope n_count p_count (defScope s_count) := ⟨rfl, rfl, rfl, by decide +kernel, rfl, by decide +kernel, by decide +kernel⟩
abbrev s_deep : Stmt := topS 17
abbrev n_deep : List Str := ["sentence", "piece"]
abbrev p_deep : List Str := ["sentence"]
theorem sc_deep : FnScope n_deep p_deep (defScope s_deep) := ⟨rfl, rfl, rfl, by decide +kernel, rfl, by decide +kernel, by decide +kernel⟩
abbrev s_is_sentence : Stmt := topS 18
abbrev n_is_sentence : List Str := ["some"]
abbrev p_is_sentence : List Str := ["some"]
theorem sc_is_sentence : FnScope n_is_sentence p_is_sentence (defScope s_is_sentence) := ⟨rfl, rfl, rfl, by decide +kernel, rfl, by decide +kernel, by decide +kernel⟩
abbrev s_ask_sentence : Stmt := topS 19
abbrev n_ask_sentence : List Str := ["sentence"]
abbrev p_ask_sentence : List Str := ["sentence"]
theorem sc_ask_sentence : FnScope n_ask_sentence p_ask_sentence (defScope s_ask_sentence) := ⟨rfl, rfl, rfl, by decide +kernel, rfl, by decide +kernel, by decide +kernel⟩
abbrev s_named : Stmt := topS 20
abbrev n_named : List Str := ["sentence", "found", "piece"]
abbrev p_named : List Str := ["sentence"]
theorem sc_named : FnScope n_named p_named (defScope s_named) := ⟨rfl, rfl, rfl, by decide +kernel, rfl, by decide +kernel, by decide +kernel⟩
abbrev s_marks_of : Stmt := topS 21
abbrev n_marks_of : List Str := ["sentence", "mark"]
abbrev p_marks_of : List Str := ["sentence"]
theorem sc_marks_of : FnScope n_marks_of p_marks_of (defScope s_marks_of) := ⟨rfl, rfl, rfl, by decide +kernel, rfl, by decide +kernel, by decide +kernel⟩
abbrev s_ask_marks : Stmt := topS 22
abbrev n_ask_marks : List Str := ["sentence", "order", "mark"]
abbrev p_ask_marks : List Str := ["sentence", "order"]
theorem sc_ask_marks : FnScope n_ask_marks p_ask_marks (defScope s_ask_marks) := ⟨rfl, rfl, rfl, by decide +kernel, rfl, by decide +kernel, by decide +kernel⟩
abbrev s_ask_row : Stmt := topS 23
abbrev n_ask_row : List Str := ["order", "row", "value"]
abbrev p_ask_row : List Str := ["order", "row"]
theorem sc_ask_row : FnScope n_ask_row p_ask_row (defScope s_ask_row) := ⟨rfl, rfl, rfl, by decide +kernel, rfl, by decide +kernel, by decide +kernel⟩
abbrev s_joined_worth : Stmt := topS 24
abbrev n_joined_worth : List Str := ["word", "one", "other"]
abbrev p_joined_worth : List Str := ["word", "one", "other"]
theorem sc_joined_worth : FnScope n_joined_worth p_joined_worth (defScope s_joined_worth) := ⟨rfl, rfl, rfl, by decide +kernel, rfl, by decide +kernel, by decide +kernel⟩
abbrev s_value_at : Stmt := topS 25
abbrev n_value_at : List Str := ["sentence", "order", "row", "word", "at", "values", "value"]
abbrev p_value_at : List Str := ["sentence", "order", "row"]
theorem sc_value_at : FnScope n_value_at p_value_at (defScope s_value_at) := ⟨rfl, rfl, rfl, by decide +kernel, rfl, by decide +kernel, by decide +kernel⟩
abbrev s_worth : Stmt := topS 26
abbrev n_worth : List Str := ["sentence", "order", "row"]
abbrev p_worth : List Str := ["sentence", "order", "row"]
theorem sc_worth : FnScope n_worth p_worth (defScope s_worth) := ⟨rfl, rfl, rfl, by decide +kernel, rfl, by decide +kernel, by decide +kernel⟩
abbrev s__law_cell_at : Stmt := topS 28
abbrev n__law_cell_at : List Str := ["script", "k"]
abbrev p__law_cell_at : List Str := ["script", "k"]
theorem sc__law_cell_at : FnScope n__law_cell_at p__law_cell_at (defScope s__law_cell_at) := ⟨rfl, rfl, rfl, by decide +kernel, rfl, by decide +kernel, by decide +kernel⟩
abbrev s__law_whole : Stmt := topS 29
abbrev n__law_whole : List Str := ["found"]
abbrev p__law_whole : List Str := ["found"]
theorem sc__law_whole : FnScope n__law_whole p__law_whole (defScope s__law_whole) := ⟨rfl, rfl, rfl, by decide +kernel, rfl, by decide +kernel, by decide +kernel⟩
abbrev s__law_draw : Stmt := topS 30
abbrev n__law_draw : List Str := ["cell", "k", "bound", "left", "j", "stir"]
abbrev p__law_draw : List Str := ["cell", "k", "bound"]
theorem sc__law_draw : FnScope n__law_draw p__law_draw (defScope s__law_draw) := ⟨rfl, rfl, rfl, by decide +kernel, rfl, by decide +kernel, by decide +kernel⟩
abbrev s__law_order : Stmt := topS 31
abbrev n__law_order : List Str := ["cell", "limit", "found", "k"]
abbrev p__law_order : List Str := ["cell", "limit"]
theorem sc__law_order : FnScope n__law_order p__law_order (defScope s__law_order) := ⟨rfl, rfl, rfl, by decide +kernel, rfl, by decide +kernel, by decide +kernel⟩
abbrev s__law_sentence : Stmt := topS 32
abbrev n__law_sentence : List Str := ["script", "at", "many", "order", "kinds", "made", "k", "cell", "kind", "one", "other", "letter"]
abbrev p__law_sentence : List Str := ["script", "at", "many", "order"]
theorem sc__law_sentence : FnScope n__law_sentence p__law_sentence (defScope s__law_sentence) := ⟨rfl, rfl, rfl, by decide +kernel, rfl, by decide +kernel, by decide +kernel⟩
abbrev s__law_count : Stmt := topS 33
abbrev n__law_count : List Str := ["sentence", "piece"]
abbrev p__law_count : List Str := ["sentence"]
theorem sc__law_count : FnScope n__law_count p__law_count (defScope s__law_count) := ⟨rfl, rfl, rfl, by decide +kernel, rfl, by decide +kernel, by decide +kernel⟩
abbrev s__law_short : Stmt := topS 34
abbrev n__law_short : List Str := ["script", "at", "many", "order", "some"]
abbrev p__law_short : List Str := ["script", "at", "many", "order"]
theorem sc__law_short : FnScope n__law_short p__law_short (defScope s__law_short) := ⟨rfl, rfl, rfl, by decide +kernel, rfl, by decide +kernel, by decide +kernel⟩
abbrev s__law_value : Stmt := topS 35
abbrev n__law_value : List Str := ["sentence", "order", "row", "word", "values", "value", "turned_row", "one", "other"]
abbrev p__law_value : List Str := ["sentence", "order", "row"]
theorem sc__law_value : FnScope n__law_value p__law_value (defScope s__law_value) := ⟨rfl, rfl, rfl, by decide +kernel, rfl, by decide +kernel, by decide +kernel⟩
abbrev s_law : Stmt := topS 36
abbrev n_law : List Str := ["script", "order", "some", "row", "k", "handed", "found"]
abbrev p_law : List Str := ["script"]
theorem sc_law : FnScope n_law p_law (defScope s_law) := ⟨rfl, rfl, rfl, by decide +kernel, rfl, by decide +kernel, by decide +kernel⟩
/-- what the top has left: the defs, classes and constants -/
structure Top (w : World) (K : PySem.W.Frag) (mg : Str → Option Value) where
  f_is_mark : Addr
  fd_is_mark : FuncData
  F_is_mark : Fun K "is_mark" "is_mark" s_is_mark f_is_mark fd_is_mark
  b_is_mark : Binds K fd_is_mark p_is_mark []
  m_is_mark : mg "is_mark" = some (.ref f_is_mark)
  f_is_order : Addr
  fd_is_order : FuncData
  F_is_order : Fun K "is_order" "is_order" s_is_order f_is_order fd_is_order
  b_is_order : Binds K fd_is_order p_is_order []
  m_is_order : mg "is_order" = some (.ref f_is_order)
  f_ask_order : Addr
  fd_ask_order : FuncData
  F_ask_order : Fun K "ask_order" "ask_order" s_ask_order f_ask_order fd_ask_order
  b_ask_order : Binds K fd_ask_order p_ask_order []
  m_ask_order : mg "ask_order" = some (.ref f_ask_order)
  f_pieces_of : Addr
  fd_pieces_of : FuncData
  F_pieces_of : Fun K "pieces_of" "pieces_of" s_pieces_of f_pieces_of fd_pieces_of
  b_pieces_of : Binds K fd_pieces_of p_pieces_of []
  m_pieces_of : mg "pieces_of" = some (.ref f_pieces_of)
  f_well_made : Addr
  fd_well_made : FuncData
  F_well_made : Fun K "well_made" "well_made" s_well_made f_well_made fd_well_made
  b_well_made : Binds K fd_well_made p_well_made []
  m_well_made : mg "well_made" = some (.ref f_well_made)
  f_count : Addr
  fd_count : FuncData
  F_count : Fun K "count" "count" s_count f_count fd_count
  b_count : Binds K fd_count p_count []
  m_count : mg "count" = some (.ref f_count)
  f_deep : Addr
  fd_deep : FuncData
  F_deep : Fun K "deep" "deep" s_deep f_deep fd_deep
  b_deep : Binds K fd_deep p_deep []
  m_deep : mg "deep" = some (.ref f_deep)
  f_is_sentence : Addr
  fd_is_sentence : FuncData
  F_is_sentence : Fun K "is_sentence" "is_sentence" s_is_sentence f_is_sentence fd_is_sentence
  b_is_sentence : Binds K fd_is_sentence p_is_sentence []
  m_is_sentence : mg "is_sentence" = some (.ref f_is_sentence)
  f_ask_sentence : Addr
  fd_ask_sentence : FuncData
  F_ask_sentence : Fun K "ask_sentence" "ask_sentence" s_ask_sentence f_ask_sentence fd_ask_sentence
  b_ask_sentence : Binds K fd_ask_sentence p_ask_sentence []
  m_ask_sentence : mg "ask_sentence" = some (.ref f_ask_sentence)
  f_named : Addr
  fd_named : FuncData
  F_named : Fun K "named" "named" s_named f_named fd_named
  b_named : Binds K fd_named p_named []
  m_named : mg "named" = some (.ref f_named)
  f_marks_of : Addr
  fd_marks_of : FuncData
  F_marks_of : Fun K "marks_of" "marks_of" s_marks_of f_marks_of fd_marks_of
  b_marks_of : Binds K fd_marks_of p_marks_of []
  m_marks_of : mg "marks_of" = some (.ref f_marks_of)
  f_ask_marks : Addr
  fd_ask_marks : FuncData
  F_ask_marks : Fun K "ask_marks" "ask_marks" s_ask_marks f_ask_marks fd_ask_marks
  b_ask_marks : Binds K fd_ask_marks p_ask_marks []
  m_ask_marks : mg "ask_marks" = some (.ref f_ask_marks)
  f_ask_row : Addr
  fd_ask_row : FuncData
  F_ask_row : Fun K "ask_row" "ask_row" s_ask_row f_ask_row fd_ask_row
  b_ask_row : Binds K fd_ask_row p_ask_row []
  m_ask_row : mg "ask_row" = some (.ref f_ask_row)
  f_joined_worth : Addr
  fd_joined_worth : FuncData
  F_joined_worth : Fun K "joined_worth" "joined_worth" s_joined_worth f_joined_worth fd_joined_worth
  b_joined_worth : Binds K fd_joined_worth p_joined_worth []
  m_joined_worth : mg "joined_worth" = some (.ref f_joined_worth)
  f_value_at : Addr
  fd_value_at : FuncData
  F_value_at : Fun K "value_at" "value_at" s_value_at f_value_at fd_value_at
  b_value_at : Binds K fd_value_at p_value_at []
  m_value_at : mg "value_at" = some (.ref f_value_at)
  f_worth : Addr
  fd_worth : FuncData
  F_worth : Fun K "worth" "worth" s_worth f_worth fd_worth
  b_worth : Binds K fd_worth p_worth []
  m_worth : mg "worth" = some (.ref f_worth)
  f__law_cell_at : Addr
  fd__law_cell_at : FuncData
  F__law_cell_at : Fun K "_law_cell_at" "_law_cell_at" s__law_cell_at f__law_cell_at fd__law_cell_at
  b__law_cell_at : Binds K fd__law_cell_at p__law_cell_at []
  m__law_cell_at : mg "_law_cell_at" = some (.ref f__law_cell_at)
  f__law_whole : Addr
  fd__law_whole : FuncData
  F__law_whole : Fun K "_law_whole" "_law_whole" s__law_whole f__law_whole fd__law_whole
  b__law_whole : Binds K fd__law_whole p__law_whole []
  m__law_whole : mg "_law_whole" = some (.ref f__law_whole)
  f__law_draw : Addr
  fd__law_draw : FuncData
  F__law_draw : Fun K "_law_draw" "_law_draw" s__law_draw f__law_draw fd__law_draw
  b__law_draw : Binds K fd__law_draw p__law_draw []
  m__law_draw : mg "_law_draw" = some (.ref f__law_draw)
  f__law_order : Addr
  fd__law_order : FuncData
  F__law_order : Fun K "_law_order" "_law_order" s__law_order f__law_order fd__law_order
  b__law_order : Binds K fd__law_order p__law_order []
  m__law_order : mg "_law_order" = some (.ref f__law_order)
  f__law_sentence : Addr
  fd__law_sentence : FuncData
  F__law_sentence : Fun K "_law_sentence" "_law_sentence" s__law_sentence f__law_sentence fd__law_sentence
  b__law_sentence : Binds K fd__law_sentence p__law_sentence []
  m__law_sentence : mg "_law_sentence" = some (.ref f__law_sentence)
  f__law_count : Addr
  fd__law_count : FuncData
  F__law_count : Fun K "_law_count" "_law_count" s__law_count f__law_count fd__law_count
  b__law_count : Binds K fd__law_count p__law_count []
  m__law_count : mg "_law_count" = some (.ref f__law_count)
  f__law_short : Addr
  fd__law_short : FuncData
  F__law_short : Fun K "_law_short" "_law_short" s__law_short f__law_short fd__law_short
  b__law_short : Binds K fd__law_short p__law_short []
  m__law_short : mg "_law_short" = some (.ref f__law_short)
  f__law_value : Addr
  fd__law_value : FuncData
  F__law_value : Fun K "_law_value" "_law_value" s__law_value f__law_value fd__law_value
  b__law_value : Binds K fd__law_value p__law_value []
  m__law_value : mg "_law_value" = some (.ref f__law_value)
  f_law : Addr
  fd_law : FuncData
  F_law : Fun K "law" "law" s_law f_law fd_law
  b_law : Binds K fd_law p_law []
  m_law : mg "law" = some (.ref f_law)
  C_BookError : Addr
  m_BookError : mg "BookError" = some (.ref C_BookError)
  k_BookError : PySem.W.keepIn K (.ref C_BookError) = true
  x_BookError : PySem.W.excIn K C_BookError [.type "ValueError", .type "Exception", .type "BaseException", .type "object"] "ValueError.__new__" = true
  bb_BookError : PySem.W.subIn K (.ref C_BookError) (.type "BaseException") = some true
  tt_BookError : PySem.W.typeIn K (.ref C_BookError) = some (.type "type")
  C_NoOrder : Addr
  m_NoOrder : mg "NoOrder" = some (.ref C_NoOrder)
  k_NoOrder : PySem.W.keepIn K (.ref C_NoOrder) = true
  x_NoOrder : PySem.W.excIn K C_NoOrder [.type "ValueError", .type "Exception", .type "BaseException", .type "object"] "ValueError.__new__" = true
  bb_NoOrder : PySem.W.subIn K (.ref C_NoOrder) (.type "BaseException") = some true
  tt_NoOrder : PySem.W.typeIn K (.ref C_NoOrder) = some (.type "type")
  C_NoSentence : Addr
  m_NoSentence : mg "NoSentence" = some (.ref C_NoSentence)
  k_NoSentence : PySem.W.keepIn K (.ref C_NoSentence) = true
  x_NoSentence : PySem.W.excIn K C_NoSentence [.type "ValueError", .type "Exception", .type "BaseException", .type "object"] "ValueError.__new__" = true
  bb_NoSentence : PySem.W.subIn K (.ref C_NoSentence) (.type "BaseException") = some true
  tt_NoSentence : PySem.W.typeIn K (.ref C_NoSentence) = some (.type "type")
  C_NoMark : Addr
  m_NoMark : mg "NoMark" = some (.ref C_NoMark)
  k_NoMark : PySem.W.keepIn K (.ref C_NoMark) = true
  x_NoMark : PySem.W.excIn K C_NoMark [.type "ValueError", .type "Exception", .type "BaseException", .type "object"] "ValueError.__new__" = true
  bb_NoMark : PySem.W.subIn K (.ref C_NoMark) (.type "BaseException") = some true
  tt_NoMark : PySem.W.typeIn K (.ref C_NoMark) = some (.type "type")
  C_NoRow : Addr
  m_NoRow : mg "NoRow" = some (.ref C_NoRow)
  k_NoRow : PySem.W.keepIn K (.ref C_NoRow) = true
  x_NoRow : PySem.W.excIn K C_NoRow [.type "ValueError", .type "Exception", .type "BaseException", .type "object"] "ValueError.__new__" = true
  bb_NoRow : PySem.W.subIn K (.ref C_NoRow) (.type "BaseException") = some true
  tt_NoRow : PySem.W.typeIn K (.ref C_NoRow) = some (.type "type")
  z_len : mg "len" = none
  z_isinstance : mg "isinstance" = none
  z_sum : mg "sum" = none
  z_all : mg "all" = none
  z_max : mg "max" = none
  z_min : mg "min" = none
  z_sorted : mg "sorted" = none
  z_int : mg "int" = none
  z_str : mg "str" = none
  z_list : mg "list" = none
  z_dict : mg "dict" = none
  z_tuple : mg "tuple" = none
  z_set : mg "set" = none
  z_range : mg "range" = none
  z_bool : mg "bool" = none
  z_ValueError : mg "ValueError" = none
  t_LETTERS : Tok
  mg_LETTERS : mg "LETTERS" = some (.str "abcdefgh" t_LETTERS)
  t_MOST_WORDS : Tok
  mg_MOST_WORDS : mg "MOST_WORDS" = some (.int (200) t_MOST_WORDS)
  t_MOST_DEEP : Tok
  mg_MOST_DEEP : mg "MOST_DEEP" = some (.int (24) t_MOST_DEEP)
  a_PIECES : Addr
  mg_PIECES : mg "PIECES" = some (.ref a_PIECES)
  es_PIECES : Array DictEntry
  n_PIECES : Nat
  d_PIECES : KDict K w a_PIECES es_PIECES n_PIECES
  t_PIECES_yes : Tok
  e_PIECES_yes : PySem.W.nsIn K a_PIECES "yes" = some (some (.int (0) t_PIECES_yes))
  t_PIECES_no : Tok
  e_PIECES_no : PySem.W.nsIn K a_PIECES "no" = some (some (.int (0) t_PIECES_no))
  t_PIECES_not : Tok
  e_PIECES_not : PySem.W.nsIn K a_PIECES "not" = some (some (.int (1) t_PIECES_not))
  t_PIECES_and : Tok
  e_PIECES_and : PySem.W.nsIn K a_PIECES "and" = some (some (.int (2) t_PIECES_and))
  t_PIECES_or : Tok
  e_PIECES_or : PySem.W.nsIn K a_PIECES "or" = some (some (.int (2) t_PIECES_or))
  t_PIECES_either : Tok
  e_PIECES_either : PySem.W.nsIn K a_PIECES "either" = some (some (.int (2) t_PIECES_either))
  t_PIECES_if : Tok
  e_PIECES_if : PySem.W.nsIn K a_PIECES "if" = some (some (.int (2) t_PIECES_if))
  o_PIECES : ∀ z : Str, z ≠ "yes" → z ≠ "no" → z ≠ "not" → z ≠ "and" → z ≠ "or" → z ≠ "either" → z ≠ "if" → PySem.W.nsIn K a_PIECES z = some none
end Db

/-! sentences.py: the defs that every law calls -/
namespace Db
open PySem L2 PyProof.Rows
section
variable {P : Program} {w : World} {K : PySem.W.Frag} {mg : Str → Option Value} {base : Heap}
def spIsMark : Sp := fun vs H Q _ => ∃ s : Str, vs = [.str s] ∧ s.length ≤ sizeLine ∧ Q (.bl (isMarkS s)) H
theorem isMark_len {s : Str} (h : ¬ s.length = 1) : isMarkS s = false := by
  cases e : isMarkS s with
  | false => rfl
  | true =>
    obtain ⟨i, rfl⟩ := isMarkS_iff.mp e
    exact absurd (ltr_len i) h
theorem isMark_one (c : Nat) : isMarkS ⟨#[c]⟩ = decide (c ∈ ("abcdefgh" : Str).cps.toList) := by
  have e : ("abcdefgh" : Str).cps.toList = [97, 98, 99, 100, 101, 102, 103, 104] := by decide +kernel
  rw [e]
  by_cases h : ∃ i : Fin 8, (⟨#[c]⟩ : Str) = ltr i
  · obtain ⟨i, hi⟩ := h
    rw [show isMarkS ⟨#[c]⟩ = true from decide_eq_true ⟨i, hi⟩]
    have hc : c = 97 + i.val := by
      have := congrArg Str.cps hi
      simpa [ltr] using this
    have : i.val < 8 := i.isLt
    subst hc
    symm
    simp
    omega
  · rw [show isMarkS ⟨#[c]⟩ = false from decide_eq_false h]
    symm
    rw [decide_eq_false_iff_not]
    intro m
    refine h ⟨⟨c - 97, ?_⟩, ?_⟩
    · simp at m; omega
    · simp at m
      unfold ltr
      simp
      omega
theorem str_one {s : Str} (h : s.length = 1) : ∃ c, s = ⟨#[c]⟩ := by
  obtain ⟨a⟩ := s
  have h : a.size = 1 := h
  exact ⟨a[0], by simp [Array.ext_iff, h]; intro i hi; have : i = 0 := by omega
                  subst this; rfl⟩
theorem ok_is_mark (T : Top w K mg) : FnOk P w K mg base (L2.CX P w) 1 T.f_is_mark T.fd_is_mark p_is_mark spIsMark := by
  refine T.F_is_mark.okX sc_is_mark (fun vs H Q E h => ?_) (fun cdv A outer s H vs Q E hr h => ?_)
  · obtain ⟨s, rfl, _⟩ := h
    rfl
  obtain ⟨z, rfl, hz, k⟩ := h
  refine ⟨_, (pss_one (ps_ret (pe_and (pe_cmpR op_eq (pe_callB (id := "len") call_len_str (by rfl) T.z_len (by decide +kernel) (pa_cons (pv 0) pa_nil)) pe_int (nomark _)) (pe_one (pe_cmpR op_in_sign (pv 0) (pe_glob (v := .str "abcdefgh") (by rfl) T.mg_LETTERS ⟨_, rfl⟩) (by rfl)))))), ?_⟩
  walk_at "go"
  refine ite2 (fun c => ?_) (fun c => ?_)
  · have c' : z.length = 1 := by simp at c; omega
    obtain ⟨d, rfl⟩ := str_one c'
    rw [isMark_one] at k
    exact ⟨_, rfl, d, _, rfl, rfl, k⟩
  · have c' : ¬ z.length = 1 := by simp at c; omega
    rw [isMark_len c'] at k
    exact k
def isOrderS (xs : List Str) : Bool := !xs.isEmpty && xs.all isMarkS && decide xs.Nodup
def spIsOrder (K : PySem.W.Frag) : Sp := fun vs H Q _ => ∃ a xs, vs = [.ref a] ∧ SqL K H a (xs.map V.str) ∧ xs.length ≤ 700 ∧ (∀ x ∈ xs, x.length ≤ sizeLine) ∧ ∀ H', Fr [] H H' → Q (.bl (isOrderS xs)) H'
theorem map_strs {f : V → V} {g : Str → V} (h : ∀ x, f (.str x) = g x) (xs : List Str) : (xs.map V.str).map f = xs.map g := by
  rw [List.map_map]
  exact List.map_congr_left fun x _ => h x
theorem at_map {α : Type} {f : α → V} {xs : List α} {i : Nat} {v : V} (e : (xs.map f)[i]? = some v) : ∃ x, xs[i]? = some x ∧ v = f x := by
  rw [List.getElem?_map] at e
  cases q : xs[i]? with
  | none => rw [q] at e; cases e
  | some x => rw [q] at e; exact ⟨x, rfl, (Option.some.inj e).symm⟩
/-- is_mark of a value -/
def markV : V → V
  | .str s => .bl (isMarkS s)
  | v => v
theorem ok_is_order (T : Top w K mg) : FnOk P w K mg base (L2.CX P w) 2 T.f_is_order T.fd_is_order p_is_order (spIsOrder K) := by
  have G_is_mark := ok_is_mark (P := P) (base := base) T
  refine T.F_is_order.okX sc_is_order (fun vs H Q E h => ?_) (fun cdv A outer s H vs Q E hr h => ?_)
  · obtain ⟨a, xs, rfl, _⟩ := h
    rfl
  obtain ⟨a, xs, rfl, hS, hl, hx, k⟩ := h
  refine ⟨_, (pss_cons (ps_if (PW.pt (pw_or (pt_cmpR op_eq (pe_callB (id := "len") (k_len (K := K) rfl) (by rfl) T.z_len (by decide +kernel) (pa_cons (pv 0) pa_nil)) pe_int (nomark _)) (pw_or1 (pt_not (pt_val (pe_callB (id := "all") (k_all (K := K) rfl rfl) (by rfl) T.z_all (by decide +kernel) (pa_cons (pe_lc (own := [("mark", 1)]) (g := gName 1) (tt := tYes) rfl sc_is_order.nd (pi_list (pv 0)) (blkOk_by (own := [("mark", 1)]) (N := n_is_order) (sc := defScope s_is_order) (by decide +kernel)) (fun _ _ _ _ _ => (pg_name (i := 1) sc_is_order.nd rfl (.inl rfl))) (fun _ _ _ _ _ => pts_nil) (fun _ _ _ _ _ => (pe_call G_is_mark (hr.mono (by omega)) (by rfl) T.m_is_mark T.F_is_mark.kp T.b_is_mark .nil passL (pa_cons (pv 1) pa_nil)))) pa_nil))))))) (pss_one (ps_ret pe_bl)) pss_nil)
    (pss_one (ps_ret (pe_cmpR op_eq (pe_lenSetS (by rfl) T.z_len (by rfl) T.z_set (pv 0)) (pe_callB (id := "len") (k_len (K := K) rfl) (by rfl) T.z_len (by decide +kernel) (pa_cons (pv 0) pa_nil)) (nomark _))))), ?_⟩
  have hlen : (xs.map V.str).length = xs.length := List.length_map _
  walk_at "go"
  refine ite2 (fun c => ?_) (fun c => ?_)
  · have e : xs = [] := by
      simp at c
      exact c
    subst e
    exact k H Fr.refl
  · have hne : xs.isEmpty = false := by
      cases xs with
      | nil => exact absurd rfl c
      | cons x r => rfl
    refine ⟨_, rfl, a, rfl, ⟨_, hS⟩, fun D hD => ?_⟩
    refine lc_pure markV hD hS (by omega) (fun i x H1 e f Q' k' => ?_) (fun H1 f e => ?_)
    · obtain ⟨z, hz, rfl⟩ := at_map e
      exact ⟨_, rfl, z, rfl, hx z (List.mem_of_getElem? hz), k' H1 Fr.refl⟩
    · rw [map_strs (g := fun s => V.bl (isMarkS s)) (fun _ => rfl)] at e
      have e' : H1 D = some (.lst ((xs.map isMarkS).map V.bl)) := by rw [e, List.map_map]; rfl
      refine ⟨D, _, rfl, SqL.of e', _, rfl, ?_⟩
      have hall : (xs.map isMarkS).all id = xs.all isMarkS := by simp [List.all_map]
      rw [hall]
      cases ha : xs.all isMarkS with
      | false =>
        have q := k H1 f
        rw [show isOrderS xs = false by simp [isOrderS, ha]] at q
        exact q
      | true =>
        refine ⟨_, rfl, a, xs, rfl, f.seq hS, hl, _, rfl, a, _, rfl, .inl (f.seq hS), rfl, ?_⟩
        have q := k H1 f
        have e2 : isOrderS xs = decide (V.int ((unl xs).length : Nat) = V.int ((xs.map V.str).length : Nat)) := by
          unfold isOrderS
          rw [ha, hne, hlen]
          have u := unl_all (xs := xs)
          by_cases n : xs.Nodup
          · simp [n, u.mpr n]
          · have : ¬ (unl xs).length = xs.length := fun z => n (u.mp z)
            simp [n]
            omega
        rw [e2] at q
        exact q
end
end Db

/-! sentences.py: parts, counts, depth -/
namespace Db
open PySem L2 PyProof.Rows
theorem Sen.w_mark {s : Sen} (h : s.w = "mark") : ∃ m, s = .mark m := by
  cases s with
  | mark m => exact ⟨m, rfl⟩
  | bin o s t => exfalso; revert h; cases o <;> simp only [Sen.w, Bop.w] <;> decide +kernel
  | qu e m s => exfalso; revert h; cases e <;> simp only [Sen.w, quW] <;> decide +kernel
  | _ => exfalso; revert h; simp only [Sen.w]; decide +kernel
theorem Sen.w_qu {s : Sen} (h : s.w = "some" ∨ s.w = "each") : ∃ e m t, s = .qu e m t := by
  cases s with
  | qu e m s => exact ⟨e, m, s, rfl⟩
  | bin o s t => exfalso; revert h; cases o <;> simp only [Sen.w, Bop.w] <;> decide +kernel
  | _ => exfalso; revert h; simp only [Sen.w]; decide +kernel
theorem Sen.w_yn {s : Sen} (h : s.w = "yes" ∨ s.w = "no") : s = .yes ∨ s = .no := by
  cases s with
  | yes => exact .inl rfl
  | no => exact .inr rfl
  | qu e m s => exfalso; revert h; cases e <;> simp only [Sen.w, quW] <;> decide +kernel
  | bin o s t => exfalso; revert h; cases o <;> simp only [Sen.w, Bop.w] <;> decide +kernel
  | _ => exfalso; revert h; simp only [Sen.w]; decide +kernel
theorem vstr {a b : Str} : (V.str a = V.str b) ↔ a = b := ⟨fun h => by injection h, fun h => by rw [h]⟩
theorem dstr {a b : Str} : decide (V.str a = V.str b) = decide (a = b) := by
  by_cases h : a = b
  · simp [h]
  · simp [h]
theorem inV_strs {z : Str} {ws : List Str} : inV (.str z) (ws.map V.str) = decide (z ∈ ws) := by
  unfold inV
  rw [List.any_map]
  by_cases h : z ∈ ws
  · rw [decide_eq_true h, List.any_eq_true]
    exact ⟨z, h, by simp [eqV]⟩
  · rw [decide_eq_false h, List.any_eq_false]
    intro x hx e
    have : x = z := by simpa [eqV] using e
    exact h (this ▸ hx)
theorem inV2 {z a b : Str} : inV (.str z) [.str a, .str b] = decide (z = a ∨ z = b) := by
  have := inV_strs (z := z) (ws := [a, b])
  simpa using this
section
variable {P : Program} {w : World} {K : PySem.W.Frag} {mg : Str → Option Value} {base : Heap}
def spAskOrder (K : PySem.W.Frag) (C : Addr) : Sp := fun vs H Q E => ∃ a xs, vs = [.ref a] ∧ SqL K H a (xs.map V.str) ∧ xs.length ≤ 700 ∧ (∀ x ∈ xs, x.length ≤ sizeLine) ∧
  (isOrderS xs = true → ∀ H', Fr [] H H' → Q .non H') ∧ (isOrderS xs = false → ∀ H', Fr [] H H' → E (.ref C) none H')
def spPieces : Sp := fun vs H Q _ => ∃ v s, vs = [v] ∧ SenAt H v s ∧ ∀ H' l us, Fr [] H H' → H l = none → H' l = some (.lst us) → Paired (fun u t => SenAt H' u t) us s.kids → Q (.ref l) H'
theorem senUp {S : List Addr} {H H' : Hp} {us : List V} {ts : List Sen} (f : Fr S H H') (p : Paired (fun u t => SenAt H u t) us ts) : Paired (fun u t => SenAt H' u t) us ts :=
  Paired.mapP p fun _ _ q => q.fr f
theorem cut1 (xs : List V) : cutV xs (some 1) none = xs.drop 1 := by
  unfold cutV
  rw [show HT.sIx xs.length 0 (some 1) = min 1 xs.length from HT.sIx_nat xs.length 0 1, HT.sIx_none]
  cases xs with
  | nil => rfl
  | cons x r =>
    rw [show min 1 (x :: r).length = 1 by rw [List.length_cons]; omega]
    show List.take ((x :: r).length - 1) r = r
    rw [List.length_cons, Nat.add_sub_cancel, List.take_length]
theorem cut1_not (x : V) (r : List V) : ¬ (HT.sIx (x :: r).length 0 (some 1) = 0 ∧ HT.sIx (x :: r).length (x :: r).length none = (x :: r).length) := by
  rw [show HT.sIx (x :: r).length 0 (some 1) = min 1 (x :: r).length from HT.sIx_nat (x :: r).length 0 1, List.length_cons]
  omega
theorem ok_ask_order (T : Top w K mg) : FnOk P w K mg base (L2.CX P w) 3 T.f_ask_order T.fd_ask_order p_ask_order (spAskOrder K T.C_NoOrder) := by
  have G_is_order := ok_is_order (P := P) (base := base) T
  refine T.F_ask_order.okX sc_ask_order (fun vs H Q E h => ?_) (fun cdv A outer s H vs Q E hr h => ?_)
  · obtain ⟨a, xs, rfl, _⟩ := h
    rfl
  obtain ⟨a, xs, rfl, hS, hl, hx, k1, k2⟩ := h
  refine ⟨_, (pss_one (ps_if (pt_not (pt_val (pe_call G_is_order (hr.mono (by omega)) (by rfl) T.m_is_order T.F_is_order.kp T.b_is_order .nil passL (pa_cons (pv 0) pa_nil)))) (pss_one (ps_raise rfl (takes_of rfl rfl rfl rfl) (pmk_own PySem.F.excBase_ValueError T.x_NoOrder T.m_NoOrder T.k_NoOrder (raises_own T.bb_NoOrder T.tt_NoOrder) rfl))) pss_nil)), ?_⟩
  refine ⟨_, rfl, a, xs, rfl, hS, hl, hx, fun H' f => ⟨_, rfl, ?_⟩⟩
  cases e : isOrderS xs with
  | true => exact k1 e H' f
  | false => exact k2 e H' f
theorem ok_pieces_of (T : Top w K mg) : FnOk P w K mg base (L2.CX P w) 1 T.f_pieces_of T.fd_pieces_of p_pieces_of spPieces := by
  refine T.F_pieces_of.okX sc_pieces_of (fun vs H Q E h => ?_) (fun cdv A outer s H vs Q E hr h => ?_)
  · obtain ⟨v, t, rfl, _⟩ := h
    rfl
  obtain ⟨v, t, rfl, hT, k⟩ := h
  obtain ⟨a, us, rfl, ha, pr⟩ := senAt_gen hT
  refine ⟨_, (pss_cons (ps_if (pt_cmpR op_eq (pe_ix (k_ixT (K := K) rfl) (pv 0) pe_int (fun _ _ => rfl)) pe_str (nomark _)) (pss_one (ps_ret (pe_lst pa_nil))) pss_nil)
    (pss_cons (ps_if (pt_cmp (pc_inT (pe_ix (k_ixT (K := K) rfl) (pv 0) pe_int (fun _ _ => rfl)) (pa_cons pe_str (pa_cons pe_str pa_nil))) (by rfl)) (pss_one (ps_ret (pe_lst (pa_cons (pe_ix (k_ixT (K := K) rfl) (pv 0) pe_int (fun _ _ => rfl)) pa_nil)))) pss_nil)
    (pss_one (ps_ret (pe_callTy (T := "list") (k_list (K := K) rfl) (by rfl) T.z_list (by decide +kernel) (pa_cons (pe_slice (k_slT (K := K) rfl) (pv 0) (po_some pe_int) po_none) pa_nil)))))), ?_⟩
  have h0 : atI (V.str t.w :: (t.mks ++ us)) ((0 : Nat) : Int) = some (.str t.w) := atI_nat rfl
  walk_at "go"
  refine ite2 (fun c => ?_) (fun c => ?_)
  · rw [dstr] at c
    obtain ⟨m, rfl⟩ := Sen.w_mark (of_decide_eq_true c)
    refine ⟨Nat.zero_le _, fun l hl => ?_⟩
    cases pr
    exact k _ l [] (Fr.new hl) hl upd_same .nil
  · have nm : ¬ ∃ m, t = .mark m := fun ⟨m, e⟩ => c (by subst e; rw [dstr]; exact decide_eq_true rfl)
    refine ⟨_, rfl, a, _, 0, _, rfl, rfl, SqT.of ha, h0, by rw [sizeLine_eq]; decide, rfl, rfl, _, rfl, ?_⟩
    refine ite2 (fun c2 => ?_) (fun c2 => ?_)
    · have c2 : inV (.str t.w) [.str "some", .str "each"] = true := c2
      rw [inV2] at c2
      obtain ⟨e, m, s, rfl⟩ := Sen.w_qu (of_decide_eq_true c2)
      cases pr with
      | cons h1 t1 =>
        cases t1
        refine ⟨_, rfl, a, _, 2, _, rfl, rfl, SqT.of ha, atI_nat (j := 2) rfl, by show 1 ≤ sizeLine; rw [sizeLine_eq]; decide, fun l hl => ?_⟩
        exact k _ l _ (Fr.new hl) hl upd_same (.cons (h1.fr (Fr.new (S := []) hl)) .nil)
    · have nq : t.mks = [] := by
        cases t with
        | mark m => exact absurd ⟨m, rfl⟩ nm
        | qu e m s =>
          refine absurd ?_ c2
          show inV (.str (quW e)) [.str "some", .str "each"] = true
          rw [inV2]
          cases e <;> decide +kernel
        | _ => rfl
      rw [nq] at ha
      refine ⟨_, rfl, 1, rfl, a, _, rfl, SqT.of ha, cut1_not _ _, fun p hp => ?_⟩
      rw [cut1]
      refine ⟨p, us, rfl, .inr (SqT.of upd_same), fun l hl => ?_⟩
      have f1 : Fr [] H (upd H p (.tup us)) := Fr.new hp
      have f2 : Fr [] (upd H p (.tup us)) (upd (upd H p (.tup us)) l (.lst us)) := Fr.new hl
      exact k _ l us (f1.trans f2) (f1.dm l hl) upd_same (senUp f2 (senUp f1 pr))
/-- the parts' counts, depths -/
def spCount (n : Nat) : Sp := fun vs H Q _ => ∃ v s, vs = [v] ∧ SenAt H v s ∧ s.dep ≤ n ∧ ∀ H', Fr [] H H' → Q (.int (s.cnt : Nat)) H'
theorem kids_len (s : Sen) : s.kids.length ≤ 2 := by cases s <;> simp [Sen.kids]
theorem paired_at {α β : Type} {F : α → β → Prop} : ∀ {l : List α} {r : List β} {i : Nat} {x : α}, Paired F l r → l[i]? = some x → ∃ y, r[i]? = some y ∧ F x y
  | _, _, i, _, .nil, e => by simp at e
  | _, _, 0, x, .cons h t, e => by
    have e := Option.some.inj e
    subst e
    exact ⟨_, rfl, h⟩
  | _, _, i + 1, x, .cons h t, e => by
    obtain ⟨y, h1, h2⟩ := paired_at t (by simpa using e)
    exact ⟨y, by simpa using h1, h2⟩
theorem paired_mem {α β : Type} {F : α → β → Prop} {l : List α} {r : List β} {x : α} (p : Paired F l r) (h : x ∈ l) : ∃ y, y ∈ r ∧ F x y := by
  obtain ⟨i, hi⟩ := List.mem_iff_getElem?.mp h
  obtain ⟨y, e, f⟩ := paired_at p hi
  exact ⟨y, List.mem_of_getElem? e, f⟩
/-- two steps one behind the other -/
theorem Paired.comp {α β γ : Type} {F : α → β → Prop} {G : α → γ → Prop} {R : β → γ → Prop} : ∀ {l : List α} {r : List β} {u : List γ}, Paired F l r → Paired G l u → (∀ a b c, F a b → G a c → R b c) → Paired R r u
  | _, _, _, .nil, .nil, _ => .nil
  | _, _, _, .cons a b, .cons c d, h => .cons (h _ _ _ a c) (Paired.comp b d h)
theorem paired_eq {α β γ : Type} {f : α → γ} {g : γ → β} : ∀ {l : List α} {r : List β}, Paired (fun a b => b = g (f a)) l r → r = (l.map f).map g
  | _, _, .nil => rfl
  | _, _, .cons e t => by rw [e, paired_eq t]; rfl
theorem Paired.swap {α β : Type} {F : α → β → Prop} : ∀ {l : List α} {r : List β}, Paired F l r → Paired (fun b a => F a b) r l
  | _, _, .nil => .nil
  | _, _, .cons e t => .cons e (Paired.swap t)
/-- what nobody can ask is kept -/
theorem no_asked {CX : CXT} {k : Nat} {f : Addr} {fd : FuncData} {ps : List Str} {sp : Sp} (no : ∀ vs H Q E, ¬ sp vs H Q E) : FnOk P w K mg base CX k f fd ps sp :=
  ⟨fun vs H Q E h => absurd h (no _ _ _ _), fun A outer s H args us vs Q E _ _ _ _ h => absurd h (no _ _ _ _)⟩
theorem Sen.dep_pos (s : Sen) : 0 < s.dep := by cases s <;> simp [Sen.dep]
theorem ok_count (T : Top w K mg) : ∀ n : Nat, FnOk P w K mg base (L2.CX P w) (n + 1) T.f_count T.fd_count p_count (spCount n)
  | 0 => no_asked fun vs H Q E h => by
    obtain ⟨v, s, _, _, hn, _⟩ := h
    have := s.dep_pos
    omega
  | m + 1 => by
    have G_pieces_of := ok_pieces_of (P := P) (base := base) T
    refine T.F_count.okX sc_count (fun vs H Q E h => ?_) (fun cdv A outer s H vs Q E hr h => ?_)
    · obtain ⟨v, t, rfl, _⟩ := h
      rfl
    obtain ⟨v, t, rfl, hT, hn, k⟩ := h
    · have G_count := ok_count T m
      refine ⟨_, (pss_one (ps_ret (pe_op op_add pe_int (pe_callB (id := "sum") (k_sum (K := K) rfl rfl) (by rfl) T.z_sum (by decide +kernel) (pa_cons (pe_lc (own := [("piece", 1)]) (g := gName 1) (tt := tYes) rfl sc_count.nd (pi_list (pe_call G_pieces_of (hr.mono (by omega)) (by rfl) T.m_pieces_of T.F_pieces_of.kp T.b_pieces_of .nil passL (pa_cons (pv 0) pa_nil))) (blkOk_by (own := [("piece", 1)]) (N := n_count) (sc := defScope s_count) (by decide +kernel)) (fun _ _ _ _ _ => (pg_name (i := 1) sc_count.nd rfl (.inl rfl))) (fun _ _ _ _ _ => pts_nil) (fun _ _ _ _ _ => (pe_call G_count (hr.mono (by omega)) (by rfl) T.m_count T.F_count.kp T.b_count .nil passL (pa_cons (pv 1) pa_nil)))) pa_nil))))), ?_⟩
      refine ⟨_, rfl, v, t, rfl, hT, fun H1 l us f1 hl e1 pr => ?_⟩
      refine ⟨l, rfl, ⟨_, SqL.of e1⟩, fun D hD => ?_⟩
      have hlen : us.length ≤ 2 := by rw [Paired.length pr]; exact kids_len t
      refine lc_relJ [] (fun u y _ => ∃ s : Sen, y = V.int (s.cnt : Nat) ∧ TreeAt H1 s.pt u) (fun _ => True) hD (SqL.of e1) (by simp) (by simp) (by omega) (fun _ _ _ _ _ q => q) trivial (fun _ _ _ _ => trivial)
        (fun i x H2 e f _ Q' k' => ?_) (fun H2 ys f _ eD p => ?_)
      · obtain ⟨s, hs, hx⟩ := paired_at pr e
        have hd : s.dep < t.dep := Sen.kids_dep (List.mem_of_getElem? hs)
        exact ⟨_, rfl, x, s, rfl, hx.fr f, by omega, fun H3 f3 => k' _ H3 f3 ⟨s, rfl, hx⟩ trivial⟩
      · have ey : ys = (t.kids.map fun s => (s.cnt : Int)).map V.int := by
          refine paired_eq (Paired.comp pr p fun u (s : Sen) y hu hy => ?_)
          obtain ⟨s', e, h'⟩ := hy
          rw [e, senAt_inj h' hu]
        refine ⟨D, t.kids.map fun s => (s.cnt : Int), rfl, SqL.of (by rw [eD, ey]), _, _, rfl, rfl, ?_⟩
        have q := k H2 (f1.trans f)
        rw [Sen.cnt_eq] at q
        exact q
def spDeep (n : Nat) : Sp := fun vs H Q _ => ∃ v s, vs = [v] ∧ SenAt H v s ∧ s.dep ≤ n ∧ ∀ H', Fr [] H H' → Q (.int (s.dep : Nat)) H'
theorem Sen.dep_eq : ∀ s : Sen, (s.dep : Int) = 1 + topI 0 (s.kids.map fun t => (t.dep : Int))
  | .yes => rfl
  | .no => rfl
  | .mark _ => rfl
  | .not s => by simp [Sen.dep, Sen.kids, topI]; omega
  | .bin o s t => by simp [Sen.dep, Sen.kids, topI]; omega
  | .qu e m s => by simp [Sen.dep, Sen.kids, topI]; omega
theorem ok_deep (T : Top w K mg) : ∀ n : Nat, FnOk P w K mg base (L2.CX P w) (n + 1) T.f_deep T.fd_deep p_deep (spDeep n)
  | 0 => no_asked fun vs H Q E h => by
    obtain ⟨v, s, _, _, hn, _⟩ := h
    have := s.dep_pos
    omega
  | m + 1 => by
    have G_pieces_of := ok_pieces_of (P := P) (base := base) T
    refine T.F_deep.okX sc_deep (fun vs H Q E h => ?_) (fun cdv A outer s H vs Q E hr h => ?_)
    · obtain ⟨v, t, rfl, _⟩ := h
      rfl
    obtain ⟨v, t, rfl, hT, hn, k⟩ := h
    have G_deep := ok_deep T m
    refine ⟨_, (pss_one (ps_ret (pe_op op_add pe_int (pe_callBK (id := "max") (cr_maxDef rfl hr.units) (by rfl) T.z_max (by decide +kernel) (pa_cons (pe_lc (own := [("piece", 1)]) (g := gName 1) (tt := tYes) rfl sc_deep.nd (pi_list (pe_call G_pieces_of (hr.mono (by omega)) (by rfl) T.m_pieces_of T.F_pieces_of.kp T.b_pieces_of .nil passL (pa_cons (pv 0) pa_nil))) (blkOk_by (own := [("piece", 1)]) (N := n_deep) (sc := defScope s_deep) (by decide +kernel)) (fun _ _ _ _ _ => (pg_name (i := 1) sc_deep.nd rfl (.inl rfl))) (fun _ _ _ _ _ => pts_nil) (fun _ _ _ _ _ => (pe_call G_deep (hr.mono (by omega)) (by rfl) T.m_deep T.F_deep.kp T.b_deep .nil passL (pa_cons (pv 1) pa_nil)))) pa_nil) (pk_cons pe_int pk_nil))))), ?_⟩
    refine ⟨_, rfl, v, t, rfl, hT, fun H1 l us f1 hl e1 pr => ?_⟩
    refine ⟨l, rfl, ⟨_, SqL.of e1⟩, fun D hD => ?_⟩
    have hlen : us.length ≤ 2 := by rw [Paired.length pr]; exact kids_len t
    refine lc_relJ [] (fun u y _ => ∃ s : Sen, y = V.int (s.dep : Nat) ∧ TreeAt H1 s.pt u) (fun _ => True) hD (SqL.of e1) (by simp) (by simp) (by omega) (fun _ _ _ _ _ q => q) trivial (fun _ _ _ _ => trivial)
      (fun i x H2 e f _ Q' k' => ?_) (fun H2 ys f _ eD p => ?_)
    · obtain ⟨s, hs, hx⟩ := paired_at pr e
      have hd : s.dep < t.dep := Sen.kids_dep (List.mem_of_getElem? hs)
      exact ⟨_, rfl, x, s, rfl, hx.fr f, by omega, fun H3 f3 => k' _ H3 f3 ⟨s, rfl, hx⟩ trivial⟩
    · have ey : ys = (t.kids.map fun s => (s.dep : Int)).map V.int := by
        refine paired_eq (Paired.comp pr p fun u (s : Sen) y hu hy => ?_)
        obtain ⟨s', e, h'⟩ := hy
        rw [e, senAt_inj h' hu]
      refine ⟨D, t.kids.map fun s => (s.dep : Int), 0, rfl, rfl, SqL.of (by rw [eD, ey]), _, _, rfl, rfl, ?_⟩
      have q := k H2 (f1.trans f)
      rw [Sen.dep_eq] at q
      exact q
end
end Db

/-! sentences.py: what is made as a sentence -/
namespace Db
open PySem L2 PyProof.Rows
section
variable {P : Program} {w : World} {K : PySem.W.Frag} {mg : Str → Option Value} {base : Heap}
theorem pieceNo_none {z : Str} (h : pieceNo z = none) : z ≠ "yes" ∧ z ≠ "no" ∧ z ≠ "not" ∧ z ≠ "and" ∧ z ≠ "or" ∧ z ≠ "either" ∧ z ≠ "if" := by
  refine ⟨?_, ?_, ?_, ?_, ?_, ?_, ?_⟩ <;> (rintro rfl; revert h; decide +kernel)
/-- what PIECES says of a text -/
theorem pz (T : Top w K mg) (z : Str) : ∃ r, PySem.W.nsIn K T.a_PIECES z = some r ∧ r.isSome = (pieceNo z).isSome ∧ ∀ k, pieceNo z = some k → KDct K w T.a_PIECES z (.int (k : Nat)) := by
  have kd : ∀ {z : Str} {k : Nat} {t : Tok}, PySem.W.nsIn K T.a_PIECES z = some (some (.int (k : Nat) t)) → KDct K w T.a_PIECES z (.int (k : Nat)) := fun e => ⟨_, _, _, T.d_PIECES.at_, T.d_PIECES.lit, e, ⟨_, rfl⟩⟩
  have fin : ∀ {z : Str} {k : Nat} {t : Tok}, pieceNo z = some k → PySem.W.nsIn K T.a_PIECES z = some (some (.int (k : Nat) t)) → ∃ r, PySem.W.nsIn K T.a_PIECES z = some r ∧ r.isSome = (pieceNo z).isSome ∧ ∀ k, pieceNo z = some k → KDct K w T.a_PIECES z (.int (k : Nat)) :=
    fun e h => ⟨_, h, by rw [e]; rfl, fun k' e' => by rw [e] at e'; cases e'; exact kd h⟩
  cases e : pieceNo z with
  | none =>
    obtain ⟨h1, h2, h3, h4, h5, h6, h7⟩ := pieceNo_none e
    exact ⟨none, T.o_PIECES z h1 h2 h3 h4 h5 h6 h7, rfl, fun k q => by cases q⟩
  | some k =>
    rw [← e]
    rcases pieceNo_cases e with ⟨rfl, rfl⟩ | ⟨rfl, rfl⟩ | ⟨rfl, rfl⟩ | ⟨o, rfl, rfl⟩
    · exact fin e T.e_PIECES_yes
    · exact fin e T.e_PIECES_no
    · exact fin e T.e_PIECES_not
    · cases o
      · exact fin e T.e_PIECES_and
      · exact fin e T.e_PIECES_or
      · exact fin e T.e_PIECES_either
      · exact fin e T.e_PIECES_if
def spWell (n : Nat) : Sp := fun vs H Q _ => ∃ v ts, vs = [v] ∧ TreeAt H (.tup ts) v ∧ (PT.tup ts).fit ∧ (PT.tup ts).dep ≤ n ∧ ∀ H', Fr [] H H' → Q (.bl (wm (.tup ts))) H'
theorem kit_tree {H : Hp} : ∀ {t : PT} {v : V}, TreeAt H t v → ∃ ty, TyX K H v ty ∧ PySem.W.kitOne K ty (.type "str") = some (match t with | .txt _ => true | .tup _ => false) ∧ PySem.W.kitOne K ty (.type "tuple") = some (match t with | .txt _ => false | .tup _ => true)
  | .txt s, v, h => by
    unfold TreeAt at h
    subst h
    exact ⟨_, .base (.str s), k_ss, k_st⟩
  | .tup ts, v, h => by
    unfold TreeAt at h
    obtain ⟨a, vs, rfl, ha, _⟩ := h
    exact ⟨_, .base (.tup ha), k_ts, k_tt⟩
theorem ok_well_made (T : Top w K mg) : ∀ n : Nat, FnOk P w K mg base (L2.CX P w) (n + 2) T.f_well_made T.fd_well_made p_well_made (spWell n)
  | 0 => no_asked fun vs H Q E h => by
    obtain ⟨v, ts, _, _, _, hn, _⟩ := h
    unfold PT.dep at hn
    omega
  | n + 1 => by
    have G_is_mark := ok_is_mark (P := P) (base := base) T
    have G_well_made := ok_well_made T n
    refine T.F_well_made.okX sc_well_made (fun vs H Q E h => ?_) (fun cdv A outer s H vs Q E hr h => ?_)
    · obtain ⟨v, t, rfl, _⟩ := h
      rfl
    obtain ⟨v, ts, rfl, hT, hf, hn, k⟩ := h
    refine ⟨_, (pss_cons (ps_if (PW.pt (pw_or (pt_cmpR op_eq (pe_callB (id := "len") (k_len (K := K) rfl) (by rfl) T.z_len (by decide +kernel) (pa_cons (pv 0) pa_nil)) pe_int (nomark _)) (pw_or1 (pt_not (pt_val (pe_callB (id := "isinstance") (k_isi (K := K) rfl) (by rfl) T.z_isinstance (by decide +kernel) (pa_cons (pe_ix (k_ixT (K := K) rfl) (pv 0) pe_int (fun _ _ => rfl)) (pa_cons (pe_bltn (v := .ty "str") (u := .type "str") (by rfl) T.z_str (by decide +kernel) rfl) pa_nil)))))))) (pss_one (ps_ret pe_bl)) pss_nil)
    (pss_cons (ps_if (pt_cmpR op_eq (pe_ix (k_ixT (K := K) rfl) (pv 0) pe_int (fun _ _ => rfl)) pe_str (nomark _)) (pss_one (ps_ret (pe_and (pe_cmpR op_eq (pe_callB (id := "len") (k_len (K := K) rfl) (by rfl) T.z_len (by decide +kernel) (pa_cons (pv 0) pa_nil)) pe_int (nomark _)) (pe_and (pe_callB (id := "isinstance") (k_isi (K := K) rfl) (by rfl) T.z_isinstance (by decide +kernel) (pa_cons (pe_ix (k_ixT (K := K) rfl) (pv 0) pe_int (fun _ _ => rfl)) (pa_cons (pe_bltn (v := .ty "str") (u := .type "str") (by rfl) T.z_str (by decide +kernel) rfl) pa_nil))) (pe_one (pe_call G_is_mark (hr.mono (by omega)) (by rfl) T.m_is_mark T.F_is_mark.kp T.b_is_mark .nil passL (pa_cons (pe_ix (k_ixT (K := K) rfl) (pv 0) pe_int (fun _ _ => rfl)) pa_nil))))))) pss_nil)
    (pss_cons (ps_if (pt_cmp (pc_inT (pe_ix (k_ixT (K := K) rfl) (pv 0) pe_int (fun _ _ => rfl)) (pa_cons pe_str (pa_cons pe_str pa_nil))) (by rfl)) (pss_cons (ps_if (PW.pt (pw_or (pt_cmpR op_ne (pe_callB (id := "len") (k_len (K := K) rfl) (by rfl) T.z_len (by decide +kernel) (pa_cons (pv 0) pa_nil)) pe_int (nomark _)) (pw_or (pt_not (pt_val (pe_callB (id := "isinstance") (k_isi (K := K) rfl) (by rfl) T.z_isinstance (by decide +kernel) (pa_cons (pe_ix (k_ixT (K := K) rfl) (pv 0) pe_int (fun _ _ => rfl)) (pa_cons (pe_bltn (v := .ty "str") (u := .type "str") (by rfl) T.z_str (by decide +kernel) rfl) pa_nil))))) (pw_or1 (pt_not (pt_val (pe_call G_is_mark (hr.mono (by omega)) (by rfl) T.m_is_mark T.F_is_mark.kp T.b_is_mark .nil passL (pa_cons (pe_ix (k_ixT (K := K) rfl) (pv 0) pe_int (fun _ _ => rfl)) pa_nil)))))))) (pss_one (ps_ret pe_bl)) pss_nil)
    (pss_one (ps_ret (pe_and (pe_callB (id := "isinstance") (k_isi (K := K) rfl) (by rfl) T.z_isinstance (by decide +kernel) (pa_cons (pe_ix (k_ixT (K := K) rfl) (pv 0) pe_int (fun _ _ => rfl)) (pa_cons (pe_bltn (v := .ty "tuple") (u := .type "tuple") (by rfl) T.z_tuple (by decide +kernel) rfl) pa_nil))) (pe_one (pe_call G_well_made (hr.mono (by omega)) (by rfl) T.m_well_made T.F_well_made.kp T.b_well_made .nil passL (pa_cons (pe_ix (k_ixT (K := K) rfl) (pv 0) pe_int (fun _ _ => rfl)) pa_nil))))))) pss_nil)
    (pss_cons (ps_if (PW.pt (pw_or (pt_cmpR (op_notIn_kd T.d_PIECES) (pe_ix (k_ixT (K := K) rfl) (pv 0) pe_int (fun _ _ => rfl)) (pe_glob (v := .ref T.a_PIECES) (by rfl) T.mg_PIECES rfl) (by rfl)) (pw_or1 (pt_cmpR op_ne (pe_callB (id := "len") (k_len (K := K) rfl) (by rfl) T.z_len (by decide +kernel) (pa_cons (pv 0) pa_nil)) (pe_op op_add (pe_ix (k_ixD (K := K) (w := w) rfl rfl) (pe_glob (v := .ref T.a_PIECES) (by rfl) T.mg_PIECES rfl) (pe_ix (k_ixT (K := K) rfl) (pv 0) pe_int (fun _ _ => rfl)) (fun _ _ => rfl)) pe_int) (nomark _))))) (pss_one (ps_ret pe_bl)) pss_nil)
    (pss_one (ps_ret (pe_callB (id := "all") (k_all (K := K) rfl rfl) (by rfl) T.z_all (by decide +kernel) (pa_cons (pe_lc (own := [("piece", 1)]) (g := gName 1) (tt := tYes) rfl sc_well_made.nd (pi_tup (pe_slice (k_slT (K := K) rfl) (pv 0) (po_some pe_int) po_none)) (blkOk_by (own := [("piece", 1)]) (N := n_well_made) (sc := defScope s_well_made) (by decide +kernel)) (fun _ _ _ _ _ => (pg_name (i := 1) sc_well_made.nd rfl (.inl rfl))) (fun _ _ _ _ _ => pts_nil) (fun _ _ _ _ _ => (pe_and (pe_callB (id := "isinstance") (k_isi (K := K) rfl) (by rfl) T.z_isinstance (by decide +kernel) (pa_cons (pv 1) (pa_cons (pe_bltn (v := .ty "tuple") (u := .type "tuple") (by rfl) T.z_tuple (by decide +kernel) rfl) pa_nil))) (pe_one (pe_call G_well_made (hr.mono (by omega)) (by rfl) T.m_well_made T.F_well_made.kp T.b_well_made .nil passL (pa_cons (pv 1) pa_nil)))))) pa_nil)))))))), ?_⟩
    unfold TreeAt at hT
    obtain ⟨a, us, rfl, ha, hts⟩ := hT
    have S := SqT.of (K := K) ha
    unfold PT.fit at hf
    unfold PT.dep at hn
    cases ts with
    | nil =>
      unfold TreesAt at hts
      subst hts
      refine ⟨_, rfl, a, _, rfl, .inr S, rfl, _, rfl, ?_⟩
      have q := k H Fr.refl
      unfold wm at q
      exact q
    | cons t r =>
      unfold TreesAt at hts
      obtain ⟨x, us, rfl, hx, hr'⟩ := hts
      cases t with
      | tup zs =>
        obtain ⟨ty, h1, h2, h3⟩ := kit_tree (K := K) hx
        refine ⟨_, rfl, a, _, rfl, .inr S, rfl, _, rfl, ?_⟩
        refine ite2 (fun c => ?_) (fun c => ?_)
        · have q := k H Fr.refl
          unfold wm at q
          exact q
        refine ⟨_, rfl, a, _, 0, _, rfl, rfl, S, atI_nat (j := 0) rfl, _, _, _, _, _, rfl, .ty _, h1, h2, _, rfl, ?_⟩
        have q := k H Fr.refl
        unfold wm at q
        exact q
      | txt z =>
        unfold TreeAt at hx
        subst hx
        refine ⟨_, rfl, a, _, rfl, .inr S, rfl, _, rfl, ?_⟩
        refine ite2 (fun c => ?_) (fun c => ?_)
        · exfalso
          simp at c
          omega
        refine ⟨_, rfl, a, _, 0, _, rfl, rfl, S, atI_nat (j := 0) rfl, _, _, _, _, _, rfl, .ty _, .base (.str z), k_ss, _, rfl, ?_⟩
        refine ⟨_, rfl, a, _, 0, _, rfl, rfl, S, atI_nat (j := 0) rfl, rfl, _, rfl, ?_⟩
        have q := fun H' f => k H' f
        have hd := deps_le (ts := PT.txt z :: r) (t := PT.txt z)
        have hr2 : ∀ t ∈ r, t.dep ≤ n := fun t m => by
          have e := deps_le (ts := .txt z :: r) (List.mem_cons_of_mem _ m)
          omega
        obtain ⟨hfl, hff⟩ := hf
        unfold PT.fits at hff
        have lr : r.length = us.length := Paired.length (TreesAt.paired hr')
        refine ite2 (fun c1 => ?_) (fun c1 => ?_)
        · -- a mark
          rw [dstr] at c1
          have ez := of_decide_eq_true c1
          have e1 : ∀ b, wm (.tup (.txt z :: r)) = b ↔ wmMark r = b := fun b => by unfold wm; rw [if_pos ez]
          refine ⟨_, rfl, a, _, rfl, .inr S, rfl, _, rfl, ?_⟩
          cases r with
          | nil =>
            unfold TreesAt at hr'
            subst hr'
            have q := k H Fr.refl
            rw [(e1 _).mpr (show wmMark [] = false by unfold wmMark; rfl)] at q
            exact q
          | cons t r =>
            unfold TreesAt at hr'
            obtain ⟨x, us, rfl, hx, hr'⟩ := hr'
            cases r with
            | cons t2 r =>
              unfold TreesAt at hr'
              obtain ⟨x2, us, rfl, hx2, hr'⟩ := hr'
              refine ite2 (fun c2 => ?_) (fun c2 => ?_)
              · exfalso
                simp at c2
                omega
              have q := k H Fr.refl
              rw [(e1 _).mpr (show wmMark (t :: t2 :: r) = false by cases t <;> (unfold wmMark; rfl))] at q
              exact q
            | nil =>
              unfold TreesAt at hr'
              subst hr'
              obtain ⟨ty, h1, h2, h3⟩ := kit_tree (K := K) hx
              refine ⟨_, rfl, a, _, 1, _, rfl, rfl, S, atI_nat (j := 1) rfl, _, _, _, _, _, rfl, .ty _, h1, h2, _, rfl, ?_⟩
              cases t with
              | tup zs =>
                have q := k H Fr.refl
                rw [(e1 _).mpr (show wmMark [.tup zs] = false by unfold wmMark; rfl)] at q
                exact q
              | txt m =>
                unfold TreeAt at hx
                subst hx
                unfold PT.fits PT.fit at hff
                refine ⟨_, rfl, a, _, 1, _, rfl, rfl, S, atI_nat (j := 1) rfl, m, rfl, hff.2.1, ?_⟩
                have q := k H Fr.refl
                rw [(e1 _).mpr (show wmMark [.txt m] = isMarkS m by unfold wmMark; rfl)] at q
                exact q
        · rw [dstr] at c1
          have ez1 : ¬ z = "mark" := fun e => c1 (decide_eq_true e)
          refine ⟨_, rfl, a, _, 0, _, rfl, rfl, S, atI_nat (j := 0) rfl, by show 2 ≤ sizeLine; rw [sizeLine_eq]; decide, rfl, rfl, _, rfl, ?_⟩
          refine ite2 (fun c2 => ?_) (fun c2 => ?_)
          · -- some, each
            have c2 : inV (.str z) [.str "some", .str "each"] = true := c2
            rw [inV2] at c2
            have ez := of_decide_eq_true c2
            have e1 : ∀ b, wm (.tup (.txt z :: r)) = b ↔ wmQu r = b := fun b => by unfold wm; rw [if_neg ez1, if_pos ez]
            refine ⟨_, rfl, a, _, rfl, .inr S, rfl, _, rfl, ?_⟩
            cases r with
            | nil =>
              unfold TreesAt at hr'
              subst hr'
              have q := k H Fr.refl
              rw [(e1 _).mpr (show wmQu [] = false by unfold wmQu; rfl)] at q
              exact q
            | cons t r =>
              unfold TreesAt at hr'
              obtain ⟨x, us, rfl, hx, hr'⟩ := hr'
              cases r with
              | nil =>
                unfold TreesAt at hr'
                subst hr'
                have q := k H Fr.refl
                rw [(e1 _).mpr (show wmQu [t] = false by cases t <;> (unfold wmQu; rfl))] at q
                exact q
              | cons t2 r =>
                unfold TreesAt at hr'
                obtain ⟨x2, us, rfl, hx2, hr'⟩ := hr'
                cases r with
                | cons t3 r =>
                  unfold TreesAt at hr'
                  obtain ⟨x3, us, rfl, hx3, hr'⟩ := hr'
                  refine ite2 (fun c3 => ?_) (fun c3 => ?_)
                  · have q := k H Fr.refl
                    rw [(e1 _).mpr (show wmQu (t :: t2 :: t3 :: r) = false by cases t <;> (unfold wmQu; rfl))] at q
                    exact q
                  · exfalso
                    simp at c3
                    omega
                | nil =>
                  unfold TreesAt at hr'
                  subst hr'
                  obtain ⟨ty, h1, h2, h3⟩ := kit_tree (K := K) hx
                  refine ⟨_, rfl, a, _, 1, _, rfl, rfl, S, atI_nat (j := 1) rfl, _, _, _, _, _, rfl, .ty _, h1, h2, _, rfl, ?_⟩
                  cases t with
                  | tup zs =>
                    have q := k H Fr.refl
                    rw [(e1 _).mpr (show wmQu [.tup zs, t2] = false by unfold wmQu; rfl)] at q
                    exact q
                  | txt m =>
                    unfold TreeAt at hx
                    subst hx
                    unfold PT.fits PT.fits PT.fit at hff
                    refine ⟨_, rfl, a, _, 1, _, rfl, rfl, S, atI_nat (j := 1) rfl, m, rfl, hff.2.1, _, rfl, ?_⟩
                    have e2 : wmQu [.txt m, t2] = (isMarkS m && wm t2) := by unfold wmQu; rfl
                    cases em : isMarkS m with
                    | false =>
                      have q := k H Fr.refl
                      rw [(e1 _).mpr (show wmQu [.txt m, t2] = false by rw [e2, em]; rfl)] at q
                      exact q
                    | true =>
                      obtain ⟨ty, h1, h2, h3⟩ := kit_tree (K := K) hx2
                      refine ⟨_, rfl, a, _, 2, _, rfl, rfl, S, atI_nat (j := 2) rfl, _, _, _, _, _, rfl, .ty _, h1, h3, _, rfl, ?_⟩
                      cases t2 with
                      | txt z2 =>
                        have q := k H Fr.refl
                        rw [(e1 _).mpr (show wmQu [.txt m, .txt z2] = false by rw [e2, wm_txt, Bool.and_false])] at q
                        exact q
                      | tup zs =>
                        refine ⟨_, rfl, a, _, 2, _, rfl, rfl, S, atI_nat (j := 2) rfl, x2, zs, rfl, hx2, hff.2.2.1, hr2 _ (by simp), fun H' f => ?_⟩
                        have q := k H' f
                        rw [(e1 _).mpr (show wmQu [.txt m, .tup zs] = wm (.tup zs) by rw [e2, em, Bool.true_and])] at q
                        exact q
          · -- the other words
            have c2 : ¬ inV (.str z) [.str "some", .str "each"] = true := c2
            rw [inV2] at c2
            have ez2 : ¬ (z = "some" ∨ z = "each") := fun e => c2 (decide_eq_true e)
            have e1 : wm (.tup (.txt z :: r)) = (decide (pieceNo z = some r.length) && wmAll r) := by unfold wm; rw [if_neg ez1, if_neg ez2]
            obtain ⟨pr, hp1, hp2, hp3⟩ := pz T z
            refine ⟨_, rfl, a, _, 0, _, rfl, rfl, S, atI_nat (j := 0) rfl, z, pr, rfl, rfl, hp1, _, rfl, ?_⟩
            rw [hp2]
            cases ep : pieceNo z with
            | none =>
              have q := k H Fr.refl
              rw [e1, ep] at q
              exact q
            | some j =>
              refine ⟨_, rfl, a, _, rfl, .inr S, _, rfl, a, _, 0, _, rfl, rfl, S, atI_nat (j := 0) rfl, T.a_PIECES, z, _, rfl, rfl, hp3 j ep, _, _, rfl, rfl, rfl, _, rfl, ?_⟩
              refine ite2 (fun c3 => ?_) (fun c3 => ?_)
              · have q := k H Fr.refl
                rw [e1, ep, show decide (some j = some r.length) = false from decide_eq_false (fun e => by
                  simp at c3
                  have := Option.some.inj e
                  omega)] at q
                exact q
              · have ej : j = r.length := by
                  simp at c3
                  omega
                refine ⟨_, rfl, 1, rfl, a, _, rfl, S, cut1_not _ _, fun t ht => ?_⟩
                rw [cut1]
                refine ⟨t, rfl, ⟨_, SqT.of upd_same⟩, fun D hD => ?_⟩
                have f1 : Fr [] H (upd H t (.tup us)) := Fr.new ht
                refine lc_genJ (lc_ruleT [] (K := K) upd_same) [] (fun u y _ => ∃ p : PT, y = V.bl (wm p) ∧ TreeAt H p u) (fun _ => True) hD (fun H' f => f.tu _ _ upd_same) (by simp) (by show us.length ≤ 100000; rw [← lr]; simp at hfl; omega) (fun _ _ _ _ _ q => q) trivial (fun _ _ _ _ => trivial)
                  (fun i x H2 e f _ Q' k' => ?_) (fun H2 ys f _ eD p => ?_)
                · obtain ⟨p, hp, hx⟩ := paired_at (Paired.swap (TreesAt.paired hr')) e
                  have hx2 : TreeAt H2 p x := TreeAt.mono (f1.trans f).tu hx
                  have hm := List.mem_of_getElem? hp
                  obtain ⟨ty, h1, h2, h3⟩ := kit_tree (K := K) hx2
                  refine ⟨_, rfl, _, _, _, _, _, rfl, .ty _, h1, h3, _, rfl, ?_⟩
                  cases p with
                  | txt z2 => exact k' _ H2 Fr.refl ⟨_, by rw [wm_txt], hx⟩ trivial
                  | tup zs => exact ⟨_, rfl, x, zs, rfl, hx2, fits_mem hm hff.2, hr2 _ hm, fun H3 f3 => k' _ H3 f3 ⟨_, rfl, hx⟩ trivial⟩
                · have ey : ys = (r.map wm).map V.bl := by
                    refine paired_eq (Paired.comp (Paired.swap (TreesAt.paired hr')) p fun u (p : PT) y hu hy => ?_)
                    obtain ⟨p', e, h'⟩ := hy
                    rw [e, TreeAt.inj h' hu]
                  refine ⟨D, r.map wm, rfl, SqL.of (by rw [eD, ey]), ?_⟩
                  have q := k H2 (f1.trans f)
                  rw [e1, ep, show decide (some j = some r.length) = true from decide_eq_true (by rw [ej]), wmAll_eq] at q
                  rw [List.all_map]
                  exact q
end
end Db

/-! sentences.py: what is a sentence, its letters -/
namespace Db
open PySem L2 PyProof.Rows
section
variable {P : Program} {w : World} {K : PySem.W.Frag} {mg : Str → Option Value} {base : Heap}
def spIsSen : Sp := fun vs H Q _ => ∃ v ts, vs = [v] ∧ TreeAt H (.tup ts) v ∧ (PT.tup ts).fit ∧ (PT.tup ts).dep ≤ 64 ∧ ∀ H' b, Fr [] H H' → (b = true ↔ isSen (.tup ts)) → Q (.bl b) H'
theorem ok_is_sentence (T : Top w K mg) : FnOk P w K mg base (L2.CX P w) 67 T.f_is_sentence T.fd_is_sentence p_is_sentence spIsSen := by
  have G_well_made := ok_well_made (P := P) (base := base) T 64
  have G_count := ok_count (P := P) (base := base) T 64
  have G_deep := ok_deep (P := P) (base := base) T 64
  refine T.F_is_sentence.okX sc_is_sentence (fun vs H Q E h => ?_) (fun cdv A outer s H vs Q E hr h => ?_)
  · obtain ⟨v, ts, rfl, _⟩ := h
    rfl
  obtain ⟨v, ts, rfl, hT, hf, hd, k⟩ := h
  refine ⟨_, (pss_one (ps_ret (pe_and (pe_call G_well_made (hr.mono (by omega)) (by rfl) T.m_well_made T.F_well_made.kp T.b_well_made .nil passL (pa_cons (pv 0) pa_nil)) (pe_and (pe_cmpR op_le (pe_call G_count (hr.mono (by omega)) (by rfl) T.m_count T.F_count.kp T.b_count .nil passL (pa_cons (pv 0) pa_nil)) (pe_glob (v := .int (200)) (by rfl) T.mg_MOST_WORDS ⟨_, rfl⟩) (nomark _)) (pe_one (pe_cmpR op_le (pe_call G_deep (hr.mono (by omega)) (by rfl) T.m_deep T.F_deep.kp T.b_deep .nil passL (pa_cons (pv 0) pa_nil)) (pe_glob (v := .int (24)) (by rfl) T.mg_MOST_DEEP ⟨_, rfl⟩) (nomark _))))))), ?_⟩
  refine ⟨_, rfl, v, ts, rfl, hT, hf, hd, fun H1 f1 => ⟨_, rfl, ?_⟩⟩
  cases e : wm (.tup ts) with
  | false =>
    refine k H1 false f1 ⟨fun h => (by cases h), fun h => ?_⟩
    obtain ⟨s, es, _⟩ := h
    rw [es, s.wm] at e
    cases e
  | true =>
    obtain ⟨s, es⟩ := wm_iff.mp e
    have hS : SenAt H1 v s := by
      unfold SenAt
      rw [← es]
      exact TreeAt.mono f1.tu hT
    have hsd : s.dep ≤ 64 := by rw [← s.pt_dep, ← es]; exact hd
    have iff0 : isSen (.tup ts) ↔ s.cnt ≤ 200 ∧ s.dep ≤ 24 := by
      constructor
      · rintro ⟨s', e', h1, h2⟩
        rw [es] at e'
        rw [Sen.pt_inj e']
        exact ⟨h1, h2⟩
      · rintro ⟨h1, h2⟩
        exact ⟨s, es, h1, h2⟩
    refine ⟨_, rfl, v, s, rfl, hS, hsd, fun H2 f2 => ⟨_, _, rfl, rfl, _, rfl, ?_⟩⟩
    refine ite2 (fun c => ?_) (fun c => ?_)
    · have c1 : s.cnt ≤ 200 := by simp at c; omega
      refine ⟨_, rfl, v, s, rfl, hS.fr f2, hsd, fun H3 f3 => ⟨_, _, rfl, rfl, ?_⟩⟩
      refine k H3 _ ((f1.trans f2).trans f3) ?_
      rw [iff0]
      simp
      omega
    · have c1 : ¬ s.cnt ≤ 200 := by simp at c; omega
      refine k H2 false (f1.trans f2) ?_
      rw [iff0]
      simp
      omega
def spAskSen (C : Addr) : Sp := fun vs H Q E => ∃ v ts, vs = [v] ∧ TreeAt H (.tup ts) v ∧ (PT.tup ts).fit ∧ (PT.tup ts).dep ≤ 64 ∧ (isSen (.tup ts) → ∀ H', Fr [] H H' → Q .non H') ∧ (¬ isSen (.tup ts) → ∀ H', Fr [] H H' → E (.ref C) none H')
theorem ok_ask_sentence (T : Top w K mg) : FnOk P w K mg base (L2.CX P w) 68 T.f_ask_sentence T.fd_ask_sentence p_ask_sentence (spAskSen T.C_NoSentence) := by
  have G_is_sentence := ok_is_sentence (P := P) (base := base) T
  refine T.F_ask_sentence.okX sc_ask_sentence (fun vs H Q E h => ?_) (fun cdv A outer s H vs Q E hr h => ?_)
  · obtain ⟨v, ts, rfl, _⟩ := h
    rfl
  obtain ⟨v, ts, rfl, hT, hf, hd, k1, k2⟩ := h
  refine ⟨_, (pss_one (ps_if (pt_not (pt_val (pe_call G_is_sentence (hr.mono (by omega)) (by rfl) T.m_is_sentence T.F_is_sentence.kp T.b_is_sentence .nil passL (pa_cons (pv 0) pa_nil)))) (pss_one (ps_raise rfl (takes_of rfl rfl rfl rfl) (pmk_own PySem.F.excBase_ValueError T.x_NoSentence T.m_NoSentence T.k_NoSentence (raises_own T.bb_NoSentence T.tt_NoSentence) rfl))) pss_nil)), ?_⟩
  refine ⟨_, rfl, v, ts, rfl, hT, hf, hd, fun H1 b f1 hb => ⟨_, rfl, ?_⟩⟩
  cases b with
  | true => exact k1 (hb.mp rfl) H1 f1
  | false => exact k2 (fun h => by cases hb.mpr h) H1 f1
theorem Sen.pt_tup (s : Sen) : ∃ ts, s.pt = .tup ts := by cases s <;> exact ⟨_, rfl⟩
/-- the letters' texts -/
abbrev ltrs (l : List (Fin 8)) : List V := (l.map ltr).map V.str
def spNamed (n : Nat) : Sp := fun vs H Q _ => ∃ v s, vs = [v] ∧ SenAt H v s ∧ s.dep ≤ n ∧ s.cnt ≤ 200 ∧ ∀ H' l, Fr [] H H' → H l = none → H' l = some (.lst (ltrs s.lets)) → Q (.ref l) H'
theorem Sen.lets_eq : ∀ s : Sen, s.lets = (match s with | .mark m => [m] | .qu _ m _ => [m] | _ => []) ++ (s.kids.flatMap Sen.lets)
  | .yes => rfl
  | .no => rfl
  | .mark _ => rfl
  | .not s => by simp [Sen.lets, Sen.kids]
  | .bin o s t => by simp [Sen.lets, Sen.kids]
  | .qu e m s => by simp [Sen.lets, Sen.kids]
theorem Sen.lets_len : ∀ s : Sen, s.lets.length ≤ s.cnt
  | .yes => by simp [Sen.lets]
  | .no => by simp [Sen.lets]
  | .mark _ => by simp [Sen.lets, Sen.cnt]
  | .not s => by have := s.lets_len; simp [Sen.lets, Sen.cnt]; omega
  | .bin o s t => by have := s.lets_len; have := t.lets_len; simp [Sen.lets, Sen.cnt]; omega
  | .qu e m s => by have := s.lets_len; simp [Sen.lets, Sen.cnt]; omega
theorem Sen.kids_cnt : ∀ {s t : Sen}, t ∈ s.kids → t.cnt < s.cnt
  | .not s, t, h => by simp [Sen.kids] at h; subst h; simp [Sen.cnt]
  | .bin o a b, t, h => by simp [Sen.kids] at h; rcases h with rfl | rfl <;> simp [Sen.cnt] <;> omega
  | .qu e m s, t, h => by simp [Sen.kids] at h; subst h; simp [Sen.cnt]
theorem ok_named (T : Top w K mg) : ∀ n : Nat, FnOk P w K mg base (L2.CX P w) (n + 1) T.f_named T.fd_named p_named (spNamed n)
  | 0 => no_asked fun vs H Q E h => by
    obtain ⟨v, s, _, _, hn, _⟩ := h
    have := s.dep_pos
    omega
  | m + 1 => by
    have G_pieces_of := ok_pieces_of (P := P) (base := base) T
    have G_named := ok_named T m
    refine T.F_named.okX sc_named (fun vs H Q E h => ?_) (fun cdv A outer s H vs Q E hr h => ?_)
    · obtain ⟨v, t, rfl, _⟩ := h
      rfl
    obtain ⟨v, t, rfl, hT, hn, hc, k⟩ := h
    refine ⟨_, (pss_cons (ps_set (i := 1) sc_named.nd rfl (.inl rfl) (pe_lst pa_nil))
    (pss_cons (ps_if (pt_cmp (pc_inT (pe_ix (k_ixT (K := K) rfl) (pv 0) pe_int (fun _ _ => rfl)) (pa_cons pe_str (pa_cons pe_str (pa_cons pe_str pa_nil)))) (by rfl)) (pss_one (ps_expr (pe_bm PySem.F.plainAttrs_list PySem.F.slot_list_append PySem.F.type_list_append mt_append (pv 1) (pa_cons (pe_ix (k_ixT (K := K) rfl) (pv 0) pe_int (fun _ _ => rfl)) pa_nil)))) pss_nil)
    (pss_cons (ps_for (passes_of rfl) rfl (pi_list (pe_call G_pieces_of (hr.mono (by omega)) (by rfl) T.m_pieces_of T.F_pieces_of.kp T.b_pieces_of .nil passL (pa_cons (pv 0) pa_nil))) (pg_name (i := 2) sc_named.nd rfl (.inl rfl))
    (pss_one (ps_expr (pe_bm PySem.F.plainAttrs_list PySem.F.slot_list_extend PySem.F.type_list_extend mt_extend (pv 1) (pa_cons (pe_call G_named (hr.mono (by omega)) (by rfl) T.m_named T.F_named.kp T.b_named .nil passL (pa_cons (pv 2) pa_nil)) pa_nil)))))
    (pss_one (ps_ret (pv 1)))))), ?_⟩
    obtain ⟨a, us0, ev, ha, pr0⟩ := senAt_gen hT
    refine ⟨Nat.zero_le _, fun l hl => ?_⟩
    have f0 : Fr [] H (upd H l (.lst [])) := Fr.new hl
    have ha0 := f0.tu _ _ ha
    refine ⟨_, rfl, a, _, 0, _, ev, rfl, SqT.of ha0, atI_nat (j := 0) rfl, by show 3 ≤ sizeLine; rw [sizeLine_eq]; decide, rfl, rfl, _, rfl, ?_⟩
    have hin : inV (.str t.w) [.str "mark", .str "some", .str "each"] = decide (t.w = "mark" ∨ t.w = "some" ∨ t.w = "each") := by
      have := inV_strs (z := t.w) (ws := ["mark", "some", "each"])
      simpa using this
    refine join_if (fun σ H1 => ∃ ms, σ = [some v, some (.ref l), none] ∧ Fr [] H H1 ∧ H1 l = some (.lst (ltrs ms)) ∧ t.lets = ms ++ t.kids.flatMap Sen.lets ∧ ms.length ≤ 1) ?_ (fun c K => ?_) (fun c K => ?_)
    · rintro σ H1 ⟨ms, rfl, f1, e1, ems, hms⟩
      refine ⟨_, rfl, v, t, rfl, hT.fr f1, fun H2 q us f2 hq e2 pr => ?_⟩
      have hql : l ≠ q := by
        intro e
        subst e
        rw [e1] at hq
        cases hq
      refine ⟨q, rfl, ⟨_, SqL.of e2⟩, for_list (K := K) (a := q) (xs := us) (fun i σ H3 => ∃ y, σ = [some v, some (.ref l), y] ∧ Fr [l] H2 H3 ∧ Fr [] H H3 ∧ H3 l = some (.lst (ltrs (ms ++ (t.kids.take i).flatMap Sen.lets))))
        ⟨none, rfl, Fr.refl, f1.trans f2, by rw [List.take_zero]; simpa using f2.at e1⟩ (fun i σ H3 _ p => ?_) (fun i x σ H3 hx p => ?_) (fun σ H3 p => ?_)⟩
      · obtain ⟨y, _, f3, _⟩ := p
        exact f3.seqL (by simpa using hql.symm) (SqL.of e2)
      · obtain ⟨y, rfl, f3, f4, e3⟩ := p
        obtain ⟨s, hs, hxs⟩ := paired_at pr hx
        have hm := List.mem_of_getElem? hs
        have hd := Sen.kids_dep hm
        have hcn := Sen.kids_cnt hm
        refine ⟨_, rfl, .inl ⟨rfl, _, SqL.of e3⟩, _, rfl, x, s, rfl, hxs.fr f3, by omega, by omega, fun H5 z f5 hz ez => ?_⟩
        have e5 := f5.at e3
        have hlz : l ≠ z := by
          intro e
          subst e
          rw [e3] at hz
          cases hz
        have hlen : (ltrs (ms ++ (t.kids.take i).flatMap Sen.lets)).length + (ltrs s.lets).length ≤ sizeLine := by
          have h1 := t.lets_len
          have h2 := s.lets_len
          have h3 : ((t.kids.take i).flatMap Sen.lets).length ≤ (t.kids.flatMap Sen.lets).length := by
            conv => rhs; rw [← List.take_append_drop i t.kids]
            rw [List.flatMap_append, List.length_append]
            omega
          rw [ems, List.length_append] at h1
          rw [sizeLine_eq]
          simp only [ltrs, List.length_map, List.length_append]
          omega
        refine ⟨l, z, _, _, rfl, rfl, e5, ez, hlen, ?_⟩
        refine ⟨_, rfl, (f3.trans f5.any).trans (Fr.put (by simp) (by rw [e5]; intro xs; simp)), (f4.trans f5).own hl, ?_⟩
        rw [upd_same, take_snoc hs]
        simp [ltrs, List.flatMap_append]
      · obtain ⟨y, rfl, f3, f4, e3⟩ := p
        refine ⟨_, rfl, k H3 l f4 hl ?_⟩
        rw [e3, ems, Paired.length pr, List.take_length]
    · have c : inV (.str t.w) [.str "mark", .str "some", .str "each"] = true := c
      rw [hin] at c
      have hmk : ∃ m, t.mks = [.str (ltr m)] ∧ t.lets = [m] ++ t.kids.flatMap Sen.lets := by
        rcases of_decide_eq_true c with h | h
        · obtain ⟨m, rfl⟩ := Sen.w_mark h
          exact ⟨m, rfl, Sen.lets_eq _⟩
        · obtain ⟨e, m, s, rfl⟩ := Sen.w_qu h
          exact ⟨m, rfl, Sen.lets_eq _⟩
      obtain ⟨m, em, el⟩ := hmk
      rw [em] at ha0
      refine ⟨_, rfl, .inl ⟨rfl, _, SqL.of upd_same⟩, _, rfl, a, _, 1, _, ev, rfl, SqT.of ha0, atI_nat (j := 1) rfl, l, _, _, rfl, rfl, upd_same, by rw [sizeLine_eq]; show 0 < 2 ^ 24; decide, ?_⟩
      exact K _ _ ⟨[m], rfl, f0.own hl, upd_same, el, by simp⟩
    · have c : inV (.str t.w) [.str "mark", .str "some", .str "each"] = false := c
      rw [hin] at c
      have el : t.lets = [] ++ t.kids.flatMap Sen.lets := by
        have c := of_decide_eq_false c
        cases t with
        | mark m => exact absurd (.inl rfl) c
        | qu e m s =>
          refine absurd (.inr ?_) c
          cases e
          · exact .inr rfl
          · exact .inl rfl
        | _ => exact Sen.lets_eq _
      exact K _ _ ⟨[], rfl, f0, upd_same, el, by simp⟩
end
end Db

/-! sentences.py: marks_of, ask_marks, ask_row -/
namespace Db
open PySem L2 PyProof.Rows
section
variable {P : Program} {w : World} {K : PySem.W.Frag} {mg : Str → Option Value} {base : Heap}
def spMarksOf (C : Addr) : Sp := fun vs H Q E => ∃ v ts, vs = [v] ∧ TreeAt H (.tup ts) v ∧ (PT.tup ts).fit ∧ (PT.tup ts).dep ≤ 64 ∧
  (∀ s : Sen, .tup ts = s.pt → isSen (.tup ts) → ∀ H' l, Fr [] H H' → H l = none → H' l = some (.lst (ltrs (mset s.lets))) → Q (.ref l) H') ∧ (¬ isSen (.tup ts) → ∀ H', Fr [] H H' → E (.ref C) none H')
theorem at_ltrs {l : List (Fin 8)} {i : Nat} {x : V} (e : (ltrs l)[i]? = some x) : ∃ m, l[i]? = some m ∧ x = .str (ltr m) := by
  obtain ⟨z, hz, rfl⟩ := at_map e
  rw [List.getElem?_map] at hz
  cases q : l[i]? with
  | none => rw [q] at hz; cases hz
  | some m =>
    rw [q] at hz
    exact ⟨m, rfl, by rw [← Option.some.inj hz]⟩
theorem ok_marks_of (T : Top w K mg) : FnOk P w K mg base (L2.CX P w) 69 T.f_marks_of T.fd_marks_of p_marks_of (spMarksOf T.C_NoSentence) := by
  have G_ask_sentence := ok_ask_sentence (P := P) (base := base) T
  have G_named := ok_named (P := P) (base := base) T 64
  refine T.F_marks_of.okX sc_marks_of (fun vs H Q E h => ?_) (fun cdv A outer s H vs Q E hr h => ?_)
  · obtain ⟨v, ts, rfl, _⟩ := h
    rfl
  obtain ⟨v, ts, rfl, hT, hf, hd, k1, k2⟩ := h
  refine ⟨_, (pss_cons (ps_expr (pe_call G_ask_sentence (hr.mono (by omega)) (by rfl) T.m_ask_sentence T.F_ask_sentence.kp T.b_ask_sentence .nil (passes_call (takes_of rfl rfl rfl rfl) fun _ _ _ _ z => z) (pa_cons (pv 0) pa_nil)))
    (pss_one (ps_ret (pe_callB (id := "sorted") cr_sortedS (by rfl) T.z_sorted (by decide +kernel) (pa_cons (pe_callTy (T := "list") (call_listD rfl) (by rfl) T.z_list (by decide +kernel) (pa_cons (pe_callTy (T := "dict") (call_dictP rfl) (by rfl) T.z_dict (by decide +kernel) (pa_cons (pe_lc (own := [("mark", 1)]) (g := gName 1) (tt := tYes) rfl sc_marks_of.nd (pi_list (pe_call G_named (hr.mono (by omega)) (by rfl) T.m_named T.F_named.kp T.b_named .nil passL (pa_cons (pv 0) pa_nil))) (blkOk_by (own := [("mark", 1)]) (N := n_marks_of) (sc := defScope s_marks_of) (by decide +kernel)) (fun _ _ _ _ _ => (pg_name (i := 1) sc_marks_of.nd rfl (.inl rfl))) (fun _ _ _ _ _ => pts_nil) (fun _ _ _ _ _ => (pe_tup (pa_cons (pv 1) (pa_cons pe_bl pa_nil))))) pa_nil)) pa_nil)) pa_nil))))), ?_⟩
  refine ⟨_, rfl, v, ts, rfl, hT, hf, hd, fun hs H1 f1 => ?_, k2⟩
  obtain ⟨s, es, h1, h2⟩ := id hs
  have hS : SenAt H1 v s := by
    unfold SenAt
    rw [← es]
    exact TreeAt.mono f1.tu hT
  refine ⟨_, rfl, v, s, rfl, hS, by omega, h1, fun H2 l f2 hl e2 => ?_⟩
  refine ⟨l, rfl, ⟨_, SqL.of e2⟩, fun D hD => ?_⟩
  have hlen : (ltrs s.lets).length ≤ 200 := by
    have := s.lets_len
    simp only [ltrs, List.length_map]
    omega
  refine lc_relJ [] (fun x y H => ∃ (m : Fin 8) (t : Addr), x = .str (ltr m) ∧ y = .ref t ∧ H t = some (.tup [.str (ltr m), .bl true])) (fun _ => True) hD (SqL.of e2) (by simp) (by simp) (by omega)
    (fun x y Ha Hb f q => ?_) trivial (fun _ _ _ _ => trivial) (fun i x H3 e f _ Q' k' => ?_) (fun H3 ys f _ eD p => ?_)
  · obtain ⟨m, t, e1, e2, e3⟩ := q
    exact ⟨m, t, e1, e2, f.tu _ _ e3⟩
  · obtain ⟨m, hm, rfl⟩ := at_ltrs e
    refine ⟨_, rfl, by show 2 ≤ sizeLine; rw [sizeLine_eq]; decide, fun t ht => ?_⟩
    exact k' _ _ (Fr.new ht) ⟨m, t, rfl, rfl, upd_same⟩ trivial
  · have hps : ∃ ps : List Addr, ys = ps.map V.ref ∧ Paired (fun p (m : Fin 8) => H3 p = some (.tup [.str (ltr m), .bl true])) ps s.lets := by
      have go : ∀ {ms : List (Fin 8)} {ys : List V}, Paired (fun x y => ∃ (m : Fin 8) (t : Addr), x = .str (ltr m) ∧ y = .ref t ∧ H3 t = some (.tup [.str (ltr m), .bl true])) (ltrs ms) ys →
          ∃ ps : List Addr, ys = ps.map V.ref ∧ Paired (fun p (m : Fin 8) => H3 p = some (.tup [.str (ltr m), .bl true])) ps ms := by
        intro ms
        induction ms with
        | nil =>
          intro ys p
          cases p
          exact ⟨[], rfl, .nil⟩
        | cons m r ih =>
          intro ys p
          cases p with
          | cons h t =>
            obtain ⟨m', t', e1, e2, e3⟩ := h
            obtain ⟨ps, e4, e5⟩ := ih t
            injection e1 with e1
            rw [← ltr_inj e1] at e3
            exact ⟨t' :: ps, by rw [e2, e4]; rfl, .cons e3 e5⟩
      exact go p
    obtain ⟨ps, rfl, pp⟩ := hps
    have pk : Paired (fun p (kv : Key × V) => SqT K H3 p [kV kv.1, kv.2]) ps (s.lets.map fun i => ((Sum.inr (ltr i) : Key), V.bl true)) := by
      have go : ∀ {ps : List Addr} {ms : List (Fin 8)}, Paired (fun p (m : Fin 8) => H3 p = some (.tup [.str (ltr m), .bl true])) ps ms → Paired (fun p (kv : Key × V) => SqT K H3 p [kV kv.1, kv.2]) ps (ms.map fun i => ((Sum.inr (ltr i) : Key), V.bl true)) := by
        intro ps ms p
        induction p with
        | nil => exact .nil
        | cons h t ih => exact .cons (SqT.of h) ih
      exact go pp
    refine ⟨D, ps, _, rfl, SqL.of eD, pk, fun d hd' => ?_⟩
    have em := mergeK_letters s.lets []
    rw [List.map_nil] at em
    rw [em]
    have f4 : Fr [] H3 (upd H3 d (.dK ((fmet s.lets).map fun i => ((Sum.inr (ltr i) : Key), V.bl true)))) := Fr.new hd'
    refine ⟨d, _, rfl, Rd.of upd_same, fun q hq => ?_⟩
    have f5 := Fr.new (S := []) (o := .lst (((fmet s.lets).map fun i => ((Sum.inr (ltr i) : Key), V.bl true)).map fun kv => kV kv.1)) hq
    have el : ((fmet s.lets).map fun i => ((Sum.inr (ltr i) : Key), V.bl true)).map (fun kv => kV kv.1) = ((fmet s.lets).map ltr).map V.str := by
      rw [List.map_map, List.map_map]
      rfl
    refine ⟨q, (fmet s.lets).map ltr, rfl, SqL.of (by rw [upd_same, ← el]; rfl), ?_, fun ys z py sy hz => ?_⟩
    · have h3 : (fmet s.lets).length = (mset (fmet s.lets)).length := by
        refine List.Perm.length_eq ((List.perm_ext_iff_of_nodup (fmet_nodup _) (mset_nodup _)).mpr fun i => mem_mset.symm)
      rw [List.length_map, h3]
      have := mset_le (fmet s.lets)
      omega
    · have ey := sorted_letters py (fmet_nodup _) sy
      rw [mset_fmet] at ey
      have ff : Fr [] H (upd (upd H3 d (.dK ((fmet s.lets).map fun i => ((Sum.inr (ltr i) : Key), V.bl true)))) q (.lst (((fmet s.lets).map fun i => ((Sum.inr (ltr i) : Key), V.bl true)).map fun kv => kV kv.1))) := (((f1.trans f2).trans f).trans f4).trans f5
      have f6 := Fr.new (S := []) (o := .lst (ys.map V.str)) hz
      exact k1 s es hs _ z (ff.trans f6) (ff.dm z hz) (by rw [upd_same, ey])
end
end Db

/-! sentences.py: ask_marks, ask_row -/
namespace Db
open PySem L2 PyProof.Rows
section
variable {P : Program} {w : World} {K : PySem.W.Frag} {mg : Str → Option Value} {base : Heap}
theorem inV_ltrs {m : Fin 8} {l : List (Fin 8)} : inV (.str (ltr m)) (ltrs l) = decide (m ∈ l) := by
  unfold ltrs
  rw [inV_strs]
  refine decide_eq_decide.mpr ⟨fun h => ?_, fun h => List.mem_map.mpr ⟨m, h, rfl⟩⟩
  obtain ⟨i, hi, e⟩ := List.mem_map.mp h
  rw [← ltr_inj e]
  exact hi
theorem flat_ltrs (l : List (Fin 8)) : (ltrs l).all flatV = true := by
  rw [List.all_eq_true]
  intro x hx
  obtain ⟨z, _, rfl⟩ := List.mem_map.mp hx
  rfl
def spAskMarks (K : PySem.W.Frag) (C1 C2 : Addr) : Sp := fun vs H Q E => ∃ v ts o ord, vs = [v, .ref o] ∧ TreeAt H (.tup ts) v ∧ (PT.tup ts).fit ∧ (PT.tup ts).dep ≤ 64 ∧ SqL K H o (ltrs ord) ∧
  (∀ s : Sen, .tup ts = s.pt → isSen (.tup ts) → (∀ i ∈ s.lets, i ∈ ord) → ∀ H', Fr [] H H' → Q .non H') ∧ (¬ isSen (.tup ts) → ∀ H', Fr [] H H' → E (.ref C1) none H') ∧
  (∀ s : Sen, .tup ts = s.pt → isSen (.tup ts) → ¬ (∀ i ∈ s.lets, i ∈ ord) → ∀ H', Fr [] H H' → E (.ref C2) none H')
theorem ok_ask_marks (T : Top w K mg) : FnOk P w K mg base (L2.CX P w) 70 T.f_ask_marks T.fd_ask_marks p_ask_marks (spAskMarks K T.C_NoSentence T.C_NoMark) := by
  have G_marks_of := ok_marks_of (P := P) (base := base) T
  refine T.F_ask_marks.okX sc_ask_marks (fun vs H Q E h => ?_) (fun cdv A outer s H vs Q E hr h => ?_)
  · obtain ⟨v, ts, o, ord, rfl, _⟩ := h
    rfl
  obtain ⟨v, ts, o, ord, rfl, hT, hf, hd, hS, k1, k2, k3⟩ := h
  refine ⟨_, (pss_one (ps_for (passes_of rfl) rfl (pi_list (pe_call G_marks_of (hr.mono (by omega)) (by rfl) T.m_marks_of T.F_marks_of.kp T.b_marks_of .nil (passes_call (takes_of rfl rfl rfl rfl) fun _ _ _ _ z => z) (pa_cons (pv 0) pa_nil))) (pg_name (i := 2) sc_ask_marks.nd rfl (.inl rfl))
    (pss_one (ps_if (pt_cmpR (k_notIn (K := K) rfl) (pv 2) (pv 1) (by rfl)) (pss_one (ps_raise rfl (takes_of rfl rfl rfl rfl) (pmk_own PySem.F.excBase_ValueError T.x_NoMark T.m_NoMark T.k_NoMark (raises_own T.bb_NoMark T.tt_NoMark) rfl))) pss_nil)))), ?_⟩
  refine ⟨_, rfl, v, ts, rfl, hT, hf, hd, fun s es hs H1 l f1 hl e1 => ?_, k2⟩
  refine ⟨l, rfl, ⟨_, SqL.of e1⟩, for_list (K := K) (a := l) (xs := ltrs (mset s.lets)) (fun i σ H2 => ∃ y, σ = [some v, some (.ref o), y] ∧ Fr [] H1 H2 ∧ ∀ m ∈ (mset s.lets).take i, m ∈ ord)
    ⟨none, rfl, Fr.refl, by simp⟩ (fun i σ H2 _ p => ?_) (fun i x σ H2 hx p => ?_) (fun σ H2 p => ?_)⟩
  · obtain ⟨y, _, f2, _⟩ := p
    exact f2.seq (SqL.of e1)
  · obtain ⟨y, rfl, f2, hm⟩ := p
    obtain ⟨m, hmi, rfl⟩ := at_ltrs hx
    refine ⟨_, rfl, _, rfl, o, _, rfl, .inl (f2.seq (f1.seq hS)), rfl, flat_ltrs ord, _, rfl, ?_⟩
    rw [inV_ltrs]
    by_cases hin : m ∈ ord
    · rw [decide_eq_true hin]
      refine ⟨_, rfl, f2, fun j hj => ?_⟩
      rw [take_snoc hmi] at hj
      rcases List.mem_append.mp hj with hj | hj
      · exact hm j hj
      · rw [List.mem_singleton.mp hj]
        exact hin
    · rw [decide_eq_false hin]
      exact k3 s es hs (fun q => hin (q m (mem_mset.mp (List.mem_of_getElem? hmi)))) H2 (f1.trans f2)
  · obtain ⟨y, rfl, f2, hm⟩ := p
    refine k1 s es hs (fun i hi => hm i ?_) H2 (f1.trans f2)
    rw [show (ltrs (mset s.lets)).length = (mset s.lets).length by simp [ltrs], List.take_length]
    exact mem_mset.mpr hi
/-- whether some values are a row of n marks -/
def isRow (n : Nat) (r : List Int) : Prop := r.length = n ∧ ∀ v ∈ r, v = 0 ∨ v = 1
def spAskRow (K : PySem.W.Frag) (C : Addr) : Sp := fun vs H Q E => ∃ o r xs ns, vs = [.ref o, .ref r] ∧ SqL K H o xs ∧ SqL K H r (ns.map V.int) ∧ ns.length ≤ 700 ∧
  (isRow xs.length ns → ∀ H', Fr [] H H' → Q .non H') ∧ (¬ isRow xs.length ns → ∀ H', Fr [] H H' → E (.ref C) none H')
theorem at_ints {ns : List Int} {i : Nat} {x : V} (e : (ns.map V.int)[i]? = some x) : ∃ n, ns[i]? = some n ∧ x = .int n := at_map e
theorem ok_ask_row (T : Top w K mg) : FnOk P w K mg base (L2.CX P w) 1 T.f_ask_row T.fd_ask_row p_ask_row (spAskRow K T.C_NoRow) := by
  refine T.F_ask_row.okX sc_ask_row (fun vs H Q E h => ?_) (fun cdv A outer s H vs Q E hr h => ?_)
  · obtain ⟨o, r, xs, ns, rfl, _⟩ := h
    rfl
  obtain ⟨o, r, xs, ns, rfl, hO, hR, hl, k1, k2⟩ := h
  refine ⟨_, (pss_one (ps_if (PW.pt (pw_or (pt_cmpR op_ne (pe_callB (id := "len") (k_len (K := K) rfl) (by rfl) T.z_len (by decide +kernel) (pa_cons (pv 1) pa_nil)) (pe_callB (id := "len") (k_len (K := K) rfl) (by rfl) T.z_len (by decide +kernel) (pa_cons (pv 0) pa_nil)) (nomark _)) (pw_or1 (pt_not (pt_val (pe_callB (id := "all") (k_all (K := K) rfl rfl) (by rfl) T.z_all (by decide +kernel) (pa_cons (pe_lc (own := [("value", 2)]) (g := gName 2) (tt := tYes) rfl sc_ask_row.nd (pi_list (pv 1)) (blkOk_by (own := [("value", 2)]) (N := n_ask_row) (sc := defScope s_ask_row) (by decide +kernel)) (fun _ _ _ _ _ => (pg_name (i := 2) sc_ask_row.nd rfl (.inl rfl))) (fun _ _ _ _ _ => pts_nil) (fun _ _ _ _ _ => (pe_cmp (pc_inT (pv 2) (pa_cons pe_int (pa_cons pe_int pa_nil))) (by rfl)))) pa_nil))))))) (pss_one (ps_raise rfl (takes_of rfl rfl rfl rfl) (pmk_own PySem.F.excBase_ValueError T.x_NoRow T.m_NoRow T.k_NoRow (raises_own T.bb_NoRow T.tt_NoRow) rfl))) pss_nil)), ?_⟩
  refine ⟨_, rfl, r, _, rfl, .inl hR, _, rfl, o, _, rfl, .inl hO, rfl, _, rfl, ?_⟩
  have hln : (ns.map V.int).length = ns.length := List.length_map _
  refine ite2 (fun c => ?_) (fun c => ?_)
  · refine k2 (fun q => ?_) H Fr.refl
    simp at c
    exact c (by have := q.1; omega)
  · have e : ns.length = xs.length := by
      simp at c
      omega
    refine ⟨_, rfl, r, rfl, ⟨_, hR⟩, fun D hD => ?_⟩
    refine lc_relJ [] (fun x y _ => ∃ n : Int, x = .int n ∧ y = .bl (decide (n = 0 ∨ n = 1))) (fun _ => True) hD hR (by simp) (by simp) (by omega) (fun _ _ _ _ _ q => q) trivial (fun _ _ _ _ => trivial) (fun i x H3 e f _ Q' k' => ?_) (fun H3 ys f _ eD p => ?_)
    · obtain ⟨n, hn, rfl⟩ := at_ints e
      refine ⟨_, rfl, by show 2 ≤ sizeLine; rw [sizeLine_eq]; decide, rfl, rfl, ?_⟩
      refine k' _ H3 Fr.refl ⟨n, rfl, ?_⟩ trivial
      show V.bl (inV (.int n) [.int 0, .int 1]) = _
      unfold inV
      congr 1
      by_cases h0 : n = 0
      · subst h0; rfl
      · by_cases h1 : n = 1
        · subst h1; rfl
        · simp [eqV, h0, h1]
          omega
    · have ey : ys = (ns.map fun n => decide (n = 0 ∨ n = 1)).map V.bl := by
        have go : ∀ {ns : List Int} {ys : List V}, Paired (fun x y => ∃ n : Int, x = V.int n ∧ y = V.bl (decide (n = 0 ∨ n = 1))) (ns.map V.int) ys → ys = (ns.map fun n => decide (n = 0 ∨ n = 1)).map V.bl := by
          intro ns
          induction ns with
          | nil =>
            intro ys p
            cases p
            rfl
          | cons a r ih =>
            intro ys p
            cases p with
            | cons h t =>
              obtain ⟨n, e1, e2⟩ := h
              cases e1
              rw [ih t, e2]
              rfl
        exact go p
      refine ⟨D, _, rfl, SqL.of (by rw [eD, ey]), _, rfl, ?_⟩
      cases hall : (ns.map fun n => decide (n = 0 ∨ n = 1)).all id with
      | true =>
        refine k1 ⟨e, fun v hv => ?_⟩ H3 f
        rw [List.all_eq_true] at hall
        have := hall _ (List.mem_map.mpr ⟨v, hv, rfl⟩)
        simpa using this
      | false =>
        refine k2 (fun q => ?_) H3 f
        rw [List.all_eq_false] at hall
        obtain ⟨b, hb, hn⟩ := hall
        obtain ⟨v, hv, rfl⟩ := List.mem_map.mp hb
        refine hn ?_
        simp only [id]
        exact decide_eq_true (q.2 v hv)
end
end Db

/-! the laws' own helpers: cells, draws, orders -/
namespace Db
open PySem L2 PyProof.Rows
/-- the k-th number of the script, or 0 -/
def cellAt (ns : List Int) (k : Int) : Int := ns.getD k.toNat 0
/-- a number drawn from a cell -/
def drawI (c k b : Int) : Int :=
  if c ≥ 10 ^ 18 then Nat.repeat (fun x => x / b) k.toNat c % b
  else
    let s1 := (c % 1000000007 + 1009 * k + 17) * 69621 % 2147483647
    let s2 := (s1 * s1 + 40503 * k + 5) % 2147483629
    s2 * 48271 % 2147483647 / 32 % b
theorem drawI_lt (c k : Int) {b : Int} (h : 0 < b) : 0 ≤ drawI c k b ∧ drawI c k b < b := by
  unfold drawI
  split
  · exact ⟨Int.emod_nonneg _ (by omega), Int.emod_lt_of_pos _ h⟩
  · exact ⟨Int.emod_nonneg _ (by omega), Int.emod_lt_of_pos _ h⟩
section
variable {P : Program} {w : World} {K : PySem.W.Frag} {mg : Str → Option Value} {base : Heap}
def spCell (K : PySem.W.Frag) : Sp := fun vs H Q _ => ∃ a ns k, vs = [.ref a, .int k] ∧ SqL K H a (ns.map V.int) ∧ 0 ≤ k ∧ Q (.int (cellAt ns k)) H
theorem ok__law_cell_at (T : Top w K mg) : FnOk P w K mg base (L2.CX P w) 1 T.f__law_cell_at T.fd__law_cell_at p__law_cell_at (spCell K) := by
  refine T.F__law_cell_at.okX sc__law_cell_at (fun vs H Q E h => ?_) (fun cdv A outer s H vs Q E hr h => ?_)
  · obtain ⟨a, ns, k, rfl, _⟩ := h
    rfl
  obtain ⟨a, ns, k, rfl, hS, h0, q⟩ := h
  refine ⟨_, (pss_cons (ps_if (pt_cmpR op_lt (pv 1) (pe_callB (id := "len") (k_len (K := K) rfl) (by rfl) T.z_len (by decide +kernel) (pa_cons (pv 0) pa_nil)) (nomark _)) (pss_one (ps_ret (pe_ix (k_ixL (K := K) rfl) (pv 0) (pv 1) (fun _ _ => rfl)))) pss_nil)
    (pss_one (ps_ret pe_int))), ?_⟩
  refine ⟨_, rfl, _, rfl, a, _, rfl, .inl hS, _, _, rfl, rfl, _, rfl, ?_⟩
  have hln : (ns.map V.int).length = ns.length := List.length_map _
  refine ite2 (fun c => ?_) (fun c => ?_)
  · have c : k.toNat < ns.length := by simp at c; omega
    have ek : k = ((k.toNat : Nat) : Int) := by omega
    refine ⟨_, rfl, _, rfl, a, _, k, _, rfl, rfl, hS, by rw [ek]; exact atI_nat (by rw [List.getElem?_map, List.getElem?_eq_getElem c]; rfl), ?_⟩
    unfold cellAt at q
    rw [List.getD_eq_getElem?_getD, List.getElem?_eq_getElem c] at q
    exact q
  · have c : ns.length ≤ k.toNat := by simp at c; omega
    unfold cellAt at q
    rw [List.getD_eq_getElem?_getD, List.getElem?_eq_none c] at q
    exact q
def spDraw : Sp := fun vs H Q _ => ∃ c k b, vs = [.int c, .int k, .int b] ∧ 0 ≤ k ∧ k < 2 ^ 40 ∧ 0 < b ∧ b < 2 ^ 30 ∧ Q (.int (drawI c k b)) H
theorem ok__law_draw (T : Top w K mg) : FnOk P w K mg base (L2.CX P w) 1 T.f__law_draw T.fd__law_draw p__law_draw spDraw := by
  refine T.F__law_draw.okX sc__law_draw (fun vs H Q E h => ?_) (fun cdv A outer s H vs Q E hr h => ?_)
  · obtain ⟨c, k, b, rfl, _⟩ := h
    rfl
  obtain ⟨c, k, b, rfl, h0, h1, h2, h3, q⟩ := h
  refine ⟨_, (pss_cons (ps_if (pt_cmpR op_ge (pv 0) (pe_op op_pow pe_int pe_int) (nomark _)) (pss_cons (ps_set (i := 3) sc__law_draw.nd rfl (.inl rfl) (pv 0))
    (pss_cons (ps_for (passes_of rfl) rfl (pi_range1 (by rfl) T.z_range (pa_cons (pv 1) pa_nil)) (pg_name (i := 4) sc__law_draw.nd rfl (.inl rfl))
    (pss_one (ps_set (i := 3) sc__law_draw.nd rfl (.inl rfl) (pe_op op_fdiv (pv 3) (pv 2)))))
    (pss_one (ps_ret (pe_op op_mod (pv 3) (pv 2)))))) pss_nil)
    (pss_cons (ps_set (i := 5) sc__law_draw.nd rfl (.inl rfl) (pe_op op_mod (pe_op op_mul (pe_op op_add (pe_op op_add (pe_op op_mod (pv 0) pe_int) (pe_op op_mul pe_int (pv 1))) pe_int) pe_int) pe_int))
    (pss_cons (ps_set (i := 5) sc__law_draw.nd rfl (.inl rfl) (pe_op op_mod (pe_op op_add (pe_op op_add (pe_op op_mul (pv 5) (pv 5)) (pe_op op_mul pe_int (pv 1))) pe_int) pe_int))
    (pss_one (ps_ret (pe_op op_mod (pe_op op_fdiv (pe_op op_mod (pe_op op_mul (pv 5) pe_int) pe_int) pe_int) (pv 2))))))), ?_⟩
  refine ⟨_, rfl, _, _, rfl, rfl, ⟨by decide, by decide, by decide⟩, _, _, rfl, rfl, _, rfl, ?_⟩
  unfold drawI at q
  refine ite2 (fun g => ?_) (fun g => ?_)
  · have g : c ≥ 10 ^ 18 := by simpa using g
    rw [if_pos g] at q
    refine ⟨_, rfl, _, rfl, k, rfl, by omega, by omega, for_range (lo := 0) (n := k.toNat) (fun i σ H2 => ∃ x y, σ = [some (.int c), some (.int k), some (.int b), some (.int (Nat.repeat (fun x => x / b) i c)), x, y] ∧ H2 = H)
      ⟨_, _, rfl, rfl⟩ (fun i σ H2 hi p => ?_) (fun σ H2 p => ?_)⟩
    · obtain ⟨x, y, rfl, rfl⟩ := p
      exact ⟨_, rfl, _, rfl, _, _, rfl, rfl, ⟨h2, by omega⟩, _, _, rfl, rfl⟩
    · obtain ⟨x, y, rfl, rfl⟩ := p
      exact ⟨_, rfl, _, rfl, _, _, rfl, rfl, h2, q⟩
  · have g : ¬ c ≥ 10 ^ 18 := by simpa using g
    rw [if_neg g] at q
    refine ⟨_, rfl, _, _, rfl, rfl, (by show (0 : Int) < _; decide), _, rfl, _, _, rfl, rfl, .inl ⟨by decide, by decide⟩, _, _, rfl, rfl, _, _, rfl, rfl, _, _, rfl, rfl, .inr ⟨by decide, by decide⟩, _, _, rfl, rfl, (by show (0 : Int) < _; decide), ?_⟩
    have b1 := Int.emod_nonneg ((c % 1000000007 + 1009 * k + 17) * 69621) (b := 2147483647) (by decide)
    have b2 := Int.emod_lt_of_pos ((c % 1000000007 + 1009 * k + 17) * 69621) (b := 2147483647) (by decide)
    refine ⟨_, rfl, _, rfl, _, _, rfl, rfl, .inl ⟨by show _ < _; omega, by show _ < _; omega⟩, _, rfl, _, _, rfl, rfl, .inl ⟨by decide, by decide⟩, _, _, rfl, rfl, _, _, rfl, rfl, _, _, rfl, rfl, (by show (0 : Int) < _; decide), ?_⟩
    exact ⟨_, rfl, _, _, rfl, rfl, .inr ⟨by decide, by decide⟩, _, _, rfl, rfl, (by show (0 : Int) < _; decide), _, _, rfl, rfl, ⟨by decide, by decide⟩, _, rfl, _, _, rfl, rfl, h2, q⟩
end
end Db

/-! the laws' own helpers: orders -/
namespace Db
open PySem L2 PyProof.Rows
theorem abc_at {i : Nat} (h : i < 8) : atI ("abcdefgh" : Str).cps.toList ((i : Nat) : Int) = some (97 + i) := by
  refine atI_nat ?_
  have e : ("abcdefgh" : Str).cps.toList = [97, 98, 99, 100, 101, 102, 103, 104] := by decide +kernel
  rw [e]
  match i, h with
  | 0, _ => rfl
  | 1, _ => rfl
  | 2, _ => rfl
  | 3, _ => rfl
  | 4, _ => rfl
  | 5, _ => rfl
  | 6, _ => rfl
  | 7, _ => rfl
theorem abc_len : ("abcdefgh" : Str).length ≤ sizeLine := by rw [sizeLine_eq]; decide +kernel
/-- an order of marks -/
structure OrdOk (ord : List (Fin 8)) : Prop where
  nd : ord.Nodup
  ne : ord ≠ []
theorem OrdOk.len {ord : List (Fin 8)} (h : OrdOk ord) : ord.length ≤ 8 := by
  have p : ord.Perm (mset ord) := (List.perm_ext_iff_of_nodup h.nd (mset_nodup ord)).mpr fun i => mem_mset.symm
  rw [p.length_eq]
  exact mset_le ord
theorem OrdOk.pos {ord : List (Fin 8)} (h : OrdOk ord) : 0 < ord.length := List.length_pos_iff.mpr h.ne
theorem fin_take {i : Nat} (h : i < 8) : (List.finRange 8).take (i + 1) = (List.finRange 8).take i ++ [⟨i, h⟩] := by
  rw [List.take_succ_eq_append_getElem (by simpa using h)]
  simp
theorem put_perm {α : Type} (p : Nat) (l : List α) (x : α) : (l.take p ++ [x] ++ l.drop p).Perm (l ++ [x]) := by
  have h1 : (l.take p ++ [x] ++ l.drop p).Perm (l.take p ++ (l.drop p ++ [x])) := by
    rw [List.append_assoc]
    exact List.Perm.append_left _ List.perm_append_comm
  rw [← List.append_assoc, List.take_append_drop] at h1
  exact h1
section
variable {P : Program} {w : World} {K : PySem.W.Frag} {mg : Str → Option Value} {base : Heap}
def spOrder : Sp := fun vs H Q _ => ∃ c L, vs = [.int c, .int L] ∧ 1 ≤ L ∧ L ≤ 8 ∧ ∀ H' l ord, Fr [] H H' → H l = none → OrdOk ord → (ord.length : Int) ≤ L → H' l = some (.lst (ltrs ord)) → Q (.ref l) H'
theorem ok__law_order (T : Top w K mg) : FnOk P w K mg base (L2.CX P w) 2 T.f__law_order T.fd__law_order p__law_order spOrder := by
  have G__law_draw := ok__law_draw (P := P) (base := base) T
  refine T.F__law_order.okX sc__law_order (fun vs H Q E h => ?_) (fun cdv A outer s H vs Q E hr h => ?_)
  · obtain ⟨c, L, rfl, _⟩ := h
    rfl
  obtain ⟨c, L, rfl, h0, h1, q⟩ := h
  refine ⟨_, (pss_cons (ps_set (i := 2) sc__law_order.nd rfl (.inl rfl) (pe_lst pa_nil))
    (pss_cons (ps_for (passes_of rfl) rfl (pi_range1 (by rfl) T.z_range (pa_cons (pe_op op_add pe_int (pe_call G__law_draw (hr.mono (by omega)) (by rfl) T.m__law_draw T.F__law_draw.kp T.b__law_draw .nil passL (pa_cons (pv 0) (pa_cons pe_int (pa_cons (pv 1) pa_nil))))) pa_nil)) (pg_name (i := 3) sc__law_order.nd rfl (.inl rfl))
    (pss_one (ps_expr (pe_bm PySem.F.plainAttrs_list PySem.F.slot_list_insert PySem.F.type_list_insert mt_insert (pv 2) (pa_cons (pe_op op_mod (pe_call G__law_draw (hr.mono (by omega)) (by rfl) T.m__law_draw T.F__law_draw.kp T.b__law_draw .nil passL (pa_cons (pv 0) (pa_cons (pe_op op_add pe_int (pv 3)) (pa_cons pe_int pa_nil)))) (pe_op op_add (pv 3) pe_int)) (pa_cons (pe_ix ix_str pe_str (pv 3) (fun _ _ => rfl)) pa_nil))))))
    (pss_one (ps_ret (pv 2))))), ?_⟩
  refine ⟨Nat.zero_le _, fun l hl => ?_⟩
  have hd := drawI_lt c 0 (b := L) (by omega)
  refine ⟨_, rfl, _, rfl, c, 0, L, rfl, by omega, by omega, by omega, by omega, _, _, rfl, rfl, 1 + drawI c 0 L, rfl, by omega, by omega, ?_⟩
  refine for_range (lo := 0) (n := (1 + drawI c 0 L).toNat) (fun i σ H2 => ∃ x ord, σ = [some (.int c), some (.int L), some (.ref l), x] ∧ Fr [] H H2 ∧ ord.Perm ((List.finRange 8).take i) ∧ H2 l = some (.lst (ltrs ord)))
      ⟨none, [], rfl, Fr.new hl, by simp, upd_same⟩ (fun i σ H2 hi p => ?_) (fun σ H2 p => ?_)
  · obtain ⟨x, ord, rfl, f, pm, e⟩ := p
    have hi8 : i < 8 := by omega
    have d1 := drawI_lt c (1 + (0 + (i : Int))) (b := 5040) (by omega)
    have olen : ord.length = i := by rw [pm.length_eq]; simp; omega
    have m0 := Int.emod_nonneg (drawI c (1 + (0 + (i : Int))) 5040) (b := 0 + (i : Int) + 1) (by omega)
    have m1 := Int.emod_lt_of_pos (drawI c (1 + (0 + (i : Int))) 5040) (b := 0 + (i : Int) + 1) (by omega)
    refine ⟨_, rfl, .inl ⟨rfl, _, SqL.of e⟩, _, rfl, _, rfl, _, _, rfl, rfl, c, _, 5040, rfl, by omega, by omega, by omega, by omega, _, rfl, _, _, rfl, rfl, _, _, rfl, rfl, by show (0 : Int) < _; omega, ?_⟩
    refine ⟨_, rfl, "abcdefgh", _, 97 + i, rfl, rfl, abc_len, by rw [show (0 : Int) + (i : Int) = ((i : Nat) : Int) by omega]; exact abc_at hi8, l, _, _, _, rfl, rfl, e, by simp [ltrs, olen, sizeLine_eq]; omega, m0, by omega, ?_⟩
    refine ⟨_, ord.take (drawI c (1 + (0 + (i : Int))) 5040 % (0 + (i : Int) + 1)).toNat ++ [⟨i, hi8⟩] ++ ord.drop (drawI c (1 + (0 + (i : Int))) 5040 % (0 + (i : Int) + 1)).toNat, rfl, f.own hl, ?_, ?_⟩
    · rw [fin_take hi8]
      exact (put_perm _ ord _).trans (pm.append_right _)
    · rw [upd_same]
      simp only [ltrs, List.map_append, List.map_take, List.map_drop]
      rfl
  · obtain ⟨x, ord, rfl, f, pm, e⟩ := p
    have olen : ord.length = (1 + drawI c 0 L).toNat := by rw [pm.length_eq]; simp; omega
    have nd : ((List.finRange 8).take (1 + drawI c 0 L).toNat).Nodup := (List.nodup_finRange 8).sublist (List.take_sublist _ _)
    exact ⟨_, rfl, q H2 l ord f hl ⟨pm.nodup_iff.mpr nd, fun z => by rw [z] at olen; simp at olen; omega⟩ (by rw [olen]; omega) e⟩
end
end Db

/-! the laws' own helpers: drawn sentences -/
namespace Db
open PySem L2 PyProof.Rows
theorem at_any {xs : List V} {i : Int} (h1 : -(xs.length : Int) ≤ i) (h2 : i < (xs.length : Int)) : ∃ v, v ∈ xs ∧ atI xs i = some v := by
  unfold atI ixN
  by_cases h0 : 0 ≤ i
  · rw [if_pos h0, if_pos h2]
    have h : i.toNat < xs.length := by omega
    exact ⟨xs[i.toNat], List.getElem_mem h, by simp [h]⟩
  · rw [if_neg h0, if_pos h1]
    have h : (i + (xs.length : Int)).toNat < xs.length := by omega
    refine ⟨xs[(i + (xs.length : Int)).toNat], List.getElem_mem h, ?_⟩
    show (some _).bind _ = _
    simp only [Option.bind_some]
    first
      | exact List.getElem?_eq_getElem h
      | (rw [show (xs.length : Int) + i = i + (xs.length : Int) by omega]; exact List.getElem?_eq_getElem h)
def kindWs : List Str := ["mark", "mark", "not", "and", "or", "either", "if", "and", "or", "some", "each", "yes", "no", "mark"]
/-- a drawn sentence: its letters are of the order, it is no deeper than n -/
def Drawn (ord : List (Fin 8)) (n : Nat) (s : Sen) : Prop := (∀ i ∈ s.lets, i ∈ ord) ∧ s.dep ≤ n
/-- what the drawing loop keeps -/
structure SentInv (ord : List (Fin 8)) (H0 : Hp) (kl ml : Addr) (i : Nat) (H : Hp) : Prop where
  fr : Fr [] H0 H
  ks : H kl = some (.lst (kindWs.map V.str))
  ne : kl ≠ ml
  ms : ∃ vs : List V, H ml = some (.lst vs) ∧ vs.length = i + 1 ∧ ∀ v ∈ vs, ∃ s, SenAt H v s ∧ Drawn ord (i + 1) s
theorem SentInv.more {ord : List (Fin 8)} {H0 H : Hp} {kl ml t : Addr} {i : Nat} {vs us : List V} {s : Sen} (I : SentInv ord H0 kl ml i H) (hm0 : H0 ml = none) (hv : H ml = some (.lst vs)) (ht : H t = none)
    (hs : SenAt (upd H t (.tup us)) (.ref t) s) (hd : Drawn ord (i + 2) s) : SentInv ord H0 kl ml (i + 1) (upd (upd H t (.tup us)) ml (.lst (vs ++ [.ref t]))) := by
  obtain ⟨fr, ks, ne, vs', e1, e2, e3⟩ := I
  rw [hv] at e1
  cases e1
  have f1 : Fr [ml] H (upd H t (.tup us)) := Fr.new ht
  have nmt : ml ≠ t := ne_of_none hv ht
  have hv1 : (upd H t (.tup us)) ml = some (.lst vs) := by rw [upd_ne nmt]; exact hv
  have f2 : Fr [ml] (upd H t (.tup us)) (upd (upd H t (.tup us)) ml (.lst (vs ++ [.ref t]))) := Fr.put (by simp) (by rw [hv1]; intro xs; simp)
  refine ⟨(fr.trans (Fr.new ht)).own hm0, (f1.trans f2).kp _ _ ks (by simpa using ne), ne, _, upd_same, by simp [e2], fun v hm => ?_⟩
  rcases List.mem_append.mp hm with hm | hm
  · obtain ⟨s', h1, h2, h3⟩ := e3 v hm
    exact ⟨s', (h1.fr f1).fr f2, h2, by omega⟩
  · rw [List.mem_singleton.mp hm]
    exact ⟨s, hs.fr f2, hd⟩
section
variable {P : Program} {w : World} {K : PySem.W.Frag} {mg : Str → Option Value} {base : Heap}
def spSentence (K : PySem.W.Frag) : Sp := fun vs H Q _ => ∃ (a : Addr) (ns : List Int) (t m : Int) (o : Addr) (ord : List (Fin 8)), vs = [.ref a, .int t, .int m, .ref o] ∧ SqL K H a (ns.map V.int) ∧ 0 ≤ t ∧ 0 ≤ m ∧ m ≤ 60 ∧ SqL K H o (ltrs ord) ∧ OrdOk ord ∧
  ∀ H' v s, Fr [] H H' → SenAt H' v s → Drawn ord (max m.toNat 1) s → Q v H'
theorem at_ord {ord : List (Fin 8)} (h : OrdOk ord) (x : Int) : ∃ m, m ∈ ord ∧ atI (ltrs ord) (x % ((ltrs ord).length : Nat)) = some (.str (ltr m)) := by
  have hl : (ltrs ord).length = ord.length := by simp [ltrs]
  have hp := h.pos
  have h1 := Int.emod_nonneg x (b := ((ltrs ord).length : Nat)) (by omega)
  have h2 := Int.emod_lt_of_pos x (b := ((ltrs ord).length : Nat)) (by omega)
  obtain ⟨v, hv, e⟩ := at_any (xs := ltrs ord) (i := x % ((ltrs ord).length : Nat)) (by omega) h2
  obtain ⟨z, hz, rfl⟩ := List.mem_map.mp hv
  obtain ⟨m, hm, rfl⟩ := List.mem_map.mp hz
  exact ⟨m, hm, e⟩
set_option maxHeartbeats 16000000 in
theorem ok__law_sentence (T : Top w K mg) : FnOk P w K mg base (L2.CX P w) 2 T.f__law_sentence T.fd__law_sentence p__law_sentence (spSentence K) := by
  have G__law_draw := ok__law_draw (P := P) (base := base) T
  have G__law_cell_at := ok__law_cell_at (P := P) (base := base) T
  refine T.F__law_sentence.okX sc__law_sentence (fun vs H Q E h => ?_) (fun cdv A outer s H vs Q E hr h => ?_)
  · obtain ⟨a, ns, t, m, o, ord, rfl, _⟩ := h
    rfl
  obtain ⟨a, ns, t, m, o, ord, rfl, hS, ht0, hmn, hm60, hO, hord, q⟩ := h
  refine ⟨_, (pss_cons (ps_set (i := 4) sc__law_sentence.nd rfl (.inl rfl) (pe_lst (pa_cons pe_str (pa_cons pe_str (pa_cons pe_str (pa_cons pe_str (pa_cons pe_str (pa_cons pe_str (pa_cons pe_str (pa_cons pe_str (pa_cons pe_str (pa_cons pe_str (pa_cons pe_str (pa_cons pe_str (pa_cons pe_str (pa_cons pe_str pa_nil))))))))))))))))
    (pss_cons (ps_set (i := 5) sc__law_sentence.nd rfl (.inl rfl) (pe_lst (pa_cons (pe_tup (pa_cons pe_str (pa_cons (pe_ix (k_ixL (K := K) rfl) (pv 3) (pe_op op_mod (pe_call G__law_draw (hr.mono (by omega)) (by rfl) T.m__law_draw T.F__law_draw.kp T.b__law_draw .nil passL (pa_cons (pe_call G__law_cell_at (hr.mono (by omega)) (by rfl) T.m__law_cell_at T.F__law_cell_at.kp T.b__law_cell_at .nil passL (pa_cons (pv 0) (pa_cons (pv 1) pa_nil))) (pa_cons pe_int (pa_cons pe_int pa_nil)))) (pe_callB (id := "len") (k_len (K := K) rfl) (by rfl) T.z_len (by decide +kernel) (pa_cons (pv 3) pa_nil))) (fun _ _ => rfl)) pa_nil))) pa_nil)))
    (pss_cons (ps_for (passes_of rfl) rfl (pi_range2 (by rfl) T.z_range (pa_cons pe_int (pa_cons (pv 2) pa_nil))) (pg_name (i := 6) sc__law_sentence.nd rfl (.inl rfl))
    (pss_cons (ps_set (i := 7) sc__law_sentence.nd rfl (.inl rfl) (pe_call G__law_cell_at (hr.mono (by omega)) (by rfl) T.m__law_cell_at T.F__law_cell_at.kp T.b__law_cell_at .nil passL (pa_cons (pv 0) (pa_cons (pe_op op_add (pv 1) (pv 6)) pa_nil))))
    (pss_cons (ps_set (i := 8) sc__law_sentence.nd rfl (.inl rfl) (pe_ix (k_ixL (K := K) rfl) (pv 4) (pe_call G__law_draw (hr.mono (by omega)) (by rfl) T.m__law_draw T.F__law_draw.kp T.b__law_draw .nil passL (pa_cons (pv 7) (pa_cons pe_int (pa_cons pe_int pa_nil)))) (fun _ _ => rfl)))
    (pss_cons (ps_set (i := 9) sc__law_sentence.nd rfl (.inl rfl) (pe_ix (k_ixL (K := K) rfl) (pv 5) (pe_op op_sub (pe_un un_neg pe_int) (pe_op op_mod (pe_call G__law_draw (hr.mono (by omega)) (by rfl) T.m__law_draw T.F__law_draw.kp T.b__law_draw .nil passL (pa_cons (pv 7) (pa_cons pe_int (pa_cons pe_int pa_nil)))) (pe_callB (id := "len") (k_len (K := K) rfl) (by rfl) T.z_len (by decide +kernel) (pa_cons (pv 5) pa_nil)))) (fun _ _ => rfl)))
    (pss_cons (ps_set (i := 10) sc__law_sentence.nd rfl (.inl rfl) (pe_ix (k_ixL (K := K) rfl) (pv 5) (pe_op op_mod (pe_call G__law_draw (hr.mono (by omega)) (by rfl) T.m__law_draw T.F__law_draw.kp T.b__law_draw .nil passL (pa_cons (pv 7) (pa_cons pe_int (pa_cons pe_int pa_nil)))) (pe_callB (id := "len") (k_len (K := K) rfl) (by rfl) T.z_len (by decide +kernel) (pa_cons (pv 5) pa_nil))) (fun _ _ => rfl)))
    (pss_cons (ps_set (i := 11) sc__law_sentence.nd rfl (.inl rfl) (pe_ix (k_ixL (K := K) rfl) (pv 3) (pe_op op_mod (pe_call G__law_draw (hr.mono (by omega)) (by rfl) T.m__law_draw T.F__law_draw.kp T.b__law_draw .nil passL (pa_cons (pv 7) (pa_cons pe_int (pa_cons pe_int pa_nil)))) (pe_callB (id := "len") (k_len (K := K) rfl) (by rfl) T.z_len (by decide +kernel) (pa_cons (pv 3) pa_nil))) (fun _ _ => rfl)))
    (pss_one (ps_if (PW.pt (pw_or (pt_cmpR op_eq (pv 8) pe_str (nomark _)) (pw_or1 (pt_cmpR op_eq (pv 8) pe_str (nomark _))))) (pss_one (ps_expr (pe_bm PySem.F.plainAttrs_list PySem.F.slot_list_append PySem.F.type_list_append mt_append (pv 5) (pa_cons (pe_tup (pa_cons (pv 8) pa_nil)) pa_nil)))) (pss_one (ps_if (pt_cmpR op_eq (pv 8) pe_str (nomark _)) (pss_one (ps_expr (pe_bm PySem.F.plainAttrs_list PySem.F.slot_list_append PySem.F.type_list_append mt_append (pv 5) (pa_cons (pe_tup (pa_cons pe_str (pa_cons (pv 11) pa_nil))) pa_nil)))) (pss_one (ps_if (pt_cmpR op_eq (pv 8) pe_str (nomark _)) (pss_one (ps_expr (pe_bm PySem.F.plainAttrs_list PySem.F.slot_list_append PySem.F.type_list_append mt_append (pv 5) (pa_cons (pe_tup (pa_cons pe_str (pa_cons (pv 9) pa_nil))) pa_nil)))) (pss_one (ps_if (PW.pt (pw_or (pt_cmpR op_eq (pv 8) pe_str (nomark _)) (pw_or1 (pt_cmpR op_eq (pv 8) pe_str (nomark _))))) (pss_one (ps_expr (pe_bm PySem.F.plainAttrs_list PySem.F.slot_list_append PySem.F.type_list_append mt_append (pv 5) (pa_cons (pe_tup (pa_cons (pv 8) (pa_cons (pv 11) (pa_cons (pv 9) pa_nil)))) pa_nil)))) (pss_one (ps_expr (pe_bm PySem.F.plainAttrs_list PySem.F.slot_list_append PySem.F.type_list_append mt_append (pv 5) (pa_cons (pe_tup (pa_cons (pv 8) (pa_cons (pv 10) (pa_cons (pv 9) pa_nil)))) pa_nil))))))))))))))))))
    (pss_one (ps_ret (pe_ix (k_ixL (K := K) rfl) (pv 5) (pe_un un_neg pe_int) (fun _ _ => rfl))))))), ?_⟩
  refine ⟨by show 14 ≤ sizeLine; rw [sizeLine_eq]; decide, fun kl hkl => ?_⟩
  have f0 : Fr [] H (upd H kl (.lst (kindWs.map V.str))) := Fr.new hkl
  obtain ⟨m0, hm0, e0⟩ := at_ord hord (drawI (cellAt ns t) 3 40320)
  refine ⟨_, rfl, _, rfl, _, rfl, a, ns, t, rfl, f0.seq hS, ht0, cellAt ns t, 3, 40320, rfl, by omega, by omega, by omega, by omega, _, rfl, o, _, rfl, .inl (f0.seq hO), _, _, rfl, rfl, ?_⟩
  have hol : 0 < ((ltrs ord).length : Int) := by have := hord.pos; simp [ltrs]; omega
  refine ⟨hol, o, _, _, _, rfl, rfl, f0.seq hO, e0, by show 2 ≤ sizeLine; rw [sizeLine_eq]; decide, fun t0 ht0' => ?_⟩
  have f1 : Fr [] (upd H kl (.lst (kindWs.map V.str))) (upd (upd H kl (.lst (kindWs.map V.str))) t0 (.tup [.str "mark", .str (ltr m0)])) := Fr.new ht0'
  refine ⟨by show 1 ≤ sizeLine; rw [sizeLine_eq]; decide, fun ml hml => ?_⟩
  have f2 : Fr [] (upd (upd H kl (.lst (kindWs.map V.str))) t0 (.tup [.str "mark", .str (ltr m0)])) (upd (upd (upd H kl (.lst (kindWs.map V.str))) t0 (.tup [.str "mark", .str (ltr m0)])) ml (.lst [.ref t0])) := Fr.new hml
  have hml0 : H ml = none := f0.dm _ (f1.dm _ hml)
  have ks1 := (f1.trans f2).at (upd_same (H := H) (a := kl) (o := .lst (kindWs.map V.str)))
  have I0 : SentInv ord H kl ml 0 (upd (upd (upd H kl (.lst (kindWs.map V.str))) t0 (.tup [.str "mark", .str (ltr m0)])) ml (.lst [.ref t0])) := by
    refine ⟨(f0.trans f1).trans f2, ks1, fun e => ?_, [.ref t0], upd_same, rfl, fun v hv => ?_⟩
    · subst e
      rw [upd_same] at ks1
      cases ks1
    · rw [List.mem_singleton.mp hv]
      exact ⟨.mark m0, (senAt_mark.mpr ⟨t0, rfl, upd_same⟩ : SenAt _ (.ref t0) (.mark m0)).fr f2, fun i hi => by rw [List.mem_singleton.mp hi]; exact hm0, by simp [Sen.dep]⟩
  refine ⟨_, rfl, 1, m, rfl, by omega, ?_⟩
  refine for_range (lo := 1) (n := (m - 1).toNat) (fun i σ H2 => ∃ x6 x7 x8 x9 x10 x11, σ = [some (.ref a), some (.int t), some (.int m), some (.ref o), some (.ref kl), some (.ref ml), x6, x7, x8, x9, x10, x11] ∧ SentInv ord H kl ml i H2)
    ⟨_, _, _, _, _, _, rfl, I0⟩ (fun i σ H2 hi p => ?_) (fun σ H2 p => ?_)
  · obtain ⟨x6, x7, x8, x9, x10, x11, rfl, I⟩ := p
    obtain ⟨fr, ks, nek, vs, e1, e2, e3⟩ := id I
    have ec := cellAt ns (t + (1 + (i : Int)))
    generalize hc : cellAt ns (t + (1 + (i : Int))) = c
    have d0 := drawI_lt c 0 (b := 14) (by omega)
    have d1 := drawI_lt c 1 (b := 2) (by omega)
    have vlen : (vs.length : Int) = (i : Int) + 1 := by omega
    obtain ⟨kv, hkv, ekv⟩ := at_any (xs := kindWs.map V.str) (i := drawI c 0 14) (by simp [kindWs]; omega) (by simp [kindWs]; omega)
    obtain ⟨kw, hkw, rfl⟩ := List.mem_map.mp hkv
    have r1 := Int.emod_nonneg (drawI c 1 2) (b := (vs.length : Nat)) (by omega)
    have r2 := Int.emod_lt_of_pos (drawI c 1 2) (b := (vs.length : Nat)) (by omega)
    obtain ⟨one, hone, eone⟩ := at_any (xs := vs) (i := -1 - drawI c 1 2 % ((vs.length : Nat) : Int)) (by omega) (by omega)
    have r3 := Int.emod_nonneg (drawI c 2 60) (b := (vs.length : Nat)) (by omega)
    have r4 := Int.emod_lt_of_pos (drawI c 2 60) (b := (vs.length : Nat)) (by omega)
    obtain ⟨other, hother, eother⟩ := at_any (xs := vs) (i := drawI c 2 60 % ((vs.length : Nat) : Int)) (by omega) (by omega)
    obtain ⟨lm, hlm, elm⟩ := at_ord hord (drawI c 3 40320)
    refine ⟨_, rfl, _, rfl, _, rfl, _, _, rfl, rfl, a, ns, t + (1 + (i : Int)), rfl, fr.seq hS, by omega, ?_⟩
    rw [hc]
    refine ⟨_, rfl, _, rfl, c, 0, 14, rfl, by omega, by omega, by omega, by omega, kl, _, _, _, rfl, rfl, SqL.of ks, ekv, ?_⟩
    refine ⟨_, rfl, _, rfl, _, rfl, c, 1, 2, rfl, by omega, by omega, by omega, by omega, _, rfl, ml, _, rfl, .inl (SqL.of e1), _, _, rfl, rfl, by show (0 : Int) < _; omega, _, _, rfl, rfl, ml, _, _, _, rfl, rfl, SqL.of e1, eone, ?_⟩
    refine ⟨_, rfl, _, rfl, c, 2, 60, rfl, by omega, by omega, by omega, by omega, _, rfl, ml, _, rfl, .inl (SqL.of e1), _, _, rfl, rfl, by show (0 : Int) < _; omega, ml, _, _, _, rfl, rfl, SqL.of e1, eother, ?_⟩
    refine ⟨_, rfl, _, rfl, c, 3, 40320, rfl, by omega, by omega, by omega, by omega, _, rfl, o, _, rfl, .inl (fr.seq hO), _, _, rfl, rfl, hol, o, _, _, _, rfl, rfl, fr.seq hO, elm, ?_⟩
    obtain ⟨s1, hs1, hl1, hd1⟩ := e3 one hone
    obtain ⟨s2, hs2, hl2, hd2⟩ := e3 other hother
    have vl : vs.length < sizeLine := by rw [sizeLine_eq]; omega
    have still : ∀ (tt : Addr) (u : HO), H2 tt = none → (upd H2 tt u) ml = some (.lst vs) := fun tt u h => by rw [upd_ne (ne_of_none e1 h)]; exact e1
    have z3 : ∀ {n : Nat}, n ≤ 3 → n ≤ sizeLine := fun h => by rw [sizeLine_eq]; omega
    refine ⟨_, rfl, rfl, _, rfl, ?_⟩
    refine ite2 (fun c1 => ?_) (fun c1 => ?_)
    · rw [dstr] at c1
      have e := of_decide_eq_true c1
      subst e
      exact ⟨_, rfl, .inl ⟨rfl, _, SqL.of e1⟩, _, rfl, z3 (by simp), fun tt htt => ⟨ml, vs, _, rfl, rfl, still tt _ htt, vl, _, _, _, _, _, _, rfl,
        I.more hml0 e1 htt (s := .yes) (senAt_yes.mpr ⟨tt, rfl, upd_same⟩) ⟨by simp [Sen.lets], by simp [Sen.dep]⟩⟩⟩
    refine ⟨_, rfl, rfl, _, rfl, ?_⟩
    refine ite2 (fun c2 => ?_) (fun c2 => ?_)
    · rw [dstr] at c2
      have e := of_decide_eq_true c2
      subst e
      exact ⟨_, rfl, .inl ⟨rfl, _, SqL.of e1⟩, _, rfl, z3 (by simp), fun tt htt => ⟨ml, vs, _, rfl, rfl, still tt _ htt, vl, _, _, _, _, _, _, rfl,
        I.more hml0 e1 htt (s := .no) (senAt_no.mpr ⟨tt, rfl, upd_same⟩) ⟨by simp [Sen.lets], by simp [Sen.dep]⟩⟩⟩
    refine ⟨_, rfl, rfl, _, rfl, ?_⟩
    refine ite2 (fun c3 => ?_) (fun c3 => ?_)
    · exact ⟨_, rfl, .inl ⟨rfl, _, SqL.of e1⟩, _, rfl, z3 (by simp), fun tt htt => ⟨ml, vs, _, rfl, rfl, still tt _ htt, vl, _, _, _, _, _, _, rfl,
        I.more hml0 e1 htt (s := .mark lm) (senAt_mark.mpr ⟨tt, rfl, upd_same⟩) ⟨fun i hi => by rw [List.mem_singleton.mp hi]; exact hlm, by simp [Sen.dep]⟩⟩⟩
    refine ⟨_, rfl, rfl, _, rfl, ?_⟩
    refine ite2 (fun c4 => ?_) (fun c4 => ?_)
    · exact ⟨_, rfl, .inl ⟨rfl, _, SqL.of e1⟩, _, rfl, z3 (by simp), fun tt htt => ⟨ml, vs, _, rfl, rfl, still tt _ htt, vl, _, _, _, _, _, _, rfl,
        I.more hml0 e1 htt (s := .not s1) (senAt_not.mpr ⟨tt, one, rfl, upd_same, hs1.fr (Fr.new (S := []) htt)⟩) ⟨hl1, by simp [Sen.dep]; omega⟩⟩⟩
    have qu : ∀ e : Bool, kw = quW e → ∀ tt, H2 tt = none → SentInv ord H kl ml (i + 1) (upd (upd H2 tt (.tup [.str kw, .str (ltr lm), one])) ml (.lst (vs ++ [.ref tt]))) := fun e he tt htt => by
      subst he
      exact I.more hml0 e1 htt (s := .qu e lm s1) (senAt_qu.mpr ⟨tt, one, rfl, upd_same, hs1.fr (Fr.new (S := []) htt)⟩) ⟨fun i hi => by
        rcases List.mem_cons.mp hi with rfl | hi
        · exact hlm
        · exact hl1 i hi, by simp [Sen.dep]; omega⟩
    refine ⟨_, rfl, rfl, _, rfl, ?_⟩
    refine ite2 (fun c5 => ?_) (fun c5 => ?_)
    · rw [dstr] at c5
      exact ⟨_, rfl, .inl ⟨rfl, _, SqL.of e1⟩, _, rfl, _, rfl, _, rfl, z3 (by simp), fun tt htt => ⟨ml, vs, _, rfl, rfl, still tt _ htt, vl, _, _, _, _, _, _, rfl, qu true (of_decide_eq_true c5) tt htt⟩⟩
    refine ⟨_, rfl, rfl, _, rfl, ?_⟩
    refine ite2 (fun c6 => ?_) (fun c6 => ?_)
    · rw [dstr] at c6
      exact ⟨_, rfl, .inl ⟨rfl, _, SqL.of e1⟩, _, rfl, _, rfl, _, rfl, z3 (by simp), fun tt htt => ⟨ml, vs, _, rfl, rfl, still tt _ htt, vl, _, _, _, _, _, _, rfl, qu false (of_decide_eq_true c6) tt htt⟩⟩
    rw [dstr] at c1 c2 c3 c4 c5 c6
    have no : ∀ {x : Str}, ¬ decide (kw = x) = true → kw ≠ x := fun h e => h (decide_eq_true e)
    have ho : ∃ o : Bop, kw = o.w := by
      simp only [kindWs, List.mem_cons, List.not_mem_nil, or_false] at hkw
      rcases hkw with h | h | h | h | h | h | h | h | h | h | h | h | h | h
      · exact absurd h (no c3)
      · exact absurd h (no c3)
      · exact absurd h (no c4)
      · exact ⟨.and, h⟩
      · exact ⟨.or, h⟩
      · exact ⟨.eit, h⟩
      · exact ⟨.imp, h⟩
      · exact ⟨.and, h⟩
      · exact ⟨.or, h⟩
      · exact absurd h (no c5)
      · exact absurd h (no c6)
      · exact absurd h (no c1)
      · exact absurd h (no c2)
      · exact absurd h (no c3)
    obtain ⟨o2, rfl⟩ := ho
    exact ⟨_, rfl, .inl ⟨rfl, _, SqL.of e1⟩, _, rfl, _, rfl, _, rfl, z3 (by simp), fun tt htt => ⟨ml, vs, _, rfl, rfl, still tt _ htt, vl, _, _, _, _, _, _, rfl,
      I.more hml0 e1 htt (s := .bin o2 s2 s1) (senAt_bin.mpr ⟨tt, other, one, rfl, upd_same, hs2.fr (Fr.new (S := []) htt), hs1.fr (Fr.new (S := []) htt)⟩) ⟨fun i hi => by
        rcases List.mem_append.mp hi with hi | hi
        · exact hl2 i hi
        · exact hl1 i hi, by simp [Sen.dep]; omega⟩⟩⟩
  · obtain ⟨x6, x7, x8, x9, x10, x11, rfl, fr, ks, nek, vs, e1, e2, e3⟩ := p
    obtain ⟨v, hv, ev⟩ := at_any (xs := vs) (i := -1) (by omega) (by omega)
    obtain ⟨s, hs, hl, hd⟩ := e3 v hv
    exact ⟨_, rfl, 1, rfl, ml, _, -1, _, rfl, rfl, SqL.of e1, ev, q H2 v s fr hs ⟨hl, by omega⟩⟩
end
end Db

/-! the laws' own helpers: counts, short sentences -/
namespace Db
open PySem L2 PyProof.Rows
section
variable {P : Program} {w : World} {K : PySem.W.Frag} {mg : Str → Option Value} {base : Heap}
/-- isinstance's answer for whole numbers and truth values; of any other thing nobody asks -/
def spWhole : Sp := fun vs H Q _ => (∃ i, vs = [.int i] ∧ Q (.bl true) H) ∨ ∃ b, vs = [.bl b] ∧ Q (.bl false) H
theorem ok__law_whole (T : Top w K mg) : FnOk P w K mg base (L2.CX P w) 1 T.f__law_whole T.fd__law_whole p__law_whole spWhole := by
  refine T.F__law_whole.okX sc__law_whole (fun vs H Q E h => ?_) (fun cdv A outer s H vs Q E hr h => ?_)
  · rcases h with ⟨i, rfl, _⟩ | ⟨i, rfl, _⟩ <;> rfl
  refine ⟨_, (pss_one (ps_ret (pe_and (pe_callB (id := "isinstance") (k_isi (K := K) rfl) (by rfl) T.z_isinstance (by decide +kernel) (pa_cons (pv 0) (pa_cons (pe_bltn (v := .ty "int") (u := .type "int") (by rfl) T.z_int (by decide +kernel) rfl) pa_nil))) (pe_one (pe_not (pe_callB (id := "isinstance") (k_isi (K := K) rfl) (by rfl) T.z_isinstance (by decide +kernel) (pa_cons (pv 0) (pa_cons (pe_bltn (v := .ty "bool") (u := .type "bool") (by rfl) T.z_bool (by decide +kernel) rfl) pa_nil)))))))), ?_⟩
  rcases h with ⟨i, rfl, q⟩ | ⟨i, rfl, q⟩
  · exact ⟨_, rfl, _, _, _, _, _, rfl, .ty _, .base (.int i), k_ii, _, rfl, _, rfl, _, _, _, _, _, rfl, .ty _, .base (.int i), k_ib, _, rfl, q⟩
  · exact ⟨_, rfl, _, _, _, _, _, rfl, .ty _, .base (.bl i), k_bi, _, rfl, _, rfl, _, _, _, _, _, rfl, .ty _, .base (.bl i), k_bb, _, rfl, q⟩
/-- its parts among a tuple's items behind the first one -/
theorem senAt_rest {H : Hp} {v : V} {s : Sen} (h : SenAt H v s) : ∃ a us, v = .ref a ∧ H a = some (.tup (.str s.w :: us)) ∧ us.length ≤ 2 ∧ Paired (fun u t => SenAt H u t) (us.filter fun u => match u with | .ref _ => true | _ => false) s.kids ∧
    (∀ u ∈ us, (∃ t, t ∈ s.kids ∧ SenAt H u t) ∨ ∃ m, u = .str (ltr m)) := by
  cases s with
  | yes =>
    obtain ⟨a, e, h⟩ := senAt_yes.mp h
    exact ⟨a, [], e, h, by simp, .nil, by simp⟩
  | no =>
    obtain ⟨a, e, h⟩ := senAt_no.mp h
    exact ⟨a, [], e, h, by simp, .nil, by simp⟩
  | mark m =>
    obtain ⟨a, e, h⟩ := senAt_mark.mp h
    exact ⟨a, [.str (ltr m)], e, h, by simp, .nil, fun u hu => .inr ⟨m, List.mem_singleton.mp hu⟩⟩
  | not s =>
    obtain ⟨a, u, e, h, h2⟩ := senAt_not.mp h
    obtain ⟨b, us, rfl, _⟩ := senAt_gen h2
    exact ⟨a, [.ref b], e, h, by simp, .cons h2 .nil, fun u hu => .inl ⟨s, by simp [Sen.kids], by rw [List.mem_singleton.mp hu]; exact h2⟩⟩
  | bin o s t =>
    obtain ⟨a, u, x, e, h, h2, h3⟩ := senAt_bin.mp h
    obtain ⟨b, us, rfl, _⟩ := senAt_gen h2
    obtain ⟨c, us, rfl, _⟩ := senAt_gen h3
    refine ⟨a, [.ref b, .ref c], e, h, by simp, .cons h2 (.cons h3 .nil), fun u hu => .inl ?_⟩
    rcases List.mem_cons.mp hu with rfl | hu
    · exact ⟨s, by simp [Sen.kids], h2⟩
    · exact ⟨t, by simp [Sen.kids], by rw [List.mem_singleton.mp hu]; exact h3⟩
  | qu q m s =>
    obtain ⟨a, u, e, h, h2⟩ := senAt_qu.mp h
    obtain ⟨b, us, rfl, _⟩ := senAt_gen h2
    refine ⟨a, [.str (ltr m), .ref b], e, h, by simp, .cons h2 .nil, fun u hu => ?_⟩
    rcases List.mem_cons.mp hu with rfl | hu
    · exact .inr ⟨m, rfl⟩
    · exact .inl ⟨s, by simp [Sen.kids], by rw [List.mem_singleton.mp hu]; exact h2⟩
theorem kit_sen {H : Hp} {v : V} {s : Sen} (h : SenAt H v s) : TyX K H v (.type "tuple") := by
  obtain ⟨a, us, rfl, h1, _⟩ := senAt_gen h
  exact .base (.tup h1)
theorem ok__law_count (T : Top w K mg) : ∀ n : Nat, FnOk P w K mg base (L2.CX P w) (n + 1) T.f__law_count T.fd__law_count p__law_count (spCount n)
  | 0 => no_asked fun vs H Q E h => by
    obtain ⟨v, s, _, _, hn, _⟩ := h
    have := s.dep_pos
    omega
  | n + 1 => by
    have G__law_count := ok__law_count T n
    refine T.F__law_count.okX sc__law_count (fun vs H Q E h => ?_) (fun cdv A outer s H vs Q E hr h => ?_)
    · obtain ⟨v, t, rfl, _⟩ := h
      rfl
    obtain ⟨v, t, rfl, hT, hn, k⟩ := h
    refine ⟨_, (pss_one (ps_ret (pe_op op_add pe_int (pe_callB (id := "sum") (k_sum (K := K) rfl rfl) (by rfl) T.z_sum (by decide +kernel) (pa_cons (pe_lc (own := [("piece", 1)]) (g := gName 1) rfl sc__law_count.nd (pi_tup (pe_slice (k_slT (K := K) rfl) (pv 0) (po_some pe_int) po_none)) (blkOk_by (own := [("piece", 1)]) (N := n__law_count) (sc := defScope s__law_count) (by decide +kernel)) (fun _ _ _ _ _ => (pg_name (i := 1) sc__law_count.nd rfl (.inl rfl))) (fun _ _ _ _ _ => (pts_one (pt_val (pe_callB (id := "isinstance") (k_isi (K := K) rfl) (by rfl) T.z_isinstance (by decide +kernel) (pa_cons (pv 1) (pa_cons (pe_bltn (v := .ty "tuple") (u := .type "tuple") (by rfl) T.z_tuple (by decide +kernel) rfl) pa_nil)))))) (fun _ _ _ _ _ => (pe_call G__law_count (hr.mono (by omega)) (by rfl) T.m__law_count T.F__law_count.kp T.b__law_count .nil passL (pa_cons (pv 1) pa_nil)))) pa_nil))))), ?_⟩
    obtain ⟨a, us, rfl, ha, hl, pr, hall⟩ := senAt_rest hT
    refine ⟨_, rfl, 1, rfl, a, _, rfl, SqT.of ha, cut1_not _ _, fun p hp => ?_⟩
    rw [cut1]
    refine ⟨p, rfl, ⟨_, SqT.of upd_same⟩, fun D hD => ?_⟩
    have f1 : Fr [] H (upd H p (.tup us)) := Fr.new hp
    refine lc_anyJ (lc_ruleT [] (K := K) upd_same) (fun u => match u with | .ref _ => true | _ => false) [] (fun u y _ => ∃ s : Sen, y = V.int (s.cnt : Nat) ∧ TreeAt H s.pt u) (fun _ => True) hD (fun H' f => f.tu _ _ upd_same) (by simp) (by show us.length ≤ _; omega)
      (fun _ _ _ _ _ q => q) trivial (fun _ _ _ _ => trivial) (fun i x H2 e f _ Qk Qs k1 k2 => ?_) (fun H2 ys f _ eD p => ?_)
    · have hm : x ∈ us := List.mem_of_getElem? e
      rcases hall x hm with ⟨s, hs, hx⟩ | ⟨m, rfl⟩
      · have hx2 : SenAt H2 x s := (hx.fr f1).fr f
        have hd : s.dep < t.dep := Sen.kids_dep hs
        obtain ⟨b, us, rfl, _⟩ := senAt_gen hx
        exact ⟨_, rfl, _, _, _, _, _, rfl, .ty _, kit_sen hx2, k_tt, _, rfl, _, rfl, _, s, rfl, hx2, by omega, fun H3 f3 => k1 _ H3 rfl f3 ⟨s, rfl, hx⟩ trivial⟩
      · exact ⟨_, rfl, _, _, _, _, _, rfl, .ty _, .base (.str _), k_st, _, rfl, k2 H2 rfl Fr.refl trivial⟩
    · have ey : ys = (t.kids.map fun s => (s.cnt : Int)).map V.int := by
        refine paired_eq (Paired.comp pr p fun u (s : Sen) y hu hy => ?_)
        obtain ⟨s', e, h'⟩ := hy
        rw [e, senAt_inj h' hu]
      refine ⟨D, t.kids.map fun s => (s.cnt : Int), rfl, SqL.of (by rw [eD, ey]), _, _, rfl, rfl, ?_⟩
      have q := k H2 (f1.trans f)
      rw [Sen.cnt_eq] at q
      exact q
/-- a drawn sentence that is not too great -/
def Small (ord : List (Fin 8)) (s : Sen) : Prop := (∀ i ∈ s.lets, i ∈ ord) ∧ s.cnt ≤ 60 ∧ s.dep ≤ 24
def spShort (K : PySem.W.Frag) : Sp := fun vs H Q _ => ∃ (a : Addr) (ns : List Int) (t m : Int) (o : Addr) (ord : List (Fin 8)), vs = [.ref a, .int t, .int m, .ref o] ∧ SqL K H a (ns.map V.int) ∧ 0 ≤ t ∧ 0 ≤ m ∧ m ≤ 24 ∧ SqL K H o (ltrs ord) ∧ OrdOk ord ∧
  ∀ H' v s, Fr [] H H' → SenAt H' v s → Small ord s → Q v H'
theorem at_first {ord : List (Fin 8)} (h : OrdOk ord) : ∃ m, m ∈ ord ∧ atI (ltrs ord) 0 = some (.str (ltr m)) := by
  have hp := h.pos
  obtain ⟨v, hv, e⟩ := at_any (xs := ltrs ord) (i := 0) (by omega) (by simp [ltrs]; omega)
  obtain ⟨z, hz, rfl⟩ := List.mem_map.mp hv
  obtain ⟨m, hm, rfl⟩ := List.mem_map.mp hz
  exact ⟨m, hm, e⟩
theorem at_end {ord : List (Fin 8)} (h : OrdOk ord) : ∃ m, m ∈ ord ∧ atI (ltrs ord) (-1) = some (.str (ltr m)) := by
  have hp := h.pos
  obtain ⟨v, hv, e⟩ := at_any (xs := ltrs ord) (i := -1) (by simp [ltrs]; omega) (by omega)
  obtain ⟨z, hz, rfl⟩ := List.mem_map.mp hv
  obtain ⟨m, hm, rfl⟩ := List.mem_map.mp hz
  exact ⟨m, hm, e⟩
theorem ok__law_short (T : Top w K mg) : FnOk P w K mg base (L2.CX P w) 30 T.f__law_short T.fd__law_short p__law_short (spShort K) := by
  have G__law_sentence := ok__law_sentence (P := P) (base := base) T
  have G__law_count := ok__law_count (P := P) (base := base) T 24
  refine T.F__law_short.okX sc__law_short (fun vs H Q E h => ?_) (fun cdv A outer s H vs Q E hr h => ?_)
  · obtain ⟨a, ns, t, m, o, ord, rfl, _⟩ := h
    rfl
  obtain ⟨a, ns, t, m, o, ord, rfl, hS, ht0, hm0, hm24, hO, hord, q⟩ := h
  refine ⟨_, (pss_cons (ps_set (i := 4) sc__law_short.nd rfl (.inl rfl) (pe_call G__law_sentence (hr.mono (by omega)) (by rfl) T.m__law_sentence T.F__law_sentence.kp T.b__law_sentence .nil passL (pa_cons (pv 0) (pa_cons (pv 1) (pa_cons (pv 2) (pa_cons (pv 3) pa_nil))))))
    (pss_cons (ps_if (pt_cmpR op_gt (pe_call G__law_count (hr.mono (by omega)) (by rfl) T.m__law_count T.F__law_count.kp T.b__law_count .nil passL (pa_cons (pv 4) pa_nil)) pe_int (nomark _)) (pss_one (ps_ret (pe_tup (pa_cons pe_str (pa_cons (pe_tup (pa_cons pe_str (pa_cons (pe_ix (k_ixL (K := K) rfl) (pv 3) pe_int (fun _ _ => rfl)) pa_nil))) (pa_cons (pe_tup (pa_cons pe_str (pa_cons (pe_tup (pa_cons pe_str (pa_cons (pe_ix (k_ixL (K := K) rfl) (pv 3) (pe_un un_neg pe_int) (fun _ _ => rfl)) pa_nil))) pa_nil))) pa_nil)))))) pss_nil)
    (pss_one (ps_ret (pv 4))))), ?_⟩
  refine ⟨_, rfl, _, rfl, _, rfl, _, rfl, a, ns, t, m, o, ord, rfl, hS, ht0, hm0, by omega, hO, hord, fun H1 v s f1 hs hd => ?_⟩
  have hdp : s.dep ≤ 24 := Nat.le_trans hd.2 (by omega)
  refine ⟨_, rfl, v, s, rfl, hs, hdp, fun H2 f2 => ⟨_, _, rfl, rfl, _, rfl, ?_⟩⟩
  refine ite2 (fun c => ?_) (fun c => ?_)
  · have z3 : ∀ {n : Nat}, n ≤ 3 → n ≤ sizeLine := fun h => by rw [sizeLine_eq]; omega
    have hO2 := f2.seq (f1.seq hO)
    obtain ⟨m1, hm1, e1⟩ := at_first hord
    obtain ⟨m2, hm2, e2⟩ := at_end hord
    refine ⟨_, rfl, o, _, 0, _, rfl, rfl, hO2, e1, z3 (by simp), fun p hp => ?_⟩
    have g1 : Fr [] H2 (upd H2 p (.tup [.str "mark", .str (ltr m1)])) := Fr.new hp
    refine ⟨_, rfl, 1, rfl, o, _, _, _, rfl, rfl, g1.seq hO2, e2, z3 (by simp), fun p2 hp2 => ?_⟩
    have g2 := Fr.new (S := []) (o := .tup [.str "mark", .str (ltr m2)]) hp2
    refine ⟨z3 (by simp), fun p3 hp3 => ?_⟩
    have g3 := Fr.new (S := []) (o := .tup [.str "not", .ref p2]) hp3
    refine ⟨z3 (by simp), fun p4 hp4 => ?_⟩
    have g4 := Fr.new (S := []) (o := .tup [.str "either", .ref p, .ref p3]) hp4
    refine q _ (.ref p4) (.bin .eit (.mark m1) (.not (.mark m2))) (((((f1.trans f2).trans g1).trans g2).trans g3).trans g4) (senAt_bin.mpr ⟨p4, .ref p, .ref p3, rfl, upd_same, ?_, ?_⟩) ⟨?_, by simp [Sen.cnt], by simp [Sen.dep]⟩
    · exact ((senAt_mark.mpr ⟨p, rfl, upd_same⟩ : SenAt (upd H2 p (.tup [.str "mark", .str (ltr m1)])) (.ref p) (.mark m1)).fr g2).fr g3 |>.fr g4
    · exact (senAt_not.mpr ⟨p3, .ref p2, rfl, upd_same, (senAt_mark.mpr ⟨p2, rfl, upd_same⟩ : SenAt _ (.ref p2) (.mark m2)).fr g3⟩ : SenAt _ (.ref p3) (.not (.mark m2))).fr g4
    · intro i hi
      simp [Sen.lets] at hi
      rcases hi with rfl | rfl
      · exact hm1
      · exact hm2
  · have c : s.cnt ≤ 60 := by simp at c; omega
    exact ⟨_, rfl, q H2 v s (f1.trans f2) (hs.fr f2) ⟨hd.1, c, hdp⟩⟩
end
end Db

/-! sentences.py: worths -/
namespace Db
open PySem L2 PyProof.Rows
theorem eqV_str {a b : Str} : eqV (.str a) (.str b) = decide (a = b) := by
  by_cases h : a = b <;> simp [eqV, h]
/-- where a mark stands in an order -/
theorem idx_ltrs {ord : List (Fin 8)} {m : Fin 8} (hm : m ∈ ord) : (ltrs ord)[ord.idxOf m]? = some (V.str (ltr m)) ∧ eqV (V.str (ltr m)) (V.str (ltr m)) = true ∧
    ∀ (k : Nat) (z : V), k < ord.idxOf m → (ltrs ord)[k]? = some z → eqV z (V.str (ltr m)) = false := by
  have hl := List.idxOf_lt_length_of_mem hm
  refine ⟨?_, by rw [eqV_str]; simp, fun k z hk e => ?_⟩
  · simp only [ltrs]
    rw [List.getElem?_map, List.getElem?_map, List.getElem?_eq_getElem hl, List.getElem_idxOf]
    rfl
  · obtain ⟨j, hj, rfl⟩ := at_ltrs e
    rw [eqV_str]
    refine decide_eq_false fun q => ?_
    rw [ltr_inj q] at hj
    have hk' : k < ord.length := by omega
    have := List.not_of_lt_findIdx (p := (· == m)) (xs := ord) (i := k) hk
    rw [List.getElem?_eq_getElem hk'] at hj
    have e2 := Option.some.inj hj
    rw [e2] at this
    simp at this
theorem ltrs_len (ord : List (Fin 8)) : (ltrs ord).length = ord.length := by simp [ltrs]
section
variable {P : Program} {w : World} {K : PySem.W.Frag} {mg : Str → Option Value} {base : Heap}
def spVal (K : PySem.W.Frag) (n : Nat) : Sp := fun vs H Q _ => ∃ (v : V) (s : Sen) (o r : Addr) (ord : List (Fin 8)) (ns : List Int), vs = [v, .ref o, .ref r] ∧ SenAt H v s ∧ s.dep ≤ n ∧ (∀ i ∈ s.lets, i ∈ ord) ∧ SqL K H o (ltrs ord) ∧ OrdOk ord ∧ SqL K H r (ns.map V.int) ∧ RowOk ord ns ∧
  ∀ H', Fr [] H H' → Q (.int (bI (s.val (rowVal ord ns)))) H'
def spJoinedWorth : Sp := fun vs H Q _ => ∃ (o : Bop) (a b : Bool), vs = [.str o.w, .int (bI a), .int (bI b)] ∧ Q (.int (bI (o.f a b))) H
theorem ok_joined_worth (T : Top w K mg) : FnOk P w K mg base (L2.CX P w) 1 T.f_joined_worth T.fd_joined_worth p_joined_worth spJoinedWorth := by
  refine T.F_joined_worth.okX sc_joined_worth (fun vs H Q E h => ?_) (fun cdv A outer s H vs Q E hr h => ?_)
  · obtain ⟨o, a, b, rfl, _⟩ := h
    rfl
  obtain ⟨o, a, b, rfl, q⟩ := h
  refine ⟨_, (pss_cons (ps_if (pt_cmpR op_eq (pv 0) pe_str (nomark _)) (pss_one (ps_ret (pe_op op_mul (pv 1) (pv 2)))) pss_nil)
    (pss_cons (ps_if (pt_cmpR op_eq (pv 0) pe_str (nomark _)) (pss_one (ps_ret (pe_callB (id := "max") (call_max2 rfl) (by rfl) T.z_max (by decide +kernel) (pa_cons (pv 1) (pa_cons (pv 2) pa_nil))))) pss_nil)
    (pss_cons (ps_if (pt_cmpR op_eq (pv 0) pe_str (nomark _)) (pss_one (ps_ret (pe_callTy (T := "int") call_int1 (by rfl) T.z_int (by decide +kernel) (pa_cons (pe_cmpR op_ne (pv 1) (pv 2) (nomark _)) pa_nil)))) pss_nil)
    (pss_one (ps_ret (pe_callB (id := "max") (call_max2 rfl) (by rfl) T.z_max (by decide +kernel) (pa_cons (pe_op op_sub pe_int (pv 1)) (pa_cons (pv 2) pa_nil)))))))), ?_⟩
  have no : ∀ {x y : Str}, x ≠ y → ¬ decide (V.str x = V.str y) = true := fun h e => h (by rw [dstr] at e; exact of_decide_eq_true e)
  refine ⟨_, rfl, rfl, _, rfl, ?_⟩
  refine ite2 (fun c => ?_) (fun c => ?_)
  · rw [dstr] at c
    have e : o = .and := by cases o <;> first | rfl | exact absurd (of_decide_eq_true c) (by decide +kernel)
    subst e
    refine ⟨_, rfl, _, rfl, _, _, rfl, rfl, .inl ?_, ?_⟩
    · cases a <;> exact ⟨by decide, by decide⟩
    · cases a <;> cases b <;> exact q
  refine ⟨_, rfl, rfl, _, rfl, ?_⟩
  refine ite2 (fun c2 => ?_) (fun c2 => ?_)
  · rw [dstr] at c2
    have e : o = .or := by cases o <;> first | rfl | exact absurd (of_decide_eq_true c2) (by decide +kernel)
    subst e
    refine ⟨_, rfl, _, rfl, _, _, rfl, ?_⟩
    cases a <;> cases b <;> exact q
  refine ⟨_, rfl, rfl, _, rfl, ?_⟩
  refine ite2 (fun c3 => ?_) (fun c3 => ?_)
  · rw [dstr] at c3
    have e : o = .eit := by cases o <;> first | rfl | exact absurd (of_decide_eq_true c3) (by decide +kernel)
    subst e
    refine ⟨_, rfl, _, rfl, rfl, .inr ⟨_, rfl, ?_⟩⟩
    cases a <;> cases b <;> exact q
  · rw [dstr] at c c2 c3
    have e : o = .imp := by
      cases o
      · exact absurd (decide_eq_true rfl) c
      · exact absurd (decide_eq_true rfl) c2
      · exact absurd (decide_eq_true rfl) c3
      · rfl
    subst e
    refine ⟨_, rfl, _, _, rfl, rfl, _, rfl, _, _, rfl, ?_⟩
    cases a <;> cases b <;> exact q
set_option maxHeartbeats 16000000 in
theorem ok_value_at (T : Top w K mg) : ∀ n : Nat, FnOk P w K mg base (L2.CX P w) (n + 2) T.f_value_at T.fd_value_at p_value_at (spVal K n)
  | 0 => no_asked fun vs H Q E h => by
    obtain ⟨v, s, _, _, _, _, _, _, hn, _⟩ := h
    have := s.dep_pos
    omega
  | n + 1 => by
    have G_value_at := ok_value_at T n
    have G_joined_worth := ok_joined_worth (P := P) (base := base) T
    refine T.F_value_at.okX sc_value_at (fun vs H Q E h => ?_) (fun cdv A outer s H vs Q E hr h => ?_)
    · obtain ⟨v, s, o, r, ord, ns, rfl, _⟩ := h
      rfl
    obtain ⟨v, s, o, r, ord, ns, rfl, hT, hn, hlt, hO, hord, hR, hrow, q⟩ := h
    refine ⟨_, (pss_cons (ps_set (i := 3) sc_value_at.nd rfl (.inl rfl) (pe_ix (k_ixT (K := K) rfl) (pv 0) pe_int (fun _ _ => rfl)))
    (pss_cons (ps_if (pt_cmp (pc_inT (pv 3) (pa_cons pe_str (pa_cons pe_str pa_nil))) (by rfl)) (pss_one (ps_ret (pe_callTy (T := "int") call_int1 (by rfl) T.z_int (by decide +kernel) (pa_cons (pe_cmpR op_eq (pv 3) pe_str (nomark _)) pa_nil)))) pss_nil)
    (pss_cons (ps_if (pt_cmpR op_eq (pv 3) pe_str (nomark _)) (pss_one (ps_ret (pe_ix (k_ixL (K := K) rfl) (pv 2) (pe_bm PySem.F.plainAttrs_list PySem.F.slot_list_index PySem.F.type_list_index (k_index (K := K) rfl) (pv 1) (pa_cons (pe_ix (k_ixT (K := K) rfl) (pv 0) pe_int (fun _ _ => rfl)) pa_nil)) (fun _ _ => rfl)))) pss_nil)
    (pss_cons (ps_if (pt_cmpR op_eq (pv 3) pe_str (nomark _)) (pss_one (ps_ret (pe_op op_sub pe_int (pe_call G_value_at (hr.mono (by omega)) (by rfl) T.m_value_at T.F_value_at.kp T.b_value_at .nil passL (pa_cons (pe_ix (k_ixT (K := K) rfl) (pv 0) pe_int (fun _ _ => rfl)) (pa_cons (pv 1) (pa_cons (pv 2) pa_nil))))))) pss_nil)
    (pss_cons (ps_if (pt_cmp (pc_inT (pv 3) (pa_cons pe_str (pa_cons pe_str pa_nil))) (by rfl)) (pss_cons (ps_set (i := 4) sc_value_at.nd rfl (.inr rfl) (pe_bm PySem.F.plainAttrs_list PySem.F.slot_list_index PySem.F.type_list_index (k_index (K := K) rfl) (pv 1) (pa_cons (pe_ix (k_ixT (K := K) rfl) (pv 0) pe_int (fun _ _ => rfl)) pa_nil)))
    (pss_cons (ps_setLc (i := 5) (own := [("value", 6)]) (g := gName 6) (tt := tYes) rfl sc_value_at.nd rfl rfl (sw_true rfl rfl rfl (by decide +kernel)) (pi_tup (pe_tup (pa_cons pe_int (pa_cons pe_int pa_nil)))) (blkOk_by (own := [("value", 6)]) (N := n_value_at) (sc := defScope s_value_at) (by decide +kernel)) (fun _ _ _ _ _ => (pg_name (i := 6) sc_value_at.nd rfl (.inl rfl))) (fun _ _ _ _ _ => pts_nil) (fun _ _ _ _ _ => (pe_call G_value_at (hr.mono (by omega)) (by rfl) T.m_value_at T.F_value_at.kp T.b_value_at .nil passL (pa_cons (pe_ix (k_ixT (K := K) rfl) (pv 0) pe_int (fun _ _ => rfl)) (pa_cons (pv 1) (pa_cons (pe_op op_cat (pe_op op_cat (pe_slice (k_slL (K := K) rfl) (pv 2) po_none (po_some (pv 4))) (pe_lst (pa_cons (pv 6) pa_nil))) (pe_slice (k_slL (K := K) rfl) (pv 2) (po_some (pe_op op_add (pv 4) pe_int)) po_none)) pa_nil))))))
    (pss_one (ps_ret (pe_ifExp (pt_cmpR op_eq (pv 3) pe_str (nomark _)) (pe_callB (id := "max") (k_max (K := K) rfl rfl) (by rfl) T.z_max (by decide +kernel) (pa_cons (pv 5) pa_nil)) (pe_callB (id := "min") (k_min (K := K) rfl rfl) (by rfl) T.z_min (by decide +kernel) (pa_cons (pv 5) pa_nil))))))) pss_nil)
    (pss_one (ps_ret (pe_call G_joined_worth (hr.mono (by omega)) (by rfl) T.m_joined_worth T.F_joined_worth.kp T.b_joined_worth .nil passL (pa_cons (pv 3) (pa_cons (pe_call G_value_at (hr.mono (by omega)) (by rfl) T.m_value_at T.F_value_at.kp T.b_value_at .nil passL (pa_cons (pe_ix (k_ixT (K := K) rfl) (pv 0) pe_int (fun _ _ => rfl)) (pa_cons (pv 1) (pa_cons (pv 2) pa_nil)))) (pa_cons (pe_call G_value_at (hr.mono (by omega)) (by rfl) T.m_value_at T.F_value_at.kp T.b_value_at .nil passL (pa_cons (pe_ix (k_ixT (K := K) rfl) (pv 0) pe_int (fun _ _ => rfl)) (pa_cons (pv 1) (pa_cons (pv 2) pa_nil)))) pa_nil))))))))))), ?_⟩
    obtain ⟨a, us, rfl, ha, pr⟩ := senAt_gen hT
    have no : ∀ {x y : Str}, x ≠ y → ¬ decide (V.str x = V.str y) = true := fun h e => h (by rw [dstr] at e; exact of_decide_eq_true e)
    have hl := hrow.1
    refine ⟨_, rfl, a, _, 0, _, rfl, rfl, SqT.of ha, atI_nat (j := 0) rfl, _, rfl, by show 2 ≤ sizeLine; rw [sizeLine_eq]; decide, rfl, rfl, _, rfl, ?_⟩
    refine ite2 (fun c => ?_) (fun c => ?_)
    · have c : inV (.str s.w) [.str "yes", .str "no"] = true := c
      rw [inV2] at c
      rcases Sen.w_yn (of_decide_eq_true c) with rfl | rfl
      · exact ⟨_, rfl, rfl, .inr ⟨_, rfl, q H Fr.refl⟩⟩
      · refine ⟨_, rfl, rfl, .inr ⟨_, rfl, ?_⟩⟩
        have := q H Fr.refl
        rw [show decide (V.str (Sen.no.w) = V.str "yes") = false by rw [dstr]; decide +kernel]
        exact this
    have c : ¬ inV (.str s.w) [.str "yes", .str "no"] = true := c
    rw [inV2] at c
    refine ⟨_, rfl, rfl, _, rfl, ?_⟩
    refine ite2 (fun c1 => ?_) (fun c1 => ?_)
    · rw [dstr] at c1
      obtain ⟨m, rfl⟩ := Sen.w_mark (of_decide_eq_true c1)
      have hm := hlt m (by simp [Sen.lets])
      obtain ⟨i1, i2, i3⟩ := idx_ltrs hm
      refine ⟨_, rfl, _, rfl, .inl ⟨rfl, _, hO⟩, _, rfl, a, _, 1, _, rfl, rfl, SqT.of ha, atI_nat (j := 1) rfl, o, _, _, _, _, rfl, rfl, hO, rfl, flat_ltrs ord, i1, i2, i3, r, _, _, _, rfl, rfl, hR, ?_, q H Fr.refl⟩
      exact atI_nat (by rw [List.getElem?_map, rowVal_at hrow hm]; rfl)
    rw [dstr] at c1
    refine ⟨_, rfl, rfl, _, rfl, ?_⟩
    refine ite2 (fun c2 => ?_) (fun c2 => ?_)
    · rw [dstr] at c2
      have e : ∃ t, s = .not t := by
        cases s with
        | not t => exact ⟨t, rfl⟩
        | bin o _ _ => exact absurd (of_decide_eq_true c2) (by cases o <;> simp only [Sen.w, Bop.w] <;> decide +kernel)
        | qu e _ _ => exact absurd (of_decide_eq_true c2) (by cases e <;> simp only [Sen.w, quW] <;> decide +kernel)
        | _ => exact absurd (of_decide_eq_true c2) (by simp only [Sen.w]; decide +kernel)
      obtain ⟨t, rfl⟩ := e
      cases pr with
      | cons h1 t1 =>
        cases t1
        refine ⟨_, rfl, a, _, 1, _, rfl, rfl, SqT.of ha, atI_nat (j := 1) rfl, _, rfl, _, rfl, _, t, o, r, ord, ns, rfl, h1, by simp [Sen.dep] at hn; omega, hlt, hO, hord, hR, hrow, fun H1 f1 => ⟨_, _, rfl, rfl, ?_⟩⟩
        have := q H1 f1
        have e : bI ((Sen.not t).val (rowVal ord ns)) = 1 - bI (t.val (rowVal ord ns)) := by
          show bI (!t.val _) = _
          cases t.val (rowVal ord ns) <;> rfl
        rw [e] at this
        exact this
    rw [dstr] at c2
    refine ⟨_, rfl, by show 2 ≤ sizeLine; rw [sizeLine_eq]; decide, rfl, rfl, _, rfl, ?_⟩
    refine ite2 (fun c3 => ?_) (fun c3 => ?_)
    · have c3 : inV (.str s.w) [.str "some", .str "each"] = true := c3
      rw [inV2] at c3
      obtain ⟨e, m, t, rfl⟩ := Sen.w_qu (of_decide_eq_true c3)
      have hm := hlt m (by simp [Sen.lets])
      have hltt : ∀ i ∈ t.lets, i ∈ ord := fun i hi => hlt i (by simp [Sen.lets, hi])
      obtain ⟨i1, i2, i3⟩ := idx_ltrs hm
      have jl : ord.idxOf m < ns.length := by rw [hl]; exact List.idxOf_lt_length_of_mem hm
      cases pr with
      | cons h1 t1 =>
        cases t1
        refine ⟨_, rfl, .inl ⟨rfl, _, hO⟩, _, rfl, a, _, 1, _, rfl, rfl, SqT.of ha, atI_nat (j := 1) rfl, o, _, _, _, _, rfl, rfl, hO, rfl, flat_ltrs ord, i1, i2, i3, ?_⟩
        refine ⟨by show 2 ≤ sizeLine; rw [sizeLine_eq]; decide, fun p hp => ⟨p, rfl, ⟨_, SqT.of upd_same⟩, fun D hD => ?_⟩⟩
        have f1 : Fr [] H (upd H p (.tup [.int 0, .int 1])) := Fr.new hp
        have z9 : ∀ {n : Nat}, n ≤ 100 → n ≤ sizeLine := fun h => by rw [sizeLine_eq]; omega
        have ol := hord.len
        refine lc_genJ (lc_ruleT [] (K := K) upd_same) [] (fun x y _ => ∃ b : Bool, x = .int (bI b) ∧ y = .int (bI (t.val (vset (rowVal ord ns) m b)))) (fun _ => True) hD (fun H' f => f.tu _ _ upd_same) (by simp) (by decide) (fun _ _ _ _ _ q => q) trivial (fun _ _ _ _ => trivial)
          (fun i x H2 e f _ Q' k' => ?_) (fun H2 ys f _ eD p => ?_)
        · have hx : ∃ b : Bool, x = .int (bI b) := by
            match i, e with
            | 0, e => exact ⟨false, (Option.some.inj e).symm⟩
            | 1, e => exact ⟨true, (Option.some.inj e).symm⟩
          obtain ⟨b, rfl⟩ := hx
          have ha2 := f.tu _ _ (f1.tu _ _ ha)
          have hR2 := f.seq (f1.seq hR)
          refine ⟨_, rfl, a, _, 2, _, rfl, rfl, SqT.of ha2, atI_nat (j := 2) rfl, _, rfl, _, rfl, _, rfl, _, rfl, r, _, rfl, hR2, fun p1 hp1 => ?_⟩
          have g1 := Fr.new (S := []) (o := .lst (cutV (ns.map V.int) none (some (ord.idxOf m : Nat)))) hp1
          refine ⟨_, rfl, z9 (by simp), fun p2 hp2 => ?_⟩
          have g2 := Fr.new (S := []) (o := .lst [.int (bI b)]) hp2
          refine ⟨p1, p2, _, _, rfl, rfl, g2.at upd_same, upd_same, z9 ?_, fun p3 hp3 => ?_⟩
          · have := cutV_length (ns.map V.int) none (some (ord.idxOf m : Nat))
            simp at this ⊢
            omega
          have g3 := Fr.new (S := []) (o := .lst (cutV (ns.map V.int) none (some (ord.idxOf m : Nat)) ++ [.int (bI b)])) hp3
          have hR3 := g3.seq (g2.seq (g1.seq hR2))
          refine ⟨_, rfl, _, rfl, _, _, rfl, rfl, _, rfl, r, _, rfl, hR3, fun p4 hp4 => ?_⟩
          have g4 := Fr.new (S := []) (o := .lst (cutV (ns.map V.int) (some ((ord.idxOf m : Nat) + 1)) none)) hp4
          refine ⟨p3, p4, _, _, rfl, rfl, g4.at upd_same, upd_same, z9 ?_, fun p5 hp5 => ?_⟩
          · have h1 := cutV_length (ns.map V.int) none (some (ord.idxOf m : Nat))
            have h2 := cutV_length (ns.map V.int) (some ((ord.idxOf m : Nat) + 1)) none
            simp at h1 h2 ⊢
            omega
          have g5 := Fr.new (S := []) (o := .lst (cutV (ns.map V.int) none (some (ord.idxOf m : Nat)) ++ [.int (bI b)] ++ cutV (ns.map V.int) (some ((ord.idxOf m : Nat) + 1)) none)) hp5
          have gg := (((g1.trans g2).trans g3).trans g4).trans g5
          have er : cutV (ns.map V.int) none (some (ord.idxOf m : Nat)) ++ [.int (bI b)] ++ cutV (ns.map V.int) (some ((ord.idxOf m : Nat) + 1)) none = (ns.set (ord.idxOf m) (bI b)).map V.int := by
            rw [cut_take (by simp; omega), show ((ord.idxOf m : Nat) : Int) + 1 = ((ord.idxOf m + 1 : Nat) : Int) by omega, cut_drop, ← set_cut jl]
            simp
          refine ⟨_, t, o, p5, ord, ns.set (ord.idxOf m) (bI b), rfl, ((h1.fr f1).fr f).fr gg, by simp [Sen.dep] at hn; omega, hltt, gg.seq (f.seq (f1.seq hO)), hord, SqL.of (by rw [upd_same, er]), hrow.set _ (bI_01 b), fun H3 f3 => ?_⟩
          refine k' _ H3 (gg.trans f3) ⟨b, rfl, ?_⟩ trivial
          rw [rowVal_set hl hm, show decide (bI b = 1) = b by cases b <;> rfl]
        · have ey : ys = [.int (bI (t.val (vset (rowVal ord ns) m false))), .int (bI (t.val (vset (rowVal ord ns) m true)))] := by
            cases p with
            | cons a1 p1 =>
              cases p1 with
              | cons a2 p2 =>
                cases p2
                obtain ⟨b1, e1, e2⟩ := a1
                obtain ⟨b2, e3, e4⟩ := a2
                have hb1 : b1 = false := by cases b1 <;> first | rfl | (injection e1 with z; simp [bI] at z)
                have hb2 : b2 = true := by cases b2 <;> first | rfl | (injection e3 with z; simp [bI] at z)
                subst hb1 hb2
                rw [e2, e4]
          have eL : H2 D = some (.lst ([bI (t.val (vset (rowVal ord ns) m false)), bI (t.val (vset (rowVal ord ns) m true))].map V.int)) := by rw [eD, ey]; rfl
          have fin := q H2 (f1.trans f)
          refine ⟨_, rfl, rfl, _, rfl, ?_⟩
          cases e with
          | true =>
            refine ⟨_, rfl, D, _, rfl, SqL.of eL, by simp, fun y hy hge => ?_⟩
            have ev : y = bI ((Sen.qu true m t).val (rowVal ord ns)) := by
              show y = bI (t.val (vset (rowVal ord ns) m false) || t.val (vset (rowVal ord ns) m true))
              have h1 := hge _ (List.mem_cons_self)
              have h2 := hge _ (List.mem_cons_of_mem _ List.mem_cons_self)
              simp only [List.mem_cons, List.not_mem_nil, or_false] at hy
              revert h1 h2 hy
              cases t.val (vset (rowVal ord ns) m false) <;> cases t.val (vset (rowVal ord ns) m true) <;> simp [bI] <;> omega
            rw [ev]
            exact fin
          | false =>
            refine ⟨_, rfl, D, _, rfl, SqL.of eL, by simp, fun y hy hge => ?_⟩
            have ev : y = bI ((Sen.qu false m t).val (rowVal ord ns)) := by
              show y = bI (t.val (vset (rowVal ord ns) m false) && t.val (vset (rowVal ord ns) m true))
              have h1 := hge _ (List.mem_cons_self)
              have h2 := hge _ (List.mem_cons_of_mem _ List.mem_cons_self)
              simp only [List.mem_cons, List.not_mem_nil, or_false] at hy
              revert h1 h2 hy
              cases t.val (vset (rowVal ord ns) m false) <;> cases t.val (vset (rowVal ord ns) m true) <;> simp [bI] <;> omega
            rw [ev]
            exact fin
    · have c3 : ¬ inV (.str s.w) [.str "some", .str "each"] = true := c3
      rw [inV2] at c3
      have e : ∃ o2 t1 t2, s = .bin o2 t1 t2 := by
        cases s with
        | bin o2 t1 t2 => exact ⟨o2, t1, t2, rfl⟩
        | yes => exact absurd (decide_eq_true (.inl rfl)) c
        | no => exact absurd (decide_eq_true (.inr rfl)) c
        | mark m => exact absurd (decide_eq_true rfl) c1
        | not t => exact absurd (decide_eq_true rfl) c2
        | qu e m t =>
          refine absurd (decide_eq_true ?_) c3
          cases e
          · exact .inr rfl
          · exact .inl rfl
      obtain ⟨o2, t1, t2, rfl⟩ := e
      have l1 : ∀ i ∈ t1.lets, i ∈ ord := fun i hi => hlt i (by simp [Sen.lets, hi])
      have l2 : ∀ i ∈ t2.lets, i ∈ ord := fun i hi => hlt i (by simp [Sen.lets, hi])
      cases pr with
      | cons h1 p1 =>
        cases p1 with
        | cons h2 p2 =>
          cases p2
          refine ⟨_, rfl, _, rfl, a, _, 1, _, rfl, rfl, SqT.of ha, atI_nat (j := 1) rfl, _, rfl, _, rfl, _, t1, o, r, ord, ns, rfl, h1, by simp [Sen.dep] at hn; omega, l1, hO, hord, hR, hrow, fun H1 f1 => ?_⟩
          refine ⟨_, rfl, a, _, 2, _, rfl, rfl, SqT.of (f1.tu _ _ ha), atI_nat (j := 2) rfl, _, rfl, _, rfl, _, t2, o, r, ord, ns, rfl, h2.fr f1, by simp [Sen.dep] at hn; omega, l2, f1.seq hO, hord, f1.seq hR, hrow, fun H2 f2 => ?_⟩
          exact ⟨o2, _, _, rfl, q H2 (f1.trans f2)⟩
end
end Db

/-! the laws' own worths of sentences: the one kind -/
namespace Db
open PySem L2 PyProof.Rows
section
variable {P : Program} {w : World} {K : PySem.W.Frag} {mg : Str → Option Value} {base : Heap}
set_option maxHeartbeats 16000000 in
theorem ok__law_value (T : Top w K mg) : ∀ n : Nat, FnOk P w K mg base (L2.CX P w) (n + 2) T.f__law_value T.fd__law_value p__law_value (spVal K n)
  | 0 => no_asked fun vs H Q E h => by
    obtain ⟨v, s, _, _, _, _, _, _, hn, _⟩ := h
    have := s.dep_pos
    omega
  | n + 1 => by
    have G__law_value := ok__law_value T n
    refine T.F__law_value.okX sc__law_value (fun vs H Q E h => ?_) (fun cdv A outer s H vs Q E hr h => ?_)
    · obtain ⟨v, s, o, r, ord, ns, rfl, _⟩ := h
      rfl
    obtain ⟨v, s, o, r, ord, ns, rfl, hT, hn, hlt, hO, hord, hR, hrow, q⟩ := h
    refine ⟨_, (pss_cons (ps_set (i := 3) sc__law_value.nd rfl (.inl rfl) (pe_ix (k_ixT (K := K) rfl) (pv 0) pe_int (fun _ _ => rfl)))
    (pss_cons (ps_if (pt_cmp (pc_inT (pv 3) (pa_cons pe_str (pa_cons pe_str pa_nil))) (by rfl)) (pss_one (ps_ret (pe_callTy (T := "int") call_int1 (by rfl) T.z_int (by decide +kernel) (pa_cons (pe_cmpR op_eq (pv 3) pe_str (nomark _)) pa_nil)))) pss_nil)
    (pss_cons (ps_if (pt_cmpR op_eq (pv 3) pe_str (nomark _)) (pss_one (ps_ret (pe_ix (k_ixL (K := K) rfl) (pv 2) (pe_bm PySem.F.plainAttrs_list PySem.F.slot_list_index PySem.F.type_list_index (k_index (K := K) rfl) (pv 1) (pa_cons (pe_ix (k_ixT (K := K) rfl) (pv 0) pe_int (fun _ _ => rfl)) pa_nil)) (fun _ _ => rfl)))) pss_nil)
    (pss_cons (ps_if (pt_cmp (pc_inT (pv 3) (pa_cons pe_str (pa_cons pe_str pa_nil))) (by rfl)) (pss_cons (ps_set (i := 4) sc__law_value.nd rfl (.inl rfl) (pe_lst pa_nil))
    (pss_cons (ps_for (passes_of rfl) rfl (pi_tup (pe_tup (pa_cons pe_int (pa_cons pe_int pa_nil)))) (pg_name (i := 5) sc__law_value.nd rfl (.inl rfl))
    (pss_cons (ps_set (i := 6) sc__law_value.nd rfl (.inl rfl) (pe_callTy (T := "list") (k_list (K := K) rfl) (by rfl) T.z_list (by decide +kernel) (pa_cons (pv 2) pa_nil)))
    (pss_cons (ps_asg (pv 5) (pg_sub (pv 6) (pe_bm PySem.F.plainAttrs_list PySem.F.slot_list_index PySem.F.type_list_index (k_index (K := K) rfl) (pv 1) (pa_cons (pe_ix (k_ixT (K := K) rfl) (pv 0) pe_int (fun _ _ => rfl)) pa_nil)) set_list))
    (pss_one (ps_expr (pe_bm PySem.F.plainAttrs_list PySem.F.slot_list_append PySem.F.type_list_append mt_append (pv 4) (pa_cons (pe_call G__law_value (hr.mono (by omega)) (by rfl) T.m__law_value T.F__law_value.kp T.b__law_value .nil passL (pa_cons (pe_ix (k_ixT (K := K) rfl) (pv 0) pe_int (fun _ _ => rfl)) (pa_cons (pv 1) (pa_cons (pv 6) pa_nil)))) pa_nil)))))))
    (pss_one (ps_ret (pe_ifExp (pt_cmpR op_eq (pv 3) pe_str (nomark _)) (pe_callTy (T := "int") call_int1 (by rfl) T.z_int (by decide +kernel) (pa_cons (pe_cmpR (k_in (K := K) rfl) pe_int (pv 4) (by rfl)) pa_nil)) (pe_callTy (T := "int") call_int1 (by rfl) T.z_int (by decide +kernel) (pa_cons (pe_cmpR (k_notIn (K := K) rfl) pe_int (pv 4) (by rfl)) pa_nil))))))) pss_nil)
    (pss_cons (ps_set (i := 7) sc__law_value.nd rfl (.inl rfl) (pe_call G__law_value (hr.mono (by omega)) (by rfl) T.m__law_value T.F__law_value.kp T.b__law_value .nil passL (pa_cons (pe_ix (k_ixT (K := K) rfl) (pv 0) pe_int (fun _ _ => rfl)) (pa_cons (pv 1) (pa_cons (pv 2) pa_nil)))))
    (pss_cons (ps_if (pt_cmpR op_eq (pv 3) pe_str (nomark _)) (pss_one (ps_ret (pe_op op_sub pe_int (pv 7)))) pss_nil)
    (pss_cons (ps_set (i := 8) sc__law_value.nd rfl (.inl rfl) (pe_call G__law_value (hr.mono (by omega)) (by rfl) T.m__law_value T.F__law_value.kp T.b__law_value .nil passL (pa_cons (pe_ix (k_ixT (K := K) rfl) (pv 0) pe_int (fun _ _ => rfl)) (pa_cons (pv 1) (pa_cons (pv 2) pa_nil)))))
    (pss_cons (ps_if (pt_cmpR op_eq (pv 3) pe_str (nomark _)) (pss_one (ps_ret (pe_op op_mod (pe_op op_add (pv 7) (pv 8)) pe_int))) pss_nil)
    (pss_cons (ps_if (pt_cmpR op_eq (pv 3) pe_str (nomark _)) (pss_one (ps_ret (pe_callTy (T := "int") call_int1 (by rfl) T.z_int (by decide +kernel) (pa_cons (pe_cmpR op_le (pv 7) (pv 8) (nomark _)) pa_nil)))) pss_nil)
    (pss_one (ps_ret (pe_ifExp (pt_cmpR op_eq (pv 3) pe_str (nomark _)) (pe_op op_mul (pv 7) (pv 8)) (pe_callTy (T := "int") call_int1 (by rfl) T.z_int (by decide +kernel) (pa_cons (pe_cmpR op_gt (pe_op op_add (pv 7) (pv 8)) pe_int (nomark _)) pa_nil)))))))))))))), ?_⟩
    obtain ⟨a, us, rfl, ha, pr⟩ := senAt_gen hT
    have hl := hrow.1
    refine ⟨_, rfl, a, _, 0, _, rfl, rfl, SqT.of ha, atI_nat (j := 0) rfl, _, rfl, by show 2 ≤ sizeLine; rw [sizeLine_eq]; decide, rfl, rfl, _, rfl, ?_⟩
    refine ite2 (fun c => ?_) (fun c => ?_)
    · have c : inV (.str s.w) [.str "yes", .str "no"] = true := c
      rw [inV2] at c
      rcases Sen.w_yn (of_decide_eq_true c) with rfl | rfl
      · exact ⟨_, rfl, rfl, .inr ⟨_, rfl, q H Fr.refl⟩⟩
      · refine ⟨_, rfl, rfl, .inr ⟨_, rfl, ?_⟩⟩
        have := q H Fr.refl
        rw [show decide (V.str (Sen.no.w) = V.str "yes") = false by rw [dstr]; decide +kernel]
        exact this
    have c : ¬ inV (.str s.w) [.str "yes", .str "no"] = true := c
    rw [inV2] at c
    refine ⟨_, rfl, rfl, _, rfl, ?_⟩
    refine ite2 (fun c1 => ?_) (fun c1 => ?_)
    · rw [dstr] at c1
      obtain ⟨m, rfl⟩ := Sen.w_mark (of_decide_eq_true c1)
      have hm := hlt m (by simp [Sen.lets])
      obtain ⟨i1, i2, i3⟩ := idx_ltrs hm
      refine ⟨_, rfl, _, rfl, .inl ⟨rfl, _, hO⟩, _, rfl, a, _, 1, _, rfl, rfl, SqT.of ha, atI_nat (j := 1) rfl, o, _, _, _, _, rfl, rfl, hO, rfl, flat_ltrs ord, i1, i2, i3, r, _, _, _, rfl, rfl, hR, ?_, q H Fr.refl⟩
      exact atI_nat (by rw [List.getElem?_map, rowVal_at hrow hm]; rfl)
    rw [dstr] at c1
    refine ⟨_, rfl, by show 2 ≤ sizeLine; rw [sizeLine_eq]; decide, rfl, rfl, _, rfl, ?_⟩
    refine ite2 (fun c3 => ?_) (fun c3 => ?_)
    · have c3 : inV (.str s.w) [.str "some", .str "each"] = true := c3
      rw [inV2] at c3
      obtain ⟨e, m, t, rfl⟩ := Sen.w_qu (of_decide_eq_true c3)
      have hm := hlt m (by simp [Sen.lets])
      have hltt : ∀ i ∈ t.lets, i ∈ ord := fun i hi => hlt i (by simp [Sen.lets, hi])
      obtain ⟨i1, i2, i3⟩ := idx_ltrs hm
      have jl : ord.idxOf m < ns.length := by rw [hl]; exact List.idxOf_lt_length_of_mem hm
      cases pr with
      | cons h1 t1 =>
        cases t1
        refine ⟨Nat.zero_le _, fun vl hvl => ?_⟩
        have f0 : Fr [] H (upd H vl (.lst [])) := Fr.new hvl
        refine ⟨by show 2 ≤ sizeLine; rw [sizeLine_eq]; decide, fun p hp => ?_⟩
        have f1 := Fr.new (S := []) (o := .tup [.int 0, .int 1]) hp
        refine ⟨p, rfl, ⟨_, SqT.of upd_same⟩, for_tup (K := K) (a := p) (xs := [.int 0, .int 1]) (fun i σ H2 => ∃ x y, σ = [some (.ref a), some (.ref o), some (.ref r), some (.str (quW e)), some (.ref vl), x, y, none, none] ∧ Fr [] H H2 ∧ H2 p = some (.tup [.int 0, .int 1]) ∧
            H2 vl = some (.lst (([false, true].take i).map fun b => V.int (bI (t.val (vset (rowVal ord ns) m b))))))
          ⟨none, none, rfl, f0.trans f1, upd_same, f1.at upd_same⟩ (fun i σ H2 _ pq => ?_) (fun i x σ H2 hx pq => ?_) (fun σ H2 pq => ?_)⟩
        · obtain ⟨_, _, _, _, e1, _⟩ := pq
          exact SqT.of e1
        · obtain ⟨x6, x7, rfl, f, ep, ev⟩ := pq
          have hx : ∃ b : Bool, x = .int (bI b) ∧ [false, true][i]? = some b := by
            match i, hx with
            | 0, e => exact ⟨false, (Option.some.inj e).symm, rfl⟩
            | 1, e => exact ⟨true, (Option.some.inj e).symm, rfl⟩
          obtain ⟨b, rfl, eb⟩ := hx
          have hR2 := f.seq hR
          have hO2 := f.seq hO
          have ha2 := f.tu _ _ ha
          refine ⟨_, rfl, r, _, rfl, .inl hR2, fun l hl2 => ?_⟩
          have g1 : Fr [] H2 (upd H2 l (.lst (ns.map V.int))) := Fr.new hl2
          have hl0 : H l = none := f.dm _ hl2
          have nvl : vl ≠ l := ne_of_none ev hl2
          have npl : p ≠ l := ne_of_none ep hl2
          refine ⟨_, rfl, _, rfl, _, rfl, .inl ⟨rfl, _, g1.seq hO2⟩, _, rfl, a, _, 1, _, rfl, rfl, SqT.of (g1.tu _ _ ha2), atI_nat (j := 1) rfl, o, _, _, _, _, rfl, rfl, g1.seq hO2, rfl, flat_ltrs ord, i1, i2, i3, ?_⟩
          refine ⟨l, ns.map V.int, _, ord.idxOf m, rfl, rfl, upd_same, by unfold ixN; rw [if_pos (by omega), if_pos (by simp; omega)]; simp, ?_⟩
          rw [show (ns.map V.int).set (ord.idxOf m) (V.int (bI b)) = (ns.set (ord.idxOf m) (bI b)).map V.int by rw [List.map_set]]
          have f2 := (f.trans g1).own (o := .lst ((ns.set (ord.idxOf m) (bI b)).map V.int)) hl0
          have ev2 : (upd (upd H2 l (.lst (ns.map V.int))) l (.lst ((ns.set (ord.idxOf m) (bI b)).map V.int))) vl = some (.lst (([false, true].take i).map fun b => V.int (bI (t.val (vset (rowVal ord ns) m b))))) := by rw [upd_ne nvl, upd_ne nvl]; exact ev
          have ep2 : (upd (upd H2 l (.lst (ns.map V.int))) l (.lst ((ns.set (ord.idxOf m) (bI b)).map V.int))) p = some (.tup [.int 0, .int 1]) := by rw [upd_ne npl, upd_ne npl]; exact ep
          refine ⟨_, rfl, .inl ⟨rfl, _, SqL.of ev2⟩, _, rfl, a, _, 2, _, rfl, rfl, SqT.of (f2.tu _ _ ha), atI_nat (j := 2) rfl, _, rfl, _, rfl, _, t, o, l, ord, ns.set (ord.idxOf m) (bI b), rfl, h1.fr f2, by simp [Sen.dep] at hn; omega, hltt, f2.seq hO, hord, SqL.of upd_same, hrow.set _ (bI_01 b), fun H3 f3 => ?_⟩
          refine ⟨vl, _, _, rfl, rfl, f3.at ev2, by simp [sizeLine_eq]; omega, _, _, rfl, (f2.trans f3).own hvl, ?_, ?_⟩
          · rw [upd_ne (ne_of (f3.at ep2) (f3.at ev2) (by intro z; cases z))]
            exact f3.at ep2
          · rw [upd_same, take_snoc eb, List.map_append, rowVal_set hl hm, show decide (bI b = 1) = b by cases b <;> rfl]
            rfl
        · obtain ⟨x6, x7, rfl, f, ep, ev⟩ := pq
          have fin := q H2 f
          refine ⟨_, rfl, rfl, _, rfl, ?_⟩
          have eW : ∀ z : Str, (H2 vl = some (.lst ([V.int (bI (t.val (vset (rowVal ord ns) m false))), V.int (bI (t.val (vset (rowVal ord ns) m true)))]))) := fun _ => ev
          cases e with
          | true =>
            refine ⟨_, rfl, vl, _, rfl, .inl (SqL.of (eW "")), rfl, rfl, .inr ⟨_, rfl, ?_⟩⟩
            have ev : (if (if false = true then !inV (V.int 1) [V.int (bI (t.val (vset (rowVal ord ns) m false))), V.int (bI (t.val (vset (rowVal ord ns) m true)))] else inV (V.int 1) [V.int (bI (t.val (vset (rowVal ord ns) m false))), V.int (bI (t.val (vset (rowVal ord ns) m true)))]) = true then (1 : Int) else 0) = bI ((Sen.qu true m t).val (rowVal ord ns)) := by
              show _ = bI (t.val (vset (rowVal ord ns) m false) || t.val (vset (rowVal ord ns) m true))
              cases t.val (vset (rowVal ord ns) m false) <;> cases t.val (vset (rowVal ord ns) m true) <;> decide +kernel
            rw [← ev] at fin
            exact fin
          | false =>
            refine ⟨_, rfl, vl, _, rfl, .inl (SqL.of (eW "")), rfl, rfl, .inr ⟨_, rfl, ?_⟩⟩
            have ev : (if (if true = true then !inV (V.int 0) [V.int (bI (t.val (vset (rowVal ord ns) m false))), V.int (bI (t.val (vset (rowVal ord ns) m true)))] else inV (V.int 0) [V.int (bI (t.val (vset (rowVal ord ns) m false))), V.int (bI (t.val (vset (rowVal ord ns) m true)))]) = true then (1 : Int) else 0) = bI ((Sen.qu false m t).val (rowVal ord ns)) := by
              show _ = bI (t.val (vset (rowVal ord ns) m false) && t.val (vset (rowVal ord ns) m true))
              cases t.val (vset (rowVal ord ns) m false) <;> cases t.val (vset (rowVal ord ns) m true) <;> decide +kernel
            rw [← ev] at fin
            exact fin
    · have c3 : ¬ inV (.str s.w) [.str "some", .str "each"] = true := c3
      rw [inV2] at c3
      have e : (∃ t, s = .not t) ∨ ∃ o2 t1 t2, s = .bin o2 t1 t2 := by
        cases s with
        | bin o2 t1 t2 => exact .inr ⟨o2, t1, t2, rfl⟩
        | yes => exact absurd (decide_eq_true (.inl rfl)) c
        | no => exact absurd (decide_eq_true (.inr rfl)) c
        | mark m => exact absurd (decide_eq_true rfl) c1
        | not t => exact .inl ⟨t, rfl⟩
        | qu e m t =>
          refine absurd (decide_eq_true ?_) c3
          cases e
          · exact .inr rfl
          · exact .inl rfl
      rcases e with ⟨t, rfl⟩ | ⟨o2, t1, t2, rfl⟩
      · cases pr with
        | cons h1 p1 =>
          cases p1
          refine ⟨_, rfl, a, _, 1, _, rfl, rfl, SqT.of ha, atI_nat (j := 1) rfl, _, rfl, _, rfl, _, t, o, r, ord, ns, rfl, h1, by simp [Sen.dep] at hn; omega, hlt, hO, hord, hR, hrow, fun H1 f1 => ?_⟩
          have fin := q H1 f1
          have e : bI ((Sen.not t).val (rowVal ord ns)) = 1 - bI (t.val (rowVal ord ns)) := by
            show bI (!t.val _) = _
            cases t.val (rowVal ord ns) <;> rfl
          rw [e] at fin
          exact ⟨_, rfl, rfl, _, rfl, _, rfl, _, _, rfl, rfl, fin⟩
      · have l1 : ∀ i ∈ t1.lets, i ∈ ord := fun i hi => hlt i (by simp [Sen.lets, hi])
        have l2 : ∀ i ∈ t2.lets, i ∈ ord := fun i hi => hlt i (by simp [Sen.lets, hi])
        cases pr with
        | cons h1 p1 =>
          cases p1 with
          | cons h2 p2 =>
            cases p2
            refine ⟨_, rfl, a, _, 1, _, rfl, rfl, SqT.of ha, atI_nat (j := 1) rfl, _, rfl, _, rfl, _, t1, o, r, ord, ns, rfl, h1, by simp [Sen.dep] at hn; omega, l1, hO, hord, hR, hrow, fun H1 f1 => ?_⟩
            refine ⟨_, rfl, rfl, _, rfl, ?_⟩
            refine ite2 (fun c4 => ?_) (fun c4 => ?_)
            · rw [dstr] at c4
              exact absurd (of_decide_eq_true c4) (by cases o2 <;> simp only [Sen.w, Bop.w] <;> decide +kernel)
            refine ⟨_, rfl, a, _, 2, _, rfl, rfl, SqT.of (f1.tu _ _ ha), atI_nat (j := 2) rfl, _, rfl, _, rfl, _, t2, o, r, ord, ns, rfl, h2.fr f1, by simp [Sen.dep] at hn; omega, l2, f1.seq hO, hord, f1.seq hR, hrow, fun H2 f2 => ?_⟩
            have fin := q H2 (f1.trans f2)
            have e : bI ((Sen.bin o2 t1 t2).val (rowVal ord ns)) = bI (o2.f (t1.val (rowVal ord ns)) (t2.val (rowVal ord ns))) := rfl
            rw [e] at fin
            generalize t1.val (rowVal ord ns) = b1 at fin
            generalize t2.val (rowVal ord ns) = b2 at fin
            refine ⟨_, rfl, rfl, _, rfl, ?_⟩
            refine ite2 (fun c5 => ?_) (fun c5 => ?_)
            · rw [dstr] at c5
              have e : o2 = .eit := by cases o2 <;> first | rfl | exact absurd (of_decide_eq_true c5) (by simp only [Sen.w, Bop.w]; decide +kernel)
              subst e
              refine ⟨_, rfl, _, rfl, _, _, rfl, rfl, _, _, rfl, rfl, by show (0 : Int) < _; decide, ?_⟩
              cases b1 <;> cases b2 <;> exact fin
            refine ⟨_, rfl, rfl, _, rfl, ?_⟩
            refine ite2 (fun c6 => ?_) (fun c6 => ?_)
            · rw [dstr] at c6
              have e : o2 = .imp := by cases o2 <;> first | rfl | exact absurd (of_decide_eq_true c6) (by simp only [Sen.w, Bop.w]; decide +kernel)
              subst e
              refine ⟨_, rfl, _, rfl, _, _, rfl, rfl, .inr ⟨_, rfl, ?_⟩⟩
              cases b1 <;> cases b2 <;> exact fin
            refine ⟨_, rfl, rfl, _, rfl, ?_⟩
            refine ite2 (fun c7 => ?_) (fun c7 => ?_)
            · rw [dstr] at c7
              have e : o2 = .and := by cases o2 <;> first | rfl | exact absurd (of_decide_eq_true c7) (by simp only [Sen.w, Bop.w]; decide +kernel)
              subst e
              refine ⟨_, rfl, _, rfl, _, _, rfl, rfl, .inl ?_, ?_⟩
              · cases b1 <;> exact ⟨by decide, by decide⟩
              · cases b1 <;> cases b2 <;> exact fin
            · rw [dstr] at c5 c6 c7
              have e : o2 = .or := by
                cases o2
                · exact absurd (decide_eq_true rfl) c7
                · rfl
                · exact absurd (decide_eq_true rfl) c5
                · exact absurd (decide_eq_true rfl) c6
              subst e
              refine ⟨_, rfl, _, rfl, _, _, rfl, rfl, _, _, rfl, rfl, .inr ⟨_, rfl, ?_⟩⟩
              cases b1 <;> cases b2 <;> exact fin
end
end Db

/-! the law: worths of sentences -/
namespace Db
open PySem L2 PyProof.Rows
theorem isOrder_ltrs {ord : List (Fin 8)} (h : OrdOk ord) : isOrderS (ord.map ltr) = true := by
  unfold isOrderS
  have h1 : (ord.map ltr).isEmpty = false := by
    cases ord with
    | nil => exact absurd rfl h.ne
    | cons a r => rfl
  have h2 : (ord.map ltr).all isMarkS = true := by
    rw [List.all_eq_true]
    intro x hx
    obtain ⟨i, _, rfl⟩ := List.mem_map.mp hx
    exact isMarkS_ltr i
  have h3 : (ord.map ltr).Nodup := List.Pairwise.map _ (fun a b hab e => hab (ltr_inj e)) h.nd
  rw [h1, h2, decide_eq_true h3]
  rfl
theorem shp_ltrs (ord : List (Fin 8)) : Shp 2 (datS (ord.map ltr)) := shp_list fun d hd => by
  obtain ⟨x, hx, rfl⟩ := List.mem_map.mp hd
  obtain ⟨i, _, rfl⟩ := List.mem_map.mp hx
  refine shp_str ?_
  show (ltr i).cps.all (· < 0x110000) = true
  simp [ltr]
  omega
theorem isRow_ok {ord : List (Fin 8)} {ns : List Int} (h : RowOk ord ns) : isRow (ltrs ord).length ns := ⟨by rw [ltrs_len]; exact h.1, h.2⟩
theorem sen_ok {s : Sen} (h1 : s.cnt ≤ 200) (h2 : s.dep ≤ 24) : isSen s.pt := ⟨s, rfl, h1, h2⟩
section
variable {P : Program} {w : World} {K : PySem.W.Frag} {mg : Str → Option Value} {base : Heap}
def spWorth (K : PySem.W.Frag) : Sp := fun vs H Q _ => ∃ (v : V) (s : Sen) (o r : Addr) (ord : List (Fin 8)) (ns : List Int), vs = [v, .ref o, .ref r] ∧ SenAt H v s ∧ s.cnt ≤ 200 ∧ s.dep ≤ 24 ∧ (∀ i ∈ s.lets, i ∈ ord) ∧ SqL K H o (ltrs ord) ∧ OrdOk ord ∧ SqL K H r (ns.map V.int) ∧ RowOk ord ns ∧
  ∀ H', Fr [] H H' → Q (.int (bI (s.val (rowVal ord ns)))) H'
theorem ok_worth (T : Top w K mg) : FnOk P w K mg base (L2.CX P w) 71 T.f_worth T.fd_worth p_worth (spWorth K) := by
  have G_ask_order := ok_ask_order (P := P) (base := base) T
  have G_ask_marks := ok_ask_marks (P := P) (base := base) T
  have G_ask_row := ok_ask_row (P := P) (base := base) T
  have G_value_at := ok_value_at (P := P) (base := base) T 24
  refine T.F_worth.okX sc_worth (fun vs H Q E h => ?_) (fun cdv A outer s H vs Q E hr h => ?_)
  · obtain ⟨v, s, o, r, ord, ns, rfl, _⟩ := h
    rfl
  obtain ⟨v, s, o, r, ord, ns, rfl, hT, hc, hd, hlt, hO, hord, hR, hrow, q⟩ := h
  refine ⟨_, (pss_cons (ps_expr (pe_call G_ask_order (hr.mono (by omega)) (by rfl) T.m_ask_order T.F_ask_order.kp T.b_ask_order .nil (passes_call (takes_of rfl rfl rfl rfl) fun _ _ _ _ z => z) (pa_cons (pv 1) pa_nil)))
    (pss_cons (ps_expr (pe_call G_ask_marks (hr.mono (by omega)) (by rfl) T.m_ask_marks T.F_ask_marks.kp T.b_ask_marks .nil (passes_call (takes_of rfl rfl rfl rfl) fun _ _ _ _ z => z) (pa_cons (pv 0) (pa_cons (pv 1) pa_nil))))
    (pss_cons (ps_expr (pe_call G_ask_row (hr.mono (by omega)) (by rfl) T.m_ask_row T.F_ask_row.kp T.b_ask_row .nil (passes_call (takes_of rfl rfl rfl rfl) fun _ _ _ _ z => z) (pa_cons (pv 1) (pa_cons (pv 2) pa_nil))))
    (pss_one (ps_ret (pe_call G_value_at (hr.mono (by omega)) (by rfl) T.m_value_at T.F_value_at.kp T.b_value_at .nil passL (pa_cons (pv 0) (pa_cons (pv 1) (pa_cons (pv 2) pa_nil))))))))), ?_⟩
  obtain ⟨ts, ets⟩ := s.pt_tup
  have hsen : isSen (.tup ts) := by rw [← ets]; exact sen_ok hc hd
  have ol := hord.len
  refine ⟨_, rfl, o, ord.map ltr, rfl, hO, by simp; omega, fun x hx => ?_, fun _ H1 f1 => ?_, fun e => by rw [isOrder_ltrs hord] at e; cases e⟩
  · obtain ⟨i, _, rfl⟩ := List.mem_map.mp hx
    rw [sizeLine_eq, ltr_len]
    decide
  refine ⟨_, rfl, _, rfl, v, ts, o, ord, rfl, by have := hT.fr f1; unfold SenAt at this; rw [ets] at this; exact this, by rw [← ets]; exact s.fit, by rw [← ets, s.pt_dep]; omega, f1.seq hO, fun s' es' _ _ H2 f2 => ?_, fun h => absurd hsen h, fun s' es' _ h => ?_⟩
  · refine ⟨_, rfl, _, rfl, o, r, _, ns, rfl, f2.seq (f1.seq hO), f2.seq (f1.seq hR), by rw [hrow.1]; omega, fun _ H3 f3 => ?_, fun h => absurd (isRow_ok hrow) h⟩
    exact ⟨_, rfl, _, rfl, _, rfl, v, s, o, r, ord, ns, rfl, ((hT.fr f1).fr f2).fr f3, hd, hlt, f3.seq (f2.seq (f1.seq hO)), hord, f3.seq (f2.seq (f1.seq hR)), hrow, fun H4 f4 => q H4 (((f1.trans f2).trans f3).trans f4)⟩
  · rw [← ets] at es'
    rw [← Sen.pt_inj es'] at h
    exact absurd hlt h
def spLaw (K : PySem.W.Frag) : Sp := fun vs H Q _ => ∃ (a : Addr) (ns : List Int), vs = [.ref a] ∧ SqL K H a (ns.map V.int) ∧ ns.length ≤ 63 ∧ ∀ H', Q (.bl true) H'
abbrev lawLv : Nat := 80
theorem ok_law (T : Top w K mg) : FnOk P w K mg base (L2.CX P w) lawLv T.f_law T.fd_law p_law (spLaw K) := by
  have G__law_cell_at := ok__law_cell_at (P := P) (base := base) T
  have G__law_draw := ok__law_draw (P := P) (base := base) T
  have G__law_order := ok__law_order (P := P) (base := base) T
  have G__law_short := ok__law_short (P := P) (base := base) T
  have G__law_whole := ok__law_whole (P := P) (base := base) T
  have G__law_value := ok__law_value (P := P) (base := base) T 24
  have G_worth := ok_worth (P := P) (base := base) T
  refine T.F_law.okX sc_law (fun vs H Q E h => ?_) (fun cdv A outer s H vs Q E hr h => ?_)
  · obtain ⟨a, ns, rfl, _⟩ := h
    rfl
  obtain ⟨a, ns, rfl, hS, hlen, q⟩ := h
  refine ⟨_, (pss_cons (ps_set (i := 1) sc_law.nd rfl (.inl rfl) (pe_call G__law_order (hr.mono (by omega)) (by rfl) T.m__law_order T.F__law_order.kp T.b__law_order .nil passL (pa_cons (pe_call G__law_cell_at (hr.mono (by omega)) (by rfl) T.m__law_cell_at T.F__law_cell_at.kp T.b__law_cell_at .nil passL (pa_cons (pv 0) (pa_cons pe_int pa_nil))) (pa_cons pe_int pa_nil))))
    (pss_cons (ps_if (pt_cmpR op_eq (pe_op op_mod (pe_call G__law_cell_at (hr.mono (by omega)) (by rfl) T.m__law_cell_at T.F__law_cell_at.kp T.b__law_cell_at .nil passL (pa_cons (pv 0) (pa_cons pe_int pa_nil))) pe_int) pe_int (nomark _)) (pss_one (ps_set (i := 1) sc_law.nd rfl (.inl rfl) (pe_lst (pa_cons pe_str (pa_cons pe_str (pa_cons pe_str (pa_cons pe_str (pa_cons pe_str (pa_cons pe_str (pa_cons pe_str (pa_cons pe_str pa_nil))))))))))) pss_nil)
    (pss_cons (ps_set (i := 2) sc_law.nd rfl (.inl rfl) (pe_call G__law_short (hr.mono (by omega)) (by rfl) T.m__law_short T.F__law_short.kp T.b__law_short .nil passL (pa_cons (pv 0) (pa_cons pe_int (pa_cons (pe_op op_add pe_int (pe_op op_mod (pe_call G__law_cell_at (hr.mono (by omega)) (by rfl) T.m__law_cell_at T.F__law_cell_at.kp T.b__law_cell_at .nil passL (pa_cons (pv 0) (pa_cons pe_int pa_nil))) pe_int)) (pa_cons (pv 1) pa_nil))))))
    (pss_cons (ps_setLc (i := 3) (own := [("k", 4)]) (g := gName 4) (tt := tYes) rfl sc_law.nd rfl rfl (sw_true rfl rfl rfl (by decide +kernel)) (pi_range1 (by rfl) T.z_range (pa_cons (pe_callB (id := "len") (k_len (K := K) rfl) (by rfl) T.z_len (by decide +kernel) (pa_cons (pv 1) pa_nil)) pa_nil)) (blkOk_by (own := [("k", 4)]) (N := n_law) (sc := defScope s_law) (by decide +kernel)) (fun _ _ _ _ _ => (pg_name (i := 4) sc_law.nd rfl (.inl rfl))) (fun _ _ _ _ _ => pts_nil) (fun _ _ _ _ _ => (pe_call G__law_draw (hr.mono (by omega)) (by rfl) T.m__law_draw T.F__law_draw.kp T.b__law_draw .nil passL (pa_cons (pe_call G__law_cell_at (hr.mono (by omega)) (by rfl) T.m__law_cell_at T.F__law_cell_at.kp T.b__law_cell_at .nil passL (pa_cons (pv 0) (pa_cons pe_int pa_nil))) (pa_cons (pv 4) (pa_cons pe_int pa_nil))))))
    (pss_cons (ps_set (i := 5) sc_law.nd rfl (.inl rfl) (pe_lst (pa_cons (pe_callTy (T := "list") (k_list (K := K) rfl) (by rfl) T.z_list (by decide +kernel) (pa_cons (pv 1) pa_nil)) (pa_cons (pe_callTy (T := "list") (k_list (K := K) rfl) (by rfl) T.z_list (by decide +kernel) (pa_cons (pv 3) pa_nil)) pa_nil))))
    (pss_cons (ps_set (i := 6) sc_law.nd rfl (.inl rfl) (pe_call G_worth (hr.mono (by omega)) (by rfl) T.m_worth T.F_worth.kp T.b_worth .nil passL (pa_cons (pv 2) (pa_cons (pe_ix (k_ixL (K := K) rfl) (pv 5) pe_int (fun _ _ => rfl)) (pa_cons (pe_ix (k_ixL (K := K) rfl) (pv 5) pe_int (fun _ _ => rfl)) pa_nil)))))
    (pss_one (ps_ret (pe_and (pe_call G__law_whole (hr.mono (by omega)) (by rfl) T.m__law_whole T.F__law_whole.kp T.b__law_whole .nil passL (pa_cons (pv 6) pa_nil)) (pe_and (pe_cmpR op_eq (pv 6) (pe_call G__law_value (hr.mono (by omega)) (by rfl) T.m__law_value T.F__law_value.kp T.b__law_value .nil passL (pa_cons (pv 2) (pa_cons (pv 1) (pa_cons (pv 3) pa_nil)))) (nomark _)) (pe_one (pe_cmpR (k_eqD (K := K) rfl hr.units) (pv 5) (pe_lst (pa_cons (pv 1) (pa_cons (pv 3) pa_nil))) (nomark _))))))))))))), ?_⟩
  refine ⟨_, rfl, a, ns, 0, rfl, hS, by omega, _, 5, rfl, by omega, by omega, fun H1 l ord0 f1 hl hord0 _ e1 => ?_⟩
  refine ⟨_, rfl, a, ns, 1, rfl, f1.seq hS, by omega, _, _, rfl, rfl, by show (0 : Int) < _; decide, rfl, _, rfl, ?_⟩
  refine join_if (fun σ H2 => ∃ (o : Addr) (ord : List (Fin 8)), σ = [some (.ref a), some (.ref o), none, none, none, none, none] ∧ Fr [] H H2 ∧ OrdOk ord ∧ H2 o = some (.lst (ltrs ord))) ?_ (fun c KK => ?_) (fun c KK => ?_)
  · rintro σ H2 ⟨o, ord, rfl, f2, hord, eo⟩
    have hm0 := Int.emod_nonneg (cellAt ns 2) (b := 10) (by decide)
    have hm1 := Int.emod_lt_of_pos (cellAt ns 2) (b := 10) (by decide)
    refine ⟨_, rfl, _, rfl, a, ns, 2, rfl, f2.seq hS, by omega, _, _, rfl, rfl, by show (0 : Int) < _; decide, _, _, rfl, rfl, _, rfl, a, ns, 4, _, o, ord, rfl, f2.seq hS, by omega, by omega, by omega, SqL.of eo, hord, fun H3 v s f3 hs hsm => ?_⟩
    have hO3 := f3.at eo
    refine ⟨_, rfl, o, _, rfl, .inl (SqL.of hO3), ((ltrs ord).length : Nat), rfl, by have := hord.len; rw [ltrs_len]; omega, by have := hord.len; rw [ltrs_len]; omega, fun D hD => ?_⟩
    have el : ((ltrs ord).length : Int).toNat = ord.length := by rw [ltrs_len]; simp
    rw [el]
    have ol := hord.len
    refine lc_genJ (lc_ruleR 0 ord.length) [] (fun x y _ => ∃ z : Int, y = .int z ∧ (z = 0 ∨ z = 1)) (fun _ => True) hD (fun _ _ => trivial) (by simp) (by rw [rngV_len]; omega) (fun _ _ _ _ _ q => q) trivial (fun _ _ _ _ => trivial)
      (fun i x H4 e f _ Q' k' => ?_) (fun H4 ys f4 _ eD p => ?_)
    · obtain ⟨hi, rfl⟩ := rngV_at.mp e
      have d := drawI_lt (cellAt ns 3) (0 + (i : Int)) (b := 2) (by omega)
      exact ⟨_, rfl, a, ns, 3, rfl, f.seq (f3.seq (f2.seq hS)), by omega, _, rfl, _, _, 2, rfl, by omega, by omega, by omega, by omega, k' _ H4 Fr.refl ⟨_, rfl, by omega⟩ trivial⟩
    · have hr : ∃ rs : List Int, ys = rs.map V.int ∧ RowOk ord rs := by
        have go : ∀ {xs ys : List V}, Paired (fun _ y => ∃ z : Int, y = V.int z ∧ (z = 0 ∨ z = 1)) xs ys → ∃ rs : List Int, ys = rs.map V.int ∧ ∀ v ∈ rs, v = 0 ∨ v = 1 := by
          intro xs ys p
          induction p with
          | nil => exact ⟨[], rfl, by simp⟩
          | cons h t ih =>
            obtain ⟨z, rfl, hz⟩ := h
            obtain ⟨rs, rfl, hrs⟩ := ih
            exact ⟨z :: rs, rfl, fun v hv => by
              rcases List.mem_cons.mp hv with rfl | hv
              · exact hz
              · exact hrs v hv⟩
        obtain ⟨rs, e1, e2⟩ := go p
        refine ⟨rs, e1, ?_, e2⟩
        have := Paired.length p
        rw [rngV_len, e1, List.length_map] at this
        exact this.symm
      obtain ⟨rs, rfl, hrow⟩ := hr
      have hO4 := f4.at hO3
      refine ⟨_, rfl, o, _, rfl, .inl (SqL.of hO4), fun l1 hl1 => ?_⟩
      have g1 := Fr.new (S := []) (o := .lst (ltrs ord)) hl1
      refine ⟨_, rfl, D, _, rfl, .inl (SqL.of (g1.at eD)), fun l2 hl2 => ?_⟩
      have g2 := Fr.new (S := []) (o := .lst (rs.map V.int)) hl2
      refine ⟨by show 2 ≤ sizeLine; rw [sizeLine_eq]; decide, fun l3 hl3 => ?_⟩
      have g3 := Fr.new (S := []) (o := .lst [.ref l1, .ref l2]) hl3
      have hH1 := g3.at (g2.at (upd_same (H := H4) (a := l1) (o := .lst (ltrs ord))))
      have hH2 := g3.at (upd_same (a := l2) (o := .lst (rs.map V.int)) (H := upd H4 l1 (.lst (ltrs ord))))
      have gg := (g1.trans g2).trans g3
      have hsS := (hs.fr f4).fr gg
      refine ⟨_, rfl, _, rfl, l3, _, 0, _, rfl, rfl, SqL.of upd_same, atI_nat (j := 0) rfl, _, rfl, l3, _, 1, _, rfl, rfl, SqL.of upd_same, atI_nat (j := 1) rfl, v, s, l1, l2, ord, rs, rfl, hsS, by have := hsm.2.1; omega, hsm.2.2, hsm.1, SqL.of hH1, hord, SqL.of hH2, hrow, fun H5 f5 => ?_⟩
      refine ⟨_, rfl, .inl ⟨_, rfl, _, rfl, ?_⟩⟩
      have hO5 := f5.at (gg.at hO4)
      have hD5 := f5.at (gg.at eD)
      refine ⟨_, rfl, _, rfl, _, rfl, _, rfl, v, s, o, D, ord, rs, rfl, hsS.fr f5, hsm.2.2, hsm.1, SqL.of hO5, hord, SqL.of hD5, hrow, fun H6 f6 => ?_⟩
      refine ⟨rfl, _, rfl, ?_⟩
      rw [show decide (V.int (bI (s.val (rowVal ord rs))) = V.int (bI (s.val (rowVal ord rs)))) = true from decide_eq_true rfl]
      have h3 := f6.at (f5.at (upd_same (a := l3) (o := .lst [.ref l1, .ref l2]) (H := upd (upd H4 l1 (.lst (ltrs ord))) l2 (.lst (rs.map V.int)))))
      have h1 := f6.at (f5.at hH1)
      have h2 := f6.at (f5.at hH2)
      refine ⟨_, rfl, _, rfl, _, rfl, by show 2 ≤ sizeLine; rw [sizeLine_eq]; decide, fun l4 hl4 => ?_⟩
      have g4 := Fr.new (S := []) (o := .lst [.ref o, .ref D]) hl4
      refine ⟨.list [datS (ord.map ltr), datI rs], .list [datS (ord.map ltr), datI rs], .lst (SqL.of (g4.at h3)) (.cons (dp_S (SqL.of (g4.at h1))) (.cons (dp_I (SqL.of (g4.at h2))) .nil)),
        .lst (SqL.of upd_same) (.cons (dp_S (SqL.of (g4.at (f6.at hO5)))) (.cons (dp_I (SqL.of (g4.at (f6.at hD5)))) .nil)), ?_, ?_, ?_⟩
      · exact (shp_list (n := 2) fun d hd => by
          simp only [List.mem_cons, List.not_mem_nil, or_false] at hd
          rcases hd with rfl | rfl
          · exact shp_ltrs ord
          · exact shp_datI rs).ok (by omega)
      · exact (shp_list (n := 2) fun d hd => by
          simp only [List.mem_cons, List.not_mem_nil, or_false] at hd
          rcases hd with rfl | rfl
          · exact shp_ltrs ord
          · exact shp_datI rs).ok (by omega)
      · rw [eqv_same (by simp [plD, plAll, pl_datS, pl_datI])]
        exact q _
  · refine ⟨by show 8 ≤ sizeLine; rw [sizeLine_eq]; decide, fun o ho => ?_⟩
    refine KK _ _ ⟨o, [7, 0, 2, 6, 1, 5, 3, 4], rfl, f1.trans (Fr.new ho), ⟨by decide, by decide⟩, ?_⟩
    rw [upd_same]
    have e : ltrs [7, 0, 2, 6, 1, 5, 3, 4] = [V.str "h", V.str "a", V.str "c", V.str "g", V.str "b", V.str "f", V.str "d", V.str "e"] := by decide +kernel
    rw [e]
  · exact KK _ _ ⟨l, ord0, rfl, f1, hord0, e1⟩
end
end Db

/-! the end: what the top has left, the law's theorem -/
namespace Db
open PySem L2 PyProof.Rows
def mkTop {w : World} {K : PySem.W.Frag} {h : Heap} {mg : Str → Option Value} (X : K.In h) (G : h.Ns mainGlobals mg) {f_is_mark f_is_order f_ask_order f_pieces_of f_well_made f_count f_deep f_is_sentence f_ask_sentence f_named f_marks_of f_ask_marks f_ask_row f_joined_worth f_value_at f_worth f__law_cell_at f__law_whole f__law_draw f__law_order f__law_sentence f__law_count f__law_short f__law_value f_law C_BookError C_NoOrder C_NoSentence C_NoMark C_NoRow a_PIECES : Addr} {od_is_mark an_is_mark od_is_order an_is_order od_ask_order an_ask_order od_pieces_of an_pieces_of od_well_made an_well_made od_count an_count od_deep an_deep od_is_sentence an_is_sentence od_ask_sentence an_ask_sentence od_named an_named od_marks_of an_marks_of od_ask_marks an_ask_marks od_ask_row an_ask_row od_joined_worth an_joined_worth od_value_at an_value_at od_worth an_worth od__law_cell_at an__law_cell_at od__law_whole an__law_whole od__law_draw an__law_draw od__law_order an__law_order od__law_sentence an__law_sentence od__law_count an__law_count od__law_short an__law_short od__law_value an__law_value od_law an_law : Option Addr} {sl_is_mark sl_is_order sl_ask_order sl_pieces_of sl_well_made sl_count sl_deep sl_is_sentence sl_ask_sentence sl_named sl_marks_of sl_ask_marks sl_ask_row sl_joined_worth sl_value_at sl_worth sl__law_cell_at sl__law_whole sl__law_draw sl__law_order sl__law_sentence sl__law_count sl__law_short sl__law_value sl_law : Array (Option Value)} {oc_is_mark kV_is_mark dc_is_mark pm_is_mark cd_is_mark ct_is_mark oc_is_order kV_is_order dc_is_order pm_is_order cd_is_order ct_is_order oc_ask_order kV_ask_order dc_ask_order pm_ask_order cd_ask_order ct_ask_order oc_pieces_of kV_pieces_of dc_pieces_of pm_pieces_of cd_pieces_of ct_pieces_of oc_well_made kV_well_made dc_well_made pm_well_made cd_well_made ct_well_made oc_count kV_count dc_count pm_count cd_count ct_count oc_deep kV_deep dc_deep pm_deep cd_deep ct_deep oc_is_sentence kV_is_sentence dc_is_sentence pm_is_sentence cd_is_sentence ct_is_sentence oc_ask_sentence kV_ask_sentence dc_ask_sentence pm_ask_sentence cd_ask_sentence ct_ask_sentence oc_named kV_named dc_named pm_named cd_named ct_named oc_marks_of kV_marks_of dc_marks_of pm_marks_of cd_marks_of ct_marks_of oc_ask_marks kV_ask_marks dc_ask_marks pm_ask_marks cd_ask_marks ct_ask_marks oc_ask_row kV_ask_row dc_ask_row pm_ask_row cd_ask_row ct_ask_row oc_joined_worth kV_joined_worth dc_joined_worth pm_joined_worth cd_joined_worth ct_joined_worth oc_value_at kV_value_at dc_value_at pm_value_at cd_value_at ct_value_at oc_worth kV_worth dc_worth pm_worth cd_worth ct_worth oc__law_cell_at kV__law_cell_at dc__law_cell_at pm__law_cell_at cd__law_cell_at ct__law_cell_at oc__law_whole kV__law_whole dc__law_whole pm__law_whole cd__law_whole ct__law_whole oc__law_draw kV__law_draw dc__law_draw pm__law_draw cd__law_draw ct__law_draw oc__law_order kV__law_order dc__law_order pm__law_order cd__law_order ct__law_order oc__law_sentence kV__law_sentence dc__law_sentence pm__law_sentence cd__law_sentence ct__law_sentence oc__law_count kV__law_count dc__law_count pm__law_count cd__law_count ct__law_count oc__law_short kV__law_short dc__law_short pm__law_short cd__law_short ct__law_short oc__law_value kV__law_value dc__law_value pm__law_value cd__law_value ct__law_value oc_law kV_law dc_law pm_law cd_law ct_law : Value} {t_LETTERS t_MOST_WORDS t_MOST_DEEP t_PIECES_yes t_PIECES_no t_PIECES_not t_PIECES_and t_PIECES_or t_PIECES_either t_PIECES_if : Tok} {es_PIECES : Array DictEntry} {n_PIECES : Nat}
    (a_is_mark : PySem.W.nsIn K mainGlobals "is_mark" = some (some (.ref f_is_mark)))
    (l_is_mark : K.lookup f_is_mark = some ⟨oc_is_mark, od_is_mark, .func (PySem.W.fnOf "is_mark" "is_mark" (defArgs s_is_mark) (defBody s_is_mark) (defScope s_is_mark) .none kV_is_mark dc_is_mark pm_is_mark an_is_mark cd_is_mark ct_is_mark), sl_is_mark⟩)
    (c_is_mark : PySem.W.codeIn K cd_is_mark "is_mark" = true)
    (k_is_mark : PySem.W.keepIn K (.ref f_is_mark) = true)
    (a_is_order : PySem.W.nsIn K mainGlobals "is_order" = some (some (.ref f_is_order)))
    (l_is_order : K.lookup f_is_order = some ⟨oc_is_order, od_is_order, .func (PySem.W.fnOf "is_order" "is_order" (defArgs s_is_order) (defBody s_is_order) (defScope s_is_order) .none kV_is_order dc_is_order pm_is_order an_is_order cd_is_order ct_is_order), sl_is_order⟩)
    (c_is_order : PySem.W.codeIn K cd_is_order "is_order" = true)
    (k_is_order : PySem.W.keepIn K (.ref f_is_order) = true)
    (a_ask_order : PySem.W.nsIn K mainGlobals "ask_order" = some (some (.ref f_ask_order)))
    (l_ask_order : K.lookup f_ask_order = some ⟨oc_ask_order, od_ask_order, .func (PySem.W.fnOf "ask_order" "ask_order" (defArgs s_ask_order) (defBody s_ask_order) (defScope s_ask_order) .none kV_ask_order dc_ask_order pm_ask_order an_ask_order cd_ask_order ct_ask_order), sl_ask_order⟩)
    (c_ask_order : PySem.W.codeIn K cd_ask_order "ask_order" = true)
    (k_ask_order : PySem.W.keepIn K (.ref f_ask_order) = true)
    (a_pieces_of : PySem.W.nsIn K mainGlobals "pieces_of" = some (some (.ref f_pieces_of)))
    (l_pieces_of : K.lookup f_pieces_of = some ⟨oc_pieces_of, od_pieces_of, .func (PySem.W.fnOf "pieces_of" "pieces_of" (defArgs s_pieces_of) (defBody s_pieces_of) (defScope s_pieces_of) .none kV_pieces_of dc_pieces_of pm_pieces_of an_pieces_of cd_pieces_of ct_pieces_of), sl_pieces_of⟩)
    (c_pieces_of : PySem.W.codeIn K cd_pieces_of "pieces_of" = true)
    (k_pieces_of : PySem.W.keepIn K (.ref f_pieces_of) = true)
    (a_well_made : PySem.W.nsIn K mainGlobals "well_made" = some (some (.ref f_well_made)))
    (l_well_made : K.lookup f_well_made = some ⟨oc_well_made, od_well_made, .func (PySem.W.fnOf "well_made" "well_made" (defArgs s_well_made) (defBody s_well_made) (defScope s_well_made) .none kV_well_made dc_well_made pm_well_made an_well_made cd_well_made ct_well_made), sl_well_made⟩)
    (c_well_made : PySem.W.codeIn K cd_well_made "well_made" = true)
    (k_well_made : PySem.W.keepIn K (.ref f_well_made) = true)
    (a_count : PySem.W.nsIn K mainGlobals "count" = some (some (.ref f_count)))
    (l_count : K.lookup f_count = some ⟨oc_count, od_count, .func (PySem.W.fnOf "count" "count" (defArgs s_count) (defBody s_count) (defScope s_count) .none kV_count dc_count pm_count an_count cd_count ct_count), sl_count⟩)
    (c_count : PySem.W.codeIn K cd_count "count" = true)
    (k_count : PySem.W.keepIn K (.ref f_count) = true)
    (a_deep : PySem.W.nsIn K mainGlobals "deep" = some (some (.ref f_deep)))
    (l_deep : K.lookup f_deep = some ⟨oc_deep, od_deep, .func (PySem.W.fnOf "deep" "deep" (defArgs s_deep) (defBody s_deep) (defScope s_deep) .none kV_deep dc_deep pm_deep an_deep cd_deep ct_deep), sl_deep⟩)
    (c_deep : PySem.W.codeIn K cd_deep "deep" = true)
    (k_deep : PySem.W.keepIn K (.ref f_deep) = true)
    (a_is_sentence : PySem.W.nsIn K mainGlobals "is_sentence" = some (some (.ref f_is_sentence)))
    (l_is_sentence : K.lookup f_is_sentence = some ⟨oc_is_sentence, od_is_sentence, .func (PySem.W.fnOf "is_sentence" "is_sentence" (defArgs s_is_sentence) (defBody s_is_sentence) (defScope s_is_sentence) .none kV_is_sentence dc_is_sentence pm_is_sentence an_is_sentence cd_is_sentence ct_is_sentence), sl_is_sentence⟩)
    (c_is_sentence : PySem.W.codeIn K cd_is_sentence "is_sentence" = true)
    (k_is_sentence : PySem.W.keepIn K (.ref f_is_sentence) = true)
    (a_ask_sentence : PySem.W.nsIn K mainGlobals "ask_sentence" = some (some (.ref f_ask_sentence)))
    (l_ask_sentence : K.lookup f_ask_sentence = some ⟨oc_ask_sentence, od_ask_sentence, .func (PySem.W.fnOf "ask_sentence" "ask_sentence" (defArgs s_ask_sentence) (defBody s_ask_sentence) (defScope s_ask_sentence) .none kV_ask_sentence dc_ask_sentence pm_ask_sentence an_ask_sentence cd_ask_sentence ct_ask_sentence), sl_ask_sentence⟩)
    (c_ask_sentence : PySem.W.codeIn K cd_ask_sentence "ask_sentence" = true)
    (k_ask_sentence : PySem.W.keepIn K (.ref f_ask_sentence) = true)
    (a_named : PySem.W.nsIn K mainGlobals "named" = some (some (.ref f_named)))
    (l_named : K.lookup f_named = some ⟨oc_named, od_named, .func (PySem.W.fnOf "named" "named" (defArgs s_named) (defBody s_named) (defScope s_named) .none kV_named dc_named pm_named an_named cd_named ct_named), sl_named⟩)
    (c_named : PySem.W.codeIn K cd_named "named" = true)
    (k_named : PySem.W.keepIn K (.ref f_named) = true)
    (a_marks_of : PySem.W.nsIn K mainGlobals "marks_of" = some (some (.ref f_marks_of)))
    (l_marks_of : K.lookup f_marks_of = some ⟨oc_marks_of, od_marks_of, .func (PySem.W.fnOf "marks_of" "marks_of" (defArgs s_marks_of) (defBody s_marks_of) (defScope s_marks_of) .none kV_marks_of dc_marks_of pm_marks_of an_marks_of cd_marks_of ct_marks_of), sl_marks_of⟩)
    (c_marks_of : PySem.W.codeIn K cd_marks_of "marks_of" = true)
    (k_marks_of : PySem.W.keepIn K (.ref f_marks_of) = true)
    (a_ask_marks : PySem.W.nsIn K mainGlobals "ask_marks" = some (some (.ref f_ask_marks)))
    (l_ask_marks : K.lookup f_ask_marks = some ⟨oc_ask_marks, od_ask_marks, .func (PySem.W.fnOf "ask_marks" "ask_marks" (defArgs s_ask_marks) (defBody s_ask_marks) (defScope s_ask_marks) .none kV_ask_marks dc_ask_marks pm_ask_marks an_ask_marks cd_ask_marks ct_ask_marks), sl_ask_marks⟩)
    (c_ask_marks : PySem.W.codeIn K cd_ask_marks "ask_marks" = true)
    (k_ask_marks : PySem.W.keepIn K (.ref f_ask_marks) = true)
    (a_ask_row : PySem.W.nsIn K mainGlobals "ask_row" = some (some (.ref f_ask_row)))
    (l_ask_row : K.lookup f_ask_row = some ⟨oc_ask_row, od_ask_row, .func (PySem.W.fnOf "ask_row" "ask_row" (defArgs s_ask_row) (defBody s_ask_row) (defScope s_ask_row) .none kV_ask_row dc_ask_row pm_ask_row an_ask_row cd_ask_row ct_ask_row), sl_ask_row⟩)
    (c_ask_row : PySem.W.codeIn K cd_ask_row "ask_row" = true)
    (k_ask_row : PySem.W.keepIn K (.ref f_ask_row) = true)
    (a_joined_worth : PySem.W.nsIn K mainGlobals "joined_worth" = some (some (.ref f_joined_worth)))
    (l_joined_worth : K.lookup f_joined_worth = some ⟨oc_joined_worth, od_joined_worth, .func (PySem.W.fnOf "joined_worth" "joined_worth" (defArgs s_joined_worth) (defBody s_joined_worth) (defScope s_joined_worth) .none kV_joined_worth dc_joined_worth pm_joined_worth an_joined_worth cd_joined_worth ct_joined_worth), sl_joined_worth⟩)
    (c_joined_worth : PySem.W.codeIn K cd_joined_worth "joined_worth" = true)
    (k_joined_worth : PySem.W.keepIn K (.ref f_joined_worth) = true)
    (a_value_at : PySem.W.nsIn K mainGlobals "value_at" = some (some (.ref f_value_at)))
    (l_value_at : K.lookup f_value_at = some ⟨oc_value_at, od_value_at, .func (PySem.W.fnOf "value_at" "value_at" (defArgs s_value_at) (defBody s_value_at) (defScope s_value_at) .none kV_value_at dc_value_at pm_value_at an_value_at cd_value_at ct_value_at), sl_value_at⟩)
    (c_value_at : PySem.W.codeIn K cd_value_at "value_at" = true)
    (k_value_at : PySem.W.keepIn K (.ref f_value_at) = true)
    (a_worth : PySem.W.nsIn K mainGlobals "worth" = some (some (.ref f_worth)))
    (l_worth : K.lookup f_worth = some ⟨oc_worth, od_worth, .func (PySem.W.fnOf "worth" "worth" (defArgs s_worth) (defBody s_worth) (defScope s_worth) .none kV_worth dc_worth pm_worth an_worth cd_worth ct_worth), sl_worth⟩)
    (c_worth : PySem.W.codeIn K cd_worth "worth" = true)
    (k_worth : PySem.W.keepIn K (.ref f_worth) = true)
    (a__law_cell_at : PySem.W.nsIn K mainGlobals "_law_cell_at" = some (some (.ref f__law_cell_at)))
    (l__law_cell_at : K.lookup f__law_cell_at = some ⟨oc__law_cell_at, od__law_cell_at, .func (PySem.W.fnOf "_law_cell_at" "_law_cell_at" (defArgs s__law_cell_at) (defBody s__law_cell_at) (defScope s__law_cell_at) .none kV__law_cell_at dc__law_cell_at pm__law_cell_at an__law_cell_at cd__law_cell_at ct__law_cell_at), sl__law_cell_at⟩)
    (c__law_cell_at : PySem.W.codeIn K cd__law_cell_at "_law_cell_at" = true)
    (k__law_cell_at : PySem.W.keepIn K (.ref f__law_cell_at) = true)
    (a__law_whole : PySem.W.nsIn K mainGlobals "_law_whole" = some (some (.ref f__law_whole)))
    (l__law_whole : K.lookup f__law_whole = some ⟨oc__law_whole, od__law_whole, .func (PySem.W.fnOf "_law_whole" "_law_whole" (defArgs s__law_whole) (defBody s__law_whole) (defScope s__law_whole) .none kV__law_whole dc__law_whole pm__law_whole an__law_whole cd__law_whole ct__law_whole), sl__law_whole⟩)
    (c__law_whole : PySem.W.codeIn K cd__law_whole "_law_whole" = true)
    (k__law_whole : PySem.W.keepIn K (.ref f__law_whole) = true)
    (a__law_draw : PySem.W.nsIn K mainGlobals "_law_draw" = some (some (.ref f__law_draw)))
    (l__law_draw : K.lookup f__law_draw = some ⟨oc__law_draw, od__law_draw, .func (PySem.W.fnOf "_law_draw" "_law_draw" (defArgs s__law_draw) (defBody s__law_draw) (defScope s__law_draw) .none kV__law_draw dc__law_draw pm__law_draw an__law_draw cd__law_draw ct__law_draw), sl__law_draw⟩)
    (c__law_draw : PySem.W.codeIn K cd__law_draw "_law_draw" = true)
    (k__law_draw : PySem.W.keepIn K (.ref f__law_draw) = true)
    (a__law_order : PySem.W.nsIn K mainGlobals "_law_order" = some (some (.ref f__law_order)))
    (l__law_order : K.lookup f__law_order = some ⟨oc__law_order, od__law_order, .func (PySem.W.fnOf "_law_order" "_law_order" (defArgs s__law_order) (defBody s__law_order) (defScope s__law_order) .none kV__law_order dc__law_order pm__law_order an__law_order cd__law_order ct__law_order), sl__law_order⟩)
    (c__law_order : PySem.W.codeIn K cd__law_order "_law_order" = true)
    (k__law_order : PySem.W.keepIn K (.ref f__law_order) = true)
    (a__law_sentence : PySem.W.nsIn K mainGlobals "_law_sentence" = some (some (.ref f__law_sentence)))
    (l__law_sentence : K.lookup f__law_sentence = some ⟨oc__law_sentence, od__law_sentence, .func (PySem.W.fnOf "_law_sentence" "_law_sentence" (defArgs s__law_sentence) (defBody s__law_sentence) (defScope s__law_sentence) .none kV__law_sentence dc__law_sentence pm__law_sentence an__law_sentence cd__law_sentence ct__law_sentence), sl__law_sentence⟩)
    (c__law_sentence : PySem.W.codeIn K cd__law_sentence "_law_sentence" = true)
    (k__law_sentence : PySem.W.keepIn K (.ref f__law_sentence) = true)
    (a__law_count : PySem.W.nsIn K mainGlobals "_law_count" = some (some (.ref f__law_count)))
    (l__law_count : K.lookup f__law_count = some ⟨oc__law_count, od__law_count, .func (PySem.W.fnOf "_law_count" "_law_count" (defArgs s__law_count) (defBody s__law_count) (defScope s__law_count) .none kV__law_count dc__law_count pm__law_count an__law_count cd__law_count ct__law_count), sl__law_count⟩)
    (c__law_count : PySem.W.codeIn K cd__law_count "_law_count" = true)
    (k__law_count : PySem.W.keepIn K (.ref f__law_count) = true)
    (a__law_short : PySem.W.nsIn K mainGlobals "_law_short" = some (some (.ref f__law_short)))
    (l__law_short : K.lookup f__law_short = some ⟨oc__law_short, od__law_short, .func (PySem.W.fnOf "_law_short" "_law_short" (defArgs s__law_short) (defBody s__law_short) (defScope s__law_short) .none kV__law_short dc__law_short pm__law_short an__law_short cd__law_short ct__law_short), sl__law_short⟩)
    (c__law_short : PySem.W.codeIn K cd__law_short "_law_short" = true)
    (k__law_short : PySem.W.keepIn K (.ref f__law_short) = true)
    (a__law_value : PySem.W.nsIn K mainGlobals "_law_value" = some (some (.ref f__law_value)))
    (l__law_value : K.lookup f__law_value = some ⟨oc__law_value, od__law_value, .func (PySem.W.fnOf "_law_value" "_law_value" (defArgs s__law_value) (defBody s__law_value) (defScope s__law_value) .none kV__law_value dc__law_value pm__law_value an__law_value cd__law_value ct__law_value), sl__law_value⟩)
    (c__law_value : PySem.W.codeIn K cd__law_value "_law_value" = true)
    (k__law_value : PySem.W.keepIn K (.ref f__law_value) = true)
    (a_law : PySem.W.nsIn K mainGlobals "law" = some (some (.ref f_law)))
    (l_law : K.lookup f_law = some ⟨oc_law, od_law, .func (PySem.W.fnOf "law" "law" (defArgs s_law) (defBody s_law) (defScope s_law) .none kV_law dc_law pm_law an_law cd_law ct_law), sl_law⟩)
    (c_law : PySem.W.codeIn K cd_law "law" = true)
    (k_law : PySem.W.keepIn K (.ref f_law) = true)
    (aC_BookError : PySem.W.nsIn K mainGlobals "BookError" = some (some (.ref C_BookError)))
    (k_BookError : PySem.W.keepIn K (.ref C_BookError) = true)
    (x_BookError : PySem.W.excIn K C_BookError [.type "ValueError", .type "Exception", .type "BaseException", .type "object"] "ValueError.__new__" = true)
    (bb_BookError : PySem.W.subIn K (.ref C_BookError) (.type "BaseException") = some true)
    (tt_BookError : PySem.W.typeIn K (.ref C_BookError) = some (.type "type"))
    (aC_NoOrder : PySem.W.nsIn K mainGlobals "NoOrder" = some (some (.ref C_NoOrder)))
    (k_NoOrder : PySem.W.keepIn K (.ref C_NoOrder) = true)
    (x_NoOrder : PySem.W.excIn K C_NoOrder [.type "ValueError", .type "Exception", .type "BaseException", .type "object"] "ValueError.__new__" = true)
    (bb_NoOrder : PySem.W.subIn K (.ref C_NoOrder) (.type "BaseException") = some true)
    (tt_NoOrder : PySem.W.typeIn K (.ref C_NoOrder) = some (.type "type"))
    (aC_NoSentence : PySem.W.nsIn K mainGlobals "NoSentence" = some (some (.ref C_NoSentence)))
    (k_NoSentence : PySem.W.keepIn K (.ref C_NoSentence) = true)
    (x_NoSentence : PySem.W.excIn K C_NoSentence [.type "ValueError", .type "Exception", .type "BaseException", .type "object"] "ValueError.__new__" = true)
    (bb_NoSentence : PySem.W.subIn K (.ref C_NoSentence) (.type "BaseException") = some true)
    (tt_NoSentence : PySem.W.typeIn K (.ref C_NoSentence) = some (.type "type"))
    (aC_NoMark : PySem.W.nsIn K mainGlobals "NoMark" = some (some (.ref C_NoMark)))
    (k_NoMark : PySem.W.keepIn K (.ref C_NoMark) = true)
    (x_NoMark : PySem.W.excIn K C_NoMark [.type "ValueError", .type "Exception", .type "BaseException", .type "object"] "ValueError.__new__" = true)
    (bb_NoMark : PySem.W.subIn K (.ref C_NoMark) (.type "BaseException") = some true)
    (tt_NoMark : PySem.W.typeIn K (.ref C_NoMark) = some (.type "type"))
    (aC_NoRow : PySem.W.nsIn K mainGlobals "NoRow" = some (some (.ref C_NoRow)))
    (k_NoRow : PySem.W.keepIn K (.ref C_NoRow) = true)
    (x_NoRow : PySem.W.excIn K C_NoRow [.type "ValueError", .type "Exception", .type "BaseException", .type "object"] "ValueError.__new__" = true)
    (bb_NoRow : PySem.W.subIn K (.ref C_NoRow) (.type "BaseException") = some true)
    (tt_NoRow : PySem.W.typeIn K (.ref C_NoRow) = some (.type "type"))
    (z_len : PySem.W.nsIn K mainGlobals "len" = some none)
    (z_isinstance : PySem.W.nsIn K mainGlobals "isinstance" = some none)
    (z_sum : PySem.W.nsIn K mainGlobals "sum" = some none)
    (z_all : PySem.W.nsIn K mainGlobals "all" = some none)
    (z_max : PySem.W.nsIn K mainGlobals "max" = some none)
    (z_min : PySem.W.nsIn K mainGlobals "min" = some none)
    (z_sorted : PySem.W.nsIn K mainGlobals "sorted" = some none)
    (z_int : PySem.W.nsIn K mainGlobals "int" = some none)
    (z_str : PySem.W.nsIn K mainGlobals "str" = some none)
    (z_list : PySem.W.nsIn K mainGlobals "list" = some none)
    (z_dict : PySem.W.nsIn K mainGlobals "dict" = some none)
    (z_tuple : PySem.W.nsIn K mainGlobals "tuple" = some none)
    (z_set : PySem.W.nsIn K mainGlobals "set" = some none)
    (z_range : PySem.W.nsIn K mainGlobals "range" = some none)
    (z_bool : PySem.W.nsIn K mainGlobals "bool" = some none)
    (z_ValueError : PySem.W.nsIn K mainGlobals "ValueError" = some none)
    (aa_LETTERS : PySem.W.nsIn K mainGlobals "LETTERS" = some (some (.str "abcdefgh" t_LETTERS)))
    (aa_MOST_WORDS : PySem.W.nsIn K mainGlobals "MOST_WORDS" = some (some (.int (200) t_MOST_WORDS)))
    (aa_MOST_DEEP : PySem.W.nsIn K mainGlobals "MOST_DEEP" = some (some (.int (24) t_MOST_DEEP)))
    (aa_PIECES : PySem.W.nsIn K mainGlobals "PIECES" = some (some (.ref a_PIECES)))
    (l_PIECES : K.lookup a_PIECES = some ⟨.type "dict", none, .dict es_PIECES n_PIECES, #[]⟩)
    (kl_PIECES : PySem.W.KeysLit w.params es_PIECES.toList)
    (lo_PIECES : (a_PIECES == sysModules) = false)
    (e_PIECES_yes : PySem.W.nsIn K a_PIECES "yes" = some (some (.int (0) t_PIECES_yes)))
    (e_PIECES_no : PySem.W.nsIn K a_PIECES "no" = some (some (.int (0) t_PIECES_no)))
    (e_PIECES_not : PySem.W.nsIn K a_PIECES "not" = some (some (.int (1) t_PIECES_not)))
    (e_PIECES_and : PySem.W.nsIn K a_PIECES "and" = some (some (.int (2) t_PIECES_and)))
    (e_PIECES_or : PySem.W.nsIn K a_PIECES "or" = some (some (.int (2) t_PIECES_or)))
    (e_PIECES_either : PySem.W.nsIn K a_PIECES "either" = some (some (.int (2) t_PIECES_either)))
    (e_PIECES_if : PySem.W.nsIn K a_PIECES "if" = some (some (.int (2) t_PIECES_if)))
    (o_PIECES : ∀ z : Str, z ≠ "yes" → z ≠ "no" → z ≠ "not" → z ≠ "and" → z ≠ "or" → z ≠ "either" → z ≠ "if" → PySem.W.nsIn K a_PIECES z = some none)
    : Top w K mg where
  f_is_mark := f_is_mark
  fd_is_mark := (PySem.W.fnOf "is_mark" "is_mark" (defArgs s_is_mark) (defBody s_is_mark) (defScope s_is_mark) .none kV_is_mark dc_is_mark pm_is_mark an_is_mark cd_is_mark ct_is_mark)
  F_is_mark := fun_mk l_is_mark c_is_mark k_is_mark
  b_is_mark := (fun_mk (st := s_is_mark) l_is_mark c_is_mark k_is_mark).binds (ps := p_is_mark) fun _ _ _ _ _ _ us hl => match us, hl with | [_], _ => rfl
  m_is_mark := PySem.W.mg_of X G a_is_mark
  f_is_order := f_is_order
  fd_is_order := (PySem.W.fnOf "is_order" "is_order" (defArgs s_is_order) (defBody s_is_order) (defScope s_is_order) .none kV_is_order dc_is_order pm_is_order an_is_order cd_is_order ct_is_order)
  F_is_order := fun_mk l_is_order c_is_order k_is_order
  b_is_order := (fun_mk (st := s_is_order) l_is_order c_is_order k_is_order).binds (ps := p_is_order) fun _ _ _ _ _ _ us hl => match us, hl with | [_], _ => rfl
  m_is_order := PySem.W.mg_of X G a_is_order
  f_ask_order := f_ask_order
  fd_ask_order := (PySem.W.fnOf "ask_order" "ask_order" (defArgs s_ask_order) (defBody s_ask_order) (defScope s_ask_order) .none kV_ask_order dc_ask_order pm_ask_order an_ask_order cd_ask_order ct_ask_order)
  F_ask_order := fun_mk l_ask_order c_ask_order k_ask_order
  b_ask_order := (fun_mk (st := s_ask_order) l_ask_order c_ask_order k_ask_order).binds (ps := p_ask_order) fun _ _ _ _ _ _ us hl => match us, hl with | [_], _ => rfl
  m_ask_order := PySem.W.mg_of X G a_ask_order
  f_pieces_of := f_pieces_of
  fd_pieces_of := (PySem.W.fnOf "pieces_of" "pieces_of" (defArgs s_pieces_of) (defBody s_pieces_of) (defScope s_pieces_of) .none kV_pieces_of dc_pieces_of pm_pieces_of an_pieces_of cd_pieces_of ct_pieces_of)
  F_pieces_of := fun_mk l_pieces_of c_pieces_of k_pieces_of
  b_pieces_of := (fun_mk (st := s_pieces_of) l_pieces_of c_pieces_of k_pieces_of).binds (ps := p_pieces_of) fun _ _ _ _ _ _ us hl => match us, hl with | [_], _ => rfl
  m_pieces_of := PySem.W.mg_of X G a_pieces_of
  f_well_made := f_well_made
  fd_well_made := (PySem.W.fnOf "well_made" "well_made" (defArgs s_well_made) (defBody s_well_made) (defScope s_well_made) .none kV_well_made dc_well_made pm_well_made an_well_made cd_well_made ct_well_made)
  F_well_made := fun_mk l_well_made c_well_made k_well_made
  b_well_made := (fun_mk (st := s_well_made) l_well_made c_well_made k_well_made).binds (ps := p_well_made) fun _ _ _ _ _ _ us hl => match us, hl with | [_], _ => rfl
  m_well_made := PySem.W.mg_of X G a_well_made
  f_count := f_count
  fd_count := (PySem.W.fnOf "count" "count" (defArgs s_count) (defBody s_count) (defScope s_count) .none kV_count dc_count pm_count an_count cd_count ct_count)
  F_count := fun_mk l_count c_count k_count
  b_count := (fun_mk (st := s_count) l_count c_count k_count).binds (ps := p_count) fun _ _ _ _ _ _ us hl => match us, hl with | [_], _ => rfl
  m_count := PySem.W.mg_of X G a_count
  f_deep := f_deep
  fd_deep := (PySem.W.fnOf "deep" "deep" (defArgs s_deep) (defBody s_deep) (defScope s_deep) .none kV_deep dc_deep pm_deep an_deep cd_deep ct_deep)
  F_deep := fun_mk l_deep c_deep k_deep
  b_deep := (fun_mk (st := s_deep) l_deep c_deep k_deep).binds (ps := p_deep) fun _ _ _ _ _ _ us hl => match us, hl with | [_], _ => rfl
  m_deep := PySem.W.mg_of X G a_deep
  f_is_sentence := f_is_sentence
  fd_is_sentence := (PySem.W.fnOf "is_sentence" "is_sentence" (defArgs s_is_sentence) (defBody s_is_sentence) (defScope s_is_sentence) .none kV_is_sentence dc_is_sentence pm_is_sentence an_is_sentence cd_is_sentence ct_is_sentence)
  F_is_sentence := fun_mk l_is_sentence c_is_sentence k_is_sentence
  b_is_sentence := (fun_mk (st := s_is_sentence) l_is_sentence c_is_sentence k_is_sentence).binds (ps := p_is_sentence) fun _ _ _ _ _ _ us hl => match us, hl with | [_], _ => rfl
  m_is_sentence := PySem.W.mg_of X G a_is_sentence
  f_ask_sentence := f_ask_sentence
  fd_ask_sentence := (PySem.W.fnOf "ask_sentence" "ask_sentence" (defArgs s_ask_sentence) (defBody s_ask_sentence) (defScope s_ask_sentence) .none kV_ask_sentence dc_ask_sentence pm_ask_sentence an_ask_sentence cd_ask_sentence ct_ask_sentence)
  F_ask_sentence := fun_mk l_ask_sentence c_ask_sentence k_ask_sentence
  b_ask_sentence := (fun_mk (st := s_ask_sentence) l_ask_sentence c_ask_sentence k_ask_sentence).binds (ps := p_ask_sentence) fun _ _ _ _ _ _ us hl => match us, hl with | [_], _ => rfl
  m_ask_sentence := PySem.W.mg_of X G a_ask_sentence
  f_named := f_named
  fd_named := (PySem.W.fnOf "named" "named" (defArgs s_named) (defBody s_named) (defScope s_named) .none kV_named dc_named pm_named an_named cd_named ct_named)
  F_named := fun_mk l_named c_named k_named
  b_named := (fun_mk (st := s_named) l_named c_named k_named).binds (ps := p_named) fun _ _ _ _ _ _ us hl => match us, hl with | [_], _ => rfl
  m_named := PySem.W.mg_of X G a_named
  f_marks_of := f_marks_of
  fd_marks_of := (PySem.W.fnOf "marks_of" "marks_of" (defArgs s_marks_of) (defBody s_marks_of) (defScope s_marks_of) .none kV_marks_of dc_marks_of pm_marks_of an_marks_of cd_marks_of ct_marks_of)
  F_marks_of := fun_mk l_marks_of c_marks_of k_marks_of
  b_marks_of := (fun_mk (st := s_marks_of) l_marks_of c_marks_of k_marks_of).binds (ps := p_marks_of) fun _ _ _ _ _ _ us hl => match us, hl with | [_], _ => rfl
  m_marks_of := PySem.W.mg_of X G a_marks_of
  f_ask_marks := f_ask_marks
  fd_ask_marks := (PySem.W.fnOf "ask_marks" "ask_marks" (defArgs s_ask_marks) (defBody s_ask_marks) (defScope s_ask_marks) .none kV_ask_marks dc_ask_marks pm_ask_marks an_ask_marks cd_ask_marks ct_ask_marks)
  F_ask_marks := fun_mk l_ask_marks c_ask_marks k_ask_marks
  b_ask_marks := (fun_mk (st := s_ask_marks) l_ask_marks c_ask_marks k_ask_marks).binds (ps := p_ask_marks) fun _ _ _ _ _ _ us hl => match us, hl with | [_, _], _ => rfl
  m_ask_marks := PySem.W.mg_of X G a_ask_marks
  f_ask_row := f_ask_row
  fd_ask_row := (PySem.W.fnOf "ask_row" "ask_row" (defArgs s_ask_row) (defBody s_ask_row) (defScope s_ask_row) .none kV_ask_row dc_ask_row pm_ask_row an_ask_row cd_ask_row ct_ask_row)
  F_ask_row := fun_mk l_ask_row c_ask_row k_ask_row
  b_ask_row := (fun_mk (st := s_ask_row) l_ask_row c_ask_row k_ask_row).binds (ps := p_ask_row) fun _ _ _ _ _ _ us hl => match us, hl with | [_, _], _ => rfl
  m_ask_row := PySem.W.mg_of X G a_ask_row
  f_joined_worth := f_joined_worth
  fd_joined_worth := (PySem.W.fnOf "joined_worth" "joined_worth" (defArgs s_joined_worth) (defBody s_joined_worth) (defScope s_joined_worth) .none kV_joined_worth dc_joined_worth pm_joined_worth an_joined_worth cd_joined_worth ct_joined_worth)
  F_joined_worth := fun_mk l_joined_worth c_joined_worth k_joined_worth
  b_joined_worth := (fun_mk (st := s_joined_worth) l_joined_worth c_joined_worth k_joined_worth).binds (ps := p_joined_worth) fun _ _ _ _ _ _ us hl => match us, hl with | [_, _, _], _ => rfl
  m_joined_worth := PySem.W.mg_of X G a_joined_worth
  f_value_at := f_value_at
  fd_value_at := (PySem.W.fnOf "value_at" "value_at" (defArgs s_value_at) (defBody s_value_at) (defScope s_value_at) .none kV_value_at dc_value_at pm_value_at an_value_at cd_value_at ct_value_at)
  F_value_at := fun_mk l_value_at c_value_at k_value_at
  b_value_at := (fun_mk (st := s_value_at) l_value_at c_value_at k_value_at).binds (ps := p_value_at) fun _ _ _ _ _ _ us hl => match us, hl with | [_, _, _], _ => rfl
  m_value_at := PySem.W.mg_of X G a_value_at
  f_worth := f_worth
  fd_worth := (PySem.W.fnOf "worth" "worth" (defArgs s_worth) (defBody s_worth) (defScope s_worth) .none kV_worth dc_worth pm_worth an_worth cd_worth ct_worth)
  F_worth := fun_mk l_worth c_worth k_worth
  b_worth := (fun_mk (st := s_worth) l_worth c_worth k_worth).binds (ps := p_worth) fun _ _ _ _ _ _ us hl => match us, hl with | [_, _, _], _ => rfl
  m_worth := PySem.W.mg_of X G a_worth
  f__law_cell_at := f__law_cell_at
  fd__law_cell_at := (PySem.W.fnOf "_law_cell_at" "_law_cell_at" (defArgs s__law_cell_at) (defBody s__law_cell_at) (defScope s__law_cell_at) .none kV__law_cell_at dc__law_cell_at pm__law_cell_at an__law_cell_at cd__law_cell_at ct__law_cell_at)
  F__law_cell_at := fun_mk l__law_cell_at c__law_cell_at k__law_cell_at
  b__law_cell_at := (fun_mk (st := s__law_cell_at) l__law_cell_at c__law_cell_at k__law_cell_at).binds (ps := p__law_cell_at) fun _ _ _ _ _ _ us hl => match us, hl with | [_, _], _ => rfl
  m__law_cell_at := PySem.W.mg_of X G a__law_cell_at
  f__law_whole := f__law_whole
  fd__law_whole := (PySem.W.fnOf "_law_whole" "_law_whole" (defArgs s__law_whole) (defBody s__law_whole) (defScope s__law_whole) .none kV__law_whole dc__law_whole pm__law_whole an__law_whole cd__law_whole ct__law_whole)
  F__law_whole := fun_mk l__law_whole c__law_whole k__law_whole
  b__law_whole := (fun_mk (st := s__law_whole) l__law_whole c__law_whole k__law_whole).binds (ps := p__law_whole) fun _ _ _ _ _ _ us hl => match us, hl with | [_], _ => rfl
  m__law_whole := PySem.W.mg_of X G a__law_whole
  f__law_draw := f__law_draw
  fd__law_draw := (PySem.W.fnOf "_law_draw" "_law_draw" (defArgs s__law_draw) (defBody s__law_draw) (defScope s__law_draw) .none kV__law_draw dc__law_draw pm__law_draw an__law_draw cd__law_draw ct__law_draw)
  F__law_draw := fun_mk l__law_draw c__law_draw k__law_draw
  b__law_draw := (fun_mk (st := s__law_draw) l__law_draw c__law_draw k__law_draw).binds (ps := p__law_draw) fun _ _ _ _ _ _ us hl => match us, hl with | [_, _, _], _ => rfl
  m__law_draw := PySem.W.mg_of X G a__law_draw
  f__law_order := f__law_order
  fd__law_order := (PySem.W.fnOf "_law_order" "_law_order" (defArgs s__law_order) (defBody s__law_order) (defScope s__law_order) .none kV__law_order dc__law_order pm__law_order an__law_order cd__law_order ct__law_order)
  F__law_order := fun_mk l__law_order c__law_order k__law_order
  b__law_order := (fun_mk (st := s__law_order) l__law_order c__law_order k__law_order).binds (ps := p__law_order) fun _ _ _ _ _ _ us hl => match us, hl with | [_, _], _ => rfl
  m__law_order := PySem.W.mg_of X G a__law_order
  f__law_sentence := f__law_sentence
  fd__law_sentence := (PySem.W.fnOf "_law_sentence" "_law_sentence" (defArgs s__law_sentence) (defBody s__law_sentence) (defScope s__law_sentence) .none kV__law_sentence dc__law_sentence pm__law_sentence an__law_sentence cd__law_sentence ct__law_sentence)
  F__law_sentence := fun_mk l__law_sentence c__law_sentence k__law_sentence
  b__law_sentence := (fun_mk (st := s__law_sentence) l__law_sentence c__law_sentence k__law_sentence).binds (ps := p__law_sentence) fun _ _ _ _ _ _ us hl => match us, hl with | [_, _, _, _], _ => rfl
  m__law_sentence := PySem.W.mg_of X G a__law_sentence
  f__law_count := f__law_count
  fd__law_count := (PySem.W.fnOf "_law_count" "_law_count" (defArgs s__law_count) (defBody s__law_count) (defScope s__law_count) .none kV__law_count dc__law_count pm__law_count an__law_count cd__law_count ct__law_count)
  F__law_count := fun_mk l__law_count c__law_count k__law_count
  b__law_count := (fun_mk (st := s__law_count) l__law_count c__law_count k__law_count).binds (ps := p__law_count) fun _ _ _ _ _ _ us hl => match us, hl with | [_], _ => rfl
  m__law_count := PySem.W.mg_of X G a__law_count
  f__law_short := f__law_short
  fd__law_short := (PySem.W.fnOf "_law_short" "_law_short" (defArgs s__law_short) (defBody s__law_short) (defScope s__law_short) .none kV__law_short dc__law_short pm__law_short an__law_short cd__law_short ct__law_short)
  F__law_short := fun_mk l__law_short c__law_short k__law_short
  b__law_short := (fun_mk (st := s__law_short) l__law_short c__law_short k__law_short).binds (ps := p__law_short) fun _ _ _ _ _ _ us hl => match us, hl with | [_, _, _, _], _ => rfl
  m__law_short := PySem.W.mg_of X G a__law_short
  f__law_value := f__law_value
  fd__law_value := (PySem.W.fnOf "_law_value" "_law_value" (defArgs s__law_value) (defBody s__law_value) (defScope s__law_value) .none kV__law_value dc__law_value pm__law_value an__law_value cd__law_value ct__law_value)
  F__law_value := fun_mk l__law_value c__law_value k__law_value
  b__law_value := (fun_mk (st := s__law_value) l__law_value c__law_value k__law_value).binds (ps := p__law_value) fun _ _ _ _ _ _ us hl => match us, hl with | [_, _, _], _ => rfl
  m__law_value := PySem.W.mg_of X G a__law_value
  f_law := f_law
  fd_law := (PySem.W.fnOf "law" "law" (defArgs s_law) (defBody s_law) (defScope s_law) .none kV_law dc_law pm_law an_law cd_law ct_law)
  F_law := fun_mk l_law c_law k_law
  b_law := (fun_mk (st := s_law) l_law c_law k_law).binds (ps := p_law) fun _ _ _ _ _ _ us hl => match us, hl with | [_], _ => rfl
  m_law := PySem.W.mg_of X G a_law
  C_BookError := C_BookError
  m_BookError := PySem.W.mg_of X G aC_BookError
  k_BookError := k_BookError
  x_BookError := x_BookError
  bb_BookError := bb_BookError
  tt_BookError := tt_BookError
  C_NoOrder := C_NoOrder
  m_NoOrder := PySem.W.mg_of X G aC_NoOrder
  k_NoOrder := k_NoOrder
  x_NoOrder := x_NoOrder
  bb_NoOrder := bb_NoOrder
  tt_NoOrder := tt_NoOrder
  C_NoSentence := C_NoSentence
  m_NoSentence := PySem.W.mg_of X G aC_NoSentence
  k_NoSentence := k_NoSentence
  x_NoSentence := x_NoSentence
  bb_NoSentence := bb_NoSentence
  tt_NoSentence := tt_NoSentence
  C_NoMark := C_NoMark
  m_NoMark := PySem.W.mg_of X G aC_NoMark
  k_NoMark := k_NoMark
  x_NoMark := x_NoMark
  bb_NoMark := bb_NoMark
  tt_NoMark := tt_NoMark
  C_NoRow := C_NoRow
  m_NoRow := PySem.W.mg_of X G aC_NoRow
  k_NoRow := k_NoRow
  x_NoRow := x_NoRow
  bb_NoRow := bb_NoRow
  tt_NoRow := tt_NoRow
  z_len := PySem.W.mg_none_of X G z_len
  z_isinstance := PySem.W.mg_none_of X G z_isinstance
  z_sum := PySem.W.mg_none_of X G z_sum
  z_all := PySem.W.mg_none_of X G z_all
  z_max := PySem.W.mg_none_of X G z_max
  z_min := PySem.W.mg_none_of X G z_min
  z_sorted := PySem.W.mg_none_of X G z_sorted
  z_int := PySem.W.mg_none_of X G z_int
  z_str := PySem.W.mg_none_of X G z_str
  z_list := PySem.W.mg_none_of X G z_list
  z_dict := PySem.W.mg_none_of X G z_dict
  z_tuple := PySem.W.mg_none_of X G z_tuple
  z_set := PySem.W.mg_none_of X G z_set
  z_range := PySem.W.mg_none_of X G z_range
  z_bool := PySem.W.mg_none_of X G z_bool
  z_ValueError := PySem.W.mg_none_of X G z_ValueError
  t_LETTERS := t_LETTERS
  mg_LETTERS := PySem.W.mg_of X G aa_LETTERS
  t_MOST_WORDS := t_MOST_WORDS
  mg_MOST_WORDS := PySem.W.mg_of X G aa_MOST_WORDS
  t_MOST_DEEP := t_MOST_DEEP
  mg_MOST_DEEP := PySem.W.mg_of X G aa_MOST_DEEP
  a_PIECES := a_PIECES
  mg_PIECES := PySem.W.mg_of X G aa_PIECES
  es_PIECES := es_PIECES
  n_PIECES := n_PIECES
  d_PIECES := ⟨l_PIECES, kl_PIECES, lo_PIECES⟩
  t_PIECES_yes := t_PIECES_yes
  e_PIECES_yes := e_PIECES_yes
  t_PIECES_no := t_PIECES_no
  e_PIECES_no := e_PIECES_no
  t_PIECES_not := t_PIECES_not
  e_PIECES_not := e_PIECES_not
  t_PIECES_and := t_PIECES_and
  e_PIECES_and := e_PIECES_and
  t_PIECES_or := t_PIECES_or
  e_PIECES_or := e_PIECES_or
  t_PIECES_either := t_PIECES_either
  e_PIECES_either := e_PIECES_either
  t_PIECES_if := t_PIECES_if
  e_PIECES_if := e_PIECES_if
  o_PIECES := o_PIECES
theorem all_ok {l : PySem.W.OpenLaw} {w : World} {K : PySem.W.Frag} {h : Heap} {mg : Str → Option Value} {fa : Addr} (X : K.In h) (G : h.Ns mainGlobals mg) (hfa : mg "law" = some (.ref fa)) (T : Top w K mg) (hd : ∀ (s : Shared) (v : Value), BindsTo s T.fd_law ⟨[v], []⟩ [("script", v)]) :
    ∃ fd : FuncData, (∀ (s : Shared) (v : Value), BindsTo s fd ⟨[v], []⟩ [("script", v)]) ∧ ∀ base : Heap, K.In base → base.Ns mainGlobals mg → FnOk l.prog w K mg base (L2.CX l.prog w) lawLv fa fd ["script"] (spLaw K) := by
  have e := hfa.symm.trans T.m_law
  cases e
  exact ⟨T.fd_law, hd, fun base _ _ => ok_law T⟩
theorem walk {l : PySem.W.OpenLaw} {q : Program} {loose : List Str} {XP : (Str → Option Value) → Heap → Prop} {YP : World → Heap → Prop} {d : DefRec} {K : Params → PySem.W.Frag} (hn : l.most = some 63) (hdf : d.params.defaults = [])
    (hY : ∀ (w : World) (h : Heap), YP w h → (K w.params).In h)
    (F : ∀ (w : World) (mg : Str → Option Value) (fa : Addr) (h : Heap), (K w.params).In h → h.Ns mainGlobals mg → mg d.name = some (.ref fa) →
      ∃ fd : FuncData, (∀ (s : Shared) (u : Value), BindsTo s fd ⟨[u], []⟩ [("script", u)]) ∧ ∀ base : Heap, (K w.params).In base → base.Ns mainGlobals mg → FnOk l.prog w (K w.params) mg base (L2.CX l.prog w) lawLv fa fd ["script"] (spLaw (K w.params))) :
    PySem.W.WalkO q loose XP YP l.row.toRowW d [] (fun f vs => PySem.call f vs) :=
  L2.walk_of (n := 63) (k := lawLv) (x := "script") (CX := fun w => L2.CX l.prog w) (sp := fun w => spLaw (K w.params)) hn (by decide) hdf ⟨rfl, by decide, by decide⟩ hY F (fun _ _ a ns hl _ hS => ⟨a, ns, rfl, hS, hl, fun _ => rfl⟩) fun _ _ _ _ _ z => by
    obtain ⟨_, _, _, _, _, _, _, _, _, _, _, _, z⟩ := z
    exact z.elim

end Db
open PySem PySem.W PyProof.Rows
set_option maxRecDepth 100000 in
set_option maxHeartbeats 0 in
theorem PySem.Challenge.cw_decidebook_k02_worths_of_sentences_holds : PySem.Challenge.rw_decidebook_k02_worths_of_sentences.Holds := by
  w_on; o_law; k_head; (case hw => w_witness2)
  k_fill
  refine Db.walk (l := PySem.Challenge.rw_decidebook_k02_worths_of_sentences) rfl rfl (fun w h Y => PySem.W.kIn_of Y) ?F
  case F =>
    intro w mg fa h KX G hmg
    refine' Db.all_ok KX G hmg (Db.mkTop KX G ?a_is_mark ?l_is_mark ?c_is_mark ?k_is_mark ?a_is_order ?l_is_order ?c_is_order ?k_is_order ?a_ask_order ?l_ask_order ?c_ask_order ?k_ask_order ?a_pieces_of ?l_pieces_of ?c_pieces_of ?k_pieces_of ?a_well_made ?l_well_made ?c_well_made ?k_well_made ?a_count ?l_count ?c_count ?k_count ?a_deep ?l_deep ?c_deep ?k_deep ?a_is_sentence ?l_is_sentence ?c_is_sentence ?k_is_sentence ?a_ask_sentence ?l_ask_sentence ?c_ask_sentence ?k_ask_sentence ?a_named ?l_named ?c_named ?k_named ?a_marks_of ?l_marks_of ?c_marks_of ?k_marks_of ?a_ask_marks ?l_ask_marks ?c_ask_marks ?k_ask_marks ?a_ask_row ?l_ask_row ?c_ask_row ?k_ask_row ?a_joined_worth ?l_joined_worth ?c_joined_worth ?k_joined_worth ?a_value_at ?l_value_at ?c_value_at ?k_value_at ?a_worth ?l_worth ?c_worth ?k_worth ?a__law_cell_at ?l__law_cell_at ?c__law_cell_at ?k__law_cell_at ?a__law_whole ?l__law_whole ?c__law_whole ?k__law_whole ?a__law_draw ?l__law_draw ?c__law_draw ?k__law_draw ?a__law_order ?l__law_order ?c__law_order ?k__law_order ?a__law_sentence ?l__law_sentence ?c__law_sentence ?k__law_sentence ?a__law_count ?l__law_count ?c__law_count ?k__law_count ?a__law_short ?l__law_short ?c__law_short ?k__law_short ?a__law_value ?l__law_value ?c__law_value ?k__law_value ?a_law ?l_law ?c_law ?k_law ?aC_BookError ?k_BookError ?x_BookError ?bb_BookError ?tt_BookError ?aC_NoOrder ?k_NoOrder ?x_NoOrder ?bb_NoOrder ?tt_NoOrder ?aC_NoSentence ?k_NoSentence ?x_NoSentence ?bb_NoSentence ?tt_NoSentence ?aC_NoMark ?k_NoMark ?x_NoMark ?bb_NoMark ?tt_NoMark ?aC_NoRow ?k_NoRow ?x_NoRow ?bb_NoRow ?tt_NoRow ?z_len ?z_isinstance ?z_sum ?z_all ?z_max ?z_min ?z_sorted ?z_int ?z_str ?z_list ?z_dict ?z_tuple ?z_set ?z_range ?z_bool ?z_ValueError ?aa_LETTERS ?aa_MOST_WORDS ?aa_MOST_DEEP ?aa_PIECES ?l_PIECES ?kl_PIECES ?lo_PIECES ?e_PIECES_yes ?e_PIECES_no ?e_PIECES_not ?e_PIECES_and ?e_PIECES_or ?e_PIECES_either ?e_PIECES_if ?o_PIECES) ?bd
    (case a_is_mark => k_is)
    (case l_is_mark => k_is)
    (case c_is_mark => k_is)
    (case k_is_mark => k_is)
    (case a_is_order => k_is)
    (case l_is_order => k_is)
    (case c_is_order => k_is)
    (case k_is_order => k_is)
    (case a_ask_order => k_is)
    (case l_ask_order => k_is)
    (case c_ask_order => k_is)
    (case k_ask_order => k_is)
    (case a_pieces_of => k_is)
    (case l_pieces_of => k_is)
    (case c_pieces_of => k_is)
    (case k_pieces_of => k_is)
    (case a_well_made => k_is)
    (case l_well_made => k_is)
    (case c_well_made => k_is)
    (case k_well_made => k_is)
    (case a_count => k_is)
    (case l_count => k_is)
    (case c_count => k_is)
    (case k_count => k_is)
    (case a_deep => k_is)
    (case l_deep => k_is)
    (case c_deep => k_is)
    (case k_deep => k_is)
    (case a_is_sentence => k_is)
    (case l_is_sentence => k_is)
    (case c_is_sentence => k_is)
    (case k_is_sentence => k_is)
    (case a_ask_sentence => k_is)
    (case l_ask_sentence => k_is)
    (case c_ask_sentence => k_is)
    (case k_ask_sentence => k_is)
    (case a_named => k_is)
    (case l_named => k_is)
    (case c_named => k_is)
    (case k_named => k_is)
    (case a_marks_of => k_is)
    (case l_marks_of => k_is)
    (case c_marks_of => k_is)
    (case k_marks_of => k_is)
    (case a_ask_marks => k_is)
    (case l_ask_marks => k_is)
    (case c_ask_marks => k_is)
    (case k_ask_marks => k_is)
    (case a_ask_row => k_is)
    (case l_ask_row => k_is)
    (case c_ask_row => k_is)
    (case k_ask_row => k_is)
    (case a_joined_worth => k_is)
    (case l_joined_worth => k_is)
    (case c_joined_worth => k_is)
    (case k_joined_worth => k_is)
    (case a_value_at => k_is)
    (case l_value_at => k_is)
    (case c_value_at => k_is)
    (case k_value_at => k_is)
    (case a_worth => k_is)
    (case l_worth => k_is)
    (case c_worth => k_is)
    (case k_worth => k_is)
    (case a__law_cell_at => k_is)
    (case l__law_cell_at => k_is)
    (case c__law_cell_at => k_is)
    (case k__law_cell_at => k_is)
    (case a__law_whole => k_is)
    (case l__law_whole => k_is)
    (case c__law_whole => k_is)
    (case k__law_whole => k_is)
    (case a__law_draw => k_is)
    (case l__law_draw => k_is)
    (case c__law_draw => k_is)
    (case k__law_draw => k_is)
    (case a__law_order => k_is)
    (case l__law_order => k_is)
    (case c__law_order => k_is)
    (case k__law_order => k_is)
    (case a__law_sentence => k_is)
    (case l__law_sentence => k_is)
    (case c__law_sentence => k_is)
    (case k__law_sentence => k_is)
    (case a__law_count => k_is)
    (case l__law_count => k_is)
    (case c__law_count => k_is)
    (case k__law_count => k_is)
    (case a__law_short => k_is)
    (case l__law_short => k_is)
    (case c__law_short => k_is)
    (case k__law_short => k_is)
    (case a__law_value => k_is)
    (case l__law_value => k_is)
    (case c__law_value => k_is)
    (case k__law_value => k_is)
    (case a_law => k_is)
    (case l_law => k_is)
    (case c_law => k_is)
    (case k_law => k_is)
    (case aC_BookError => k_is)
    (case k_BookError => k_is)
    (case x_BookError => k_exc)
    (case bb_BookError => k_is)
    (case tt_BookError => k_is)
    (case aC_NoOrder => k_is)
    (case k_NoOrder => k_is)
    (case x_NoOrder => k_exc)
    (case bb_NoOrder => k_is)
    (case tt_NoOrder => k_is)
    (case aC_NoSentence => k_is)
    (case k_NoSentence => k_is)
    (case x_NoSentence => k_exc)
    (case bb_NoSentence => k_is)
    (case tt_NoSentence => k_is)
    (case aC_NoMark => k_is)
    (case k_NoMark => k_is)
    (case x_NoMark => k_exc)
    (case bb_NoMark => k_is)
    (case tt_NoMark => k_is)
    (case aC_NoRow => k_is)
    (case k_NoRow => k_is)
    (case x_NoRow => k_exc)
    (case bb_NoRow => k_is)
    (case tt_NoRow => k_is)
    (case z_len => k_is)
    (case z_isinstance => k_is)
    (case z_sum => k_is)
    (case z_all => k_is)
    (case z_max => k_is)
    (case z_min => k_is)
    (case z_sorted => k_is)
    (case z_int => k_is)
    (case z_str => k_is)
    (case z_list => k_is)
    (case z_dict => k_is)
    (case z_tuple => k_is)
    (case z_set => k_is)
    (case z_range => k_is)
    (case z_bool => k_is)
    (case z_ValueError => k_is)
    (case aa_LETTERS => k_is)
    (case aa_MOST_WORDS => k_is)
    (case aa_MOST_DEEP => k_is)
    (case aa_PIECES => k_is)
    (case l_PIECES => k_is)
    (case kl_PIECES => repeat (first | exact True.intro | refine ⟨⟨_, _, rfl, rfl⟩, ?_⟩))
    (case lo_PIECES => decide +kernel)
    (case e_PIECES_yes => k_is)
    (case e_PIECES_no => k_is)
    (case e_PIECES_not => k_is)
    (case e_PIECES_and => k_is)
    (case e_PIECES_or => k_is)
    (case e_PIECES_either => k_is)
    (case e_PIECES_if => k_is)
    (case o_PIECES => intros; refine Db.nsIn_none (by k_is) ?_; repeat (first | exact True.intro | refine ⟨⟨_, _, rfl, by assumption⟩, ?_⟩))
    (case bd => exact fun s v => .of_eq rfl)
