import PyProof.Rows.All
import Wide.All
import OpenK.AllK
import Wide.FinOn
import HandS.ForMost
import HandS.More
import HandS.Conv
import HandS.TupSets
import HandS.DictTup
import HandS.SortKw
import HandS.Strs
import HandS.Flow
import HandS.Style
import HandS.Small
import HandS.SetFor
import KE.GoesMore
import KE.GoesEnum
import KE.KDictKeyed
import KE.KDictPairs
import KE.KDictCopyH
import PyProof.NeKinds
import KE.SortKeyHeap
import KE.KSortKey
import PySem.Challenge.RW_partedweb_k85_whole_keepers_beside_all_a
import HandS.Walk
import HandS.Steps
set_option Elab.async false
set_option linter.all false
set_option maxRecDepth 100000
/-! KA: heaps that grow, data in a heap, rules with the written part named. -/
namespace KPR
open PySem L2

/-! ### heaps that grow -/
def Ex (H H' : Hp) : Prop := ∀ a o, H a = some o → H' a = some o
theorem Ex.refl (H : Hp) : Ex H H := fun _ _ h => h
theorem Ex.trans {H H1 H2 : Hp} (a : Ex H H1) (b : Ex H1 H2) : Ex H H2 := fun x o h => b x o (a x o h)
theorem Ex.new {H : Hp} {p : Addr} {o : HO} (h : H p = none) : Ex H (upd H p o) := fun a u e => by
  rw [upd_ne (ne_of_none e h)]
  exact e
theorem Ex.back {H H' : Hp} {p : Addr} (e : Ex H H') (h : H' p = none) : H p = none := by
  cases h1 : H p with
  | none => rfl
  | some o => rw [e p o h1] at h; cases h
theorem Ex.both {B H : Hp} {p : Addr} {o : HO} (e : Ex B H) : Ex (upd B p o) (upd H p o) := fun a u h => by
  by_cases ha : a = p
  · subst ha; rw [upd_same] at h ⊢; exact h
  · rw [upd_ne ha] at h ⊢; exact e a u h
/-- an object that B does not know is written -/
theorem Ex.mut {B H : Hp} {p : Addr} {o : HO} (e : Ex B H) (h : B p = none) : Ex B (upd H p o) := fun a u ha => by
  rw [upd_ne (ne_of_none ha h)]
  exact e a u ha
theorem alloc_upd {H : Hp} {p a : Addr} {o : HO} (h : H a ≠ none) : upd H p o a ≠ none := by
  by_cases e : a = p
  · subst e; rw [upd_same]; intro z; cases z
  · rw [upd_ne e]; exact h

/-- not a tuple: it may change, or become known only while it is new -/
def nT : HO → Prop
  | .tup _ => False
  | _ => True
/-- B: what is known and stays; H: the heap. From (B, H) to (B', H'): what H tracked stays but at F; what B' knows more is new, or a tuple -/
structure Gof (F : Addr → Prop) (B H B' H' : Hp) : Prop where
  bb : Ex B B'
  bh : Ex B' H'
  kp : ∀ a o, H a = some o → ¬ F a → H' a = some o
  al : ∀ a, H a ≠ none → H' a ≠ none
  fr : ∀ a o, H a = some o → nT o → B a = none → B' a = none
  nt : ∀ a o, H a = some o → nT o → ∃ o', H' a = some o' ∧ nT o'
def F0 : Addr → Prop := fun _ => False
abbrev Gro (B H B' H' : Hp) : Prop := Gof F0 B H B' H'
theorem Gof.back {F : Addr → Prop} {B H B' H' : Hp} (g : Gof F B H B' H') {p : Addr} (h : H' p = none) : H p = none := by
  cases e : H p with
  | none => rfl
  | some o => exact absurd h (g.al p (by rw [e]; intro z; cases z))
theorem Gof.refl {F : Addr → Prop} {B H : Hp} (e : Ex B H) : Gof F B H B H := ⟨Ex.refl B, e, fun _ _ h _ => h, fun _ h => h, fun _ _ _ _ h => h, fun _ o h n => ⟨o, h, n⟩⟩
theorem Gof.trans {F F' : Addr → Prop} {B H B1 H1 B2 H2 : Hp} (a : Gof F B H B1 H1) (b : Gof F' B1 H1 B2 H2) (hf : ∀ x, F' x → F x ∨ H x = none := by first | exact fun _ z => Or.inl z | exact fun _ z => False.elim z) : Gof F B H B2 H2 where
  bb := a.bb.trans b.bb
  bh := b.bh
  kp := fun x o h hF => b.kp x o (a.kp x o h hF) fun z => (hf x z).elim hF fun n => by rw [h] at n; cases n
  al := fun x h => b.al x (a.al x h)
  fr := fun x o h t n => by
    obtain ⟨o1, h1, t1⟩ := a.nt x o h t
    exact b.fr x o1 h1 t1 (a.fr x o h t n)
  nt := fun x o h t => by
    obtain ⟨o1, h1, t1⟩ := a.nt x o h t
    exact b.nt x o1 h1 t1
theorem Gof.mono {F F' : Addr → Prop} {B H B1 H1 : Hp} (a : Gof F B H B1 H1) (hf : ∀ x, F x → F' x) : Gof F' B H B1 H1 := ⟨a.bb, a.bh, fun x o h n => a.kp x o h fun z => n (hf x z), a.al, a.fr, a.nt⟩
theorem Gof.hh {B H B' H' : Hp} (g : Gro B H B' H') : Ex H H' := fun a o h => g.kp a o h fun z => z
theorem Gro.of {F : Addr → Prop} {B H B' H' : Hp} (g : Gro B H B' H') : Gof F B H B' H' := g.mono fun _ z => z.elim
theorem gro_of {B H B' H' : Hp} (bb : Ex B B') (bh : Ex B' H') (hh : Ex H H') (fr : ∀ a o, H a = some o → nT o → B a = none → B' a = none) : Gro B H B' H' := by
  refine ⟨bb, bh, fun a o h _ => hh a o h, fun a h z => ?_, fr, fun a o h t => ⟨o, hh a o h, t⟩⟩
  cases e : H a with
  | none => exact h e
  | some o =>
    rw [hh a o e] at z
    cases z
/-- a new object, known -/
theorem gro_new {B H : Hp} {p : Addr} {o : HO} (e : Ex B H) (h : H p = none) : Gro B H (upd B p o) (upd H p o) :=
  gro_of (Ex.new (e.back h)) e.both (Ex.new h) fun a u h1 _ h2 => by
    rw [upd_ne (ne_of_none h1 h)]; exact h2
/-- a new object, not known (it may change) -/
theorem gro_mut {B H : Hp} {p : Addr} {o : HO} (e : Ex B H) (h : H p = none) : Gro B H B (upd H p o) :=
  gro_of (Ex.refl B) (e.mut (e.back h)) (Ex.new h) fun _ _ _ _ z => z
/-- an object at F is written -/
theorem gof_set {F : Addr → Prop} {B H : Hp} {p : Addr} {o : HO} (e : Ex B H) (hp : F p) (hb : B p = none) (ho : nT o := by exact trivial) : Gof F B H B (upd H p o) := by
  refine ⟨Ex.refl B, e.mut hb, fun a u h n => ?_, fun a h => alloc_upd h, fun _ _ _ _ z => z, fun a u h t => ?_⟩
  · have : a ≠ p := fun z => n (z ▸ hp)
    rw [upd_ne this]
    exact h
  · by_cases q : a = p
    · exact ⟨o, by rw [q, upd_same], ho⟩
    · exact ⟨u, by rw [upd_ne q]; exact h, t⟩
/-- a local one (new since H0) is written -/
theorem gro_set {F : Addr → Prop} {B0 H0 B H : Hp} {p : Addr} {o : HO} (g : Gof F B0 H0 B H) (h0 : H0 p = none) (hb : B p = none) : Gof F B0 H0 B (upd H p o) := by
  have nep : ∀ a u, H0 a = some u → a ≠ p := fun a u h z => by
    subst z
    rw [h] at h0
    cases h0
  refine ⟨g.bb, g.bh.mut hb, fun a u h n => ?_, fun a h => alloc_upd (g.al a h), g.fr, fun a u h t => ?_⟩
  · rw [upd_ne (nep a u h)]
    exact g.kp a u h n
  · rw [upd_ne (nep a u h)]
    exact g.nt a u h t
/-- a local one becomes known -/
theorem gro_know {F : Addr → Prop} {B0 H0 B H : Hp} {p : Addr} {o : HO} (g : Gof F B0 H0 B H) (h0 : H0 p = none) (hb : B p = none) (hp : H p = some o) : Gof F B0 H0 (upd B p o) H := by
  refine ⟨g.bb.trans (Ex.new hb), fun a u h => ?_, g.kp, g.al, fun a u h t n => ?_, g.nt⟩
  · by_cases e : a = p
    · subst e
      rw [upd_same] at h
      rw [← h]
      exact hp
    · rw [upd_ne e] at h
      exact g.bh a u h
  · rw [upd_ne (ne_of_none h h0)]
    exact g.fr a u h t n
/-- all tuples of H become known -/
def knowT (B H : Hp) : Hp := fun a => match H a with
  | some (.tup xs) => some (.tup xs)
  | _ => B a
theorem knowT_tup {B H : Hp} {a : Addr} {xs : List V} (h : H a = some (.tup xs)) : knowT B H a = some (.tup xs) := by
  unfold knowT
  rw [h]
theorem knowT_not {B H : Hp} {a : Addr} {o : HO} (h : H a = some o) (t : nT o) : knowT B H a = B a := by
  unfold knowT
  rw [h]
  cases o <;> first | rfl | exact t.elim
theorem gro_knowT {B H : Hp} (e : Ex B H) : Gro B H (knowT B H) H := by
  refine gro_of (fun a o h => ?_) (fun a o h => ?_) (Ex.refl H) fun a o h t n => by rw [knowT_not h t]; exact n
  · have h2 := e a o h
    by_cases t : nT o
    · rw [knowT_not h2 t]; exact h
    · cases o <;> first | exact knowT_tup h2 | exact absurd trivial t
  · cases q : H a with
    | none =>
      have : knowT B H a = B a := by
        unfold knowT
        rw [q]
      rw [this] at h
      rw [← q]
      exact e a o h
    | some u =>
      by_cases t : nT u
      · rw [knowT_not q t] at h
        rw [← q]
        exact e a o h
      · cases u <;> first | exact absurd trivial t | skip
        rw [knowT_tup q] at h
        exact h

/-! ### data -/
mutual
inductive D (H : Hp) : V → PyData → Prop
  | non : D H .non .none
  | bl (b : Bool) : D H (.bl b) (.bool b)
  | int (i : Int) : D H (.int i) (.int i)
  | str (x : Str) : D H (.str x) (.str x)
  | lst {a : Addr} {xs : List V} {ds : List PyData} : H a = some (.lst xs) → DA H xs ds → D H (.ref a) (.list ds)
  | tup {a : Addr} {xs : List V} {ds : List PyData} : H a = some (.tup xs) → DA H xs ds → D H (.ref a) (.tuple ds)
inductive DA (H : Hp) : List V → List PyData → Prop
  | nil : DA H [] []
  | cons {v : V} {vs : List V} {d : PyData} {ds : List PyData} : D H v d → DA H vs ds → DA H (v :: vs) (d :: ds)
end
mutual
theorem D.mono {H H' : Hp} (e : Ex H H') : ∀ {v : V} (d : PyData), D H v d → D H' v d
  | _, .none, h => by cases h; exact .non
  | _, .bool _, h => by cases h; exact .bl _
  | _, .int _, h => by cases h; exact .int _
  | _, .str _, h => by cases h; exact .str _
  | _, .list ds, h => by
    cases h with
    | lst h1 h2 => exact .lst (e _ _ h1) (DA.mono e ds h2)
  | _, .tuple ds, h => by
    cases h with
    | tup h1 h2 => exact .tup (e _ _ h1) (DA.mono e ds h2)
  | _, .dict _, h => by cases h
theorem DA.mono {H H' : Hp} (e : Ex H H') : ∀ {vs : List V} (ds : List PyData), DA H vs ds → DA H' vs ds
  | _, [], h => by cases h; exact .nil
  | _, d :: ds, h => by
    cases h with
    | cons h1 h2 => exact .cons (D.mono e d h1) (DA.mono e ds h2)
end
theorem D.up {H H' : Hp} {v : V} {d : PyData} (h : D H v d) (e : Ex H H') : D H' v d := D.mono e d h
theorem DA.up {H H' : Hp} {vs : List V} {ds : List PyData} (h : DA H vs ds) (e : Ex H H') : DA H' vs ds := DA.mono e ds h
mutual
theorem D.dp {K : PySem.W.Frag} {H : Hp} : ∀ {v : V} (d : PyData), D H v d → Dp K H v d
  | _, .none, h => by cases h; exact .non
  | _, .bool _, h => by cases h; exact .bl _
  | _, .int _, h => by cases h; exact .int _
  | _, .str _, h => by cases h; exact .str _
  | _, .list ds, h => by
    cases h with
    | lst h1 h2 => exact .lst (SqL.of h1) (DA.dp ds h2)
  | _, .tuple ds, h => by
    cases h with
    | tup h1 h2 => exact .tup (SqT.of h1) (DA.dp ds h2)
  | _, .dict _, h => by cases h
theorem DA.dp {K : PySem.W.Frag} {H : Hp} : ∀ {vs : List V} (ds : List PyData), DA H vs ds → DpAll K H vs ds
  | _, [], h => by cases h; exact .nil
  | _, d :: ds, h => by
    cases h with
    | cons h1 h2 => exact .cons (D.dp d h1) (DA.dp ds h2)
end
theorem DA.len {H : Hp} : ∀ {vs : List V} {ds : List PyData}, DA H vs ds → vs.length = ds.length
  | _, [], h => by cases h; rfl
  | _, d :: ds, h => by
    cases h with
    | cons h1 h2 => rw [List.length_cons, List.length_cons, h2.len]
theorem DA.get {H : Hp} : ∀ {vs : List V} {ds : List PyData} {i : Nat} {d : PyData}, DA H vs ds → ds[i]? = some d → ∃ v, vs[i]? = some v ∧ D H v d
  | _, [], i, d, _, e => by simp at e
  | _, d0 :: ds, 0, d, h, e => by
    cases h with
    | cons h1 h2 =>
      have : d0 = d := by simpa using e
      subst this
      exact ⟨_, rfl, h1⟩
  | _, d0 :: ds, i + 1, d, h, e => by
    cases h with
    | cons h1 h2 =>
      obtain ⟨v, a, b⟩ := h2.get (i := i) (d := d) (by simpa using e)
      exact ⟨v, by simpa using a, b⟩
theorem DA.app {H : Hp} : ∀ {vs us : List V} {ds es : List PyData}, DA H vs ds → DA H us es → DA H (vs ++ us) (ds ++ es)
  | _, _, [], es, h, k => by cases h; exact k
  | _, _, d :: ds, es, h, k => by
    cases h with
    | cons h1 h2 => exact .cons h1 (h2.app k)
theorem DA.one {H : Hp} {v : V} {d : PyData} (h : D H v d) : DA H [v] [d] := .cons h .nil
theorem DA.ints {H : Hp} : ∀ (ns : List Int), DA H (ns.map V.int) (ns.map PyData.int)
  | [] => .nil
  | n :: ns => .cons (.int n) (DA.ints ns)
theorem DA.ints_inv {H : Hp} : ∀ {vs : List V} {ns : List Int}, DA H vs (ns.map PyData.int) → vs = ns.map V.int
  | _, [], h => by cases h; rfl
  | _, n :: ns, h => by
    cases h with
    | cons h1 h2 =>
      cases h1
      rw [List.map_cons, h2.ints_inv]
theorem D.int_inv {H : Hp} {v : V} {i : Int} (h : D H v (.int i)) : v = .int i := by cases h; rfl
theorem D.bl_inv {H : Hp} {v : V} {b : Bool} (h : D H v (.bool b)) : v = .bl b := by cases h; rfl
theorem D.non_inv {H : Hp} {v : V} (h : D H v .none) : v = .non := by cases h; rfl
theorem D.str_inv {H : Hp} {v : V} {x : Str} (h : D H v (.str x)) : v = .str x := by cases h; rfl
theorem D.lst_inv {H : Hp} {v : V} {ds : List PyData} (h : D H v (.list ds)) : ∃ a xs, v = .ref a ∧ H a = some (.lst xs) ∧ DA H xs ds := by
  cases h with
  | lst h1 h2 => exact ⟨_, _, rfl, h1, h2⟩
theorem D.tup_inv {H : Hp} {v : V} {ds : List PyData} (h : D H v (.tuple ds)) : ∃ a xs, v = .ref a ∧ H a = some (.tup xs) ∧ DA H xs ds := by
  cases h with
  | tup h1 h2 => exact ⟨_, _, rfl, h1, h2⟩
theorem DA.two_inv {H : Hp} {vs : List V} {d1 d2 : PyData} (h : DA H vs [d1, d2]) : ∃ x y, vs = [x, y] ∧ D H x d1 ∧ D H y d2 := by
  cases h with
  | cons h1 h2 =>
    cases h2 with
    | cons h2 h3 => cases h3; exact ⟨_, _, rfl, h1, h2⟩
theorem DA.three_inv {H : Hp} {vs : List V} {d1 d2 d3 : PyData} (h : DA H vs [d1, d2, d3]) : ∃ x y z, vs = [x, y, z] ∧ D H x d1 ∧ D H y d2 ∧ D H z d3 := by
  cases h with
  | cons h1 h2 =>
    obtain ⟨y, z, rfl, a, b⟩ := h2.two_inv
    exact ⟨_, y, z, rfl, h1, a, b⟩
theorem DA.two {H : Hp} {x y : V} {d1 d2 : PyData} (h1 : D H x d1) (h2 : D H y d2) : DA H [x, y] [d1, d2] := .cons h1 (.one h2)
theorem DA.three {H : Hp} {x y z : V} {d1 d2 d3 : PyData} (h1 : D H x d1) (h2 : D H y d2) (h3 : D H z d3) : DA H [x, y, z] [d1, d2, d3] := .cons h1 (.two h2 h3)

/-! ### sizes -/
theorem szl {n : Nat} (h : n ≤ 100000) : n ≤ sizeLine := Nat.le_trans h (by decide)
theorem slt {n : Nat} (h : n ≤ 100000) : n < sizeLine := Nat.lt_of_le_of_lt h (by decide)

/-! ### rules with the written part named -/
section
variable {X : Cx} {K : PySem.W.Frag}
theorem k_fld {e : Expr} {f : Str} {pos : Pos} {ta : TE} (ha : PE X e ta) (hb : attributeBase e f X.env (eval e X.env) = eval e X.env := by rfl) (hK : X.K = K := by rfl) : PE X (.Attribute e f pos) (tFld K ta f) := by subst hK; exact pe_fld ha hb
theorem k_sfld {o value : Expr} {f : Str} {pos pos' : Pos} {ta tv : TE} (ha : PE X o ta) (hv : PE X value tv) (hs : swapsWith value (some (.Attribute o f pos')) pos.line X.env = pure false) (hK : X.K = K := by rfl) :
    PS X (.Assign [.Attribute o f pos'] value pos) (sFld K ta tv f) := by subst hK; exact ps_fld ha hv hs
theorem k_ixT (hK : X.K = K := by rfl) : IxR X (rIxT K) := by subst hK; exact ix_tup
theorem k_ixL (hK : X.K = K := by rfl) : IxR X (rIxL K) := by subst hK; exact ix_list
theorem k_slT (hK : X.K = K := by rfl) : SlR X (rSlT K) := by subst hK; exact sl_tup
theorem k_bm {o e : Expr} {es : List Expr} {to : TE} {t : TA} {name : Str} {apos cpos : Pos} {T id : String} {r : V → List V → Hp → VK → Prop} (pa : PlainAttrs T) (sl : Slot T name id) (ty : typeOf (.builtin id) = pure (.type "method_descriptor")) (hm : MtR X id r) (ho : PE X o to) (ha : PA X (e :: es) t)
    (q1 : attributeBase o name X.env (eval o X.env) = eval o X.env := by rfl)
    (q2 : (((backTo cpos (starEach (e :: es) X.env)).all fun x => !x.1) && ((backToKw cpos (keywordEach [] X.env)).all fun x => x.1.isSome) && decide (((e :: es).length + ([] : List Keyword).length + if ([] : List Keyword).isEmpty = true then 0 else 1) < 30)) = true := by rfl)
    (q3 : (apos.endLine == cpos.line) = true := by rfl) (q4 : starEach (e :: es) X.env = (false, eval e X.env) :: starEach es X.env := by rfl) (q5 : ((backTo cpos (starEach es X.env)).any fun x => x.1) = false := by rfl) (hK : X.K = K := by rfl) :
    PE X (.Call (.Attribute o name apos) (e :: es) [] cpos) (tBM K T r to t) := by subst hK; exact pe_bm pa sl ty hm ho ha q1 q2 q3 q4 q5
theorem k_bm0 {o : Expr} {to : TE} {name : Str} {apos cpos : Pos} {T id : String} {r : V → List V → Hp → VK → Prop} (pa : PlainAttrs T) (sl : Slot T name id) (ty : typeOf (.builtin id) = pure (.type "method_descriptor")) (hm : MtR X id r) (ho : PE X o to)
    (q1 : attributeBase o name X.env (eval o X.env) = eval o X.env := by rfl) (q3 : (apos.endLine == cpos.line) = true := by rfl) (hK : X.K = K := by rfl) :
    PE X (.Call (.Attribute o name apos) [] [] cpos) (tBM0 K T r to) := by subst hK; exact pe_bm0 pa sl ty hm ho q1 q3
def rLen (K : PySem.W.Frag) : List V → Hp → VK → Prop := fun xs H Q => ∃ p ys, xs = [.ref p] ∧ (SqL K H p ys ∨ SqT K H p ys) ∧ Q (.int ys.length) H
theorem k_len (hK : X.K = K := by rfl) : CallR X (.builtin "len") (rLen K) := by subst hK; exact call_len_seq
theorem k_sum (hc : X.calm = true) (hK : X.K = K := by rfl) : CallR X (.builtin "sum") (rSum K) := by subst hK; exact cr_sum hc
theorem k_all (hc : X.calm = true) (hK : X.K = K := by rfl) : CallR X (.builtin "all") (rAll K) := by subst hK; exact cr_all hc
theorem k_min (hc : X.calm = true) (hK : X.K = K := by rfl) : CallR X (.builtin "min") (rMin K) := by subst hK; exact cr_min hc
theorem k_max (hc : X.calm = true) (hK : X.K = K := by rfl) : CallR X (.builtin "max") (rMax K) := by subst hK; exact cr_max hc
def rTuple (K : PySem.W.Frag) : List V → Hp → VK → Prop := fun xs H Q => ∃ p ys, xs = [.ref p] ∧ ((SqL K H p ys ∧ ∀ l, H l = none → Q (.ref l) (upd H l (.tup ys))) ∨ (SqT K H p ys ∧ Q (.ref p) H))
theorem k_tuple (hK : X.K = K := by rfl) : CallR X (.type "tuple") (rTuple K) := by subst hK; exact call_tuple_of
def rList (K : PySem.W.Frag) : List V → Hp → VK → Prop := fun xs H Q => ∃ p ys, xs = [.ref p] ∧ (SqL K H p ys ∨ SqT K H p ys) ∧ ∀ l, H l = none → Q (.ref l) (upd H l (.lst ys))
theorem k_list (hK : X.K = K := by rfl) : CallR X (.type "list") (rList K) := by subst hK; exact call_list_of
theorem k_in (hK : X.K = K := by rfl) : OpR X (compareOp .In) (rIn K false) := by subst hK; exact op_in_seq
theorem k_notIn (hK : X.K = K := by rfl) : OpR X (compareOp .NotIn) (rIn K true) := by subst hK; exact op_notIn_seq
theorem k_eqD (hu : X.A.units + 64 < cLine) (hK : X.K = K := by rfl) : OpR X (compareOp .Eq) (rEqD K) := by subst hK; exact op_eqD hu
theorem k_neD (hu : X.A.units + 64 < cLine) (hK : X.K = K := by rfl) : OpR X (compareOp .NotEq) (rNeD K) := by subst hK; exact op_neD hu
theorem k_catT (hK : X.K = K := by rfl) : OpR X (binaryOp .Add) (rCatT K) := by subst hK; exact op_catT
theorem k_gtup {pos : Pos} {es : List Expr} {k : Nat} {t : TGs} {n : Nat} (hc : X.calm = true) (h : PGs X es t) (q1 : (assignEach es X.env).length = n := by rfl) (q2 : (assignEach es X.env).findIdx? (fun x => x.1) = none := by rfl) (hK : X.K = K := by rfl) :
    PG X (.Tuple es k pos) (gTup K n t) := by subst hK; exact pg_tup hc h q1 q2
theorem k_ilist {tg l : Expr} {tl : TE} (h : PE X l tl) (hK : X.K = K := by rfl) : PI X tg l (iList K tl) := by subst hK; exact pi_list h
theorem k_itup {tg l : Expr} {tl : TE} (h : PE X l tl) (hK : X.K = K := by rfl) : PI X tg l (iTup K tl) := by subst hK; exact pi_tup h
theorem k_enumL {e : Expr} {ta : TA} {p pos tpos : Pos} {elts : List Expr} {kk : Nat} (hg : Gl X "enumerate") (hm : X.mg "enumerate" = none) (ha : PA X [e] ta) (q : starEach [e] X.env = [(false, eval e X.env)] := by rfl) (hK : X.K = K := by rfl) :
    PI X (.Tuple elts kk tpos) (.Call (.Name "enumerate" p) [e] [] pos) (iEnum K ta) := by subst hK; exact pi_enum hg hm ha q
theorem k_index (hK : X.K = K := by rfl) : MtR X "list.index" (rIndex K) := by subst hK; exact mt_index
theorem k_sortI (hK : X.K = K := by rfl) : CallR X (.builtin "sorted") (rSorted K) := by subst hK; exact cr_sorted
def rDictK (K : PySem.W.Frag) : List V → Hp → VK → Prop := fun xs H Q => ∃ (a : Addr) (ps : List Addr) (kvs : List (Key × V)), xs = [.ref a] ∧ SqL K H a (ps.map V.ref) ∧ Paired (fun p kv => SqT K H p [kV kv.1, kv.2]) ps kvs ∧ ∀ p, H p = none → Q (.ref p) (upd H p (.dK (mergeK [] kvs)))
theorem k_dictK (hc : X.calm = true) (hK : X.K = K := by rfl) : CallR X (.type "dict") (rDictK K) := by subst hK; exact call_dictP hc
end
theorem Room.units0 {k : Nat} {A : Around} (hr : Room k A) : A.units + 64 < cLine := by have := hr.un; omega

/-! ### the defs of the text -/
/-- what the builtins' names are -/
structure TB (mg : Str → Option Value) : Prop where
  z_len : mg "len" = none
  z_sum : mg "sum" = none
  z_min : mg "min" = none
  z_max : mg "max" = none
  z_all : mg "all" = none
  z_sorted : mg "sorted" = none
  z_range : mg "range" = none
  z_enumerate : mg "enumerate" = none
  z_abs : mg "abs" = none
  z_int : mg "int" = none
  z_dict : mg "dict" = none
  z_tuple : mg "tuple" = none
  z_list : mg "list" = none
  z_set : mg "set" = none
/-- a def as the top left it -/
structure Raw (K : PySem.W.Frag) (mg : Str → Option Value) (x qual : Str) (st : Stmt) (ps : List Str) : Prop where
  ex : ∃ f fd, Fun K x qual st f fd ∧ mg x = some (.ref f) ∧ Binds K fd ps []
/-- a method as the top left it -/
structure RawM (K : PySem.W.Frag) (C : Addr) (x qual : Str) (st : Stmt) (ps : List Str) : Prop where
  ex : ∃ f fd, Fun K x qual st f fd ∧ Meth K C x f ∧ Binds K fd ps []
structure RawI (K : PySem.W.Frag) (mg : Str → Option Value) (C : Addr) (cn qual : Str) (st : Stmt) (ps : List Str) : Prop where
  ex : ∃ f fd, Fun K "__init__" qual st f fd ∧ Mk K C f ∧ mg cn = some (.ref C) ∧ Binds K fd ps []
section
variable (P : Program) (w : World) (K : PySem.W.Frag) (mg : Str → Option Value) (base : Heap)
structure DefT (x : Str) (k : Nat) (ps : List Str) (sp : Sp) : Prop where
  ex : ∃ f fd, FnOk P w K mg base CX0 k f fd ps sp ∧ mg x = some (.ref f) ∧ PySem.W.keepIn K (.ref f) = true ∧ Binds K fd ps []
structure MethT (C : Addr) (x : Str) (k : Nat) (ps : List Str) (sp : Sp) : Prop where
  cl : Cls K C
  ex : ∃ f fd, FnOk P w K mg base CX0 k f fd ps sp ∧ Meth K C x f ∧ Binds K fd ps []
structure MakeT (C : Addr) (cn : Str) (k : Nat) (ps : List Str) (sp : Sp) : Prop where
  ex : ∃ f fd, FnOk P w K mg base CX0 k f fd ps sp ∧ Mk K C f ∧ mg cn = some (.ref C) ∧ Binds K fd ps []
end
section
variable {P : Program} {w : World} {K : PySem.W.Frag} {mg : Str → Option Value} {base : Heap}
theorem Raw.ok {x qual : Str} {st : Stmt} {ps : List Str} {k : Nat} {sp : Sp} (R : Raw K mg x qual st ps) (h : ∀ f fd, Fun K x qual st f fd → FnOk P w K mg base CX0 k f fd ps sp) : DefT P w K mg base x k ps sp :=
  let ⟨f, fd, F, g, b⟩ := R.ex; ⟨f, fd, h f fd F, g, F.kp, b⟩
theorem RawM.ok {C : Addr} {x qual : Str} {st : Stmt} {ps : List Str} {k : Nat} {sp : Sp} (R : RawM K C x qual st ps) (c : Cls K C) (h : ∀ f fd, Fun K x qual st f fd → FnOk P w K mg base CX0 k f fd ps sp) : MethT P w K mg base C x k ps sp :=
  let ⟨f, fd, F, g, b⟩ := R.ex; ⟨c, f, fd, h f fd F, g, b⟩
theorem RawI.ok {C : Addr} {cn qual : Str} {st : Stmt} {ps : List Str} {k : Nat} {sp : Sp} (R : RawI K mg C cn qual st ps) (h : ∀ f fd, Fun K "__init__" qual st f fd → FnOk P w K mg base CX0 k f fd ps sp) : MakeT P w K mg base C cn k ps sp :=
  let ⟨f, fd, F, g, m, b⟩ := R.ex; ⟨f, fd, h f fd F, g, m, b⟩
end
/-- the body stands in this program, this world .. -/
structure Is (X : Cx) (P : Program) (w : World) (K : PySem.W.Frag) (mg : Str → Option Value) (base : Heap) : Prop where
  p : X.prog = P
  w : X.w = w
  k : X.K = K
  m : X.mg = mg
  b : X.base = base
def tCal (sp : Sp) (t : TA) : TE := fun σ H Q => t σ H fun vs H1 => sp vs H1 Q E0
def tMet (C : Addr) (m : Str) (sp : Sp) (ta : TE) (t : TA) : TE := fun σ H Q => ta σ H fun x H1 => ∃ a dx fs, x = .ref a ∧ H1 a = some (.ins C dx fs) ∧ fs.lookup m = none ∧ t σ H1 fun vs H2 => sp (x :: vs) H2 Q E0
def tMak (C : Addr) (sp : Sp) (t : TA) : TE := fun σ H Q => t σ H fun vs H1 => ∀ x dx, H1 x = none → H1 dx = none → dx ≠ x → sp (.ref x :: vs) (upd (upd H1 dx (.own x)) x (.ins C dx [])) (fun v H2 => v = .non ∧ Q (.ref x) H2) E0
theorem app_nil_fun {t : TA} {σ : St} {H : Hp} {G : List V → Hp → Prop} (h : t σ H fun vs H1 => G vs H1) : t σ H fun vs H1 => G (vs ++ []) H1 := by
  have : (fun (vs : List V) H1 => G (vs ++ []) H1) = fun vs H1 => G vs H1 := by funext vs H1; rw [List.append_nil]
  rw [this]; exact h
section
variable {X : Cx} {P : Program} {w : World} {K : PySem.W.Frag} {mg : Str → Option Value} {base : Heap} {k m : Nat} {ps : List Str} {sp : Sp}
theorem k_call {x : Str} {p pos : Pos} {e : Expr} {es : List Expr} {t : TA} (T : DefT P w K mg base x k ps sp) (hr : Room m X.A) (ha : PA X (e :: es) t) (hX : Is X P w K mg base := by exact ⟨rfl, rfl, rfl, rfl, rfl⟩) (hk : k ≤ m := by decide) (hg : Gl X x := by rfl)
    (q1 : (x == ("__debug__" : Str)) = false := by decide) (q2 : starEach (e :: es) X.env = (false, eval e X.env) :: starEach es X.env := by rfl) (q3 : (backTo pos (starEach es X.env)).any (fun x => x.1) = false := by rfl) :
    PE X (.Call (.Name x p) (e :: es) [] pos) (tCal sp t) := by
  obtain ⟨f, fd, F, g, kp, b⟩ := T.ex
  obtain ⟨rfl, rfl, rfl, rfl, rfl⟩ := hX
  have h := pe_call (p := p) (pos := pos) F (hr.mono hk) hg g kp b .nil pass0 ha q1 q2 q3
  exact ⟨fun pins s σ H Q I q => h.run pins s σ H Q I (app_nil_fun (G := fun vs H1 => sp vs H1 Q E0) q)⟩
theorem k_meth {C : Addr} {x : Str} {pos apos : Pos} {e o : Expr} {es : List Expr} {ta : TE} {t : TA} {pl : Sem Bool} (T : MethT P w K mg base C x k ps sp) (hr : Room m X.A) (ho : PE X o ta) (ha : PA X (e :: es) t) (hX : Is X P w K mg base := by exact ⟨rfl, rfl, rfl, rfl, rfl⟩) (hk : k ≤ m := by decide)
    (q2 : starEach (e :: es) X.env = (false, eval e X.env) :: starEach es X.env := by rfl) (q3 : (backTo pos (starEach es X.env)).any (fun x => x.1) = false := by rfl)
    (q4 : eval (.Call (.Attribute o x apos) (e :: es) [] pos) X.env = (do
      let ov ← eval o X.env
      standAt apos.atName
      let (f, first) ← holding [ov] (getMethod ov x pl)
      callWith pos f first (backTo pos (starEach (e :: es) X.env)) (backToKw pos (keywordEach [] X.env))) := by rfl) :
    PE X (.Call (.Attribute o x apos) (e :: es) [] pos) (tMet C x sp ta t) := by
  obtain ⟨c, f, fd, F, g, b⟩ := T
  obtain ⟨rfl, rfl, rfl, rfl, rfl⟩ := hX
  have h := pe_meth (pos := pos) (apos := apos) ho c g F (hr.mono hk) b .nil pass0 ha q2 q3 q4
  refine ⟨fun pins s σ H Q I q => h.run pins s σ H Q I ?_⟩
  have : tMeth C x sp [] E0 ta t σ H Q = tMet C x sp ta t σ H Q := by
    unfold tMeth tMet
    simp only [List.append_nil]
  rw [this]; exact q
theorem k_meth0 {C : Addr} {x : Str} {pos apos : Pos} {o : Expr} {ta : TE} {pl : Sem Bool} (T : MethT P w K mg base C x k ps sp) (hr : Room m X.A) (ho : PE X o ta) (hX : Is X P w K mg base := by exact ⟨rfl, rfl, rfl, rfl, rfl⟩) (hk : k ≤ m := by decide)
    (q4 : eval (.Call (.Attribute o x apos) [] [] pos) X.env = (do
      let ov ← eval o X.env
      standAt apos.atName
      let (f, first) ← holding [ov] (getMethod ov x pl)
      callWith pos f first (backTo pos (starEach [] X.env)) (backToKw pos (keywordEach [] X.env))) := by rfl) :
    PE X (.Call (.Attribute o x apos) [] [] pos) (tMet C x sp ta tNil) := by
  obtain ⟨c, f, fd, F, g, b⟩ := T
  obtain ⟨rfl, rfl, rfl, rfl, rfl⟩ := hX
  have h := pe_meth0 (pos := pos) (apos := apos) ho c g F (hr.mono hk) b .nil pass0 q4
  refine ⟨fun pins s σ H Q I q => h.run pins s σ H Q I ?_⟩
  have : tMeth C x sp [] E0 ta tNil σ H Q = tMet C x sp ta tNil σ H Q := by
    unfold tMeth tMet
    simp only [List.append_nil]
  rw [this]; exact q
theorem k_make {C : Addr} {x : Str} {p pos : Pos} {e : Expr} {es : List Expr} {t : TA} (T : MakeT P w K mg base C x k ps sp) (hr : Room m X.A) (ha : PA X (e :: es) t) (hX : Is X P w K mg base := by exact ⟨rfl, rfl, rfl, rfl, rfl⟩) (hk : k + 1 ≤ m := by decide) (hg : Gl X x := by rfl)
    (q1 : (x == ("__debug__" : Str)) = false := by decide) (q2 : starEach (e :: es) X.env = (false, eval e X.env) :: starEach es X.env := by rfl) (q3 : (backTo pos (starEach es X.env)).any (fun x => x.1) = false := by rfl) :
    PE X (.Call (.Name x p) (e :: es) [] pos) (tMak C sp t) := by
  obtain ⟨f, fd, F, g, mm, b⟩ := T.ex
  obtain ⟨rfl, rfl, rfl, rfl, rfl⟩ := hX
  have h := pe_make (p := p) (pos := pos) g F (hr.mono hk) hg mm b .nil pass0 ha q1 q2 q3
  refine ⟨fun pins s σ H Q I q => h.run pins s σ H Q I ?_⟩
  have : tMake C sp [] E0 t σ H Q = tMak C sp t σ H Q := by
    unfold tMake tMak
    simp only [List.append_nil]
  rw [this]; exact q
end
end KPR
set_option Elab.async false
set_option linter.all false
set_option maxRecDepth 100000
/-! KB: readings answered over (B, H): B what is known and stays, H the heap. -/
namespace KPR
open PySem L2

def dN (l : List Nat) : List PyData := l.map fun (n : Nat) => .int (n : Int)
def vN (l : List Nat) : List V := l.map fun (n : Nat) => .int (n : Int)
def dL (l : List Nat) : PyData := .list (dN l)
def dPair (p : Nat × Nat) : PyData := .tuple [.int (p.1 : Int), .int (p.2 : Int)]
/-- a tie: two places, a weight -/
abbrev Tie := Nat × Nat × Int
def dTie (t : Tie) : PyData := .tuple [.int (t.1 : Int), .int (t.2.1 : Int), .int t.2.2]
def dWeb (n : Nat) (ts : List Tie) : PyData := .tuple [.int (n : Int), .tuple (ts.map dTie)]
def dPairs (c : List (Nat × Nat)) : PyData := .list (c.map dPair)
theorem DA.nats_inv {H : Hp} : ∀ {vs : List V} {l : List Nat}, DA H vs (dN l) → vs = vN l
  | _, [], h => by cases h; rfl
  | _, n :: l, h => by
    cases h with
    | cons h1 h2 =>
      cases h1
      have := DA.nats_inv (l := l) h2
      subst this
      rfl
theorem DA.nats {H : Hp} : ∀ (l : List Nat), DA H (vN l) (dN l)
  | [] => .nil
  | n :: l => .cons (.int _) (DA.nats l)
theorem vN_flat (l : List Nat) : (vN l).all flatV = true := by
  unfold vN
  rw [List.all_map]
  exact List.all_eq_true.mpr fun _ _ => rfl
theorem inV_nat (x : Nat) : ∀ l : List Nat, inV (.int (x : Int)) (vN l) = decide (x ∈ l)
  | [] => rfl
  | n :: l => by
    have ih := inV_nat x l
    show (eqV (.int (n : Int)) (.int (x : Int)) || inV (.int (x : Int)) (vN l)) = decide (x ∈ n :: l)
    rw [ih]
    show (((n : Int) == (x : Int)) || decide (x ∈ l)) = decide (x ∈ n :: l)
    by_cases h : x = n
    · subst h; simp
    · have h1 : ((n : Int) == (x : Int)) = false := beq_eq_false_iff_ne.mpr fun z => h (by omega)
      rw [h1, Bool.false_or]
      simp [h]

/-- a new object -/
def NewR (o : HO) (H : Hp) (Q : VK) : Prop := ∀ p, H p = none → Q (.ref p) (upd H p o)
def TupR (xs : List V) (H : Hp) (Q : VK) : Prop := xs.length ≤ sizeLine ∧ ∀ p, H p = none → Q (.ref p) (upd H p (.tup xs))
def LstR (xs : List V) (H : Hp) (Q : VK) : Prop := xs.length ≤ sizeLine ∧ ∀ p, H p = none → Q (.ref p) (upd H p (.lst xs))
section
variable {K : PySem.W.Frag} {B H : Hp} {σ : St} {x y v : V} {Q : VK} {ds : List PyData} {d : PyData}
theorem r_newM {o : HO} (e : Ex B H) (k : ∀ p H', H p = none → Gro B H B H' → H' = upd H p o → B p = none → Q (.ref p) H') : NewR o H Q := fun p hp => k p _ hp (gro_mut e hp) rfl (e.back hp)

/-! ### subscripts, displays -/
theorem r_ixT {i : Nat} (e : Ex B H) (h : D B x (.tuple ds)) (hi : ds[i]? = some d) (k : ∀ v, D B v d → Q v H) : rIxT K x (.int (i : Int)) H Q := by
  obtain ⟨a, xs, rfl, h1, h2⟩ := h.tup_inv
  obtain ⟨v, h3, h4⟩ := h2.get hi
  exact ⟨a, xs, _, v, rfl, rfl, SqT.of (e _ _ h1), atI_nat h3, k v h4⟩
theorem r_ixL {i : Nat} (e : Ex B H) (h : D B x (.list ds)) (hi : ds[i]? = some d) (k : ∀ v, D B v d → Q v H) : rIxL K x (.int (i : Int)) H Q := by
  obtain ⟨a, xs, rfl, h1, h2⟩ := h.lst_inv
  obtain ⟨v, h3, h4⟩ := h2.get hi
  exact ⟨a, xs, _, v, rfl, rfl, SqL.of (e _ _ h1), atI_nat h3, k v h4⟩
/-- of a list as it stands -/
theorem r_ixLm {a : Addr} {xs : List V} {i : Nat} (h : H a = some (.lst xs)) (hi : xs[i]? = some v) (k : Q v H) : rIxL K (.ref a) (.int (i : Int)) H Q := ⟨a, xs, _, v, rfl, rfl, SqL.of h, atI_nat hi, k⟩
theorem r_tup {xs : List V} (e : Ex B H) (h : DA B xs ds) (hl : xs.length ≤ 100000) (k : ∀ p B' H', Gro B H B' H' → B' p = some (.tup xs) → D B' (.ref p) (.tuple ds) → Q (.ref p) H') : TupR xs H Q :=
  ⟨szl hl, fun p hp => k p _ _ (gro_new e hp) upd_same (.tup upd_same (h.up (Ex.new (e.back hp))))⟩
theorem r_lst {xs : List V} (e : Ex B H) (h : DA B xs ds) (hl : xs.length ≤ 100000) (k : ∀ p B' H', Gro B H B' H' → B' p = some (.lst xs) → D B' (.ref p) (.list ds) → Q (.ref p) H') : LstR xs H Q :=
  ⟨szl hl, fun p hp => k p _ _ (gro_new e hp) upd_same (.lst upd_same (h.up (Ex.new (e.back hp))))⟩
/-- a list that will be written -/
theorem r_lstM {xs : List V} (e : Ex B H) (hl : xs.length ≤ 100000) (k : ∀ p H', H p = none → Gro B H B H' → H' p = some (.lst xs) → B p = none → Q (.ref p) H') : LstR xs H Q :=
  ⟨szl hl, fun p hp => k p _ hp (gro_mut e hp) upd_same (e.back hp)⟩
theorem r_tup2 {d1 d2 : PyData} (e : Ex B H) (h1 : D B x d1) (h2 : D B y d2) (k : ∀ p B' H', Gro B H B' H' → B' p = some (.tup [x, y]) → D B' (.ref p) (.tuple [d1, d2]) → Q (.ref p) H') : TupR [x, y] H Q :=
  r_tup e (.two h1 h2) (by show 2 ≤ 100000; decide) k
theorem r_tup3 {d1 d2 d3 : PyData} (e : Ex B H) (h1 : D B x d1) (h2 : D B y d2) (h3 : D B v d3) (k : ∀ p B' H', Gro B H B' H' → B' p = some (.tup [x, y, v]) → D B' (.ref p) (.tuple [d1, d2, d3]) → Q (.ref p) H') : TupR [x, y, v] H Q :=
  r_tup e (.three h1 h2 h3) (by show 3 ≤ 100000; decide) k
theorem r_tup1 {d1 : PyData} (e : Ex B H) (h1 : D B x d1) (k : ∀ p B' H', Gro B H B' H' → B' p = some (.tup [x]) → D B' (.ref p) (.tuple [d1]) → Q (.ref p) H') : TupR [x] H Q :=
  r_tup e (.one h1) (by show 1 ≤ 100000; decide) k
theorem r_lst1 {d1 : PyData} (e : Ex B H) (h1 : D B x d1) (k : ∀ p B' H', Gro B H B' H' → B' p = some (.lst [x]) → D B' (.ref p) (.list [d1]) → Q (.ref p) H') : LstR [x] H Q :=
  r_lst e (.one h1) (by show 1 ≤ 100000; decide) k
/-- a, b = a tuple; a, b, c = .. -/
theorem g_tup2 {i j : Nat} {d1 d2 : PyData} {R : St → Hp → Prop} (e : Ex B H) (h : D B x (.tuple [d1, d2])) (k : ∀ y z, D B y d1 → D B z d2 → R ((σ.set i (some y)).set j (some z)) H) : gTup K 2 (gCons (gName i) (gCons (gName j) gNil)) x σ H R := by
  obtain ⟨a, xs, rfl, h1, h2⟩ := h.tup_inv
  obtain ⟨y, z, rfl, a1, a2⟩ := h2.two_inv
  exact ⟨a, _, rfl, SqT.of (e _ _ h1), rfl, y, [z], rfl, z, [], rfl, rfl, k y z a1 a2⟩
theorem g_tup3 {i j l : Nat} {d1 d2 d3 : PyData} {R : St → Hp → Prop} (e : Ex B H) (h : D B x (.tuple [d1, d2, d3])) (k : ∀ y z u, D B y d1 → D B z d2 → D B u d3 → R (((σ.set i (some y)).set j (some z)).set l (some u)) H) :
    gTup K 3 (gCons (gName i) (gCons (gName j) (gCons (gName l) gNil))) x σ H R := by
  obtain ⟨a, xs, rfl, h1, h2⟩ := h.tup_inv
  obtain ⟨y, z, u, rfl, a1, a2, a3⟩ := h2.three_inv
  exact ⟨a, _, rfl, SqT.of (e _ _ h1), rfl, y, [z, u], rfl, z, [u], rfl, u, [], rfl, rfl, k y z u a1 a2 a3⟩

/-! ### built-ins -/
theorem r_sum {ns : List Int} (e : Ex B H) (h : D B x (.list (ns.map .int))) (k : Q (.int ns.sum) H) : rSum K [x] H Q := by
  obtain ⟨a, xs, rfl, h1, h2⟩ := h.lst_inv
  have := h2.ints_inv
  subst this
  exact ⟨a, ns, rfl, SqL.of (e _ _ h1), k⟩
theorem DA.bools_inv {H : Hp} : ∀ {vs : List V} {bs : List Bool}, DA H vs (bs.map PyData.bool) → vs = bs.map V.bl
  | _, [], h => by cases h; rfl
  | _, n :: ns, h => by
    cases h with
    | cons h1 h2 =>
      cases h1
      rw [List.map_cons, h2.bools_inv]
theorem r_all {bs : List Bool} (e : Ex B H) (h : D B x (.list (bs.map .bool))) (k : Q (.bl (bs.all id)) H) : rAll K [x] H Q := by
  obtain ⟨a, xs, rfl, h1, h2⟩ := h.lst_inv
  have := h2.bools_inv
  subst this
  exact ⟨a, bs, rfl, SqL.of (e _ _ h1), k⟩
theorem r_min {ns : List Int} (e : Ex B H) (h : D B x (.list (ns.map .int))) (h0 : 0 < ns.length) (k : ∀ m, m ∈ ns → (∀ y, y ∈ ns → m ≤ y) → Q (.int m) H) : rMin K [x] H Q := by
  obtain ⟨a, xs, rfl, h1, h2⟩ := h.lst_inv
  have := h2.ints_inv
  subst this
  exact ⟨a, ns, rfl, SqL.of (e _ _ h1), h0, k⟩
theorem r_max {ns : List Int} (e : Ex B H) (h : D B x (.list (ns.map .int))) (h0 : 0 < ns.length) (k : ∀ m, m ∈ ns → (∀ y, y ∈ ns → y ≤ m) → Q (.int m) H) : rMax K [x] H Q := by
  obtain ⟨a, xs, rfl, h1, h2⟩ := h.lst_inv
  have := h2.ints_inv
  subst this
  exact ⟨a, ns, rfl, SqL.of (e _ _ h1), h0, k⟩
theorem r_lenL (e : Ex B H) (h : D B x (.list ds)) (k : Q (.int (ds.length : Int)) H) : rLen K [x] H Q := by
  obtain ⟨a, xs, rfl, h1, h2⟩ := h.lst_inv
  rw [← h2.len] at k
  exact ⟨a, xs, rfl, .inl (SqL.of (e _ _ h1)), k⟩
theorem r_lenT (e : Ex B H) (h : D B x (.tuple ds)) (k : Q (.int (ds.length : Int)) H) : rLen K [x] H Q := by
  obtain ⟨a, xs, rfl, h1, h2⟩ := h.tup_inv
  rw [← h2.len] at k
  exact ⟨a, xs, rfl, .inr (SqT.of (e _ _ h1)), k⟩
theorem r_tupleL (e : Ex B H) (h : D B x (.list ds)) (k : ∀ p B' H', Gro B H B' H' → D B' (.ref p) (.tuple ds) → Q (.ref p) H') : rTuple K [x] H Q := by
  obtain ⟨a, xs, rfl, h1, h2⟩ := h.lst_inv
  exact ⟨a, xs, rfl, .inl ⟨SqL.of (e _ _ h1), fun l hl => k l _ _ (gro_new e hl) (.tup upd_same (h2.up (Ex.new (e.back hl))))⟩⟩
theorem r_tupleT (e : Ex B H) (h : D B x (.tuple ds)) (k : Q x H) : rTuple K [x] H Q := by
  obtain ⟨a, xs, rfl, h1, h2⟩ := h.tup_inv
  exact ⟨a, xs, rfl, .inr ⟨SqT.of (e _ _ h1), k⟩⟩
theorem r_listL (e : Ex B H) (h : D B x (.list ds)) (k : ∀ p B' H', Gro B H B' H' → D B' (.ref p) (.list ds) → Q (.ref p) H') : rList K [x] H Q := by
  obtain ⟨a, xs, rfl, h1, h2⟩ := h.lst_inv
  exact ⟨a, xs, rfl, .inl (SqL.of (e _ _ h1)), fun l hl => k l _ _ (gro_new e hl) (.lst upd_same (h2.up (Ex.new (e.back hl))))⟩
theorem r_listT (e : Ex B H) (h : D B x (.tuple ds)) (k : ∀ p B' H', Gro B H B' H' → D B' (.ref p) (.list ds) → Q (.ref p) H') : rList K [x] H Q := by
  obtain ⟨a, xs, rfl, h1, h2⟩ := h.tup_inv
  exact ⟨a, xs, rfl, .inr (SqT.of (e _ _ h1)), fun l hl => k l _ _ (gro_new e hl) (.lst upd_same (h2.up (Ex.new (e.back hl))))⟩
theorem r_in {n : Nat} {l : List Nat} (e : Ex B H) (h : D B y (dL l)) (k : Q (.bl (decide (n ∈ l))) H) : rIn K false (.int (n : Int)) y H Q := by
  obtain ⟨a, xs, rfl, h1, h2⟩ := h.lst_inv
  have := h2.nats_inv
  subst this
  refine ⟨a, _, rfl, .inl (SqL.of (e _ _ h1)), rfl, vN_flat l, ?_⟩
  rw [inV_nat]
  exact k
theorem r_notIn {n : Nat} {l : List Nat} (e : Ex B H) (h : D B y (dL l)) (k : Q (.bl (!decide (n ∈ l))) H) : rIn K true (.int (n : Int)) y H Q := by
  obtain ⟨a, xs, rfl, h1, h2⟩ := h.lst_inv
  have := h2.nats_inv
  subst this
  refine ⟨a, _, rfl, .inl (SqL.of (e _ _ h1)), rfl, vN_flat l, ?_⟩
  rw [inV_nat]
  exact k
/-- == and != of data -/
theorem r_eqD {d1 d2 : PyData} (e : Ex B H) (h1 : D B x d1) (h2 : D B y d2) (s1 : SeqAt.shaped d1 = true) (s2 : SeqAt.shaped d2 = true) (k : Q (.bl (PyData.eqv d1 d2)) H) : rEqD K x y H Q := ⟨d1, d2, (h1.up e).dp, (h2.up e).dp, s1, s2, k⟩
theorem r_neD {d1 d2 : PyData} (e : Ex B H) (h1 : D B x d1) (h2 : D B y d2) (s1 : SeqAt.shaped d1 = true) (s2 : SeqAt.shaped d2 = true) (k : Q (.bl (!PyData.eqv d1 d2)) H) : rNeD K x y H Q := ⟨d1, d2, (h1.up e).dp, (h2.up e).dp, s1, s2, k⟩
/-- slices of tuples -/
theorem r_slT_02 {d1 d2 d3 : PyData} (e : Ex B H) (h : D B x (.tuple [d1, d2, d3])) (k : ∀ p B' H', Gro B H B' H' → D B' (.ref p) (.tuple [d1, d2]) → Q (.ref p) H') : rSlT K x none (some 2) H Q := by
  obtain ⟨a, xs, rfl, h1, h2⟩ := h.tup_inv
  obtain ⟨y, z, u, rfl, a1, a2, a3⟩ := h2.three_inv
  exact ⟨a, _, rfl, SqT.of (e _ _ h1), by show ¬ ((0 : Nat) = 0 ∧ 2 = 3); decide, fun p hp => k p _ _ (gro_new e hp) (.tup upd_same (.two (a1.up (Ex.new (e.back hp))) (a2.up (Ex.new (e.back hp)))))⟩

theorem filter_yes {α : Type} (l : List α) : (l.filter fun _ => true) = l := List.filter_eq_self.mpr fun _ _ => rfl
/-! ### comprehensions: D the list, of the items that pass -/
theorem take_succ_filter {α : Type} {β : Type} (l : List α) (p : α → Bool) (f : α → β) {i : Nat} {a : α} (h : l[i]? = some a) : ((l.take (i + 1)).filter p).map f = ((l.take i).filter p).map f ++ (if p a = true then [f a] else []) := by
  rw [List.take_add_one, h, Option.toList_some, List.filter_append, List.map_append, List.filter_cons]
  split
  · rfl
  · rfl
theorem take_filter_len {α : Type} {β : Type} (l : List α) (p : α → Bool) (f : α → β) (i : Nat) : (((l.take i).filter p).map f).length ≤ l.length := by
  rw [List.length_map]
  refine Nat.le_trans (List.length_filter_le _ _) ?_
  rw [List.length_take]
  exact Nat.min_le_right _ _
/-- what a turn of a comprehension must do -/
def LcTurn (g : TG) (tt : TT) (te : TE) (vs : List Nat) (σ : St) (B' H' : Hp) (x : V) (b : Bool) (d : PyData) : Prop :=
  ∀ (Y : V → Hp → Prop) (N : Hp → Prop), (b = true → ∀ y B'' H'', Gro B' H' B'' H'' → D B'' y d → Y y H'') → (b = false → ∀ B'' H'', Gro B' H' B'' H'' → N H'') →
    g x (wipe σ vs) H' fun σ2 H2 => wipe σ2 vs = wipe σ vs ∧ tt σ2 H2 fun c H3 => if c = true then te σ2 H3 Y else N H3
/-- where we are in the midst of one -/
def LcAt {α : Type} (B H : Hp) (items : List α) (p : α → Bool) (f : α → PyData) (Dl : Addr) (i : Nat) (H' : Hp) : Prop :=
  ∃ B', Gro B H B' H' ∧ B' Dl = none ∧ ∃ ys, H' Dl = some (.lst ys) ∧ DA B' ys (((items.take i).filter p).map f)
section
variable {α : Type} {g : TG} {tt : TT} {te : TE} {vs : List Nat} {items : List α} {p : α → Bool} {f : α → PyData} {Dl : Addr}
theorem LcAt.start (e : Ex B H) (hD : H Dl = none) : LcAt B H items p f Dl 0 (upd H Dl (.lst [])) :=
  ⟨B, gro_mut e hD, e.back hD, [], upd_same, .nil⟩
theorem LcAt.done {Qd : Hp → Prop} (hD : H Dl = none) {H' : Hp} {n : Nat} (hn : n = items.length) (a : LcAt B H items p f Dl n H') (k : ∀ B' H', Gro B H B' H' → D B' (.ref Dl) (.list ((items.filter p).map f)) → Qd H') : Qd H' := by
  obtain ⟨B', g', bn, ys, hy, da⟩ := a
  subst hn
  rw [List.take_length] at da
  exact k _ _ (gro_know g' hD bn hy) (.lst upd_same (da.up (Ex.new bn)))
theorem LcAt.turn {i : Nat} {x : V} {H' : Hp} {it : α} (hz : items.length ≤ 1000) (hD : H Dl = none) (hit : items[i]? = some it) (a : LcAt B H items p f Dl i H')
    (t : ∀ B', Gro B H B' H' → LcTurn g tt te vs σ B' H' x (p it) (f it)) :
    g x (wipe σ vs) H' fun σ2 H2 => wipe σ2 vs = wipe σ vs ∧ tt σ2 H2 fun b H3 =>
      if b = true then te σ2 H3 fun y H4 => ∃ acc, H4 Dl = some (.lst acc) ∧ acc.length < sizeLine ∧ LcAt B H items p f Dl (i + 1) (upd H4 Dl (.lst (acc ++ [y]))) else LcAt B H items p f Dl (i + 1) H3 := by
  obtain ⟨B', g', bn, ys, hy, da⟩ := a
  refine t B' g' _ _ (fun hb y B'' H'' g2 dy => ?_) (fun hb B'' H'' g2 => ?_)
  · have bn2 : B'' Dl = none := g2.fr Dl _ hy trivial bn
    refine ⟨ys, g2.hh _ _ hy, slt ?_, B'', gro_set (g'.trans g2) hD bn2, bn2, ys ++ [y], upd_same, ?_⟩
    · rw [da.len]
      exact Nat.le_trans (take_filter_len _ _ _ _) (by omega)
    · rw [take_succ_filter _ _ _ hit, if_pos hb]
      exact (da.up g2.bb).app (.one dy)
  · refine ⟨B'', g'.trans g2, g2.fr Dl _ hy trivial bn, ys, g2.hh _ _ hy, ?_⟩
    rw [take_succ_filter _ _ _ hit, if_neg (by rw [hb]; decide), List.append_nil]
    exact da.up g2.bb
theorem items_at {α : Type} {enc : α → PyData} {items : List α} {xs : List V} (h : DA B xs (items.map enc)) {i : Nat} {x : V} (hx : xs[i]? = some x) : ∃ it, items[i]? = some it ∧ D B x (enc it) := by
  have hl := h.len
  rw [List.length_map] at hl
  have hi : i < items.length := by
    have := (List.getElem?_eq_some_iff.mp hx).1
    omega
  obtain ⟨v, e1, e2⟩ := h.get (i := i) (d := enc items[i]) (by rw [List.getElem?_map, List.getElem?_eq_getElem hi]; rfl)
  rw [hx] at e1
  cases e1
  exact ⟨items[i], List.getElem?_eq_getElem hi, e2⟩
/-- an expression that gives d, and only makes new things -/
def Gv (te : TE) (σ : St) (B H : Hp) (d : PyData) : Prop := ∀ R : VK, (∀ v B1 H1, Gro B H B1 H1 → D B1 v d → R v H1) → te σ H R
/-- over a tuple -/
theorem r_lcT {enc : α → PyData} {tl : TE} (hs : Gv tl σ B H (.tuple (items.map enc))) (hz : items.length ≤ 1000)
    (turn : ∀ (i : Nat) (it : α) x B' H', items[i]? = some it → Gro B H B' H' → D B' x (enc it) → LcTurn g tt te vs σ B' H' x (p it) (f it))
    (k : ∀ D0 B' H', Gro B H B' H' → D B' (.ref D0) (.list ((items.filter p).map f)) → Q (.ref D0) H') : tLc (iTup K tl) g tt te vs σ H Q := by
  refine hs _ fun src B1 H1 g1 hsrc => ?_
  obtain ⟨a, xs, rfl, h1, h2⟩ := hsrc.tup_inv
  have hl := h2.len
  rw [List.length_map] at hl
  refine ⟨a, rfl, ⟨xs, SqT.of (g1.bh _ _ h1)⟩, fun Dl hD => lc_tup (xs := xs) (LcAt B1 H1 items p f Dl) (LcAt.start g1.bh hD) (fun i H' _ ⟨B', g', _⟩ => SqT.of (g'.bh _ _ (g'.bb _ _ h1))) (fun i x H' hx at' => ?_) (fun H' at' => LcAt.done (Qd := fun H' => Q (.ref Dl) H') hD hl at' fun B' H' g' => k Dl B' H' (g1.trans g'))⟩
  obtain ⟨it, hit, hd⟩ := items_at h2 hx
  exact LcAt.turn hz hD hit at' fun B' g' => turn i it x B' H' hit (g1.trans g') (hd.up g'.bb)
/-- over a list that stands still -/
theorem r_lcL {enc : α → PyData} {tl : TE} (hs : Gv tl σ B H (.list (items.map enc))) (hz : items.length ≤ 1000)
    (turn : ∀ (i : Nat) (it : α) x B' H', items[i]? = some it → Gro B H B' H' → D B' x (enc it) → LcTurn g tt te vs σ B' H' x (p it) (f it))
    (k : ∀ D0 B' H', Gro B H B' H' → D B' (.ref D0) (.list ((items.filter p).map f)) → Q (.ref D0) H') : tLc (iList K tl) g tt te vs σ H Q := by
  refine hs _ fun src B1 H1 g1 hsrc => ?_
  obtain ⟨a, xs, rfl, h1, h2⟩ := hsrc.lst_inv
  have hl := h2.len
  rw [List.length_map] at hl
  refine ⟨a, rfl, ⟨xs, SqL.of (g1.bh _ _ h1)⟩, fun Dl hD => lc_list (xs := xs) (LcAt B1 H1 items p f Dl) (LcAt.start g1.bh hD) (fun i H' _ ⟨B', g', _⟩ => SqL.of (g'.bh _ _ (g'.bb _ _ h1))) (fun i x H' hx at' => ?_) (fun H' at' => LcAt.done (Qd := fun H' => Q (.ref Dl) H') hD hl at' fun B' H' g' => k Dl B' H' (g1.trans g'))⟩
  obtain ⟨it, hit, hd⟩ := items_at h2 hx
  exact LcAt.turn hz hD hit at' fun B' g' => turn i it x B' H' hit (g1.trans g') (hd.up g'.bb)
/-- over range(n) -/
theorem r_lcR {ta : TA} {n : Nat} {p : Nat → Bool} {f : Nat → PyData} (hs : ∀ R : List V → Hp → Prop, (∀ B1 H1, Gro B H B1 H1 → R [.int (n : Int)] H1) → ta σ H R) (hz : n ≤ 1000)
    (turn : ∀ (i : Nat) B' H', i < n → Gro B H B' H' → LcTurn g tt te vs σ B' H' (.int (i : Int)) (p i) (f i))
    (k : ∀ D0 B' H', Gro B H B' H' → D B' (.ref D0) (.list (((List.range n).filter p).map f)) → Q (.ref D0) H') : tLc (iRng1 ta) g tt te vs σ H Q := by
  refine hs _ fun B1 H1 g1 => ?_
  refine ⟨(n : Int), rfl, by omega, by omega, fun Dl hD => ?_⟩
  rw [Int.toNat_natCast]
  refine lc_range (LcAt B1 H1 (List.range n) p f Dl) (LcAt.start g1.bh hD) (fun i H' hi at' => ?_) (fun H' at' => LcAt.done (Qd := fun H' => Q (.ref Dl) H') hD (by rw [List.length_range]) at' fun B' H' g' => k Dl B' H' (g1.trans g'))
  rw [Int.zero_add]
  exact LcAt.turn (by rw [List.length_range]; exact hz) hD (by rw [List.getElem?_range hi]) at' fun B' g' => turn i B' H' hi (g1.trans g')
end
end
end KPR
set_option Elab.async false
set_option linter.all false
set_option maxRecDepth 100000
/-! KC: dicts as sets of places or pairs. -/
namespace KPR
open PySem L2

/-! ### dicts of pairs, keys that differ -/
section
variable {κ : Type} [DecidableEq κ]
theorem valV_isSome {kvs : List (κ × V)} {k : κ} : (valV kvs k).isSome = decide (k ∈ kvs.map (·.1)) := by
  rw [← valV_any]
  by_cases h : k ∈ kvs.map (·.1)
  · rw [decide_eq_true h]
    obtain ⟨p, hp, e⟩ := List.mem_map.mp h
    exact List.any_eq_true.mpr ⟨p, hp, decide_eq_true e⟩
  · rw [decide_eq_false h]
    refine Bool.eq_false_iff.mpr fun z => h ?_
    obtain ⟨p, hp, e⟩ := List.any_eq_true.mp z
    exact List.mem_map.mpr ⟨p, hp, of_decide_eq_true e⟩
theorem valV_none {kvs : List (κ × V)} {k : κ} (h : k ∉ kvs.map (·.1)) : valV kvs k = none := by
  have := valV_isSome (kvs := kvs) (k := k)
  rw [decide_eq_false h] at this
  exact Option.isNone_iff_eq_none.mp (by rw [← Option.not_isSome, this]; rfl)
theorem foldl_put : ∀ (more kvs : List (κ × V)), (kvs.map (·.1) ++ more.map (·.1)).Nodup → more.foldl (fun acc kv => putK acc kv.1 kv.2) kvs = kvs ++ more
  | [], kvs, _ => by simp
  | p :: more, kvs, h => by
    have h1 : p.1 ∉ kvs.map (·.1) := fun m => by
      have := (List.nodup_append.mp h).2.2 p.1 m p.1 (by simp)
      exact this rfl
    show more.foldl (fun acc kv => putK acc kv.1 kv.2) (putK kvs p.1 p.2) = kvs ++ p :: more
    rw [putK_new _ (valV_none h1)]
    rw [foldl_put more (kvs ++ [(p.1, p.2)]) (by
      rw [List.map_append]
      simpa [List.append_assoc] using h)]
    simp
/-- what keys a fold of stores has -/
theorem foldl_put_some (k : κ) : ∀ (more kvs : List (κ × V)), (valV (more.foldl (fun acc kv => putK acc kv.1 kv.2) kvs) k).isSome = (decide (k ∈ more.map (·.1)) || (valV kvs k).isSome)
  | [], kvs => by simp
  | p :: more, kvs => by
    show (valV (more.foldl (fun acc kv => putK acc kv.1 kv.2) (putK kvs p.1 p.2)) k).isSome = _
    rw [foldl_put_some k more, valV_put]
    by_cases h : k = p.1
    · rw [if_pos h, List.map_cons, decide_eq_true (List.mem_cons.mpr (Or.inl h))]
      simp
    · rw [if_neg h, List.map_cons]
      congr 1
      simp [h]
end
def kN (n : Nat) : Key := Sum.inl (n : Int)
theorem kN_inj {a b : Nat} : kN a = kN b ↔ a = b := ⟨fun h => by have := Sum.inl.inj h; omega, fun h => by rw [h]⟩
def kP (p : Nat × Nat) : List Key := [kN p.1, kN p.2]
theorem kP_inj {p q : Nat × Nat} : kP p = kP q ↔ p = q := by
  constructor
  · intro h
    unfold kP at h
    injection h with h1 h2
    injection h2 with h2 _
    exact Prod.ext (kN_inj.mp h1) (kN_inj.mp h2)
  · intro h; rw [h]
/-- at a stands a dict whose keys are the places of l -/
def MemK (B : Hp) (a : Addr) (l : List Nat) : Prop := ∃ kvs, B a = some (.dK kvs) ∧ ∀ m : Nat, (valV kvs (kN m)).isSome = decide (m ∈ l)
def MemT (B : Hp) (a : Addr) (c : List (Nat × Nat)) : Prop := ∃ kvs, B a = some (.dT kvs) ∧ ∀ p : Nat × Nat, (valV kvs (kP p)).isSome = decide (p ∈ c)
theorem MemK.up {B B' : Hp} {a : Addr} {l : List Nat} (h : MemK B a l) (e : Ex B B') : MemK B' a l := let ⟨kvs, h1, h2⟩ := h; ⟨kvs, e _ _ h1, h2⟩
theorem MemT.up {B B' : Hp} {a : Addr} {l : List (Nat × Nat)} (h : MemT B a l) (e : Ex B B') : MemT B' a l := let ⟨kvs, h1, h2⟩ := h; ⟨kvs, e _ _ h1, h2⟩
section
variable {K : PySem.W.Frag} {B H : Hp} {σ : St} {x y v : V} {Q : VK}
theorem r_dinK {a : Addr} {l : List Nat} {n : Nat} (e : Ex B H) (h : MemK B a l) {R : Option V → Prop} (k : ∀ o, o.isSome = decide (n ∈ l) → R o) : ∃ a' o, V.ref a = .ref a' ∧ DGet H a' (.int (n : Int)) o ∧ R o := by
  obtain ⟨kvs, h1, h2⟩ := h
  exact ⟨a, _, rfl, DGet.k (k := kN n) (e _ _ h1), k _ (h2 n)⟩
theorem pair_at {q : Addr} {p : Nat × Nat} (h : D B (.ref q) (dPair p)) : B q = some (.tup ((kP p).map kV)) := by
  obtain ⟨a, xs, ea, h1, h2⟩ := h.tup_inv
  cases ea
  obtain ⟨u, z, rfl, a1, a2⟩ := h2.two_inv
  rw [a1.int_inv, a2.int_inv] at h1
  exact h1
theorem r_dinT {a q : Addr} {c : List (Nat × Nat)} {p : Nat × Nat} (e : Ex B H) (h : MemT B a c) (hq : D B (.ref q) (dPair p)) {R : Option V → Prop} (k : ∀ o, o.isSome = decide (p ∈ c) → R o) : ∃ a' o, V.ref a = .ref a' ∧ DGet H a' (.ref q) o ∧ R o := by
  obtain ⟨kvs, h1, h2⟩ := h
  exact ⟨a, _, rfl, DGet.t (k := kP p) (e _ _ h1) (e _ _ (pair_at hq)), k _ (h2 p)⟩
theorem kvK_keys (l : List Nat) (vc : V) : (l.map fun n => (kN n, vc)).map (·.1) = l.map kN := by rw [List.map_map]; rfl
theorem kN_mem {l : List Nat} {m : Nat} : kN m ∈ l.map kN ↔ m ∈ l := by
  constructor
  · intro h
    obtain ⟨n, hn, e⟩ := List.mem_map.mp h
    exact (kN_inj.mp e) ▸ hn
  · exact fun h => List.mem_map.mpr ⟨m, h, rfl⟩
theorem nodup_map {α β : Type} {f : α → β} (hf : ∀ a b, f a = f b → a = b) : ∀ {l : List α}, l.Nodup → (l.map f).Nodup
  | [], _ => List.nodup_nil
  | a :: l, h => by
    obtain ⟨h1, h2⟩ := List.nodup_cons.mp h
    rw [List.map_cons]
    refine List.nodup_cons.mpr ⟨fun m => ?_, nodup_map hf h2⟩
    obtain ⟨b, hb, e⟩ := List.mem_map.mp m
    exact h1 (hf _ _ e ▸ hb)
theorem nodup_kN {l : List Nat} (h : l.Nodup) : (l.map kN).Nodup := nodup_map (fun _ _ => kN_inj.mp) h
/-- dict([(n, c) for ..]): what stands there -/
theorem dictK_pairs {c : PyData} {vc : V} (hc : ∀ B v, D B v c → v = vc) : ∀ {l : List Nat} {xs : List V}, DA B xs (l.map fun (n : Nat) => .tuple [.int (n : Int), c]) → ∃ ps : List Addr, xs = ps.map V.ref ∧ Paired (fun p (kv : Key × V) => SqT K B p [kV kv.1, kv.2]) ps (l.map fun n => (kN n, vc))
  | [], xs, h => by cases h; exact ⟨[], rfl, .nil⟩
  | n :: l, xs, h => by
    cases h with
    | cons h1 h2 =>
      obtain ⟨ps, e1, e2⟩ := dictK_pairs hc (l := l) h2
      obtain ⟨a, us, ea, b1, b2⟩ := h1.tup_inv
      obtain ⟨u, z, rfl, c1, c2⟩ := b2.two_inv
      rw [c1.int_inv, hc _ _ c2] at b1
      subst ea e1
      exact ⟨a :: ps, rfl, .cons (SqT.of b1) e2⟩
theorem sqt_up {a : Addr} {xs : List V} (e : Ex B H) (h : SqT K B a xs) : SqT K H a xs := by
  rcases h with (h | ⟨o, h⟩) | h
  · exact .inl (.inl (e _ _ h))
  · exact .inl (.inr ⟨o, e _ _ h⟩)
  · exact .inr h
theorem paired_up {ps : List Addr} {kvs : List (Key × V)} (e : Ex B H) (h : Paired (fun p (kv : Key × V) => SqT K B p [kV kv.1, kv.2]) ps kvs) : Paired (fun p (kv : Key × V) => SqT K H p [kV kv.1, kv.2]) ps kvs := L2.Paired.mapP h fun _ _ q => sqt_up e q
/-- dict([(n, c) for ..]) of unlike places, left as it is -/
theorem r_dictK {c : PyData} {vc : V} {l : List Nat} (hc : ∀ B v, D B v c → v = vc) (e : Ex B H) (h : D B x (.list (l.map fun (n : Nat) => .tuple [.int (n : Int), c]))) (k : ∀ p B' H', Gro B H B' H' → MemK B' p l → Q (.ref p) H') : rDictK K [x] H Q := by
  obtain ⟨a, xs, rfl, h1, h2⟩ := h.lst_inv
  obtain ⟨ps, rfl, pr⟩ := dictK_pairs (K := K) hc h2
  refine ⟨a, ps, _, rfl, SqL.of (e _ _ h1), paired_up e pr, fun p hp => k p _ _ (gro_new e hp) ⟨_, upd_same, fun m => ?_⟩⟩
  unfold mergeK
  rw [foldl_put_some, kvK_keys]
  simp [kN_mem, valV_nil]
/-- .. that will be written -/
theorem r_dictKm {c : PyData} {vc : V} {l : List Nat} (hc : ∀ B v, D B v c → v = vc) (nd : l.Nodup) (e : Ex B H) (h : D B x (.list (l.map fun (n : Nat) => .tuple [.int (n : Int), c]))) (k : ∀ p H', H p = none → Gro B H B H' → B p = none → H' p = some (.dK (l.map fun n => (kN n, vc))) → Q (.ref p) H') : rDictK K [x] H Q := by
  obtain ⟨a, xs, rfl, h1, h2⟩ := h.lst_inv
  obtain ⟨ps, rfl, pr⟩ := dictK_pairs (K := K) hc h2
  refine ⟨a, ps, _, rfl, SqL.of (e _ _ h1), paired_up e pr, fun p hp => k p _ hp (gro_mut e hp) (e.back hp) ?_⟩
  rw [upd_same]
  unfold mergeK
  rw [foldl_put _ _ (by rw [kvK_keys]; simpa using nodup_kN nd)]
  rfl
theorem tru_inv {B : Hp} {v : V} (h : D B v (.bool true)) : v = .bl true := h.bl_inv
theorem bl_ne (a b : Bool) : (!decide (V.bl a = V.bl b)) = (a != b) := by cases a <;> cases b <;> rfl
theorem bl_eq (a b : Bool) : decide (V.bl a = V.bl b) = (a == b) := by cases a <;> cases b <;> rfl
theorem nat_eq (a b : Nat) : decide (V.int (a : Int) = V.int (b : Int)) = decide (a = b) := by
  by_cases h : a = b
  · subst h; simp
  · rw [decide_eq_false h, decide_eq_false]
    intro z
    exact h (by have := V.int.inj z; omega)
theorem int_eq (a b : Int) : decide (V.int a = V.int b) = decide (a = b) := by
  by_cases h : a = b
  · subst h; simp
  · rw [decide_eq_false h, decide_eq_false]
    exact fun z => h (V.int.inj z)
end
end KPR
set_option Elab.async false
set_option linter.all false
set_option maxRecDepth 100000
/-! KW: steps of readings. -/
namespace KPR
open PySem L2
section
variable {K : PySem.W.Frag} {H : Hp} {σ : St} {x y v : V} {Q : VK} {D : Ends} {t u : TS} {ta tb te tc : TE} {tr : TA} {r : R2} {g : TG} {c cd : TT}
theorem w_seq (h : t { D with nx := u D } σ H) : tSeq t u D σ H := h
theorem w_asg (h : te σ H fun x H1 => g x σ H1 D.nx) : tAsg te g D σ H := h
theorem w_drop (h : te σ H fun _ H1 => D.nx σ H1) : tDrop te D σ H := h
theorem w_ret (h : te σ H D.rt) : tRet te D σ H := h
theorem w_next (h : D.nx σ H) : tNext D σ H := h
theorem w_ifs (h : c σ H fun b H1 => if b = true then t D σ H1 else u D σ H1) : tIfS c t u D σ H := h
theorem w_var {i : Nat} (e : σ[i]? = some (some v)) (h : Q v H) : tVar i σ H Q := ⟨v, e, h⟩
theorem w_c (h : Q v H) : tC v σ H Q := h
theorem w_op (h : ta σ H fun x H1 => tb σ H1 fun y H2 => r x y H2 Q) : tOp r ta tb σ H Q := h
theorem w_un {r : V → Hp → VK → Prop} (h : ta σ H fun x H1 => r x H1 Q) : tUn r ta σ H Q := h
theorem w_cb {r : List V → Hp → VK → Prop} (h : tr σ H fun vs H1 => r vs H1 Q) : tCB r tr σ H Q := h
theorem w_nil {G : List V → Hp → Prop} (h : G [] H) : tNil σ H G := h
theorem w_cons {G : List V → Hp → Prop} (h : ta σ H fun x H1 => tr σ H1 fun xs H2 => G (x :: xs) H2) : tCons ta tr σ H G := h
theorem w_gname {i : Nat} {R : St → Hp → Prop} (h : R (σ.set i (some v)) H) : gName i v σ H R := h
theorem w_test {G : Bool → Hp → Prop} (h : te σ H fun x H' => ∃ k, x = .bl k ∧ G k H') : tTest te σ H G := h
theorem w_b {G : Bool → Hp → Prop} (h : te σ H fun x H' => ∃ k, x = .bl k ∧ G k H') : tB te σ H G := h
theorem w_exbl {b : Bool} {R : Bool → Prop} (h : R b) : ∃ k, V.bl b = .bl k ∧ R k := ⟨b, rfl, h⟩
theorem w_exbl2 {b : Bool} {R : Prop} {S : Bool → Prop} (h : S b) : ∃ k, V.bl b = .bl k ∧ S k := ⟨b, rfl, h⟩
theorem w_and {G : Bool → Hp → Prop} (h : c σ H fun b H1 => if b = true then cd σ H1 G else G false H1) : tAnd c cd σ H G := h
theorem w_or {G : Bool → Hp → Prop} (h : c σ H fun b H1 => if b = true then G true H1 else cd σ H1 G) : tOr c cd σ H G := h
theorem w_not {G : Bool → Hp → Prop} (h : c σ H fun b H1 => G (!b) H1) : tNot c σ H G := h
theorem w_if (h : c σ H fun b H1 => if b = true then ta σ H1 Q else tb σ H1 Q) : tIf c ta tb σ H Q := h
theorem w_andV (h : ta σ H fun x H1 => ∃ c, x = .bl c ∧ if c = true then tb σ H1 Q else Q (.bl false) H1) : tAndV ta tb σ H Q := h
theorem w_orV (h : ta σ H fun x H1 => ∃ c, x = .bl c ∧ if c = true then Q (.bl true) H1 else tb σ H1 Q) : tOrV ta tb σ H Q := h
theorem w_notV (h : ta σ H fun x H1 => ∃ c, x = .bl c ∧ Q (.bl (!c)) H1) : tNotV ta σ H Q := h
theorem w_tup (h : tr σ H fun xs H1 => TupR xs H1 Q) : tTup tr σ H Q := h
theorem w_lst (h : tr σ H fun xs H1 => LstR xs H1 Q) : tLst tr σ H Q := h
theorem w_dnewK (h : NewR (.dK []) H Q) : tDNewK σ H Q := h
theorem w_dnewT (h : NewR (.dT []) H Q) : tDNewT σ H Q := h
theorem w_din (h : ta σ H fun y H1 => tb σ H1 fun x H2 => ∃ a o, x = .ref a ∧ DGet H2 a y o ∧ Q (.bl o.isSome) H2) : tDIn ta tb σ H Q := h
theorem w_dnin (h : ta σ H fun y H1 => tb σ H1 fun x H2 => ∃ a o, x = .ref a ∧ DGet H2 a y o ∧ Q (.bl (!o.isSome)) H2) : tDNotIn ta tb σ H Q := h
theorem w_dget (h : ta σ H fun x H1 => tb σ H1 fun y H2 => ∃ a v, x = .ref a ∧ DGet H2 a y (some v) ∧ Q v H2) : tDGet ta tb σ H Q := h
theorem w_dget2 (h : ta σ H fun x H1 => ∃ a, x = .ref a ∧ IsD H1 a ∧ tb σ H1 fun y H2 => tc σ H2 fun z H3 => ∃ o, DGet H3 a y o ∧ Q (o.getD z) H3) : tDGet2 ta tb tc σ H Q := h
theorem w_fld {f : Str} (h : ta σ H fun x H1 => ∃ a C dx fs v, x = .ref a ∧ H1 a = some (.ins C dx fs) ∧ Cls K C ∧ NoAttr K C f ∧ fs.lookup f = some v ∧ Q v H1) : tFld K ta f σ H Q := h
theorem w_cal {sp : Sp} (h : tr σ H fun vs H1 => sp vs H1 Q E0) : tCal sp tr σ H Q := h
theorem w_met {C : Addr} {m : Str} {sp : Sp} (h : ta σ H fun x H1 => ∃ a dx fs, x = .ref a ∧ H1 a = some (.ins C dx fs) ∧ fs.lookup m = none ∧ tr σ H1 fun vs H2 => sp (x :: vs) H2 Q E0) : tMet C m sp ta tr σ H Q := h
theorem w_mak {C : Addr} {sp : Sp} (h : tr σ H fun vs H1 => ∀ x dx, H1 x = none → H1 dx = none → dx ≠ x → sp (.ref x :: vs) (upd (upd H1 dx (.own x)) x (.ins C dx [])) (fun v H2 => v = .non ∧ Q (.ref x) H2) E0) : tMak C sp tr σ H Q := h
theorem w_bm {T : String} {r : V → List V → Hp → VK → Prop} (h : ta σ H fun x H1 => tyV K T x H1 ∧ tr σ H1 fun xs H2 => r x xs H2 Q) : tBM K T r ta tr σ H Q := h
theorem w_bm0 {T : String} {r : V → List V → Hp → VK → Prop} (h : ta σ H fun x H1 => tyV K T x H1 ∧ r x [] H1 Q) : tBM0 K T r ta σ H Q := h
theorem w_sl {r : V → Option Int → Option Int → Hp → VK → Prop} {tl th : TO} (h : ta σ H fun x H1 => tl σ H1 fun l H2 => th σ H2 fun u H3 => r x l u H3 Q) : L2.tSl r ta tl th σ H Q := h
theorem w_nopart {G : Option Int → Hp → Prop} (h : G none H) : tNoPart σ H G := h
theorem w_part {i : Int} {G : Option Int → Hp → Prop} (h : G (some i) H) : tPart (tC (.int i)) σ H G := ⟨i, rfl, h⟩
theorem w_sfld {f : Str} (h : tb σ H fun y H1 => ta σ H1 fun x H2 => ∃ a C dx fs, x = .ref a ∧ H2 a = some (.ins C dx fs) ∧ Cls K C ∧ NoAttr K C f ∧ fs.length < 1000 ∧ D.nx σ (upd H2 a (.ins C dx (putF f y fs)))) : sFld K ta tb f D σ H := h
theorem w_dput (h : tc σ H fun v H1 => ta σ H1 fun x H2 => tb σ H2 fun y H3 => ∃ a H4, x = .ref a ∧ DPut H3 a y v H4 ∧ D.nx σ H4) : sDPut ta tb tc D σ H := h
theorem w_aug {i : Nat} {ti : TIp} (e : σ[i]? = some (some v)) (h : te σ H fun y H1 => ti v y H1 fun z H2 => D.nx (σ.set i (some z)) H2) : tAug i te ti D σ H := ⟨v, e, h⟩
theorem w_iT {A B : Prop} (h : A) : if true = true then A else B := iteT h
theorem w_iF {A B : Prop} (h : B) : if false = true then A else B := iteF h
theorem w_ii0 {f : Int → Int → V} {i j : Int} (h : Q (f i j) H) : rI0 f (.int i) (.int j) H Q := ⟨i, j, rfl, rfl, h⟩
theorem w_neg {f : Int → V} {i : Int} (h : Q (f i) H) : rU f (.int i) H Q := ⟨i, rfl, h⟩
theorem w_ip {f : Int → Int → Int} {i j : Int} (h : Q (.int (f i j)) H) : ipI f (.int i) (.int j) H Q := ⟨i, j, rfl, rfl, h⟩
theorem w_yes {G : Bool → Hp → Prop} (h : G true H) : tYes σ H G := h
end
end KPR
set_option Elab.async false
set_option linter.all false
set_option maxRecDepth 100000
set_option maxHeartbeats 1000000
/-! KR1: rules that the layer lacks: xs[i] += e; a target o.f; enumerate over a tuple. -/
namespace KPR
open PySem PySem.Spec PyProof.Rows L2
section
variable {X : Cx}
/-- xs[i], as an operator's in-place assignment reads it -/
def rGetL : V → V → Hp → VK → Prop := fun o i H Q => ∃ (p : Addr) (xs : List V) (j : Nat) (v : V), o = .ref p ∧ i = .int (j : Int) ∧ H p = some (.lst xs) ∧ j ≤ 1000 ∧ xs[j]? = some v ∧ Q v H
theorem k_getL : PGet X rGetL := by
  intro pins s σ H o i ov iv Q I ro ri h
  obtain ⟨p, xs, j, v, rfl, rfl, hp, hj, hv, q⟩ := h
  cases ro
  obtain ⟨t, rfl⟩ := ri
  obtain ⟨its, r, pl, hz⟩ := I.list (SqL.of hp)
  obtain ⟨u, eu, ru⟩ := r.get hv
  exact wpAny_getItem_list pl.isList (by omega) (by omega) (by simpa using eu) ⟨v, H, I, ru, q⟩
/-- the target o.f -/
def gFld (K : PySem.W.Frag) (to : TE) (f : Str) : TG := fun v σ H Q => to σ H fun x H1 => ∃ a C dx fs, x = .ref a ∧ H1 a = some (.ins C dx fs) ∧ Cls K C ∧ NoAttr K C f ∧ fs.length < 1000 ∧ Q σ (upd H1 a (.ins C dx (putF f v fs)))
theorem k_gfld {K : PySem.W.Frag} {o : Expr} {f : Str} {pos : Pos} {to : TE} (ho : PE X o to) (hK : X.K = K := by rfl) : PG X (.Attribute o f pos) (gFld K to f) := by
  subst hK
  refine ⟨fun pins s σ H v u Q I r h => ?_⟩
  rw [assign_Attribute]
  refine wpAny_bind (wpAny_holding (thn (ho.run pins s σ H _ I h) fun ov s1 ⟨x, H1, I1, r1, a, C, dx, fs, ex, ea, c, n, l, q⟩ => ?_))
  subst ex
  obtain rfl : ov = Value.ref a := r1
  refine wpAny_bind (wpAny_standAt (wpAny_bind (wpAny_holding (setattr_ok I1 ea c n l r fun s2 I2 => ?_))))
  exact wpAny_release ⟨σ, _, I2, q⟩

/-! ### enumerate(a tuple) -/
theorem enum_newT (t : Addr) (items : Array Value) :
    Meets (Builtin.«enumerate.__new__» ⟨[.type "enumerate", .ref t], []⟩) (fun _ R s => s.heap.IsTuple t items ∧
      R (.ok (.ret (.ref (s.heap.push { cls := .type "tuple_iterator", data := .fields #[.ref t, .int 0 0] }).objs.size)))
        { s with heap := (s.heap.push { cls := .type "tuple_iterator", data := .fields #[.ref t, .int 0 0] }).push ⟨.type "enumerate", none, .fields #[.none, .bool false, .ref s.heap.objs.size, rawInt 0, .none, .none], #[]⟩ }) :=
  .of_wp fun prog w A R s h => by
    obtain ⟨hp, g, d, tk, os⟩ := s
    obtain ⟨hT, h⟩ := h
    have hsub := sub_enumerate
    have qT : ∀ {A' : Around} {E : Value → Shared → Prop} {Q : Value → Shared → Prop}, Q (.ref hp.objs.size) ⟨hp.push { cls := .type "tuple_iterator", data := .fields #[.ref t, .int 0 0] }, g, d, tk, os⟩ → wpAny (model prog w) A' (pyIter (.ref t)) Q E ⟨hp, g, d, tk, os⟩ := fun q => wpAny_pyIter_tuple hT q
    wp_walk using qT
    refine wpAny_stack_any fun st => wpAny_pure ?_
    split
    · rename_i c _ _ _ _ _
      cases (c == Value.type "enumerate") <;> (wp_walk using qT; exact ⟨_, rfl, h⟩)
    · wp_walk using qT
      exact ⟨_, rfl, h⟩
theorem call_enumT {prog : Program} {w : World} {A : Around} {E : Value → Shared → Prop} {s : Shared} {t : Addr} {items : Array Value} {Q : Value → Shared → Prop} (hT : s.heap.IsTuple t items)
    (h : ∀ h', IsEnum h' (s.heap.objs.size + 1) s.heap.objs.size 0 .none → h'.IsTupleIter s.heap.objs.size t 0 → (∀ b o, s.heap.get? b = some o → h'.get? b = some o) → Q (.ref (s.heap.objs.size + 1)) { s with heap := h' }) :
    wpAny (model prog w) A (call (.type "enumerate") [.ref t]) Q E s := by
  refine callType_new F.called_enumerate (by decide) (F.typeCall_enumerate_1 _) (F.newCall_enumerate_1 _) (fun obj => F.args_object_init_2 obj _) F.entry_enumerate_new (enum_newT t items) ⟨hT, ?_⟩
  have hz : (s.heap.push { cls := .type "tuple_iterator", data := .fields #[.ref t, .int 0 0] }).objs.size = s.heap.objs.size + 1 := Heap.size_push ..
  show _ ∧ _
  rw [hz]
  have he : ((s.heap.push { cls := .type "tuple_iterator", data := .fields #[.ref t, .int 0 0] }).push ⟨.type "enumerate", none, .fields #[.none, .bool false, .ref s.heap.objs.size, rawInt 0, .none, .none], #[]⟩).get? (s.heap.objs.size + 1) = some ⟨.type "enumerate", none, .fields #[.none, .bool false, .ref s.heap.objs.size, rawInt 0, .none, .none], #[]⟩ := by
    rw [← hz]
    exact Heap.get?_push_size _ rfl
  exact ⟨⟨_, he, rfl⟩, h _ he ⟨_, Heap.get?_push_of_some _ (Heap.get?_push_size _ rfl), rfl, rfl⟩ fun b o x => Heap.get?_push_of_some _ (Heap.get?_push_of_some _ x)⟩
/-- the tuple at a, each item in a new pair -/
def ItE (K : PySem.W.Frag) (a : Addr) : It :=
  ⟨fun i H => ∃ (xs : List V) (x : V), SqT K H a xs ∧ xs[i]? = some x, fun i H v H' => ∃ T x, v = .ref T ∧ H T = none ∧ H' = upd H T (.tup [.int (i : Nat), x]) ∧ ∀ xs, SqT K H a xs → xs[i]? = some x, fun i H => ∃ xs : List V, SqT K H a xs ∧ xs.length = i⟩
theorem turn_enumT {P : Program} {w : World} {K : PySem.W.Frag} {elts : List Expr} {kk : Nat} {tpos : Pos} (a e it : Addr) :
    Turn P w K (.Tuple elts kk tpos) (ItE K a) [e, it] e (fun i h => (∃ old, IsEnum h e it ((i : Nat) : Int) old) ∧ h.IsTupleIter it a i ∧ e ≠ it) where
  mem := by simp
  obj := fun i h st b hb => by
    obtain ⟨⟨old, he⟩, ⟨o, ho, _, hd⟩, _⟩ := st
    rcases (show b = e ∨ b = it by simpa using hb) with z | z
    · exact z ▸ ⟨_, he, fun v q => nomatch q⟩
    · exact z ▸ ⟨o, ho, fun v q => by rw [hd] at q; cases q⟩
  keep := fun i h h' st k => let ⟨⟨old, he⟩, hi, hne⟩ := st; ⟨⟨old, k e (by simp) _ he⟩, hi.at fun o q => k it (by simp) o q, hne⟩
  item := by
    intro X hP hw hK hc i pins s σ H E I hf st hg
    subst hP hw hK
    obtain ⟨⟨old, he⟩, hit, hne⟩ := st
    obtain ⟨xs, x, hq, hx⟩ := hg
    obtain ⟨its, rv, p, hz⟩ := I.tuple hq
    obtain ⟨u, hu, ru⟩ := rv.get hx
    have pT : s.heap.IsTuple a its.toArray := p
    have hne2 : a ≠ it := fun z => by
      obtain ⟨o, ho, hc1, _⟩ := hit
      obtain ⟨o', ho', hc2, _⟩ := pT
      rw [z] at ho'
      rw [ho] at ho'
      cases ho'
      rw [hc1] at hc2
      exact absurd hc2 (by decide)
    have hne3 : a ≠ e := fun z => by
      obtain ⟨o', ho', hc2, _⟩ := pT
      rw [z] at ho'
      have he' : s.heap.get? e = some _ := he
      rw [he'] at ho'
      cases ho'
      exact absurd (show Value.type "enumerate" = Value.type "tuple" from hc2) (by decide)
    have DD := Draws.tuple (prog := X.prog) (w := X.w) (A := X.A.in1) (show X.A.in1.handled = none from I.ok.hd hc) it a hne2 its.toArray
    have hlt : i < its.toArray.size := by
      have := (List.getElem?_eq_some_iff.mp hu).1
      simpa using this
    have hel : e < s.heap.objs.size := Heap.lt_size he
    have hil : it < s.heap.objs.size := by obtain ⟨_, q, _⟩ := hit; exact Heap.lt_size q
    refine wpAny_pyNext_enum_itemD DD he ⟨hit, pT⟩ hlt hne (by simp [hne, Ne.symm hne3]) fun x' h' tk hx' ho' st' hT hsz hk => ?_
    have ex : x' = u := by
      have h1 : its.toArray[i]? = some x' := hx'
      rw [List.getElem?_toArray, hu] at h1
      exact (Option.some.inj h1).symm
    subst ex
    refine ⟨_, rfl, wpAny_letOwnedTupleGo_enum (s := { s with heap := h', toks := tk + 1 }) ho' fun h'' he' sb => ?_⟩
    have hT2 : h''.get? s.heap.objs.size = some { cls := .type "tuple", data := .seq #[.int i tk, x'] } := (sb.2 _ (Nat.ne_of_gt hel)).trans hT
    have new : ObjOk X.prog X.w (upd H s.heap.objs.size (.tup [.int (i : Nat), x])) h'' s.heap.objs.size (.tup [.int (i : Nat), x]) :=
      ⟨by show 2 ≤ sizeLine; decide, [.int i tk, x'], .cons ⟨_, rfl⟩ (.cons ru .nil), ⟨_, hT2, rfl, _, rfl⟩⟩
    have I1 : Inv X pins σ (upd H s.heap.objs.size (.tup [.int (i : Nat), x])) { s with heap := h'', toks := tk + 1 } :=
      I.turnedNew (t' := tk + 1) (ch := [e, it]) (fun b ob hb q => (sb.2 b (fun z => hb (by simp [z]))).trans (hk b ob (fun z => hb (by simp [z])) (fun z => hb (by simp [z])) q)) hf (Nat.le_refl _) new
    refine ⟨.ref s.heap.objs.size, _, I1, rfl, ⟨_, x, rfl, I.hok.fresh (Nat.le_refl _), rfl, fun ys hy => ?_⟩, ⟨⟨x', ?_⟩, st'.1.at fun o q => (sb.2 it (Ne.symm hne)).trans q, hne⟩, fun b hb => ?_⟩
    · obtain ⟨its2, rv2, p2, _⟩ := I.tuple hy
      rw [I.tuple_inj hy hq]
      exact hx
    · rw [show ((i + 1 : Nat) : Int) = (i : Int) + 1 by omega]
      exact he'
    · have hb' : b < s.heap.objs.size := by
        rcases (show b = e ∨ b = it by simpa using hb) with z | z
        · exact z ▸ hel
        · exact z ▸ hil
      rw [upd_ne (Nat.ne_of_lt hb')]
      exact (hf b hb).1
  done := by
    intro X hP hw hK hc i pins s σ H E I hf st hg
    subst hP hw hK
    obtain ⟨⟨old, he⟩, hit, hne⟩ := st
    obtain ⟨xs, hq, hx⟩ := hg
    obtain ⟨its, rv, p, hz⟩ := I.tuple hq
    obtain ⟨f0, f1, f2, f3, f4, f5⟩ := hf it (by simp)
    have pT : s.heap.IsTuple a its.toArray := p
    have hne2 : a ≠ it := fun z => by
      obtain ⟨o, ho, hc1, _⟩ := hit
      obtain ⟨o', ho', hc2, _⟩ := pT
      rw [z] at ho'
      rw [ho] at ho'
      cases ho'
      rw [hc1] at hc2
      exact absurd hc2 (by decide)
    have DD := Draws.tuple (prog := X.prog) (w := X.w) (A := X.A.in1) (show X.A.in1.handled = none from I.ok.hd hc) it a hne2 its.toArray
    have hn : its.toArray.size = i := by
      rw [List.size_toArray, ← rv.length]
      exact hx
    have he2 : IsEnum s.heap e it (its.toArray.size : Int) old := by
      rw [hn]
      exact he
    exact wpAny_pyNext_enum_endD DD he2 (by rw [hn]; exact ⟨hit, pT⟩) fun h' eb => ⟨rfl, I.turned (t' := s.toks) (fun b o hb q => eb b o hb q) f0 f1 f3 f4 f5⟩
  self := fun A i s Q E st h => let ⟨⟨_, he⟩, _⟩ := st; wpAny_pyIter_enum he h
/-- enumerate(t), t a tuple -/
def iEnumT (K : PySem.W.Frag) (ta : TA) : TI := fun σ H R => ta σ H fun vs H1 => ∃ a xs, vs = [.ref a] ∧ SqT K H1 a xs ∧ R (ItE K a) H1
theorem k_enumT {K : PySem.W.Frag} {e : Expr} {ta : TA} {p pos tpos : Pos} {elts : List Expr} {kk : Nat} (hg : Gl X "enumerate") (hm : X.mg "enumerate" = none) (ha : PA X [e] ta) (hs : starEach [e] X.env = [(false, eval e X.env)] := by rfl) (hK : X.K = K := by rfl) :
    PI X (.Tuple elts kk tpos) (.Call (.Name "enumerate" p) [e] [] pos) (iEnumT K ta) := by
  subst hK
  refine ⟨fun pins s σ H R I h => Call_ (ld_blt I hg hm boot_enumerate (PyProof.Rows.callWith_type1 (thn (ha.run pos pins s σ H _ I h) fun us s1 ⟨vs, H1, I1, r1, q1⟩ => ?_) hs rfl))⟩
  obtain ⟨a, xs, rfl, hq, q⟩ := q1
  cases r1 with
  | cons r rr =>
    cases rr
    cases r
    obtain ⟨its, rv, pT, hz⟩ := I1.tuple hq
    refine call_enumT (show s1.heap.IsTuple a its.toArray from pT) fun h' he hit hk => wpAny_pyIter_enum he ?_
    refine ⟨s1.heap.objs.size + 1, [s1.heap.objs.size + 1, s1.heap.objs.size], _, _, H1, rfl, I1.kept (t' := s1.toks) hk, turn_enumT a (s1.heap.objs.size + 1) s1.heap.objs.size, ⟨⟨.none, he⟩, hit, Nat.succ_ne_self _⟩, fun b hb => ?_, q⟩
    have hle : s1.heap.objs.size ≤ b := by
      rcases (show b = s1.heap.objs.size + 1 ∨ b = s1.heap.objs.size by simpa using hb) with z | z
      · exact z ▸ Nat.le_add_right _ _
      · exact z ▸ Nat.le_refl _
    exact I1.fpOk hle (I1.hok.fresh hle)
end
end KPR
set_option Elab.async false
set_option linter.all false
set_option maxRecDepth 100000
set_option maxHeartbeats 1000000
/-! KR2: dicts whose keys are tuples: dict(pairs), dict(d), d.pop(k); d.update(e). -/
namespace KPR
open PySem PySem.Spec PyProof.Rows L2
abbrev KD := List L2.Key × V
section
variable {X : Cx} {pins : List (Addr × Obj)} {σ : L2.St} {H : Hp} {s : Shared}
theorem KT.merge {H : Hp} : ∀ {more : List KD} {qs : List (List L2.Key × Addr × Value)} {kvs : List KD} {xs : List (List L2.Key × Addr × Value)}, KT H more qs → KT H kvs xs → KT H (more.foldl (fun acc kv => putK acc kv.1 kv.2) kvs) (storedAllH xs qs) := by
  intro more qs kvs xs r
  induction r generalizing kvs xs with
  | nil => intro h; exact h
  | @cons p q ps qs' h t ih =>
    intro h2
    have h3 := KT.put h2 p.1 (b := q.2.1) (u := q.2.2) h.2.1 h.2.2
    have h4 := ih h3
    rw [h.1] at h4
    rw [List.foldl_cons, h.1]
    exact h4
/-- the pairs of a list of tuples (key, value), as they stand -/
theorem pairs_there (I : Inv X pins σ H s) : ∀ {ps : List Addr} {kvs : List KD}, Paired (fun p (kv : KD) => ∃ b, H p = some (.tup [.ref b, kv.2]) ∧ H b = some (.tup (kv.1.map kV))) ps kvs →
    ∃ qs : List (List L2.Key × Addr × Value), KT H kvs qs ∧ qs.length = ps.length ∧ ∀ (j : Nat) q, qs[j]? = some q → ∃ p, ps[j]? = some p ∧ PairAt s.heap p (.ref q.2.1) q.2.2
  | _, _, .nil => ⟨[], .nil, rfl, fun j q e => by simp at e⟩
  | _, _, .cons (a := p) (b := kv) h t => by
    obtain ⟨qs, r, hl, hq⟩ := pairs_there I t
    obtain ⟨b, h1, h2⟩ := h
    obtain ⟨_, its, rv, hT⟩ := (show ObjOk X.prog X.w H s.heap p (.tup [.ref b, kv.2]) from I.hok p _ h1)
    obtain ⟨u1, u2, rfl, r1, r2⟩ := vals2 rv
    obtain rfl : u1 = Value.ref b := r1
    refine ⟨(kv.1, b, u2) :: qs, .cons ⟨rfl, h2, r2⟩ r, by rw [List.length_cons, List.length_cons, hl], fun j q e => ?_⟩
    cases j with
    | zero =>
      have e' : (kv.1, b, u2) = q := by simpa using e
      subst e'
      exact ⟨p, rfl, .inl hT⟩
    | succ j =>
      obtain ⟨p', e1, e2⟩ := hq j q (by simpa using e)
      exact ⟨p', by simpa using e1, e2⟩
theorem keys_stay {qs : List (List L2.Key × Addr × Value)} {kvs : List KD} (I : Inv X pins σ H s) (r : KT H kvs qs) : ∀ x ∈ qs, (tupleKind (mixKind X.prog X.w)).is s.heap x.1 x.2.1 := by
  induction r with
  | nil => intro x hx; exact nomatch hx
  | @cons p q ps qs' h t ih =>
    intro x hx
    rcases List.mem_cons.mp hx with e | e
    · subst e
      exact key_of I.hok (by rw [← h.1]; exact h.2.1)
    · exact ih x e
theorem foldl_put_len {κ : Type} [DecidableEq κ] : ∀ (more kvs : List (κ × V)), (more.foldl (fun acc kv => putK acc kv.1 kv.2) kvs).length ≤ kvs.length + more.length
  | [], kvs => by simp
  | p :: more, kvs => by
    have h1 := foldl_put_len more (putK kvs p.1 p.2)
    have h2 : (putK kvs p.1 p.2).length ≤ kvs.length + 1 := by
      unfold putK
      split
      · rw [List.length_map]; omega
      · rw [List.length_append, List.length_singleton]; omega
    rw [List.foldl_cons, List.length_cons]
    omega
def rDictT : List V → Hp → VK → Prop := fun xs H Q => ∃ (a : Addr) (ps : List Addr) (kvs : List KD), xs = [.ref a] ∧ H a = some (.lst (ps.map V.ref)) ∧
  Paired (fun p (kv : KD) => ∃ b, H p = some (.tup [.ref b, kv.2]) ∧ H b = some (.tup (kv.1.map kV))) ps kvs ∧ ∀ p, H p = none → Q (.ref p) (upd H p (.dT (kvs.foldl (fun acc kv => putK acc kv.1 kv.2) [])))
theorem k_dictT (hc : X.calm = true) (hu : X.A.units + 64 < cLine) : CallR X (.type "dict") rDictT := by
  intro pins s σ H xs us Q I r q
  obtain ⟨a, ps, kvs, rfl, ha, hp, q⟩ := q
  obtain ⟨u, rfl, rx⟩ := vals1 r
  obtain rfl : u = Value.ref a := rx
  obtain ⟨its, rv, pl, hz⟩ := I.list (SqL.of ha)
  obtain rfl := refs_at rv
  rw [List.length_map] at hz
  obtain ⟨qs, rel, hl, hq⟩ := pairs_there I hp
  have hlen : kvs.length = qs.length := Paired.length rel
  have hkeys := keys_stay I rel
  have hm : (s.heap.objs.size == sysModules) = false := beq_eq_false_iff_ne.mpr (Nat.ne_of_gt I.big)
  obtain ⟨o, n, ho, hcl, hd, hdat⟩ := pl
  have P := PairArg.list (prog := X.prog) (w := X.w) a (ps.map Value.ref).toArray (fun j => ps.getD j 0) (qs.map fun q => (Value.ref q.2.1, q.2.2))
  refine call_dict_pairsH (knd := tupleKind (mixKind X.prog X.w)) (ps := qs) P (I.ok.hd hc) (show X.A.units + 1 + 1 < cLine by omega) ⟨⟨o, n, ho, hcl, hd, hdat⟩, ?_, fun j k v e => ?_⟩ ⟨?_, fun i key v e => ?_⟩ (fun h' hk x hx => ?_) ?_ fun h' tk dd hk => ?_
  · simp [hl]
  · rw [List.getElem?_map] at e
    cases eq : qs[j]? with
    | none => rw [eq] at e; cases e
    | some q0 =>
      rw [eq] at e
      cases e
      obtain ⟨p, e1, e2⟩ := hq j q0 eq
      have e3 : ps.getD j 0 = p := by rw [List.getD_eq_getElem?_getD, e1]; rfl
      show (ps.map Value.ref).toArray[j]? = some (Value.ref (ps.getD j 0)) ∧ PairAt s.heap (ps.getD j 0) (Value.ref q0.2.1) q0.2.2
      rw [e3]
      exact ⟨by simp [e1], e2⟩
  · rw [List.length_map]
  · have e' : (qs.map fun q => (Value.ref q.2.1, q.2.2))[i]? = some (key, v) := e
    rw [List.getElem?_map] at e'
    cases eq : qs[i]? with
    | none => rw [eq] at e'; cases e'
    | some q0 =>
      rw [eq] at e'
      cases e'
      exact ⟨q0.1, q0.2.1, rfl, rfl⟩
  · exact tupleKind_stays.stays (fun b o _ _ e _ => hk b o (Nat.ne_of_lt (Heap.lt_size e)) (by simp) e) (hkeys x hx)
  · rw [List.length_map, hl]; exact hz
  · obtain ⟨o', es, ep, hq1, h2, h3, h4, _, h5⟩ := dd
    have hf := I.hok.fresh (Nat.le_refl s.heap.objs.size)
    have hz2 : (kvs.foldl (fun acc kv => putK acc kv.1 kv.2) ([] : List KD)).length ≤ sizeLine := by
      refine Nat.le_trans (foldl_put_len kvs []) ?_
      rw [List.length_nil, Nat.zero_add, hlen, hl]
      exact hz
    have rel2 := KT.merge rel (.nil : KT H [] [])
    have rel3 := KT.keeps (H' := upd H s.heap.objs.size (.dT (kvs.foldl (fun acc kv => putK acc kv.1 kv.2) []))) rel2 fun b ys e => by
      rw [upd_ne (ne_of_none e hf)]
      exact e
    exact ⟨.ref s.heap.objs.size, upd H s.heap.objs.size (.dT (kvs.foldl (fun acc kv => putK acc kv.1 kv.2) [])), I.laid (t' := tk) (fun b u e => hk b u (by simp) e) (Nat.le_refl _) ⟨hz2, hm, _, rel3, o', es, ep, hq1, h2, h3, h4, h5⟩, rfl, q _ hf⟩

/-! ### d.pop(k), the key is there -/
def rPopT1 : V → List V → Hp → VK → Prop := fun x xs H Q => ∃ (a : Addr) (kvs : List KD) (k : List L2.Key) (b : Addr) (v : V), x = .ref a ∧ xs = [.ref b] ∧ H a = some (.dT kvs) ∧ H b = some (.tup (k.map kV)) ∧ valV kvs k = some v ∧ Q v (upd H a (.dT (dropK kvs k)))
theorem k_popT (hu : X.A.units + 1 < cLine) : MtR X "dict.pop" rPopT1 := by
  intro pins s σ H x xs v us Q I rx rxs h
  obtain ⟨a, kvs, k, b, v0, rfl, rfl, ha, hb, hv, q⟩ := h
  cases rx
  obtain ⟨u1, rfl, r1⟩ := vals1 rxs
  obtain rfl : u1 = Value.ref b := r1
  obtain ⟨z, hd, xs', rel, dd⟩ := dt_of I.hok ha
  have hz : xs'.length ≤ sizeLine := by rw [← Paired.length rel]; exact z
  have r := rel.val k
  rw [hv] at r
  obtain ⟨p, hp, rp⟩ : ∃ p, atKey xs' k = some p ∧ RelV v0 p.2 := by
    cases e : atKey xs' k with
    | none => rw [e] at r; exact (show False from r).elim
    | some p => rw [e] at r; exact ⟨p, rfl, r⟩
  refine call_pop_heap (hsz := hz) (more := []) (.inl rfl) (PySem.F.args_dict_pop_2 _ _) (tupleKind_room_in1 hu) (key_of I.hok hb) hd dd hp fun h' dd' hs => ?_
  obtain ⟨o, es, ep, hq, h2, h3, h4, _, h5⟩ := dd'
  exact ⟨v0, upd H a (.dT (dropK kvs k)), d_write I (by rw [ha]; exact True.intro) hs ⟨o, hq⟩ ⟨Nat.le_trans (dropK_le kvs k) z, hd, _, (L2.DX.KT_drop k rel).keeps (fun c ys ec => (by rw [upd_ne (ne_of ec ha (fun z => nomatch z))]; exact ec)), o, es, ep, hq, h2, h3, h4, h5⟩, rp, q⟩
/-! ### dict(d), d's keys tuples whose hashes differ -/
theorem call_copyDT {prog : Program} {w : World} {κ : Type} [DecidableEq κ] {knd : HeapKind prog w κ} {A : Around} {E : Value → Shared → Prop} {s : Shared} {o : Addr} {more : List (κ × Addr × Value)} {Q : Value → Shared → Prop} (st : knd.Stays) (hu : knd.room A.in1.in1) (hoS : (o == sysModules) = false)
    (ho : s.heap.DictOfH knd o more) (hap : (more.map fun x => knd.hash x.1).Nodup) (hsz : more.length ≤ sizeLine)
    (h : ∀ h', h'.DictOfH knd s.heap.objs.size more → (∀ b u, s.heap.get? b = some u → h'.get? b = some u) → Q (.ref s.heap.objs.size) { s with heap := h' }) : wpAny (model prog w) A (call (.type "dict") [.ref o]) Q E s := by
  let s2 : Shared := { s with heap := s.heap.push { cls := .type "dict", data := .dict #[] } }
  refine callType_codes (Q₁ := fun obj s₁ => obj = .ref s.heap.objs.size ∧ s₁ = s2) F.kt_called_dict (F.kt_typeCall_dict_1 _) F.entry_dict_init (kt_code_dict_new _ ⟨rfl, rfl⟩) fun obj s₁ ⟨e1, e2⟩ => ?_
  subst e1 e2
  have hnew : s2.heap.DictOfH knd s.heap.objs.size [] := Heap.DictOfH.new s.heap
  have hkp : ∀ b u, s.heap.get? b = some u → s2.heap.get? b = some u := fun b u e => Heap.get?_push_of_some _ e
  obtain ⟨o0, es, ep, g1, g2, g3, g4, g5, g6⟩ := id ho
  have ho' : s2.heap.DictOfH knd o more := ⟨o0, es, ep, hkp _ _ g1, g2, g3, g4, fun x hx => st.stays (fun b u _ _ e _ => hkp b u e) (g5 x hx), g6⟩
  have hdo : s.heap.objs.size ≠ o := fun e => absurd (Heap.lt_size g1) (by rw [e]; exact Nat.lt_irrefl _)
  refine ⟨hnew.typeIs, F.args_dict_init_2 _ _, ?_⟩
  unfold Builtin.«dict.__init__»
  refine wpAny_bind ?_
  unfold Builtin.Dict.selfAndRest
  refine wpAny_bind (wpAny_notOrdered_dict hnew.typeIs ?_)
  show wpAny _ _ (pure (s.heap.objs.size, [Value.ref o])) _ _ s2
  refine wpAny_pure (updateFrom_dictH (A := A.in1) .none hu hdo hoS hnew ho' (.inr ⟨fun x hx => st.tuple (s := s2) (st.stays (fun b u _ _ e _ => hkp b u e) (g5 x hx)), hap⟩) (by simpa using hsz) fun h' hd' _ hs => ?_)
  rw [storedAllH_nil_of_nodup more g6] at hd'
  exact ⟨rfl, h h' hd' fun b u e => (hs.2 b (Nat.ne_of_lt (Heap.lt_size e))).trans (hkp b u e)⟩
def rCopyT : List V → Hp → VK → Prop := fun xs H Q => ∃ (a : Addr) (kvs : List KD), xs = [.ref a] ∧ H a = some (.dT kvs) ∧ (∀ (P : Program) (w : World), (kvs.map fun kv => (tupleKind (mixKind P w)).hash kv.1).Nodup) ∧ ∀ p, H p = none → Q (.ref p) (upd H p (.dT kvs))
theorem k_copyT (hu : X.A.units + 64 < cLine) : CallR X (.type "dict") rCopyT := by
  intro pins s σ H xs us Q I r q
  obtain ⟨a, kvs, rfl, ha, hh, q⟩ := q
  obtain ⟨u, rfl, rx⟩ := vals1 r
  obtain rfl : u = Value.ref a := rx
  obtain ⟨z, hd, qs, rel, dd⟩ := dt_of I.hok ha
  have hlen : kvs.length = qs.length := Paired.length rel
  have ek : ∀ {l : List KD} {m : List (List L2.Key × Addr × Value)}, KT H l m → (m.map fun x => (tupleKind (mixKind X.prog X.w)).hash x.1) = l.map fun kv => (tupleKind (mixKind X.prog X.w)).hash kv.1 := by
    intro l m h
    induction h with
    | nil => rfl
    | @cons p q ps qs h t ih => rw [List.map_cons, List.map_cons, ih, h.1]
  have hm : (s.heap.objs.size == sysModules) = false := beq_eq_false_iff_ne.mpr (Nat.ne_of_gt I.big)
  refine call_copyDT tupleKind_stays (show X.A.units + 1 + 1 < cLine by omega) hd dd (by rw [ek rel]; exact hh _ _) (by rw [← hlen]; exact z) fun h' dd' hk => ?_
  obtain ⟨o', es, ep, hq1, h2, h3, h4, _, h5⟩ := dd'
  have hf := I.hok.fresh (Nat.le_refl s.heap.objs.size)
  have rel3 := KT.keeps (H' := upd H s.heap.objs.size (.dT kvs)) rel fun b ys e => by
    rw [upd_ne (ne_of_none e hf)]
    exact e
  exact ⟨.ref s.heap.objs.size, upd H s.heap.objs.size (.dT kvs), I.laid (t' := s.toks) hk (Nat.le_refl _) ⟨z, hm, qs, rel3, o', es, ep, hq1, h2, h3, h4, h5⟩, rfl, q _ hf⟩
end
end KPR
set_option Elab.async false
set_option linter.all false
set_option maxRecDepth 100000
set_option maxHeartbeats 4000000
/-! KR3: a list against []; d.update(e); set(a list of ints). -/
namespace KPR
open PySem PySem.Spec PyProof.Rows L2
section
variable {X : Cx}
/-- xs != [] -/
def rNeL : R2 := fun x y H Q => ∃ (a b : Addr) (xs : List V), x = .ref a ∧ y = .ref b ∧ H a = some (.lst xs) ∧ H b = some (.lst []) ∧ Q (.bl (!xs.isEmpty)) H
theorem k_neL (hu : X.A.units + 64 < cLine) : OpR X (compareOp .NotEq) rNeL := by
  intro pins s σ H x y v u Q I rx ry h
  obtain ⟨a, b, xs, rfl, rfl, ha, hb, q⟩ := h
  cases rx
  cases ry
  obtain ⟨its, rv, pl, hz⟩ := I.list (SqL.of ha)
  obtain ⟨its2, rv2, pl2, hz2⟩ := I.list (SqL.of hb)
  cases rv2
  have hu' : X.A.units < cLine := by omega
  cases xs with
  | nil =>
    cases rv
    exact SeqAt.RcNeAt.lists (e := fun _ => true) pl.isList pl2.isList rfl hu' (fun j h1 => nomatch h1) X.prog X.w X.xe _ ⟨.bl false, H, I, rfl, q⟩
  | cons z zs =>
    cases rv with
    | cons r1 r2 => exact SeqAt.RcNeAt.lists_lengths pl.isList pl2.isList rfl hu' X.prog X.w X.xe _ ⟨.bl true, H, I, rfl, q⟩

/-! ### d.update(e), keys ints and texts -/
def rUpdate : V → List V → Hp → VK → Prop := fun x xs H Q => ∃ (a b : Addr) (kvs more : List (Key × V)), x = .ref a ∧ xs = [.ref b] ∧ H a = some (.dK kvs) ∧ H b = some (.dK more) ∧ a ≠ b ∧ kvs.length + more.length ≤ 100000 ∧ Q .non (upd H a (.dK (mergeK kvs more)))
theorem k_update : MtR X "dict.update" rUpdate := by
  intro pins s σ H x xs v us Q I rx rxs h
  obtain ⟨a, b, kvs, more, rfl, rfl, ha, hb, hab, hz, q⟩ := h
  cases rx
  obtain ⟨u1, rfl, r1⟩ := vals1 rxs
  obtain rfl : u1 = Value.ref b := r1
  obtain ⟨z, hd, vs, rel, dd⟩ := dk_of I.hok ha
  obtain ⟨z2, hd2, vs2, rel2, dd2⟩ := dk_of I.hok hb
  have l1 := KV.length rel
  have l2 := KV.length rel2
  refine call_meetsIn PySem.F.slot_dict_update dd.typeIs PySem.F.entry_dict_update (PySem.F.args_dict_update_2 _ _) (meets_dict_update (mixKind X.prog X.w) a b hab hd2) ⟨vs, vs2, dd, dd2, szl (by omega), fun h' d1 d2 hs => ?_⟩
  have hz3 : (mergeK kvs more).length ≤ sizeLine := by
    have := length_mergeK more kvs
    exact szl (by omega)
  exact ⟨.non, upd H a (.dK (mergeK kvs more)), d_write (t' := s.toks) I (by rw [ha]; exact True.intro) hs (let ⟨o, _, _, ho, _⟩ := d1; ⟨o, ho⟩) (dk_new hz3 hd (rel2.merge rel) d1), rfl, q⟩

/-! ### set(a list of ints) -/
abbrev newS (w : World) : Obj := { cls := .type "set", dict := none, data := .set #[] 0 (.fresh 0 0 (!w.params.followText "set-order")) }
theorem call_set_listI {P : Program} {w : World} {A : Around} {E : Value → Shared → Prop} {s : Shared} {l : Addr} {items : Array Value} (ns : List Int) {Q : Value → Shared → Prop} (hh : A.handled = none) (hl : s.heap.IsList l items) (hit : IntsAre items.toList ns) (hb : ns.length + 1 < scanBound)
    (h : ∀ (h' : Heap) (tk c : Nat), SetR w h' s.heap.objs.size (fun j => decide (j ∈ ns)) c → c ≤ ns.length → (∀ b o, s.heap.get? b = some o → h'.get? b = some o) → Q (.ref s.heap.objs.size) { s with heap := h', toks := tk }) :
    wpAny (model P w) A (call (.type "set") [.ref l]) Q E s := by
  have hisz : items.size = ns.length := by rw [← IntsAre.length hit, Array.length_toList]
  obtain ⟨c, tl, hmro⟩ := F.called_set.mro
  have hmade := F.called_set.made; have hsub := F.called_set.sub
  refine wpAny_call (codeAny_of_tree (show wpAny _ _ (callAny (.type "set") _) _ _ _ from wpAny_pure ⟨Code.quiet_builtin _ (by decide +kernel), codeAny_builtin F.entry_type_call ?_⟩))
  rw [Around.under_plain (weight_type_call_type "set" [.ref l] []) rfl]
  have h1 := F.called_set.notType; have h2 := F.called_set.canCreate; have hct := F.typeCall_set_1 (.ref l)
  repeat (any_goals (first | assumption | wp_step))
  refine codeAny_mono (code_set_led1 (.ref l) (E := E) (Q₁ := fun obj s₁ => obj = .ref s.heap.objs.size ∧ s₁ = { s with heap := s.heap.push (newS w) }) ⟨rfl, rfl⟩) fun r s₁ hr => ?_
  cases r with
  | error e => exact hr
  | ok fl =>
    cases fl with
    | ret obj =>
      obtain ⟨rfl, rfl⟩ := hr
      have hS : (s.heap.push (newS w)).get? s.heap.objs.size = some (newS w) := Heap.get?_push_size _ rfl
      have hT : Shared.TypeIs { s with heap := s.heap.push (newS w) } (.ref s.heap.objs.size) "set" := ⟨_, hS, rfl⟩
      have hli := F.called_set.init.lookup; have hbi := F.called_set.init.bind (.ref s.heap.objs.size)
      repeat (any_goals (first | assumption | wp_step))
      refine codeAny_mono (codeAny_call_builtin (R := wants (fun r s₂ => r = .none ∧ ∃ h' tk c, s₂ = { s with heap := h', toks := tk } ∧ SetR w h' s.heap.objs.size (fun j => decide (j ∈ ns)) c ∧ c ≤ ns.length ∧ (∀ b o, s.heap.get? b = some o → h'.get? b = some o)) E) F.called_set.init.plain F.entry_set_init (check_set_init_1 hT ?_)) fun r₂ s₂ hr₂ => ?_
      · obtain ⟨ol, hol, hcl, nl, hdl⟩ := hl
        obtain ⟨ocls, odict, odata, oslots⟩ := ol
        simp only at hcl hdl; subst hcl; subst hdl
        have hol' : (s.heap.push (newS w)).get? l = some { cls := .type "list", dict := odict, data := .seq items nl, slots := oslots } := Heap.get?_push_of_some _ hol
        have hsls := F.sub_list_set; have hslf := F.sub_list_frozenset
        have hne : (Value.type "list" == Value.type "dict") = false := by decide
        have hl1 : (s.heap.push (newS w)).IsList l items := ⟨_, hol', rfl, nl, rfl⟩
        unfold Builtin.«set.__init__» noKeywords Builtin.Frozenset.updateFrom
        generalize hPI : pyIter = PI
        wp_walk
        subst hPI
        refine wpAny_pyIter_list hl1 (wpAny_bind (wpAny_runValue ?_))
        have hlS : l < s.heap.objs.size := Heap.lt_size hol
        have hh3 : A.in1.in1.in1.handled = none := by simp [hh]
        have hz1 : (s.heap.push (newS w)).objs.size = s.heap.objs.size + 1 := Heap.size_push ..
        have hneI : l ≠ (s.heap.push (newS w)).objs.size := by rw [Heap.size_push]; exact Nat.ne_of_lt (Nat.lt_succ_of_lt hlS)
        have hSf : s.heap.objs.size ∉ [(s.heap.push (newS w)).objs.size, l] := by
          rw [Heap.size_push]; simp only [List.mem_cons, List.not_mem_nil, or_false, not_or]; exact ⟨Nat.ne_of_lt (Nat.lt_succ_self _), Nat.ne_of_gt hlS⟩
        have hval : ∀ (i : Nat) (v : Value), items[i]? = some v → ∃ k t, ns[i]? = some k ∧ v = .int k t := fun i v hv => by
          have hi : i < ns.length := hisz ▸ (Array.getElem?_eq_some_iff.mp hv).1
          obtain ⟨t, e⟩ := PyProof.Rows.IntsAre.int_at hit i v (by rw [Array.getElem?_toList]; exact hv)
          exact ⟨ns[i], t, List.getElem?_eq_getElem hi, by rw [e, List.getD_eq_getElem?_getD, List.getElem?_eq_getElem hi] <;> rfl⟩
        refine set_update_ints ((Walks.list hh3 _ l hneI items).toS) s.heap.objs.size hSf ns hisz hb hval (items.size - 0) 0 _ (by omega) (Nat.zero_le _) ⟨⟨_, Heap.get?_push_size _ rfl, rfl, rfl⟩, (hl1.push _)⟩ ⟨0, Nat.le_refl 0, setR_new_at (Heap.get?_push_of_some _ hS)⟩ fun s' c' hm hc' hS' => ?_
        obtain ⟨h', g2, d', tk', os'⟩ := s'
        obtain rfl : g2 = s.gens := hm.gens
        obtain rfl : d' = s.drawn := hm.drawn
        obtain rfl : os' = s.os := hm.os
        show wpAny _ _ _ _ _ _
        rw [hisz] at hc'
        refine wpAny_pure (show wpAny _ _ (ret Value.none) _ _ _ from wpAny_pure ⟨rfl, h', tk', c', rfl, hS', hc', fun b o e => ?_⟩)
        have hb0 : b < s.heap.objs.size := Heap.lt_size e
        have hb2 : b ≠ (s.heap.push (newS w)).objs.size := by rw [Heap.size_push]; exact Nat.ne_of_lt (Nat.lt_succ_of_lt hb0)
        exact hm.heap b o (by simp only [List.mem_cons, List.not_mem_nil, or_false, not_or]; exact ⟨Nat.ne_of_lt hb0, hb2⟩) (Heap.get?_push_of_some _ (Heap.get?_push_of_some _ e))
      · cases r₂ with
        | error e => exact hr₂
        | ok fl₂ =>
          cases fl₂ with
          | ret r =>
            obtain ⟨rfl, h', tk, c, rfl, hS', hc', hk'⟩ := hr₂
            repeat (any_goals (first | assumption | wp_step))
            exact h _ _ _ hS' hc' hk'
          | _ => exact hr₂.elim
    | _ => exact hr.elim
/-- set(xs): its members -/
def rSetI (K : PySem.W.Frag) (w : World) : List V → Hp → VK → Prop := fun xs H Q => ∃ (a : Addr) (ns : List Int), xs = [.ref a] ∧ SqL K H a (ns.map V.int) ∧ ns.length ≤ 60 ∧ ∀ p c, H p = none → c ≤ ns.length → Q (.ref p) (upd H p (SetO w p (fun j => decide (j ∈ ns)) c))
theorem k_setI {K : PySem.W.Frag} {w : World} (hc : X.calm = true) (hK : X.K = K := by rfl) (hw : X.w = w := by rfl) : CallR X (.type "set") (rSetI K w) := by
  subst hK hw
  intro pins s σ H xs us Q I r h
  obtain ⟨a, ns, rfl, hs, hn, q⟩ := h
  obtain ⟨u, rfl, rx⟩ := vals1 r
  obtain rfl : u = Value.ref a := rx
  obtain ⟨its, rv, pl, hz⟩ := I.list hs
  have hi : IntsAre its.toArray.toList ns := by simpa using rv.ints
  refine call_set_listI ns (I.ok.hd hc) pl.isList hi (by unfold scanBound; omega) fun h' tk c R hcn hk => ?_
  exact ⟨.ref s.heap.objs.size, upd H s.heap.objs.size (SetO X.w s.heap.objs.size (fun j => decide (j ∈ ns)) c), I.laid (t' := tk) hk (Nat.le_refl _) (setO_new R), rfl, q _ _ (I.hok.fresh (Nat.le_refl _)) hcn⟩
end
end KPR
set_option Elab.async false
set_option linter.all false
set_option maxRecDepth 100000
set_option maxHeartbeats 4000000
/-! KR4: sorted(a dict whose keys are pairs); sorted(ties, key=a def). -/
namespace KPR
open PySem PySem.Spec PyProof.Rows L2
/-! ### pairs in order -/
def pc (p : Nat × Nat) : Int := (p.1 : Int) * 1000 + (p.2 : Int)
def rdP (H : Hp) (b : Addr) : Nat × Nat := match H b with
  | some (.tup [.int i, .int j]) => (i.toNat, j.toNat)
  | _ => (0, 0)
theorem rdP_at {H : Hp} {b : Addr} {p : Nat × Nat} (h : H b = some (.tup ((kP p).map kV))) : rdP H b = p := by
  unfold rdP
  rw [h]
  show ((p.1 : Int).toNat, (p.2 : Int).toNat) = p
  simp
section
variable {X : Cx}
/-- sorted(d): its keys, in order -/
def rSortDT : List V → Hp → VK → Prop := fun xs H Q => ∃ (a : Addr) (kvs : List KD) (c : List (Nat × Nat)), xs = [.ref a] ∧ H a = some (.dT kvs) ∧ kvs.map (·.1) = c.map kP ∧ c.length < 64 ∧ (∀ p ∈ c, p.1 < 1000 ∧ p.2 < 1000) ∧
  ∀ (bs : List Addr) (p : Addr), (bs.map (rdP H)).Perm c → (bs.map (rdP H)).Pairwise (fun p q => pc p ≤ pc q) → (∀ b ∈ bs, H b = some (.tup ((kP (rdP H b)).map kV))) → H p = none → Q (.ref p) (upd H p (.lst (bs.map V.ref)))
theorem code2 (p : Nat × Nat) : TS.code 1000 [(p.1 : Int), (p.2 : Int)] = pc p := by
  unfold pc
  show (p.1 : Int) * 1000 ^ 1 + ((p.2 : Int) * 1000 ^ 0 + 0) = _
  simp
theorem k_sortDT (hc : X.calm = true) : CallR X (.builtin "sorted") rSortDT := by
  intro pins s σ H xs us Q I r q
  obtain ⟨a, kvs, c, rfl, ha, hkc, h64, hb, q⟩ := q
  obtain ⟨u, rfl, rx⟩ := vals1 r
  obtain rfl : u = Value.ref a := rx
  obtain ⟨z, hs, ks, pr, o, es, ep, ho, hx, hdt, he, hn⟩ := (show ObjOk X.prog X.w H s.heap a (.dT kvs) from I.hok a _ ha)
  have l1 : es.size = ks.length := size_of_entries he
  have l2 : kvs.length = ks.length := Paired.length pr
  have l3 : kvs.length = c.length := by
    have := congrArg List.length hkc
    rwa [List.length_map, List.length_map] at this
  have ik := isKeys_of pr
  -- the keys' tuples
  have kt : ∀ {l : List KD} {m : List (List L2.Key × Addr × Value)} {d : List (Nat × Nat)}, KT H l m → l.map (·.1) = d.map kP → (m.map fun x => rdP H x.2.1) = d ∧ ∀ x ∈ m, H x.2.1 = some (.tup ((kP (rdP H x.2.1)).map kV)) := by
    intro l m d h
    induction h generalizing d with
    | nil =>
      intro e
      cases d with
      | nil => exact ⟨rfl, fun x hx => nomatch hx⟩
      | cons _ _ => exact nomatch e
    | @cons p q ps qs h t ih =>
      intro e
      cases d with
      | nil => exact nomatch e
      | cons d0 d =>
        rw [List.map_cons, List.map_cons] at e
        injection e with e1 e2
        obtain ⟨i1, i2⟩ := ih e2
        have h1 : H q.2.1 = some (.tup ((kP d0).map kV)) := by rw [← e1]; exact h.2.1
        have h2 : rdP H q.2.1 = d0 := rdP_at h1
        refine ⟨by rw [List.map_cons, h2, i1], fun x hx => ?_⟩
        rcases List.mem_cons.mp hx with e | e
        · rw [e, h2]; exact h1
        · exact i2 x e
  obtain ⟨k1, k2⟩ := kt pr hkc
  refine Calls.call_function_entry PyProof.Rows.kind_sorted PyProof.Rows.plain_sorted PyProof.Rows.entry_sorted (PyProof.Rows.args_sorted1 _) ?_
  unfold Builtin.«sorted»
  refine wpAny_bind (m := checkCount "sorted" 1 1 _) (wpAny_pure ?_)
  refine wpAny_bind (PySem.W.kdu_collect (A := X.A.in1) (kdl_raw hs hx hdt) (I.ok.hd hc) ho (by omega) fun h' tk acc hk hacc => ?_)
  have ea : acc.toList = (ks.map fun x => x.2.1).map Value.ref := by
    rw [List.map_map]
    have hl : acc.toList.length = ks.length := by rw [Array.length_toList, hacc.1]; exact l1
    apply List.ext_getElem?
    intro j
    rw [List.getElem?_map]
    cases hj : acc.toList[j]? with
    | none =>
      have h1 := List.getElem?_eq_none_iff.mp hj
      rw [List.getElem?_eq_none (by omega)]
      all_goals rfl
    | some v =>
      obtain ⟨en, hen, hv⟩ := hacc.2 j v (by rw [← Array.getElem?_toList]; exact hj)
      have qe := entry_at he j
      rw [hen] at qe
      cases hb : ks[j]? with
      | none =>
        rw [hb] at qe
        exact nomatch (show some en = none from qe)
      | some b =>
        rw [hb] at qe
        have e2 : en = entryOfKey (tupleKind (mixKind X.prog X.w)) b := Option.some.inj qe
        rw [hv, e2]
        all_goals rfl
  have I1 : Inv X pins σ H { s with heap := h', toks := tk } := I.kept hk
  have hal : acc.toList.length = c.length := by rw [ea, List.length_map, List.length_map]; omega
  refine wpAny_bind (wpAny_newList ?_ (by rw [hal, sizeLine_eq]; omega))
  have hoL : (h'.push (seqObj "list" acc.toList.toArray 0)).get? h'.objs.size = some (seqObj "list" acc.toList.toArray 0) := Heap.get?_push_size _ rfl
  have memc : ∀ x ∈ ks, rdP H x.2.1 ∈ c := fun x hx => by
    rw [← k1]
    exact List.mem_map.mpr ⟨x, hx, rfl⟩
  -- at any heap that keeps the tuples
  have tup : ∀ (h2 : Heap), (∀ b o, h'.get? b = some o → h2.get? b = some o) → ∀ x ∈ ks, TS.TupInts h2 (.ref x.2.1) [((rdP H x.2.1).1 : Int), ((rdP H x.2.1).2 : Int)] := fun h2 keep x hx => by
    obtain ⟨_, ts, rt, o, ho, hc, n, hd⟩ := (show ObjOk X.prog X.w H h' x.2.1 (.tup ((kP (rdP H x.2.1)).map kV)) from I1.hok _ _ (k2 x hx))
    refine ⟨_, ts.toArray, rfl, ⟨o, keep _ _ ho, hc, n, hd⟩, ?_⟩
    obtain ⟨u1, u2, e, r1, r2⟩ := vals2 (show Vals [V.int ((rdP H x.2.1).1 : Int), V.int ((rdP H x.2.1).2 : Int)] ts from rt)
    subst e
    obtain ⟨t1, rfl⟩ := r1
    obtain ⟨t2, rfl⟩ := r2
    exact .cons _ _ (.cons _ _ .nil)
  have bd : ∀ x ∈ ks, TS.Bd 1000 [((rdP H x.2.1).1 : Int), ((rdP H x.2.1).2 : Int)] := fun x hx m hm => by
    obtain ⟨b1, b2⟩ := hb _ (memc x hx)
    simp at hm
    rcases hm with e | e <;> rw [e] <;> omega
  have mem : ∀ v ∈ acc.toList, ∃ x ∈ ks, v = .ref x.2.1 := fun v hv => by
    rw [ea, List.map_map] at hv
    obtain ⟨x, hx, e⟩ := List.mem_map.mp hv
    exact ⟨x, hx, e.symm⟩
  let rk : Value → Int := fun v => match v with
    | .ref b => pc (rdP H b)
    | _ => 0
  show wpAny _ _ _ _ _ { s with heap := h'.push (seqObj "list" acc.toList.toArray 0), toks := tk }
  refine wpAny_bind (wpAny_holding (wpAny_call_entry PyProof.Rows.slot_list_sort ⟨_, hoL, rfl⟩ PyProof.Rows.entry_list_sort
    (TS.sort_tups (d := 2) (B := 1000) (s := { s with heap := h'.push (seqObj "list" acc.toList.toArray 0), toks := tk }) hoL (by omega) (by decide) (fun v hv => ?_) rk (fun v hv ns t => ?_) fun out a1 a2 => ⟨_, rfl, ?_⟩) (PyProof.Rows.args_list_sort _)))
  · obtain ⟨x, hx, rfl⟩ := mem v hv
    exact ⟨_, tup _ (fun b o e => Heap.get?_push_of_some _ e) x hx, rfl, bd x hx⟩
  · obtain ⟨x, hx, rfl⟩ := mem v hv
    have e : ns = [((rdP H x.2.1).1 : Int), ((rdP H x.2.1).2 : Int)] := t.ints.symm.trans (tup _ (fun b o e => Heap.get?_push_of_some _ e) x hx).ints
    rw [e, code2]
  · obtain ⟨e', he'⟩ := PyProof.Rows.sortedHeap_at (vs := acc.toList) (out := out) hoL
    rw [ea] at a1
    obtain ⟨bs, pb, eb⟩ := perm_lift Value.ref a1 _ rfl
    have pk : (bs.map (rdP H)).Perm c := by
      have := pb.map (rdP H)
      rw [List.map_map] at this
      rw [← k1]
      exact this
    have hbs : ∀ b ∈ bs, H b = some (.tup ((kP (rdP H b)).map kV)) := fun b hb => by
      obtain ⟨x, hx, e⟩ := List.mem_map.mp (pb.mem_iff.mp hb)
      rw [← e]
      exact k2 x hx
    have hlen : (bs.map V.ref).length ≤ sizeLine := by
      have := pk.length_eq
      rw [List.length_map] at this
      rw [List.length_map, this]
      exact Nat.le_trans (Nat.le_of_lt h64) (by decide)
    have pw : (bs.map (rdP H)).Pairwise (fun p q => pc p ≤ pc q) := by
      rw [← eb, List.pairwise_map] at a2
      rw [List.pairwise_map]
      exact a2
    refine wpAny_pure ⟨_, rfl, .ref h'.objs.size, upd H h'.objs.size (.lst (bs.map V.ref)), I1.laid (t' := tk) (fun b u e => ?_) (Nat.le_refl _)
      (show ObjOk X.prog X.w _ _ _ (.lst (bs.map V.ref)) from ⟨hlen, out.toList, e', by rw [← eb]; exact vals_refs bs, by rw [Array.toArray_toList]; exact he'⟩), rfl, q bs _ pk pw hbs (I1.hok.fresh (Nat.le_refl _))⟩
    have hb : b < h'.objs.size := Heap.lt_size e
    rw [PyProof.Rows.sortedHeap_old (Nat.ne_of_lt hb) (by rw [size_push']; exact Nat.lt_succ_of_lt hb)]
    exact Heap.get?_push_of_some _ e
end
end KPR
set_option Elab.async false
set_option linter.all false
set_option maxRecDepth 100000
set_option maxHeartbeats 4000000
/-! KR5: sorted(ties, key=a def). -/
namespace KPR
open PySem PySem.Spec PyProof.Rows L2
section
variable {X : Cx}
def dKey (t : Tie) : PyData := .tuple [.int (-t.2.2), .int (t.1 : Int), .int (t.2.1 : Int)]
/-- the ties in the order of their keys -/
def byW (ts : List Tie) : List Tie := ts.mergeSort (PySem.W.dataLe false dKey)
/-- a def's name, as an argument -/
def tGd (mg : Str → Option Value) (x : Str) : TE := fun _ H Q => ∀ f : Addr, mg x = some (.ref f) → Q (.ref f) H
theorem k_gdef {P : Program} {w : World} {K : PySem.W.Frag} {mg : Str → Option Value} {base : Heap} {x : Str} {k : Nat} {ps : List Str} {sp : Sp} {pos : Pos} (T : DefT P w K mg base x k ps sp) (hg : Gl X x) (hM : X.mg = mg := by rfl) (hd : (x == ("__debug__" : Str)) = false := by decide) : PE X (.Name x pos) (tGd mg x) := by
  subst hM
  obtain ⟨f, fd, F, g, kp, b⟩ := T.ex
  exact ⟨fun _ _ _ H _ I h => ld_glob I hg g ⟨.ref f, H, I, rfl, h f g⟩ hd⟩
/-- sorted(ts, key=x) -/
def rSortKey (K : PySem.W.Frag) (mg : Str → Option Value) (x : Str) (sp : Sp) : List V → List V → Hp → VK → Prop := fun vs zs H Q => ∃ (a f : Addr) (B : Hp) (xs : List V) (ts : List Tie), vs = [.ref a] ∧ zs = [.ref f] ∧ mg x = some (.ref f) ∧ Ex B H ∧ SqL K H a xs ∧ DA B xs (ts.map dTie) ∧ ts.length ≤ 1000 ∧
  (∀ (t : Tie) v B' H', Gro B H B' H' → D B' v (dTie t) → ∀ R : VK, (∀ y B'' H'', Gro B' H' B'' H'' → D B'' y (dKey t) → R y H'') → sp [v] H' R E0) ∧
  ∀ (ys : List V) (p : Addr) B' H', Gro B H B' H' → H' p = none → DA B' ys ((byW ts).map dTie) → Q (.ref p) (upd H' p (.lst ys))
theorem each_of_get {α β : Type} {R : α → β → Prop} : ∀ {as : List α} {bs : List β}, as.length = bs.length → (∀ (i : Nat) a b, as[i]? = some a → bs[i]? = some b → R a b) → PySem.W.EachIs R as bs
  | [], [], _, _ => .nil
  | a :: as, b :: bs, hl, h => .cons (h 0 a b rfl rfl) (each_of_get (by simpa using hl) fun i x y e1 e2 => h (i + 1) x y (by simpa using e1) (by simpa using e2))
  | [], _ :: _, hl, _ => by simp at hl
  | _ :: _, [], hl, _ => by simp at hl
theorem vals_of_each {α : Type} {f : α → V} : ∀ {us : List Value} {bs : List α}, PySem.W.EachIs (fun u b => RelV (f b) u) us bs → Vals (bs.map f) us
  | _, _, .nil => .nil
  | _, _, .cons h t => .cons h (vals_of_each t)
theorem da_map {B : Hp} {α : Type} {f : α → V} {g : α → PyData} : ∀ {l : List α}, (∀ x ∈ l, D B (f x) (g x)) → DA B (l.map f) (l.map g)
  | [], _ => .nil
  | a :: l, h => .cons (h a List.mem_cons_self) (da_map fun x hx => h x (List.mem_cons_of_mem _ hx))
theorem k_sortKey {P : Program} {w : World} {K : PySem.W.Frag} {mg : Str → Option Value} {base : Heap} {x y : Str} {k m : Nat} {sp : Sp} (hc : X.calm = true) (T : DefT P w K mg base x k [y] sp) (hr : Room m X.A) (hX : Is X P w K mg base := by exact ⟨rfl, rfl, rfl, rfl, rfl⟩) (hk : k + 2 ≤ m := by decide) :
    CallRK X (.builtin "sorted") [Str.ofString "key"] (rSortKey K mg x sp) := by
  intro pins s σ H vs zs us ws Q I r rz h
  obtain ⟨f, fd, F, g, kp, bi⟩ := T.ex
  obtain ⟨rfl, rfl, rfl, rfl, rfl⟩ := hX
  obtain ⟨a, f', B, xs, ts, rfl, rfl, gf, e0, hs, da, hz, turn, q⟩ := h
  rw [g] at gf
  cases gf
  obtain rfl := Vals.ref1 r
  obtain ⟨w1, rfl, ew⟩ := vals1 rz
  obtain rfl : w1 = Value.ref f := ew
  obtain ⟨its, rv, pl, hz0⟩ := I.list hs
  have lx : xs.length = ts.length := by have := da.len; rwa [List.length_map] at this
  have li : its.length = ts.length := by rw [← rv.length]; exact lx
  have hZ : its.length ≤ sizeLine := szl (by omega)
  have hsk : PySem.W.Sortable (ts.map dKey) := PySem.W.Sortable.tuples fun t => ⟨_, _, rfl⟩
  have hal : PySem.W.AllAlike (ts.map dKey) := PySem.W.AllAlike.of fun t t' => rfl
  refine PySem.W.sorted_of_sort pl.isList hZ (PyProof.Rows.ksk_s1 _ _) (fun _ => PyProof.Rows.ksk_l1 _ _) fun E' => ?_
  show wpAny _ _ (Builtin.«list.sort» ⟨[.ref (s.heap.objs.size + 1)], [(Str.ofString "key", .ref f)]⟩) _ _ _
  rw [PyProof.Rows.ksk_t1]
  -- the new list
  have copy_old : ∀ b o, s.heap.get? b = some o → (PySem.W.copyHeap s.heap its).get? b = some o := fun b o e => PySem.W.copyHeap_old e
  have ho := PySem.W.copyHeap_at s.heap its
  generalize hL : s.heap.objs.size + 1 = L at ho ⊢
  generalize hC : PySem.W.copyHeap s.heap its = hp0 at copy_old ho ⊢
  have I0 : Inv X pins σ H { s with heap := hp0, toks := s.toks } := I.kept copy_old
  have fL : FpOk X pins H L := I.fpOk (by omega) (I.hok.fresh (by omega))
  have ha : L < hp0.objs.size := Heap.lt_size ho
  obtain ⟨e1, ho1⟩ : ∃ e1, (hp0.update L (Obj.mapSeq fun _ => (#[] : Array Value))).get? L = some (seqObj "list" #[] e1) := ⟨_, get?_update_seq ho fun _ => #[]⟩
  have hkS : ((hp0.update L (Obj.mapSeq fun _ => (#[] : Array Value))).push (seqObj "tuple" its.toArray 0)).objs.size = hp0.objs.size + 1 := by rw [size_push', Heap.size_update]
  unfold ksk_tree
  refine wpAny_bind (listItems_at ho rfl ?_)
  refine wpAny_bind (listUpdate_at ho rfl ?_ (by rw [List.size_toArray]; exact hZ) (Nat.zero_le _))
  refine wpAny_bind (seqEpoch_at ho1 rfl ?_)
  refine wpAny_bind (wpAny_newTuple ?_ (by show its.length ≤ _; exact hZ))
  refine wpAny_bind (wpAny_newList ?_ (Nat.zero_le _))
  refine wpAny_holding ?_
  have kp1 : ∀ b o, b ≠ L → hp0.get? b = some o → (((hp0.update L (Obj.mapSeq fun _ => (#[] : Array Value))).push (seqObj "tuple" its.toArray 0)).push (seqObj "list" #[] 0)).get? b = some o := fun b o hb e => PySem.W.sortingHeap_old hb e
  have na1 : (((hp0.update L (Obj.mapSeq fun _ => (#[] : Array Value))).push (seqObj "tuple" its.toArray 0)).push (seqObj "list" #[] 0)).get? L = some (seqObj "list" #[] e1) := Heap.get?_push_of_some _ (Heap.get?_push_of_some _ ho1)
  have nk1 : (((hp0.update L (Obj.mapSeq fun _ => (#[] : Array Value))).push (seqObj "tuple" its.toArray 0)).push (seqObj "list" #[] 0)).get? (hp0.objs.size + 1) = some (seqObj "list" #[] 0) := by
    rw [← hkS]; exact Heap.get?_push_size _ rfl
  rw [hkS]
  generalize hkSn : hp0.objs.size + 1 = kS at nk1 ⊢
  generalize hC1 : (((hp0.update L (Obj.mapSeq fun _ => (#[] : Array Value))).push (seqObj "tuple" its.toArray 0)).push (seqObj "list" #[] 0)) = hp1 at kp1 na1 nk1
  have hka : kS ≠ L := by omega
  have fS : FpOk X pins H kS := I0.fpOk (by show hp0.objs.size ≤ kS; omega) (I0.hok.fresh (by show hp0.objs.size ≤ kS; omega))
  have I1 : Inv X pins σ H { s with heap := hp1, toks := s.toks } := Inv.turnedL (s := { s with heap := hp0, toks := s.toks }) I0 (ch := [L]) (h' := hp1) (t' := s.toks) (fun b o hb e => kp1 b o (fun z => hb (by simp [z])) e) fun b hb => by
    obtain rfl : b = L := by simpa using hb
    exact fL
  show wpAny _ _ _ _ _ ({ s with heap := hp1, toks := s.toks } : Shared)
  unfold ksk_rest
  refine wpAny_bind (wpAny_rule ?_)
  first
    | rw [List.forIn_toArray]
    | (rw [← Array.forIn_toList]; simp only [List.toList_toArray])
    | rw [← Array.forIn_toList]
  refine wpAny_bind (ksk_fold (fun i s' => ∃ Bi Hi kA e, Inv X pins σ Hi s' ∧ Gro B H Bi Hi ∧ FpOk X pins Hi kS ∧ FpOk X pins Hi L ∧ s'.heap.get? kS = some (seqObj "list" kA e) ∧ s'.heap.get? L = some (seqObj "list" #[] e1) ∧
    PySem.W.EachIs (fun u d => ∃ x, RelV x u ∧ D Bi x d) kA.toList ((ts.map dKey).take i)) its 0 _ ⟨B, H, #[], 0, I1, Gof.refl e0, fS, fL, nk1, na1, by rw [List.take_zero]; exact PySem.W.EachIs.nil⟩ ?step ?done)
  case step =>
    rintro j u s' hx ⟨Bi, Hi, kA, e, Ii, gi, fSi, fLi, nk', na', hk'⟩
    simp only [Nat.zero_add] at hk' ⊢
    have hj : j < ts.length := by
      have := (List.getElem?_eq_some_iff.mp hx).1
      omega
    obtain ⟨xv, hxv⟩ : ∃ xv, xs[j]? = some xv := ⟨_, List.getElem?_eq_getElem (by omega)⟩
    obtain ⟨u', hu', ru⟩ := rv.get hxv
    rw [hx] at hu'
    cases hu'
    obtain ⟨t, ht, dt⟩ := items_at da hxv
    have hz : kA.size ≤ its.length := by
      have h1 := hk'.length
      rw [Array.length_toList, List.length_take, List.length_map] at h1
      omega
    -- the key's call
    have Ip : Inv X (pins ++ pinsAt [kS, L] s'.heap) σ Hi s' := Ii.pinned (fp := [kS, L]) (fun b hb => by
      rcases (show b = kS ∨ b = L by simpa using hb) with z | z
      · exact z ▸ fSi
      · exact z ▸ fLi) (fun b hb => by
      rcases (show b = kS ∨ b = L by simpa using hb) with z | z
      · subst z; exact ⟨_, nk', fun v q => nomatch q⟩
      · subst z; exact ⟨_, na', fun v q => nomatch q⟩)
    have hspc := turn t xv Bi Hi gi (dt.up gi.bb) (fun y H2 => ∃ B2, Gro Bi Hi B2 H2 ∧ D B2 y (dKey t)) (fun y B2 H2 g2 d2 => ⟨B2, g2, d2⟩)
    have hrun : wpAny (model X.prog X.w) X.A.in1.in1 (call (.ref f) [u]) (EP X (pins ++ pinsAt [kS, L] s'.heap) σ (fun y H2 => ∃ B2, Gro Bi Hi B2 H2 ∧ D B2 y (dKey t))) (fun _ _ => False) s' := by
      refine wpAny_call (codeAny_mono (F.run X.A.in1.in1 X.stack s' Hi ⟨[u], []⟩ [u] [xv] _ E0 (((hr.mono hk).in1).in1) Ip.env0.in1.in1 (by have := bi s' [u] Ip.kIn rfl; rwa [List.append_nil] at this) (.cons ru .nil) hspc) fun r s2 hq => ?_)
      cases r with
      | error e => exact hq.elim
      | ok fl =>
        cases fl with
        | ret u2 => exact Ip.after hq
        | next => exact False.elim hq
        | brk => exact False.elim hq
        | cont => exact False.elim hq
    refine wpAny_bind (wpAny_attempt (wpAny_mono hrun (fun v s'' he => ?_) fun _ _ hF => hF.elim))
    obtain ⟨y, H2, I2, ry, B2, g2, d2⟩ := he
    try dsimp only
    have nk2 : s''.heap.get? kS = some (seqObj "list" kA e) := (I2.pin (kS, seqObj "list" kA e) (List.mem_append_right _ (List.mem_append_right _ (mem_pinsAt (by simp) nk')))).1
    have na2 : s''.heap.get? L = some (seqObj "list" #[] e1) := (I2.pin (L, seqObj "list" #[] e1) (List.mem_append_right _ (List.mem_append_right _ (mem_pinsAt (by simp) na')))).1
    have nS2 : H2 kS = none := (I2.pin (kS, seqObj "list" kA e) (List.mem_append_right _ (List.mem_append_right _ (mem_pinsAt (by simp) nk')))).2.1
    have nL2 : H2 L = none := (I2.pin (L, seqObj "list" #[] e1) (List.mem_append_right _ (List.mem_append_right _ (mem_pinsAt (by simp) na')))).2.1
    have fS2 : FpOk X pins H2 kS := ⟨nS2, fSi.2⟩
    have fL2 : FpOk X pins H2 L := ⟨nL2, fLi.2⟩
    have s1 := Heap.SameBut.update s''.heap kS (Obj.mapSeq (·.push v))
    obtain ⟨c2, hc2⟩ : ∃ c2, (s''.heap.update kS (Obj.mapSeq (·.push v))).get? kS = some (seqObj "list" (kA.push v) c2) := ⟨_, get?_update_seq nk2 (·.push v)⟩
    have ek : (ts.map dKey).take (j + 1) = (ts.map dKey).take j ++ [dKey t] := by rw [List.take_add_one, List.getElem?_map, ht]; simp
    have ea : (kA.push v).toList = kA.toList ++ [v] := by simp
    refine wpAny_bind (listUpdate_at nk2 rfl ?_ (Nat.le_trans hz hZ) (Nat.le_trans (Nat.le_of_eq (Array.size_push ..)) (Nat.succ_le_succ (Nat.le_trans hz hZ))))
    have I3 : Inv X pins σ H2 { s'' with heap := s''.heap.update kS (Obj.mapSeq (·.push v)), toks := s''.toks } := I2.unpinned.turnedL (ch := [kS]) (fun b o hb e => (s1.2 b (fun z => hb (by simp [z]))).trans e) fun b hb => by
      obtain rfl : b = kS := by simpa using hb
      exact fS2
    refine wpAny_pure ⟨rfl, B2, H2, kA.push v, c2, I3, gi.trans g2, fS2, fL2, hc2, (s1.2 L hka.symm).trans na2, ?_⟩
    rw [ea, ek]
    refine PySem.W.each_snoc ⟨y, ry, d2⟩ ?_
    exact hk'.mono fun u d ⟨x, r1, r2⟩ => ⟨x, r1, r2.up g2.bb⟩
  case done =>
    rintro s' ⟨Bi, Hi, kA, e, Ii, gi, fSi, fLi, nk', na', hk'⟩
    have e3 : (ts.map dKey).take (0 + its.length) = ts.map dKey := List.take_of_length_le (by rw [List.length_map]; omega)
    rw [e3] at hk'
    have hsz : kA.size = its.length := by
      have h1 := hk'.length
      rw [Array.length_toList, List.length_map] at h1
      omega
    have hkR : PySem.W.EachIs (fun v k => ∃ as, Reads s'.heap v k as) kA.toList (ts.map dKey) := hk'.mono fun u d ⟨x, r1, r2⟩ => (r2.up gi.bh).dp.reads Ii d x u r1
    try dsimp only
    refine wpAny_bind (listItems_at nk' rfl ?_)
    obtain ⟨G, g1, g2⟩ := restrict s'.heap fun b => decide (b ≠ kS)
    have gk : ∀ b o, G.get? b = some o → s'.heap.get? b = some o := fun b o e => by
      by_cases hb : b = kS
      · rw [g2 b (by simp [hb])] at e
        cases e
      · rw [← g1 b (by simp [hb])]; exact e
    have gb : ∀ b o, b ≠ kS → s'.heap.get? b = some o → G.get? b = some o := fun b o hb e => by rw [g1 b (by simp [hb])]; exact e
    refine PySem.W.keyH_end (b := false) (κ := PySem.W.dataKind s'.heap (ts.map dKey)) (h₁ := G) (fun b o _ e => gk b o e) (g2 kS (by simp)) nk' na' hka (PySem.W.SortsAt.data hkR hal hsk (PySem.W.bound_map (fun t _ => ?_))) hsz hZ fun h3 tk3 c kb hD => ⟨rfl, ?_⟩
    · have := hr.units
      have : (dKey t).depth = 1 := by
        show max 0 _ + 1 = 1
        first | rfl | simp [dKey, PyData.depth, PyData.depthAll]
      show X.A.units + 1 + 1 + _ < _
      omega
    · have ko : PySem.W.KeyedOut false (ts.map dKey) its (PySem.W.sortVals (PySem.W.dataKind s'.heap (ts.map dKey)) false kA.toList its) := ⟨s'.heap, kA.toList, hal, rfl, hkR⟩
      have R0 : PySem.W.EachIs (fun u (p : V × Tie) => RelV p.1 u ∧ D B p.1 (dTie p.2)) its (xs.zip ts) := each_of_get (by rw [List.length_zip]; omega) fun i u p h1 h2 => by
        obtain ⟨h3, h4⟩ := List.getElem?_zip_eq_some.mp h2
        obtain ⟨u', h5, h6⟩ := rv.get h3
        rw [h1] at h5
        cases h5
        obtain ⟨t, h7, h8⟩ := items_at da h3
        rw [h4] at h7
        cases h7
        exact ⟨h6, h8⟩
      have ez : (xs.zip ts).map (fun p => dKey p.2) = ts.map dKey := by
        have h1 := congrArg (List.map dKey) (List.map_snd_zip (l₁ := xs) (l₂ := ts) (by omega))
        rw [List.map_map] at h1
        exact h1
      rw [← ez] at ko
      have ke := PySem.W.keyedOut_each (fun p : V × Tie => dKey p.2) ko R0
      rw [ez] at ke
      have hm : ((xs.zip ts).mergeSort (PySem.W.dataLe false fun p : V × Tie => dKey p.2)).map Prod.snd = byW ts := by
        unfold byW
        have h1 := List.map_mergeSort (r := PySem.W.dataLe false fun p : V × Tie => dKey p.2) (s := PySem.W.dataLe false dKey) (f := Prod.snd) (l := xs.zip ts) (fun a _ b _ => rfl)
        rw [h1, List.map_snd_zip (by omega)]
      generalize hM : (xs.zip ts).mergeSort (PySem.W.dataLe false fun p : V × Tie => dKey p.2) = M at ke hm
      have hmem : ∀ p ∈ M, D B p.1 (dTie p.2) := fun p hp => by
        rw [← hM] at hp
        have hp2 : p ∈ xs.zip ts := (List.mergeSort_perm _ _).mem_iff.mp hp
        obtain ⟨j, hj⟩ := List.mem_iff_getElem?.mp hp2
        obtain ⟨h3, h4⟩ := List.getElem?_zip_eq_some.mp hj
        obtain ⟨t, h7, h8⟩ := items_at da h3
        rw [h4] at h7
        cases h7
        exact h8
      have dM : DA Bi (M.map Prod.fst) ((byW ts).map dTie) := by
        rw [← hm, List.map_map]
        exact da_map fun p hp => (hmem p hp).up gi.bb
      have vM : Vals (M.map Prod.fst) (PySem.W.sortVals (PySem.W.dataKind s'.heap (ts.map dKey)) false kA.toList its) := vals_of_each (ke.mono fun _ _ z => z.1)
      have lM : (M.map Prod.fst).length ≤ sizeLine := by
        have h1 := dM.len
        have h2 : (byW ts).length = ts.length := by
          unfold byW
          rw [List.length_mergeSort]
        rw [h1, List.length_map, h2]
        exact szl (by omega)
      have I4 : Inv X pins σ Hi { s' with heap := h3, toks := tk3 } := Ii.turnedL (ch := [kS, L]) (fun b o hb e => kb b o (fun z => hb (by simp [z])) (gb b o (fun z => hb (by simp [z])) e)) fun b hb => by
        rcases (show b = kS ∨ b = L by simpa using hb) with z | z
        · exact z ▸ fSi
        · exact z ▸ fLi
      have I5 : Inv X pins σ (upd Hi L (.lst (M.map Prod.fst))) { s' with heap := h3, toks := tk3 } := I4.take (h' := h3) (t' := tk3) (fun b o _ e => e) fLi ⟨lM, _, c, vM, hD⟩
      exact ⟨.ref L, _, I5, rfl, q _ L Bi Hi gi fLi.1 dM⟩
end
end KPR
set_option Elab.async false
set_option linter.all false
set_option maxRecDepth 100000
/-! KTxt: the text by places (printed by txt.py). -/
namespace KPR
open PySem L2
def topS (i : Nat) : Stmt := PySem.Challenge.pw_partedweb_k85_whole_keepers_beside_all_a.main.body.getD i (.Pass ⟨0, 0, 0, 0⟩)
abbrev s_pairs_cut : Stmt := topS 6
abbrev nm_pairs_cut : List Str := ["cut", "pair"]
theorem sc_pairs_cut : FnScope nm_pairs_cut ["cut"] (defScope s_pairs_cut) := ⟨rfl, rfl, rfl, by decide +kernel, rfl, by decide +kernel, by decide +kernel⟩
abbrev s_weight_of : Stmt := topS 7
abbrev nm_weight_of : List Str := ["web", "cut", "there", "a", "b", "weight"]
theorem sc_weight_of : FnScope nm_weight_of ["web", "cut"] (defScope s_weight_of) := ⟨rfl, rfl, rfl, by decide +kernel, rfl, by decide +kernel, by decide +kernel⟩
abbrev s_without : Stmt := topS 8
abbrev nm_without : List Str := ["web", "cut", "there", "tie"]
theorem sc_without : FnScope nm_without ["web", "cut"] (defScope s_without) := ⟨rfl, rfl, rfl, by decide +kernel, rfl, by decide +kernel, by decide +kernel⟩
abbrev s_beside : Stmt := topS 9
abbrev nm_beside : List Str := ["web", "found", "place", "a", "b", "weight"]
theorem sc_beside : FnScope nm_beside ["web"] (defScope s_beside) := ⟨rfl, rfl, rfl, by decide +kernel, rfl, by decide +kernel, by decide +kernel⟩
abbrev s_hangs_on : Stmt := topS 10
abbrev nm_hangs_on : List Str := ["near", "place", "met", "waiting", "other"]
theorem sc_hangs_on : FnScope nm_hangs_on ["near", "place"] (defScope s_hangs_on) := ⟨rfl, rfl, rfl, by decide +kernel, rfl, by decide +kernel, by decide +kernel⟩
abbrev s_pieces : Stmt := topS 11
abbrev nm_pieces : List Str := ["web", "near", "met", "found", "place", "other"]
theorem sc_pieces : FnScope nm_pieces ["web"] (defScope s_pieces) := ⟨rfl, rfl, rfl, by decide +kernel, rfl, by decide +kernel, by decide +kernel⟩
abbrev s_F_init : Stmt := inClass (topS 13) 0
abbrev nm_F_init : List Str := ["self", "web", "place", "number", "tie"]
theorem sc_F_init : FnScope nm_F_init ["self", "web"] (defScope s_F_init) := ⟨rfl, rfl, rfl, by decide +kernel, rfl, by decide +kernel, by decide +kernel⟩
abbrev s_F_room : Stmt := inClass (topS 13) 1
abbrev nm_F_room : List Str := ["self", "number", "place", "a", "b", "weight"]
theorem sc_F_room : FnScope nm_F_room ["self", "number", "place"] (defScope s_F_room) := ⟨rfl, rfl, rfl, by decide +kernel, rfl, by decide +kernel, by decide +kernel⟩
abbrev s_F_add : Stmt := inClass (topS 13) 2
abbrev nm_F_add : List Str := ["self", "number", "place", "more"]
theorem sc_F_add : FnScope nm_F_add ["self", "number", "place", "more"] (defScope s_F_add) := ⟨rfl, rfl, rfl, by decide +kernel, rfl, by decide +kernel, by decide +kernel⟩
abbrev s_F_ways_on : Stmt := inClass (topS 13) 3
abbrev nm_F_ways_on : List Str := ["self", "sources", "came", "place", "waiting", "at", "here", "number", "other"]
theorem sc_F_ways_on : FnScope nm_F_ways_on ["self", "sources"] (defScope s_F_ways_on) := ⟨rfl, rfl, rfl, by decide +kernel, rfl, by decide +kernel, by decide +kernel⟩
abbrev s_F_bring : Stmt := inClass (topS 13) 5
abbrev nm_F_bring : List Str := ["self", "came", "sink", "steps", "step", "more", "number", "place"]
theorem sc_F_bring : FnScope nm_F_bring ["self", "came", "sink"] (defScope s_F_bring) := ⟨rfl, rfl, rfl, by decide +kernel, rfl, by decide +kernel, by decide +kernel⟩
abbrev s_F_fill : Stmt := inClass (topS 13) 6
abbrev nm_F_fill : List Str := ["self", "sources", "sinks", "ends", "place", "came", "reached"]
theorem sc_F_fill : FnScope nm_F_fill ["self", "sources", "sinks"] (defScope s_F_fill) := ⟨rfl, rfl, rfl, by decide +kernel, rfl, by decide +kernel, by decide +kernel⟩
abbrev s_side_weight : Stmt := topS 14
abbrev nm_side_weight : List Str := ["web", "side", "there", "place", "a", "b", "weight"]
theorem sc_side_weight : FnScope nm_side_weight ["web", "side"] (defScope s_side_weight) := ⟨rfl, rfl, rfl, by decide +kernel, rfl, by decide +kernel, by decide +kernel⟩
abbrev s_flow : Stmt := topS 15
abbrev nm_flow : List Str := ["web", "sources", "sinks", "flowing", "side"]
theorem sc_flow : FnScope nm_flow ["web", "sources", "sinks"] (defScope s_flow) := ⟨rfl, rfl, rfl, by decide +kernel, rfl, by decide +kernel, by decide +kernel⟩
abbrev s_posts_in : Stmt := topS 17
abbrev nm_posts_in : List Str := ["posts", "piece", "post"]
theorem sc_posts_in : FnScope nm_posts_in ["posts", "piece"] (defScope s_posts_in) := ⟨rfl, rfl, rfl, by decide +kernel, rfl, by decide +kernel, by decide +kernel⟩
abbrev s_is_parting : Stmt := topS 18
abbrev nm_is_parting : List Str := ["web", "posts", "cut", "piece"]
theorem sc_is_parting : FnScope nm_is_parting ["web", "posts", "cut"] (defScope s_is_parting) := ⟨rfl, rfl, rfl, by decide +kernel, rfl, by decide +kernel, by decide +kernel⟩
abbrev s_by_weight : Stmt := topS 19
abbrev nm_by_weight : List Str := ["tie"]
theorem sc_by_weight : FnScope nm_by_weight ["tie"] (defScope s_by_weight) := ⟨rfl, rfl, rfl, by decide +kernel, rfl, by decide +kernel, by decide +kernel⟩
abbrev s_pruned : Stmt := topS 20
abbrev nm_pruned : List Str := ["web", "posts", "cut", "there", "pair", "left", "tie", "fewer"]
theorem sc_pruned : FnScope nm_pruned ["web", "posts", "cut"] (defScope s_pruned) := ⟨rfl, rfl, rfl, by decide +kernel, rfl, by decide +kernel, by decide +kernel⟩
abbrev s_others_of : Stmt := topS 22
abbrev nm_others_of : List Str := ["posts", "post", "other"]
theorem sc_others_of : FnScope nm_others_of ["posts", "post"] (defScope s_others_of) := ⟨rfl, rfl, rfl, by decide +kernel, rfl, by decide +kernel, by decide +kernel⟩
abbrev s_singles : Stmt := topS 23
abbrev nm_singles : List Str := ["web", "posts", "post"]
theorem sc_singles : FnScope nm_singles ["web", "posts"] (defScope s_singles) := ⟨rfl, rfl, rfl, by decide +kernel, rfl, by decide +kernel, by decide +kernel⟩
abbrev s_edge_of : Stmt := topS 24
abbrev nm_edge_of : List Str := ["web", "side", "inner", "place", "a", "b", "weight"]
theorem sc_edge_of : FnScope nm_edge_of ["web", "side"] (defScope s_edge_of) := ⟨rfl, rfl, rfl, by decide +kernel, rfl, by decide +kernel, by decide +kernel⟩
abbrev s_greatest_at : Stmt := topS 25
abbrev nm_greatest_at : List Str := ["values"]
theorem sc_greatest_at : FnScope nm_greatest_at ["values"] (defScope s_greatest_at) := ⟨rfl, rfl, rfl, by decide +kernel, rfl, by decide +kernel, by decide +kernel⟩
abbrev s_by_singles : Stmt := topS 26
abbrev nm_by_singles : List Str := ["web", "posts", "papers", "left_out", "paper", "cut", "number", "pair", "told"]
theorem sc_by_singles : FnScope nm_by_singles ["web", "posts"] (defScope s_by_singles) := ⟨rfl, rfl, rfl, by decide +kernel, rfl, by decide +kernel, by decide +kernel⟩
abbrev s_K_init : Stmt := inClass (topS 28) 0
abbrev nm_K_init : List Str := ["self", "web", "posts", "a", "b", "weight"]
theorem sc_K_init : FnScope nm_K_init ["self", "web", "posts"] (defScope s_K_init) := ⟨rfl, rfl, rfl, by decide +kernel, rfl, by decide +kernel, by decide +kernel⟩
abbrev s_K_web_now : Stmt := inClass (topS 28) 1
abbrev nm_K_web_now : List Str := ["self", "pair"]
theorem sc_K_web_now : FnScope nm_K_web_now ["self"] (defScope s_K_web_now) := ⟨rfl, rfl, rfl, by decide +kernel, rfl, by decide +kernel, by decide +kernel⟩
abbrev s_K_posts_now : Stmt := inClass (topS 28) 2
abbrev nm_K_posts_now : List Str := ["self"]
theorem sc_K_posts_now : FnScope nm_K_posts_now ["self"] (defScope s_K_posts_now) := ⟨rfl, rfl, rfl, by decide +kernel, rfl, by decide +kernel, by decide +kernel⟩
abbrev s_K_cut_of : Stmt := inClass (topS 28) 4
abbrev nm_K_cut_of : List Str := ["self", "post", "other"]
theorem sc_K_cut_of : FnScope nm_K_cut_of ["self", "post"] (defScope s_K_cut_of) := ⟨rfl, rfl, rfl, by decide +kernel, rfl, by decide +kernel, by decide +kernel⟩
abbrev s_K_find : Stmt := inClass (topS 28) 5
abbrev nm_K_find : List Str := ["self", "posts", "post", "value", "amounts", "side"]
theorem sc_K_find : FnScope nm_K_find ["self", "posts"] (defScope s_K_find) := ⟨rfl, rfl, rfl, by decide +kernel, rfl, by decide +kernel, by decide +kernel⟩
abbrev s_K_singles_now : Stmt := inClass (topS 28) 6
abbrev nm_K_singles_now : List Str := ["self", "post"]
theorem sc_K_singles_now : FnScope nm_K_singles_now ["self"] (defScope s_K_singles_now) := ⟨rfl, rfl, rfl, by decide +kernel, rfl, by decide +kernel, by decide +kernel⟩
abbrev s_K_parting_now : Stmt := inClass (topS 28) 7
abbrev nm_K_parting_now : List Str := ["self", "weight", "cut", "papers"]
theorem sc_K_parting_now : FnScope nm_K_parting_now ["self"] (defScope s_K_parting_now) := ⟨rfl, rfl, rfl, by decide +kernel, rfl, by decide +kernel, by decide +kernel⟩
abbrev s_K_state : Stmt := inClass (topS 28) 8
abbrev nm_K_state : List Str := ["self"]
theorem sc_K_state : FnScope nm_K_state ["self"] (defScope s_K_state) := ⟨rfl, rfl, rfl, by decide +kernel, rfl, by decide +kernel, by decide +kernel⟩
abbrev s_K_otherwise_than : Stmt := inClass (topS 28) 9
abbrev nm_K_otherwise_than : List Str := ["self", "kept", "found", "post", "old", "new"]
theorem sc_K_otherwise_than : FnScope nm_K_otherwise_than ["self", "kept"] (defScope s_K_otherwise_than) := ⟨rfl, rfl, rfl, by decide +kernel, rfl, by decide +kernel, by decide +kernel⟩
abbrev s_K_look_place : Stmt := inClass (topS 28) 10
abbrev nm_K_look_place : List Str := ["self", "place"]
theorem sc_K_look_place : FnScope nm_K_look_place ["self", "place"] (defScope s_K_look_place) := ⟨rfl, rfl, rfl, by decide +kernel, rfl, by decide +kernel, by decide +kernel⟩
abbrev s_K_begin : Stmt := inClass (topS 28) 11
abbrev nm_K_begin : List Str := ["self"]
theorem sc_K_begin : FnScope nm_K_begin ["self"] (defScope s_K_begin) := ⟨rfl, rfl, rfl, by decide +kernel, rfl, by decide +kernel, by decide +kernel⟩
abbrev s_K_has_one_end : Stmt := inClass (topS 28) 12
abbrev nm_K_has_one_end : List Str := ["self", "post", "a", "b", "side"]
theorem sc_K_has_one_end : FnScope nm_K_has_one_end ["self", "post", "a", "b"] (defScope s_K_has_one_end) := ⟨rfl, rfl, rfl, by decide +kernel, rfl, by decide +kernel, by decide +kernel⟩
abbrev s_K_weigh : Stmt := inClass (topS 28) 13
abbrev nm_K_weigh : List Str := ["self", "a", "b", "weight", "more", "post", "value", "side"]
theorem sc_K_weigh : FnScope nm_K_weigh ["self", "a", "b", "weight"] (defScope s_K_weigh) := ⟨rfl, rfl, rfl, by decide +kernel, rfl, by decide +kernel, by decide +kernel⟩
abbrev s_K_find_all : Stmt := inClass (topS 28) 14
abbrev nm_K_find_all : List Str := ["self", "posts"]
theorem sc_K_find_all : FnScope nm_K_find_all ["self", "posts"] (defScope s_K_find_all) := ⟨rfl, rfl, rfl, by decide +kernel, rfl, by decide +kernel, by decide +kernel⟩
abbrev s_K_put_post : Stmt := inClass (topS 28) 15
abbrev nm_K_put_post : List Str := ["self", "place"]
theorem sc_K_put_post : FnScope nm_K_put_post ["self", "place"] (defScope s_K_put_post) := ⟨rfl, rfl, rfl, by decide +kernel, rfl, by decide +kernel, by decide +kernel⟩
abbrev s_K_take_post : Stmt := inClass (topS 28) 16
abbrev nm_K_take_post : List Str := ["self", "place", "post"]
theorem sc_K_take_post : FnScope nm_K_take_post ["self", "place"] (defScope s_K_take_post) := ⟨rfl, rfl, rfl, by decide +kernel, rfl, by decide +kernel, by decide +kernel⟩
abbrev s_K_undo : Stmt := inClass (topS 28) 17
abbrev nm_K_undo : List Str := ["self", "kept"]
theorem sc_K_undo : FnScope nm_K_undo ["self"] (defScope s_K_undo) := ⟨rfl, rfl, rfl, by decide +kernel, rfl, by decide +kernel, by decide +kernel⟩
abbrev s_l_cell_at : Stmt := topS 30
abbrev nm_l_cell_at : List Str := ["_law_script", "_law_k"]
theorem sc_l_cell_at : FnScope nm_l_cell_at ["_law_script", "_law_k"] (defScope s_l_cell_at) := ⟨rfl, rfl, rfl, by decide +kernel, rfl, by decide +kernel, by decide +kernel⟩
abbrev s_l_box : Stmt := topS 31
abbrev nm_l_box : List Str := ["_law_script", "_law_k", "_law_cell"]
theorem sc_l_box : FnScope nm_l_box ["_law_script", "_law_k"] (defScope s_l_box) := ⟨rfl, rfl, rfl, by decide +kernel, rfl, by decide +kernel, by decide +kernel⟩
abbrev s_l_take : Stmt := topS 32
abbrev nm_l_take : List Str := ["_law_box_here", "_law_many", "_law_found", "_law_once", "_law_twice"]
theorem sc_l_take : FnScope nm_l_take ["_law_box_here", "_law_many"] (defScope s_l_take) := ⟨rfl, rfl, rfl, by decide +kernel, rfl, by decide +kernel, by decide +kernel⟩
abbrev s_l_weight : Stmt := topS 33
abbrev nm_l_weight : List Str := ["_law_box_here", "_law_heavy"]
theorem sc_l_weight : FnScope nm_l_weight ["_law_box_here", "_law_heavy"] (defScope s_l_weight) := ⟨rfl, rfl, rfl, by decide +kernel, rfl, by decide +kernel, by decide +kernel⟩
abbrev s_l_web : Stmt := topS 34
abbrev nm_l_web : List Str := ["_law_box_here", "_law_many", "_law_heavy", "_law_ties", "_law_place", "_law_turn", "_law_one", "_law_other", "_law_pair_here"]
theorem sc_l_web : FnScope nm_l_web ["_law_box_here", "_law_many"] (defScope s_l_web) := ⟨rfl, rfl, rfl, by decide +kernel, rfl, by decide +kernel, by decide +kernel⟩
abbrev s_l_posts : Stmt := topS 35
abbrev nm_l_posts : List Str := ["_law_box_here", "_law_many", "_law_most", "_law_some", "_law_found", "_law_turn"]
theorem sc_l_posts : FnScope nm_l_posts ["_law_box_here", "_law_many", "_law_most"] (defScope s_l_posts) := ⟨rfl, rfl, rfl, by decide +kernel, rfl, by decide +kernel, by decide +kernel⟩
abbrev s_l_world : Stmt := topS 36
abbrev nm_l_world : List Str := ["_law_web_here", "_law_posts_here", "_law_ties", "_law_a", "_law_b", "_law_weight_here"]
theorem sc_l_world : FnScope nm_l_world ["_law_web_here", "_law_posts_here"] (defScope s_l_world) := ⟨rfl, rfl, rfl, by decide +kernel, rfl, by decide +kernel, by decide +kernel⟩
abbrev s_l_done : Stmt := topS 38
abbrev nm_l_done : List Str := ["_law_world_here", "_law_deed_here", "_law_places", "_law_place", "_law_there"]
theorem sc_l_done : FnScope nm_l_done ["_law_world_here", "_law_deed_here"] (defScope s_l_done) := ⟨rfl, rfl, rfl, by decide +kernel, rfl, by decide +kernel, by decide +kernel⟩
abbrev s_l_do : Stmt := topS 39
abbrev nm_l_do : List Str := ["_law_keeper", "_law_deed_here"]
theorem sc_l_do : FnScope nm_l_do ["_law_keeper", "_law_deed_here"] (defScope s_l_do) := ⟨rfl, rfl, rfl, by decide +kernel, rfl, by decide +kernel, by decide +kernel⟩
abbrev s_l_weighed : Stmt := topS 40
abbrev nm_l_weighed : List Str := ["_law_box_here", "_law_world_here", "_law_many", "_law_one", "_law_other", "_law_pair_here", "_law_there", "_law_ahead", "_law_some"]
theorem sc_l_weighed : FnScope nm_l_weighed ["_law_box_here", "_law_world_here"] (defScope s_l_weighed) := ⟨rfl, rfl, rfl, by decide +kernel, rfl, by decide +kernel, by decide +kernel⟩
abbrev s_l_deed : Stmt := topS 41
abbrev nm_l_deed : List Str := ["_law_box_here", "_law_world_here", "_law_way", "_law_place"]
theorem sc_l_deed : FnScope nm_l_deed ["_law_box_here", "_law_world_here"] (defScope s_l_deed) := ⟨rfl, rfl, rfl, by decide +kernel, rfl, by decide +kernel, by decide +kernel⟩
abbrev s_l_told : Stmt := topS 42
abbrev nm_l_told : List Str := ["_law_keeper", "_law_cuts", "_law_value", "_law_amounts", "_law_side"]
theorem sc_l_told : FnScope nm_l_told ["_law_keeper"] (defScope s_l_told) := ⟨rfl, rfl, rfl, by decide +kernel, rfl, by decide +kernel, by decide +kernel⟩
abbrev s_l_anew : Stmt := topS 43
abbrev nm_l_anew : List Str := ["_law_keeper"]
theorem sc_l_anew : FnScope nm_l_anew ["_law_keeper"] (defScope s_l_anew) := ⟨rfl, rfl, rfl, by decide +kernel, rfl, by decide +kernel, by decide +kernel⟩
abbrev s_l_fair : Stmt := topS 44
abbrev nm_l_fair : List Str := ["_law_box_here", "_law_world_here", "_law_deed_here"]
theorem sc_l_fair : FnScope nm_l_fair ["_law_box_here", "_law_world_here"] (defScope s_l_fair) := ⟨rfl, rfl, rfl, by decide +kernel, rfl, by decide +kernel, by decide +kernel⟩
abbrev s_l_there_and_back : Stmt := topS 45
abbrev nm_l_there_and_back : List Str := ["_law_box_here", "_law_keeper", "_law_kept", "_law_ties", "_law_a", "_law_b", "_law_weight_here", "_law_there", "_law_back", "_law_post", "_law_old", "_law_new"]
theorem sc_l_there_and_back : FnScope nm_l_there_and_back ["_law_box_here", "_law_keeper"] (defScope s_l_there_and_back) := ⟨rfl, rfl, rfl, by decide +kernel, rfl, by decide +kernel, by decide +kernel⟩
abbrev s_l_one_by_one : Stmt := topS 46
abbrev nm_l_one_by_one : List Str := ["_law_box_here", "_law_web_here", "_law_posts_here", "_law_keeper", "_law_some", "_law_a", "_law_b", "_law_weight_here"]
theorem sc_l_one_by_one : FnScope nm_l_one_by_one ["_law_box_here", "_law_web_here", "_law_posts_here"] (defScope s_l_one_by_one) := ⟨rfl, rfl, rfl, by decide +kernel, rfl, by decide +kernel, by decide +kernel⟩
abbrev s_l_pair : Stmt := topS 47
abbrev nm_l_pair : List Str := ["_law_box_here", "_law_web_here"]
theorem sc_l_pair : FnScope nm_l_pair ["_law_box_here"] (defScope s_l_pair) := ⟨rfl, rfl, rfl, by decide +kernel, rfl, by decide +kernel, by decide +kernel⟩
abbrev s_l_right : Stmt := topS 48
abbrev nm_l_right : List Str := ["_law_box_here", "_law_pairs", "_law_keepers", "_law_web_here", "_law_posts_here", "_law_worlds", "_law_begun", "_law_deeds", "_law_answers", "_law_other", "_law_turn", "_law_deed_here", "_law_again"]
theorem sc_l_right : FnScope nm_l_right ["_law_box_here"] (defScope s_l_right) := ⟨rfl, rfl, rfl, by decide +kernel, rfl, by decide +kernel, by decide +kernel⟩
abbrev s_law : Stmt := topS 49
abbrev nm_law : List Str := ["_law_script", "_law_k"]
theorem sc_law : FnScope nm_law ["_law_script"] (defScope s_law) := ⟨rfl, rfl, rfl, by decide +kernel, rfl, by decide +kernel, by decide +kernel⟩
end KPR
set_option Elab.async false
set_option linter.all false
/-! KM1: what the webs' functions answer, in plain Lean. -/
namespace KPR
abbrev Pr := Nat × Nat
def prOf (t : Tie) : Pr := (t.1, t.2.1)
/-- a web of at most ten places: ties of unlike places, in order, with weights above zero -/
structure Wf (n : Nat) (ts : List Tie) : Prop where
  n10 : n ≤ 10
  len : ts.length ≤ 45
  lt : ∀ t ∈ ts, t.1 < t.2.1
  top : ∀ t ∈ ts, t.2.1 < n
  pos : ∀ t ∈ ts, 0 < t.2.2
theorem Wf.filter {n : Nat} {ts : List Tie} (w : Wf n ts) (p : Tie → Bool) : Wf n (ts.filter p) :=
  ⟨w.n10, Nat.le_trans (List.length_filter_le _ _) w.len, fun t ht => w.lt t (List.mem_filter.mp ht).1, fun t ht => w.top t (List.mem_filter.mp ht).1, fun t ht => w.pos t (List.mem_filter.mp ht).1⟩
def cutW (ts : List Tie) (c : List Pr) : Int := ((ts.filter fun t => decide (prOf t ∈ c)).map fun t => t.2.2).sum
def withoutT (ts : List Tie) (c : List Pr) : List Tie := ts.filter fun t => !decide (prOf t ∈ c)
def sep (S : List Nat) (a b : Nat) : Bool := decide (a ∈ S) != decide (b ∈ S)
def sideW (ts : List Tie) (S : List Nat) : Int := ((ts.filter fun t => sep S t.1 t.2.1).map fun t => t.2.2).sum
def edgesT (ts : List Tie) (S : List Nat) : List Pr := (ts.filter fun t => sep S t.1 t.2.1).map prOf
/-- whom place p is tied to, in the ties' order -/
def nearP (ts : List Tie) (p : Nat) : List Nat := ts.flatMap fun t => (if t.1 = p then [t.2.1] else []) ++ (if t.2.1 = p then [t.1] else [])
def nearOf (n : Nat) (ts : List Tie) : List (List Nat) := (List.range n).map (nearP ts)
theorem nearP_snoc (ts : List Tie) (t : Tie) (p : Nat) : nearP (ts ++ [t]) p = nearP ts p ++ ((if t.1 = p then [t.2.1] else []) ++ (if t.2.1 = p then [t.1] else [])) := by
  unfold nearP
  rw [List.flatMap_append]
  simp
theorem nearP_lt {n : Nat} {ts : List Tie} (w : Wf n ts) {p q : Nat} (h : q ∈ nearP ts p) : q < n := by
  unfold nearP at h
  obtain ⟨t, ht, hq⟩ := List.mem_flatMap.mp h
  have h1 := w.lt t ht
  have h2 := w.top t ht
  rcases List.mem_append.mp hq with z | z
  · split at z
    · have := List.mem_singleton.mp z; omega
    · simp at z
  · split at z
    · have := List.mem_singleton.mp z; omega
    · simp at z
theorem nearP_len (ts : List Tie) (p : Nat) : (nearP ts p).length ≤ 2 * ts.length := by
  induction ts with
  | nil => simp [nearP]
  | cons t ts ih =>
    have e : nearP (t :: ts) p = ((if t.1 = p then [t.2.1] else []) ++ (if t.2.1 = p then [t.1] else [])) ++ nearP ts p := by
      unfold nearP
      rw [List.flatMap_cons]
    rw [e, List.length_append, List.length_append, List.length_cons]
    have h1 : (if t.1 = p then [t.2.1] else []).length ≤ 1 := by split <;> simp
    have h2 : (if t.2.1 = p then [t.1] else []).length ≤ 1 := by split <;> simp
    omega
/-! ### what hangs on a place -/
def hadd (st : List Nat × List Nat) (o : Nat) : List Nat × List Nat := if o ∈ st.1 then st else (st.1 ++ [o], st.2 ++ [o])
def hstep (near : List (List Nat)) (st : List Nat × List Nat) : List Nat × List Nat :=
  (near.getD (st.2.getLastD 0) []).foldl hadd (st.1, st.2.dropLast)
inductive HRun (near : List (List Nat)) : List Nat × List Nat → List Nat → Prop
  | done (met : List Nat) : HRun near (met, []) met
  | step {st : List Nat × List Nat} {fin : List Nat} : st.2 ≠ [] → HRun near (hstep near st) fin → HRun near st fin
theorem HRun.one {near : List (List Nat)} {st : List Nat × List Nat} {f1 f2 : List Nat} (h1 : HRun near st f1) (h2 : HRun near st f2) : f1 = f2 := by
  induction h1 generalizing f2 with
  | done met =>
    cases h2 with
    | done => rfl
    | step h _ => exact absurd rfl h
  | step h _ ih =>
    cases h2 with
    | done => exact absurd rfl h
    | step _ h2 => exact ih h2
/-- the members below n, in order -/
def sortN (l : List Nat) : List Nat := (List.range 10).filter fun x => decide (x ∈ l)
open Classical in
noncomputable def hangs (near : List (List Nat)) (p : Nat) : List Nat := if h : ∃ fin, HRun near ([p], [p]) fin then sortN h.choose else []
theorem hangs_of {near : List (List Nat)} {p : Nat} {fin : List Nat} (h : HRun near ([p], [p]) fin) : hangs near p = sortN fin := by
  have q : ∃ fin, HRun near ([p], [p]) fin := ⟨fin, h⟩
  unfold hangs
  rw [dif_pos q, q.choose_spec.one h]
theorem mem_sortN {l : List Nat} {x : Nat} : x ∈ sortN l ↔ x < 10 ∧ x ∈ l := by
  unfold sortN
  rw [List.mem_filter, List.mem_range]
  simp
theorem pw_lt_range (n : Nat) : (List.range n).Pairwise (· < ·) := List.pairwise_lt_range
theorem sortN_pw (l : List Nat) : (sortN l).Pairwise (· < ·) := (pw_lt_range 10).filter _
theorem sortN_len (l : List Nat) : (sortN l).length ≤ 10 := Nat.le_trans (List.length_filter_le _ _) (by rw [List.length_range]; exact Nat.le_refl _)
/-- lists in strict order with the same members -/
theorem pw_ext : ∀ {l m : List Nat}, l.Pairwise (· < ·) → m.Pairwise (· < ·) → (∀ x, x ∈ l ↔ x ∈ m) → l = m
  | [], [], _, _, _ => rfl
  | [], b :: m, _, _, h => absurd ((h b).mpr List.mem_cons_self) (by simp)
  | a :: l, [], _, _, h => absurd ((h a).mp List.mem_cons_self) (by simp)
  | a :: l, b :: m, h1, h2, h => by
    obtain ⟨p1, p2⟩ := List.pairwise_cons.mp h1
    obtain ⟨q1, q2⟩ := List.pairwise_cons.mp h2
    have e : a = b := by
      rcases List.mem_cons.mp ((h a).mp List.mem_cons_self) with z | z
      · exact z
      · rcases List.mem_cons.mp ((h b).mpr List.mem_cons_self) with y | y
        · exact y.symm
        · have := q1 a z; have := p1 b y; omega
    subst e
    rw [pw_ext p2 q2 fun x => ?_]
    constructor
    · intro hx
      rcases List.mem_cons.mp ((h x).mp (List.mem_cons_of_mem _ hx)) with z | z
      · have := p1 x hx; omega
      · exact z
    · intro hx
      rcases List.mem_cons.mp ((h x).mpr (List.mem_cons_of_mem _ hx)) with z | z
      · have := q1 x hx; omega
      · exact z
theorem pw_nodup {l : List Nat} (h : l.Pairwise (· < ·)) : l.Nodup := h.imp fun h => Nat.ne_of_lt h
/-- sorted unlike places below ten -/
theorem sort_eq {l ys : List Nat} (hp : ys.Perm l) (hs : ys.Pairwise (· ≤ ·)) (nd : l.Nodup) (lt : ∀ x ∈ l, x < 10) : ys = sortN l := by
  have nd2 : ys.Nodup := hp.nodup_iff.mpr nd
  refine pw_ext ?_ (sortN_pw l) fun x => ?_
  · have := List.Pairwise.and hs nd2
    exact this.imp fun ⟨h1, h2⟩ => Nat.lt_of_le_of_ne h1 h2
  · rw [mem_sortN]
    exact ⟨fun h => ⟨lt x (hp.mem_iff.mp h), hp.mem_iff.mp h⟩, fun h => hp.mem_iff.mpr h.2⟩
theorem pigeon : ∀ (l : List Nat) (n : Nat), l.Nodup → (∀ x ∈ l, x < n) → l.length ≤ n := fun l n hn hl => by
  have := L2.nat_nodup_len l (List.range n) hn fun x hx => List.mem_range.mpr (hl x hx)
  rwa [List.length_range] at this
/-! ### pieces, a parting -/
noncomputable def pieceStep (near : List (List Nat)) (found : List (List Nat)) (p : Nat) : List (List Nat) := if p ∈ found.flatten then found else found ++ [hangs near p]
noncomputable def piecesOf (n : Nat) (ts : List Tie) : List (List Nat) := (List.range n).foldl (pieceStep (nearOf n ts)) []
def postsIn (posts piece : List Nat) : List Nat := posts.filter fun x => decide (x ∈ piece)
noncomputable def isPart (n : Nat) (ts : List Tie) (posts : List Nat) (c : List Pr) : Bool := (piecesOf n (withoutT ts c)).all fun pc => decide ((postsIn posts pc).length < 2)
/-! ### pairs in order -/
def allP : List Pr := (List.range 10).flatMap fun a => (List.range 10).map fun b => (a, b)
def sortPr (c : List Pr) : List Pr := allP.filter fun p => decide (p ∈ c)
theorem allP_mem {p : Pr} : p ∈ allP ↔ p.1 < 10 ∧ p.2 < 10 := by
  unfold allP
  constructor
  · intro h
    obtain ⟨a, ha, h2⟩ := List.mem_flatMap.mp h
    obtain ⟨b, hb, rfl⟩ := List.mem_map.mp h2
    exact ⟨List.mem_range.mp ha, List.mem_range.mp hb⟩
  · rintro ⟨h1, h2⟩
    exact List.mem_flatMap.mpr ⟨p.1, List.mem_range.mpr h1, List.mem_map.mpr ⟨p.2, List.mem_range.mpr h2, rfl⟩⟩
theorem allP_pw : allP.Pairwise (fun p q => pc p < pc q) := by decide +kernel
theorem pc_inj {p q : Pr} (h1 : p.2 < 1000) (h2 : q.2 < 1000) (h : pc p = pc q) : p = q := by
  unfold pc at h
  refine Prod.ext ?_ ?_ <;> omega
theorem mem_sortPr {c : List Pr} {p : Pr} : p ∈ sortPr c ↔ (p.1 < 10 ∧ p.2 < 10) ∧ p ∈ c := by
  unfold sortPr
  rw [List.mem_filter, allP_mem]
  simp
theorem sortPr_pw (c : List Pr) : (sortPr c).Pairwise (fun p q => pc p < pc q) := allP_pw.filter _
theorem pcw_ext : ∀ {l m : List Pr}, l.Pairwise (fun p q => pc p < pc q) → m.Pairwise (fun p q => pc p < pc q) → (∀ x, x ∈ l ↔ x ∈ m) → l = m
  | [], [], _, _, _ => rfl
  | [], b :: m, _, _, h => absurd ((h b).mpr List.mem_cons_self) (by simp)
  | a :: l, [], _, _, h => absurd ((h a).mp List.mem_cons_self) (by simp)
  | a :: l, b :: m, h1, h2, h => by
    obtain ⟨p1, p2⟩ := List.pairwise_cons.mp h1
    obtain ⟨q1, q2⟩ := List.pairwise_cons.mp h2
    have e : a = b := by
      rcases List.mem_cons.mp ((h a).mp List.mem_cons_self) with z | z
      · exact z
      · rcases List.mem_cons.mp ((h b).mpr List.mem_cons_self) with y | y
        · exact y.symm
        · have := q1 a z; have := p1 b y; omega
    subst e
    rw [pcw_ext p2 q2 fun x => ?_]
    constructor
    · intro hx
      rcases List.mem_cons.mp ((h x).mp (List.mem_cons_of_mem _ hx)) with z | z
      · subst z; have := p1 x hx; omega
      · exact z
    · intro hx
      rcases List.mem_cons.mp ((h x).mpr (List.mem_cons_of_mem _ hx)) with z | z
      · subst z; have := q1 x hx; omega
      · exact z
theorem sortPr_eq {c ys : List Pr} (hp : ys.Perm c) (hs : ys.Pairwise (fun p q => pc p ≤ pc q)) (nd : c.Nodup) (lt : ∀ p ∈ c, p.1 < 10 ∧ p.2 < 10) : ys = sortPr c := by
  have nd2 : ys.Nodup := hp.nodup_iff.mpr nd
  refine pcw_ext ?_ (sortPr_pw c) fun x => ?_
  · refine (List.Pairwise.and hs nd2).imp_of_mem fun {p q} hp1 hq1 ⟨h1, h2⟩ => ?_
    have b1 := (lt p (hp.mem_iff.mp hp1)).2
    have b2 := (lt q (hp.mem_iff.mp hq1)).2
    rcases Int.lt_or_eq_of_le h1 with z | z
    · exact z
    · exact absurd (pc_inj (by omega) (by omega) z) h2
  · rw [mem_sortPr]
    exact ⟨fun h => ⟨lt x (hp.mem_iff.mp h), hp.mem_iff.mp h⟩, fun h => hp.mem_iff.mpr h.2⟩
theorem sortPr_nodup (c : List Pr) : (sortPr c).Nodup := (sortPr_pw c).imp fun {p q} h z => by subst z; omega
/-! ### the parting -/
noncomputable def pruneStep (n : Nat) (ts : List Tie) (posts : List Nat) (left : List Pr) (t : Tie) : List Pr :=
  if isPart n ts posts (left.filter fun p => !decide (p = prOf t)) then left.filter fun p => !decide (p = prOf t) else left
noncomputable def prunedT (n : Nat) (ts : List Tie) (posts : List Nat) (c : List Pr) : List Pr :=
  (byW (ts.filter fun t => decide (prOf t ∈ c))).foldl (pruneStep n ts posts) (sortPr c)
def greatest (vs : List Int) : Nat := vs.findIdx fun v => vs.all fun u => decide (u ≤ v)
def singleCut (ts : List Tie) (sides : List (List Nat)) (lo : Nat) : List Pr := sortPr ((sides.zipIdx.filter fun x => !decide (x.2 = lo)).flatMap fun x => edgesT ts x.1)
noncomputable def partCut (n : Nat) (ts : List Tie) (posts : List Nat) (sides : List (List Nat)) : List Pr := prunedT n ts posts (singleCut ts sides (greatest (sides.map (sideW ts))))
end KPR
set_option Elab.async false
set_option linter.all false
set_option maxRecDepth 100000
/-! KX: loops over known lists, tuples, ranges. -/
namespace KPR
open PySem L2
section
variable {α : Type} {K : PySem.W.Frag} {σ : St} {H : Hp} {D0 : Ends} {g : TG} {tb : TS} {tl : TE} {ta : TA}
theorem w_for {wi : TI} (h : wi σ H fun J H1 => ∃ W : Nat → Nat → St → Hp → Prop, (∃ m, W 0 m σ H1) ∧ ∀ i m σ H, W i m σ H →
  (J.stop i H ∧ D0.nx σ H) ∨ (J.go i H ∧ ∃ N : St → Hp → Prop, (∀ σ' H', N σ' H' → ∃ m', m' < m ∧ W (i + 1) m' σ' H') ∧ ∀ x H', J.yld i H x H' → g x σ H' fun σ2 H2 => tb { D0 with nx := N, ct := N, bk := D0.nx } σ2 H2)) : tFor wi g tb D0 σ H := h
theorem w_ilist {R : It → Hp → Prop} (h : tl σ H fun x H1 => ∃ a, x = .ref a ∧ (∃ xs, SqL K H1 a xs) ∧ R (Itl K a) H1) : iList K tl σ H R := h
theorem w_itup {R : It → Hp → Prop} (h : tl σ H fun x H1 => ∃ a, x = .ref a ∧ (∃ xs, SqT K H1 a xs) ∧ R (Itt K a) H1) : iTup K tl σ H R := h
theorem w_irng1 {R : It → Hp → Prop} (h : ta σ H fun vs H1 => ∃ j : Int, vs = [.int j] ∧ -(2 ^ 62) ≤ j ∧ j < 2 ^ 62 ∧ R (Itr 0 j.toNat) H1) : iRng1 ta σ H R := h
theorem w_irng2 {R : It → Hp → Prop} (h : ta σ H fun vs H1 => ∃ i j : Int, vs = [.int i, .int j] ∧ (-(2 ^ 62) ≤ i ∧ i < 2 ^ 62 ∧ -(2 ^ 62) ≤ j ∧ j < 2 ^ 62) ∧ R (Itr i (j - i).toNat) H1) : iRng2 ta σ H R := h
theorem w_ienum {R : It → Hp → Prop} (h : ta σ H fun vs H1 => ∃ a xs, vs = [.ref a] ∧ SqL K H1 a xs ∧ R (Ite K a) H1) : iEnum K ta σ H R := h
theorem w_ienumT {R : It → Hp → Prop} (h : ta σ H fun vs H1 => ∃ a xs, vs = [.ref a] ∧ SqT K H1 a xs ∧ R (ItE K a) H1) : iEnumT K ta σ H R := h
/-- what a loop of n turns must do: P i at its i-th turn, is: what the turn gets -/
def ForN (n : Nat) (is : Hp → V → Nat → Prop) (F : Addr → Prop) (B1 H1 : Hp) (g : TG) (tb : TS) (D0 : Ends) (σ : St) : Prop :=
  ∃ P : Nat → St → Hp → Hp → Prop, P 0 σ B1 H1 ∧
    (∀ i x σ' B' H', i < n → Gof F B1 H1 B' H' → is B' x i → P i σ' B' H' → g x σ' H' fun σ2 H2 => tb { D0 with nx := fun σ3 H3 => ∃ B3, Gof F B1 H1 B3 H3 ∧ P (i + 1) σ3 B3 H3, ct := fun σ3 H3 => ∃ B3, Gof F B1 H1 B3 H3 ∧ P (i + 1) σ3 B3 H3, bk := D0.nx } σ2 H2) ∧
    ∀ σ' B' H', Gof F B1 H1 B' H' → P n σ' B' H' → D0.nx σ' H'
/-- .. where the item is a new thing -/
def ForE (n : Nat) (is : Hp → V → Nat → Prop) (F : Addr → Prop) (B1 H1 : Hp) (g : TG) (tb : TS) (D0 : Ends) (σ : St) : Prop :=
  ∃ P : Nat → St → Hp → Hp → Prop, P 0 σ B1 H1 ∧
    (∀ i x σ' B' H' B2 H2, i < n → Gof F B1 H1 B' H' → P i σ' B' H' → Gro B' H' B2 H2 → is B2 x i → g x σ' H2 fun σ2 H2 => tb { D0 with nx := fun σ3 H3 => ∃ B3, Gof F B1 H1 B3 H3 ∧ P (i + 1) σ3 B3 H3, ct := fun σ3 H3 => ∃ B3, Gof F B1 H1 B3 H3 ∧ P (i + 1) σ3 B3 H3, bk := D0.nx } σ2 H2) ∧
    ∀ σ' B' H', Gof F B1 H1 B' H' → P n σ' B' H' → D0.nx σ' H'
theorem forN_run {J : It} {n : Nat} {is : Hp → V → Nat → Prop} {F : Addr → Prop} {B1 H1 : Hp} (e : Ex B1 H1) (h : ForN n is F B1 H1 g tb D0 σ)
    (stop : ∀ H', Ex B1 H' → J.stop n H') (go : ∀ i H', i < n → Ex B1 H' → J.go i H') (yld : ∀ i B' H' x H2, i < n → Ex B1 B' → Ex B' H' → J.yld i H' x H2 → H2 = H' ∧ is B' x i) :
    (∃ W : Nat → Nat → St → Hp → Prop, (∃ m, W 0 m σ H1) ∧ ∀ i m σ H, W i m σ H →
      (J.stop i H ∧ D0.nx σ H) ∨ (J.go i H ∧ ∃ N : St → Hp → Prop, (∀ σ' H', N σ' H' → ∃ m', m' < m ∧ W (i + 1) m' σ' H') ∧ ∀ x H', J.yld i H x H' → g x σ H' fun σ2 H2 => tb { D0 with nx := N, ct := N, bk := D0.nx } σ2 H2)) := by
  obtain ⟨P, h0, turn, done⟩ := h
  refine ⟨fun i m σ' H' => m + i = n ∧ ∃ B', Gof F B1 H1 B' H' ∧ P i σ' B' H', ⟨n, rfl, B1, Gof.refl e, h0⟩, fun i m σ' H' ⟨hm, B', g', p⟩ => ?_⟩
  by_cases hi : i < n
  · refine .inr ⟨go i H' hi (g'.bb.trans g'.bh), fun σ3 H3 => ∃ B3, Gof F B1 H1 B3 H3 ∧ P (i + 1) σ3 B3 H3, fun σ3 H3 h3 => ⟨m - 1, by omega, by omega, h3⟩, fun x H2 y => ?_⟩
    obtain ⟨rfl, d⟩ := yld i B' H' x H2 hi g'.bb g'.bh y
    exact turn i x σ' B' _ hi g' d p
  · have e1 : i = n := by omega
    subst e1
    exact .inl ⟨stop H' (g'.bb.trans g'.bh), done σ' B' H' g' p⟩
theorem forE_run {J : It} {n : Nat} {is : Hp → V → Nat → Prop} {F : Addr → Prop} {B1 H1 : Hp} (e : Ex B1 H1) (h : ForE n is F B1 H1 g tb D0 σ)
    (stop : ∀ H', Ex B1 H' → J.stop n H') (go : ∀ i H', i < n → Ex B1 H' → J.go i H') (yld : ∀ i B' H' x H2, i < n → Ex B1 B' → Ex B' H' → J.yld i H' x H2 → ∃ B2, Gro B' H' B2 H2 ∧ is B2 x i) :
    (∃ W : Nat → Nat → St → Hp → Prop, (∃ m, W 0 m σ H1) ∧ ∀ i m σ H, W i m σ H →
      (J.stop i H ∧ D0.nx σ H) ∨ (J.go i H ∧ ∃ N : St → Hp → Prop, (∀ σ' H', N σ' H' → ∃ m', m' < m ∧ W (i + 1) m' σ' H') ∧ ∀ x H', J.yld i H x H' → g x σ H' fun σ2 H2 => tb { D0 with nx := N, ct := N, bk := D0.nx } σ2 H2)) := by
  obtain ⟨P, h0, turn, done⟩ := h
  refine ⟨fun i m σ' H' => m + i = n ∧ ∃ B', Gof F B1 H1 B' H' ∧ P i σ' B' H', ⟨n, rfl, B1, Gof.refl e, h0⟩, fun i m σ' H' ⟨hm, B', g', p⟩ => ?_⟩
  by_cases hi : i < n
  · refine .inr ⟨go i H' hi (g'.bb.trans g'.bh), fun σ3 H3 => ∃ B3, Gof F B1 H1 B3 H3 ∧ P (i + 1) σ3 B3 H3, fun σ3 H3 h3 => ⟨m - 1, by omega, by omega, h3⟩, fun x H2 y => ?_⟩
    obtain ⟨B2, g2, d⟩ := yld i B' H' x H2 hi g'.bb g'.bh y
    exact turn i x σ' B' _ B2 H2 hi g' p g2 d
  · have e1 : i = n := by omega
    subst e1
    exact .inl ⟨stop H' (g'.bb.trans g'.bh), done σ' B' H' g' p⟩
abbrev LoopW (J : It) (g : TG) (tb : TS) (D0 : Ends) (σ : St) (H1 : Hp) : Prop := ∃ W : Nat → Nat → St → Hp → Prop, (∃ m, W 0 m σ H1) ∧ ∀ i m σ H, W i m σ H →
      (J.stop i H ∧ D0.nx σ H) ∨ (J.go i H ∧ ∃ N : St → Hp → Prop, (∀ σ' H', N σ' H' → ∃ m', m' < m ∧ W (i + 1) m' σ' H') ∧ ∀ x H', J.yld i H x H' → g x σ H' fun σ2 H2 => tb { D0 with nx := N, ct := N, bk := D0.nx } σ2 H2)
def isD (items : List α) (enc : α → PyData) : Hp → V → Nat → Prop := fun B x i => ∃ it, items[i]? = some it ∧ D B x (enc it)
def isI (lo : Nat) : Hp → V → Nat → Prop := fun _ x i => x = .int ((lo + i : Nat) : Int)
def isE (items : List α) (enc : α → PyData) : Hp → V → Nat → Prop := fun B x i => ∃ it, items[i]? = some it ∧ D B x (.tuple [.int (i : Int), enc it])
theorem loopL {B : Hp} {x : V} {F : Addr → Prop} (items : List α) (enc : α → PyData) (e : Ex B H) (d : D B x (.list (items.map enc))) (h : ForN items.length (isD items enc) F B H g tb D0 σ) : ∃ a, x = .ref a ∧ (∃ xs, SqL K H a xs) ∧ LoopW (Itl K a) g tb D0 σ H := by
  obtain ⟨a, xs, rfl, h1, h2⟩ := d.lst_inv
  have hl := h2.len
  rw [List.length_map] at hl
  refine ⟨a, rfl, ⟨xs, SqL.of (e _ _ h1)⟩, forN_run e h (fun H' e' => ⟨xs, SqL.of (e' _ _ h1), by omega⟩) (fun i H' hi e' => ⟨xs, xs[i], SqL.of (e' _ _ h1), List.getElem?_eq_getElem (by omega)⟩) fun i B' H' x H2 hi e1 e2 y => ⟨y.1, ?_⟩⟩
  have hx := y.2 xs (SqL.of (e2 _ _ (e1 _ _ h1)))
  obtain ⟨it, hit, hd⟩ := items_at h2 hx
  exact ⟨it, hit, hd.up e1⟩
theorem loopT {B : Hp} {x : V} {F : Addr → Prop} (items : List α) (enc : α → PyData) (e : Ex B H) (d : D B x (.tuple (items.map enc))) (h : ForN items.length (isD items enc) F B H g tb D0 σ) : ∃ a, x = .ref a ∧ (∃ xs, SqT K H a xs) ∧ LoopW (Itt K a) g tb D0 σ H := by
  obtain ⟨a, xs, rfl, h1, h2⟩ := d.tup_inv
  have hl := h2.len
  rw [List.length_map] at hl
  refine ⟨a, rfl, ⟨xs, SqT.of (e _ _ h1)⟩, forN_run e h (fun H' e' => ⟨xs, SqT.of (e' _ _ h1), by omega⟩) (fun i H' hi e' => ⟨xs, xs[i], SqT.of (e' _ _ h1), List.getElem?_eq_getElem (by omega)⟩) fun i B' H' x H2 hi e1 e2 y => ⟨y.1, ?_⟩⟩
  have hx := y.2 xs (SqT.of (e2 _ _ (e1 _ _ h1)))
  obtain ⟨it, hit, hd⟩ := items_at h2 hx
  exact ⟨it, hit, hd.up e1⟩
theorem loopR {B : Hp} {F : Addr → Prop} (n : Nat) (hn : n ≤ 100000) (e : Ex B H) (h : ForN n (isI 0) F B H g tb D0 σ) : ∃ j : Int, [V.int (n : Int)] = [.int j] ∧ -(2 ^ 62) ≤ j ∧ j < 2 ^ 62 ∧ LoopW (Itr 0 j.toNat) g tb D0 σ H := by
  refine ⟨(n : Int), rfl, by omega, by omega, ?_⟩
  rw [Int.toNat_natCast]
  refine forN_run e h (fun H' e' => Nat.le_refl _) (fun i H' hi e' => hi) fun i B' H' x H2 hi e1 e2 y => ⟨y.1, ?_⟩
  rw [y.2]
  show V.int _ = V.int _
  congr 1
theorem loopR2 {B : Hp} {F : Addr → Prop} (lo hi : Nat) (hn : hi ≤ 100000) (hl : lo ≤ hi) (e : Ex B H) (h : ForN (hi - lo) (isI lo) F B H g tb D0 σ) : ∃ i j : Int, [V.int (lo : Int), V.int (hi : Int)] = [.int i, .int j] ∧ (-(2 ^ 62) ≤ i ∧ i < 2 ^ 62 ∧ -(2 ^ 62) ≤ j ∧ j < 2 ^ 62) ∧ LoopW (Itr i (j - i).toNat) g tb D0 σ H := by
  refine ⟨(lo : Int), (hi : Int), rfl, ⟨by omega, by omega, by omega, by omega⟩, ?_⟩
  rw [show ((hi : Int) - (lo : Int)).toNat = hi - lo by omega]
  refine forN_run e h (fun H' e' => Nat.le_refl _) (fun i H' hi e' => hi) fun i B' H' x H2 hi e1 e2 y => ⟨y.1, ?_⟩
  rw [y.2]
  show V.int _ = V.int _
  congr 1
theorem loopEL {B : Hp} {x : V} {F : Addr → Prop} (items : List α) (enc : α → PyData) (e : Ex B H) (d : D B x (.list (items.map enc))) (h : ForE items.length (isE items enc) F B H g tb D0 σ) : ∃ a xs, [x] = [.ref a] ∧ SqL K H a xs ∧ LoopW (Ite K a) g tb D0 σ H := by
  obtain ⟨a, xs, rfl, h1, h2⟩ := d.lst_inv
  have hl := h2.len
  rw [List.length_map] at hl
  refine ⟨a, xs, rfl, SqL.of (e _ _ h1), forE_run e h (fun H' e' => ⟨xs, SqL.of (e' _ _ h1), by omega⟩) (fun i H' hi e' => ⟨xs, xs[i], SqL.of (e' _ _ h1), List.getElem?_eq_getElem (by omega)⟩) fun i B' H' x H2 hi e1 e2 y => ?_⟩
  obtain ⟨T, x', rfl, hT, rfl, hx⟩ := y
  have hx := hx xs (SqL.of (e2 _ _ (e1 _ _ h1)))
  obtain ⟨it, hit, hd⟩ := items_at h2 hx
  exact ⟨_, gro_new e2 hT, it, hit, .tup upd_same (.two (.int _) ((hd.up e1).up (Ex.new (e2.back hT))))⟩
theorem loopET {B : Hp} {x : V} {F : Addr → Prop} (items : List α) (enc : α → PyData) (e : Ex B H) (d : D B x (.tuple (items.map enc))) (h : ForE items.length (isE items enc) F B H g tb D0 σ) : ∃ a xs, [x] = [.ref a] ∧ SqT K H a xs ∧ LoopW (ItE K a) g tb D0 σ H := by
  obtain ⟨a, xs, rfl, h1, h2⟩ := d.tup_inv
  have hl := h2.len
  rw [List.length_map] at hl
  refine ⟨a, xs, rfl, SqT.of (e _ _ h1), forE_run e h (fun H' e' => ⟨xs, SqT.of (e' _ _ h1), by omega⟩) (fun i H' hi e' => ⟨xs, xs[i], SqT.of (e' _ _ h1), List.getElem?_eq_getElem (by omega)⟩) fun i B' H' x H2 hi e1 e2 y => ?_⟩
  obtain ⟨T, x', rfl, hT, rfl, hx⟩ := y
  have hx := hx xs (SqT.of (e2 _ _ (e1 _ _ h1)))
  obtain ⟨it, hit, hd⟩ := items_at h2 hx
  exact ⟨_, gro_new e2 hT, it, hit, .tup upd_same (.two (.int _) ((hd.up e1).up (Ex.new (e2.back hT))))⟩
end
end KPR
set_option Elab.async false
set_option linter.all false
set_option maxRecDepth 100000
/-! KY: more readings over (B, H). -/
namespace KPR
open PySem L2
section
variable {K : PySem.W.Frag} {B H : Hp} {σ : St} {x y v : V} {Q : VK} {ds : List PyData} {d : PyData}
theorem gv_var {i : Nat} (h : σ[i]? = some (some v)) (e : Ex B H) (d1 : D B v d) : Gv (tVar i) σ B H d := fun R r => ⟨v, h, r _ _ _ (Gof.refl e) d1⟩
theorem gv_ixT {i : Nat} {j : Nat} {t : PyData} {ds : List PyData} (h : σ[i]? = some (some v)) (e : Ex B H) (d1 : D B v (.tuple ds)) (hj : ds[j]? = some t) : Gv (tOp (rIxT K) (tVar i) (tC (.int (j : Int)))) σ B H t := fun R r =>
  ⟨v, h, r_ixT e d1 hj fun t ht => r _ _ _ (Gof.refl e) ht⟩
/-- the pairs of dict([(p, c), ..]), p a pair of places -/
theorem pairs_dT {α : Type} {kf : α → Pr} {vf : α → V} {dv : α → PyData} (hv : ∀ B v a, D B v (dv a) → v = vf a) : ∀ {items : List α} {xs : List V}, DA B xs (items.map fun a => .tuple [dPair (kf a), dv a]) →
    ∃ ps : List Addr, xs = ps.map V.ref ∧ Paired (fun p (kv : KD) => ∃ b, B p = some (.tup [.ref b, kv.2]) ∧ B b = some (.tup (kv.1.map kV))) ps (items.map fun a => (kP (kf a), vf a))
  | [], xs, h => by cases h; exact ⟨[], rfl, .nil⟩
  | a :: items, xs, h => by
    cases h with
    | cons h1 h2 =>
      obtain ⟨ps, e1, e2⟩ := pairs_dT hv (items := items) h2
      obtain ⟨q, us, ea, b1, b2⟩ := h1.tup_inv
      obtain ⟨u, z, rfl, c1, c2⟩ := b2.two_inv
      obtain ⟨bq, _, rfl, _, _⟩ := c1.tup_inv
      rw [hv _ _ _ c2] at b1
      subst ea e1
      exact ⟨q :: ps, rfl, .cons ⟨bq, b1, pair_at c1⟩ e2⟩
theorem r_dictT {α : Type} {items : List α} {kf : α → Pr} {vf : α → V} {dv : α → PyData} (hv : ∀ B v a, D B v (dv a) → v = vf a) (e : Ex B H) (h : D B x (.list (items.map fun a => .tuple [dPair (kf a), dv a])))
    (k : ∀ p, H p = none → Q (.ref p) (upd H p (.dT ((items.map fun a => (kP (kf a), vf a)).foldl (fun acc kv => putK acc kv.1 kv.2) [])))) : rDictT [x] H Q := by
  obtain ⟨a, xs, rfl, h1, h2⟩ := h.lst_inv
  obtain ⟨ps, rfl, pr⟩ := pairs_dT hv h2
  exact ⟨a, ps, _, rfl, e _ _ h1, L2.Paired.mapP pr fun _ _ ⟨b, q1, q2⟩ => ⟨b, e _ _ q1, e _ _ q2⟩, k⟩
theorem kP_mem {c : List Pr} {p : Pr} : kP p ∈ c.map kP ↔ p ∈ c := by
  constructor
  · intro h
    obtain ⟨n, hn, e⟩ := List.mem_map.mp h
    exact (kP_inj.mp e) ▸ hn
  · exact fun h => List.mem_map.mpr ⟨p, h, rfl⟩
theorem nodup_kP {l : List Pr} (h : l.Nodup) : (l.map kP).Nodup := nodup_map (fun _ _ => kP_inj.mp) h
/-- .. known from then on -/
theorem r_dictTm {α : Type} {items : List α} {kf : α → Pr} {vf : α → V} {dv : α → PyData} (hv : ∀ B v a, D B v (dv a) → v = vf a) (e : Ex B H) (h : D B x (.list (items.map fun a => .tuple [dPair (kf a), dv a])))
    (k : ∀ p B' H', Gro B H B' H' → MemT B' p (items.map kf) → Q (.ref p) H') : rDictT [x] H Q :=
  r_dictT hv e h fun p hp => k p _ _ (gro_new e hp) ⟨_, upd_same, fun q => by
    rw [foldl_put_some]
    have : (items.map fun a => (kP (kf a), vf a)).map (·.1) = (items.map kf).map kP := by rw [List.map_map, List.map_map]; rfl
    rw [this]
    rw [valV_nil]
    simp only [Option.isSome_none, Bool.or_false, kP_mem]⟩
theorem r_catT {d1 d2 : List PyData} (e : Ex B H) (h1 : D B x (.tuple d1)) (h2 : D B y (.tuple d2)) (n1 : d1 ≠ []) (n2 : d2 ≠ []) (hl : d1.length + d2.length ≤ 100000) (k : ∀ p B' H', Gro B H B' H' → D B' (.ref p) (.tuple (d1 ++ d2)) → Q (.ref p) H') : rCatT K x y H Q := by
  obtain ⟨a, xs, rfl, a1, a2⟩ := h1.tup_inv
  obtain ⟨b, ys, rfl, b1, b2⟩ := h2.tup_inv
  have l1 := a2.len
  have l2 := b2.len
  refine ⟨a, b, xs, ys, rfl, rfl, SqT.of (e _ _ a1), SqT.of (e _ _ b1), fun z => n1 ?_, szl (by omega), fun z => absurd ?_ n2, fun _ p hp => k p _ _ (gro_new e hp) (.tup upd_same ((a2.app b2).up (Ex.new (e.back hp))))⟩
  · subst z; cases d1 with
    | nil => rfl
    | cons _ _ => cases a2
  · subst z; cases d2 with
    | nil => rfl
    | cons _ _ => cases b2
/-- of a dict that may change -/
theorem r_dinKm {a : Addr} {kvs : List (Key × V)} {n : Nat} (h : H a = some (.dK kvs)) {R : Option V → Prop} (k : R (valV kvs (kN n))) : ∃ a' o, V.ref a = .ref a' ∧ DGet H a' (.int (n : Int)) o ∧ R o := ⟨a, _, rfl, DGet.k (k := kN n) h, k⟩
theorem r_putK {a : Addr} {kvs : List (Key × V)} {n : Nat} (h : H a = some (.dK kvs)) (hz : kvs.length < 100000) {R : Hp → Prop} (k : R (upd H a (.dK (putK kvs (kN n) v)))) : ∃ a' H4, V.ref a = .ref a' ∧ DPut H a' (.int (n : Int)) v H4 ∧ R H4 := ⟨a, _, rfl, .inl ⟨kvs, kN n, h, rfl, slt (by omega), rfl⟩, k⟩
theorem r_putT {a q : Addr} {kvs : List KD} {p : Pr} (h : H a = some (.dT kvs)) (hq : H q = some (.tup ((kP p).map kV))) (hz : kvs.length < 100000) {R : Hp → Prop} (k : R (upd H a (.dT (putK kvs (kP p) v)))) : ∃ a' H4, V.ref a = .ref a' ∧ DPut H a' (.ref q) v H4 ∧ R H4 := ⟨a, _, rfl, .inr ⟨kvs, kP p, q, h, rfl, hq, slt (by omega), rfl⟩, k⟩
theorem r_append {a : Addr} {xs : List V} (h : H a = some (.lst xs)) (hz : xs.length < 100000) (k : Q .non (upd H a (.lst (xs ++ [y])))) : rAppend (.ref a) [y] H Q := ⟨a, xs, y, rfl, rfl, h, slt (by omega), k⟩
theorem tyV_lst {K : PySem.W.Frag} {a : Addr} {xs : List V} (h : H a = some (.lst xs)) : tyV K "list" (.ref a) H := .inl ⟨rfl, xs, SqL.of h⟩
end
end KPR
set_option Elab.async false
set_option linter.all false
set_option maxRecDepth 100000
/-! KZ: fresh lists, sorted dicts, last items. -/
namespace KPR
open PySem L2
section
variable {K : PySem.W.Frag} {B H : Hp} {σ : St} {x y v : V} {Q : VK} {ds : List PyData} {d : PyData}
/-- the objects at as become known -/
def knowL (as : List Addr) (B H : Hp) : Hp := fun a => if a ∈ as then H a else B a
theorem knowL_in {as : List Addr} {a : Addr} (h : a ∈ as) : knowL as B H a = H a := if_pos h
theorem knowL_out {as : List Addr} {a : Addr} (h : a ∉ as) : knowL as B H a = B a := if_neg h
theorem gro_knowL {F : Addr → Prop} {as : List Addr} {B0 H0 : Hp} (g : Gof F B0 H0 B H) (h : ∀ a ∈ as, H0 a = none ∧ B a = none) : Gof F B0 H0 (knowL as B H) H := by
  refine ⟨fun a o e => ?_, fun a o e => ?_, g.kp, g.al, fun a o e t n => ?_, g.nt⟩
  · have e1 := g.bb a o e
    rw [knowL_out fun z => by rw [(h a z).2] at e1; cases e1]
    exact e1
  · by_cases z : a ∈ as
    · rw [knowL_in z] at e; exact e
    · rw [knowL_out z] at e; exact g.bh a o e
  · rw [knowL_out fun z => by rw [(h a z).1] at e; cases e]
    exact g.fr a o e t n
theorem ex_knowL {as : List Addr} (h : ∀ a ∈ as, B a = none) : Ex B (knowL as B H) := fun a o e => by
  rw [knowL_out fun z => by rw [h a z] at e; cases e]
  exact e
def FA : Addr → Prop := fun _ => True
/-- n new lists at as, with these contents -/
structure Fresh (B H0 H' : Hp) (as : List Addr) (c : Nat → List V) : Prop where
  nd : as.Nodup
  new : ∀ a ∈ as, H0 a = none ∧ B a = none
  at_ : ∀ i a, as[i]? = some a → H' a = some (.lst (c i))
theorem Fresh.set {H0 H' : Hp} {as : List Addr} {c : Nat → List V} (f : Fresh B H0 H' as c) {i : Nat} {a : Addr} {l : List V} (h : as[i]? = some a) : Fresh B H0 (upd H' a (.lst l)) as fun j => if j = i then l else c j := by
  refine ⟨f.nd, f.new, fun j b hb => ?_⟩
  by_cases e : j = i
  · subst e
    rw [h] at hb
    cases hb
    rw [if_pos rfl, upd_same]
  · have hne : b ≠ a := fun z => by
      subst z
      obtain ⟨h1, e1⟩ := List.getElem?_eq_some_iff.mp h
      obtain ⟨h2, e2⟩ := List.getElem?_eq_some_iff.mp hb
      exact e ((List.getElem_inj f.nd).mp (e2.trans e1.symm))
    rw [if_neg e, upd_ne hne]
    exact f.at_ j b hb
/-- [[] for place in range(n)] -/
theorem r_lcFresh {ta : TA} {n : Nat} {vs : List Nat} {j : Nat} (hj : vs = [j]) (hs : ∀ R : List V → Hp → Prop, (∀ B1 H1, Gro B H B1 H1 → R [.int (n : Int)] H1) → ta σ H R) (hz : n ≤ 1000)
    (k : ∀ L as B1 H1 H', Gro B H B1 H1 → Gro B1 H1 B1 H' → H1 L = none → L ∉ as → as.length = n → H' L = some (.lst (as.map V.ref)) → Fresh B1 H1 H' as (fun _ => []) → Q (.ref L) H') : tLc (iRng1 ta) (gName j) tYes (tLst tNil) vs σ H Q := by
  refine hs _ fun B1 H1 g1 => ?_
  refine ⟨(n : Int), rfl, by omega, by omega, fun Dl hD => ?_⟩
  rw [Int.toNat_natCast]
  refine lc_range (fun i H' => ∃ as : List Addr, as.length = i ∧ Gro B1 H1 B1 H' ∧ Dl ∉ as ∧ H' Dl = some (.lst (as.map V.ref)) ∧ Fresh B1 H1 H' as (fun _ => [])) ⟨[], rfl, gro_mut g1.bh hD, by simp, upd_same, ⟨List.nodup_nil, (fun a h => nomatch h), fun i a h => by simp at h⟩⟩ (fun i H' hi ⟨as, hl, g2, hne, hL, fr⟩ => ?_) fun H' ⟨as, hl, g2, hne, hL, fr⟩ => k Dl as B1 H1 H' g1 g2 hD hne hl hL fr
  subst hj
  refine ⟨?_, ?_⟩
  · show (((σ.set j none).set j (some (.int (0 + (i : Int))))).set j none) = σ.set j none
    rw [List.set_set, List.set_set]
  · refine ⟨by show 0 ≤ sizeLine; exact Nat.zero_le _, fun p hp => ⟨_, by rw [upd_ne (ne_of_none hL hp)]; exact hL, slt (by rw [List.length_map]; omega), as ++ [p], by simp [hl], ?_, ?_, ?_, ?_⟩⟩
    · have g3 : Gro B1 H1 B1 (upd H' p (.lst [])) := g2.trans (gro_mut g2.bh hp)
      exact gro_set g3 hD (g1.bh.back hD)
    · simp only [List.mem_append, List.mem_singleton, not_or]
      exact ⟨hne, (ne_of_none hL hp)⟩
    · rw [upd_same, List.map_append]
      rfl
    · have hpn : ∀ a ∈ as, a ≠ p := fun a ha z => by
        obtain ⟨q, hq⟩ := List.mem_iff_getElem?.mp ha
        have := fr.at_ q a hq
        rw [z, hp] at this
        cases this
      refine ⟨List.nodup_append.mpr ⟨fr.nd, by simp, fun a ha b hb => ?_⟩, fun a ha => ?_, fun q a hq => ?_⟩
      · rw [List.mem_singleton.mp hb]; exact hpn a ha
      · rcases List.mem_append.mp ha with z | z
        · exact fr.new a z
        · rw [List.mem_singleton.mp z]
          exact ⟨g2.back hp, g2.bh.back hp⟩
      · have hne2 : a ≠ Dl := fun z => by
          subst z
          have := List.mem_of_getElem? hq
          rcases List.mem_append.mp this with y | y
          · exact hne y
          · rw [List.mem_singleton.mp y, hp] at hL
            cases hL
        rw [upd_ne hne2]
        by_cases hqa : q < as.length
        · rw [List.getElem?_append_left hqa] at hq
          rw [upd_ne (hpn a (List.mem_of_getElem? hq))]
          exact fr.at_ q a hq
        · rw [List.getElem?_append_right (by omega)] at hq
          have hq0 : q - as.length = 0 := by
            have := (List.getElem?_eq_some_iff.mp hq).1
            simp at this
            omega
          rw [hq0] at hq
          have hq : p = a := by simpa using hq
          rw [hq, upd_same]
/-- the fresh lists and the list of them, known -/
theorem fresh_know {F : Addr → Prop} {B0 H0 H' : Hp} {as : List Addr} {L : Addr} {n : Nat} {c : Nat → List V} {cd : Nat → List PyData} (g : Gof F B0 H0 B H') (f : Fresh B H0 H' as c) (hL0 : H0 L = none) (hL : H' L = some (.lst (as.map V.ref))) (hB : B L = none) (hn : as.length = n) (hd : ∀ i, DA B (c i) (cd i)) :
    ∃ B', Gof F B0 H0 B' H' ∧ Ex B B' ∧ D B' (.ref L) (.list ((List.range n).map fun i => .list (cd i))) ∧ ∀ a, B a = none → a ∉ as → a ≠ L → B' a = none := by
  have hmem : ∀ a ∈ as ++ [L], H0 a = none ∧ B a = none := fun a ha => by
    rcases List.mem_append.mp ha with z | z
    · exact f.new a z
    · rw [List.mem_singleton.mp z]; exact ⟨hL0, hB⟩
  have ex : Ex B (knowL (as ++ [L]) B H') := ex_knowL fun a ha => (hmem a ha).2
  refine ⟨knowL (as ++ [L]) B H', gro_knowL g hmem, ex, .lst (xs := as.map V.ref) (by rw [knowL_in (by simp)]; exact hL) ?_, fun a h1 h2 h3 => by rw [knowL_out (by simp only [List.mem_append, List.mem_singleton, not_or]; exact ⟨h2, h3⟩)]; exact h1⟩
  have key : ∀ (m : Nat), m ≤ n → DA (knowL (as ++ [L]) B H') ((as.take m).map V.ref) ((List.range m).map fun i => .list (cd i)) := by
    intro m
    induction m with
    | zero => intro _; rw [List.take_zero]; exact .nil
    | succ m ih =>
      intro hm
      have hlt : m < as.length := by omega
      rw [List.take_add_one, List.getElem?_eq_getElem hlt, List.range_succ, List.map_append, List.map_append]
      refine (ih (by omega)).app (.one (.lst (xs := c m) ?_ ((hd m).up ex)))
      rw [knowL_in (List.mem_append_left _ (List.getElem_mem hlt))]
      exact f.at_ m _ (List.getElem?_eq_getElem hlt)
  have := key n (Nat.le_refl _)
  rw [List.take_of_length_le (by omega)] at this
  exact this
/-- {k: v} -/
theorem r_disp1 {i n : Nat} {vc : V} (h : σ[i]? = some (some (.int (n : Int)))) (k : NewR (.dK [(kN n, vc)]) H Q) : tDisp [(tVar i, tC vc)] σ H Q := by
  intro p hp
  refine ⟨_, h, upd_same, [(kN n, vc)], rfl, by show 1 ≤ 15; decide, ?_⟩
  rw [upd_upd]
  exact k p hp
/-- sorted ints -/
theorem sort_nats {l : List Nat} {ys : List Int} (hp : ys.Perm (l.map fun (n : Nat) => (n : Int))) (hs : ys.Pairwise (· ≤ ·)) (nd : l.Nodup) (lt : ∀ x ∈ l, x < 10) : ys = (sortN l).map fun (n : Nat) => (n : Int) := by
  obtain ⟨l', p, e⟩ := perm_lift (fun (n : Nat) => (n : Int)) hp l rfl
  rw [← e] at hs ⊢
  rw [List.pairwise_map] at hs
  rw [sort_eq p (hs.imp fun h => by omega) nd lt]
theorem vN_ints (l : List Nat) : (l.map fun (n : Nat) => (n : Int)).map V.int = vN l := by rw [List.map_map]; rfl
theorem r_sortI {l : List Nat} (e : Ex B H) (h : D B x (dL l)) (nd : l.Nodup) (lt : ∀ x ∈ l, x < 10) (k : ∀ p B' H', Gro B H B' H' → D B' (.ref p) (dL (sortN l)) → Q (.ref p) H') : rSorted K [x] H Q := by
  obtain ⟨a, xs, rfl, h1, h2⟩ := h.lst_inv
  have := h2.nats_inv
  subst this
  refine ⟨a, l.map fun (n : Nat) => (n : Int), rfl, by rw [vN_ints]; exact SqL.of (e _ _ h1), by rw [List.length_map]; have := pigeon l 10 nd lt; omega, fun ys p hp hs hn => ?_⟩
  have e1 := sort_nats hp hs nd lt
  rw [e1, vN_ints]
  exact k p _ _ (gro_new e hn) (.lst upd_same (DA.nats _))
def rSortedDI : List V → Hp → VK → Prop := fun xs H Q => ∃ (a : Addr) (kvs : List (L2.Key × V)) (ks : List Int), xs = [.ref a] ∧ Rd H a (.dK kvs) ∧ kvs.map (·.1) = ks.map Sum.inl ∧ ks.length < 64 ∧
    ∀ (ys : List Int) (p : Addr), ys.Perm ks → ys.Pairwise (· ≤ ·) → H p = none → Q (.ref p) (upd H p (.lst (ys.map V.int)))
theorem r_sortDK {a : Addr} {l : List Nat} {kvs : List (L2.Key × V)} (e : Ex B H) (h : H a = some (.dK kvs)) (hk : kvs.map (·.1) = l.map kN) (nd : l.Nodup) (lt : ∀ x ∈ l, x < 10) (k : ∀ p B' H', Gro B H B' H' → D B' (.ref p) (dL (sortN l)) → Q (.ref p) H') : rSortedDI [.ref a] H Q := by
  refine ⟨a, kvs, l.map fun (n : Nat) => (n : Int), rfl, .inl h, by rw [hk, List.map_map]; rfl, by rw [List.length_map]; have := pigeon l 10 nd lt; omega, fun ys p hp hs hn => ?_⟩
  rw [sort_nats hp hs nd lt, vN_ints]
  exact k p _ _ (gro_new e hn) (.lst upd_same (DA.nats _))
theorem atI_last {α : Type} (xs : List α) (z : α) : atI (xs ++ [z]) (-1) = some z := by
  unfold atI ixN
  rw [List.length_append, List.length_singleton, if_neg (by decide), if_pos (by omega)]
  have : (-1 + ((xs.length + 1 : Nat) : Int)).toNat = xs.length := by omega
  show (xs ++ [z])[(-1 + ((xs.length + 1 : Nat) : Int)).toNat]? = some z
  rw [this]
  simp
theorem atI_last? {α : Type} {xs : List α} {z : α} (h : xs.getLast? = some z) : atI xs (-1) = some z := by
  obtain ⟨ys, rfl⟩ := List.getLast?_eq_some_iff.mp h
  exact atI_last ys z
end
section
variable {X : Cx}
theorem k_sortedDI (hc : X.calm = true) : CallR X (.builtin "sorted") rSortedDI := call_sortedDI hc
def rDictD : List V → Hp → VK → Prop := fun xs H Q => ∃ (a : Addr) (kvs : List (L2.Key × V)), xs = [.ref a] ∧ Rd H a (.dK kvs) ∧ ∀ p, H p = none → Q (.ref p) (upd H p (.dK kvs))
theorem k_dictD : CallR X (.type "dict") rDictD := call_dictD
def rAbs : List V → Hp → VK → Prop := fun xs H Q => ∃ i : Int, xs = [.int i] ∧ Q (.int (if i < 0 then -i else i)) H
theorem k_abs : CallR X (.builtin "abs") rAbs := call_abs
theorem k_sortedSet {w : World} (hc : X.calm = true) (hw : X.w = w := by rfl) : CallR X (.builtin "sorted") (rSortedSet w) := by subst hw; exact cr_sortedSet hc
end
end KPR
set_option Elab.async false
set_option linter.all false
/-! KM2: what hangs on a place: the run ends. -/
namespace KPR
structure HInv (n : Nat) (st : List Nat × List Nat) : Prop where
  nd : st.1.Nodup
  lt : ∀ x ∈ st.1, x < n
  sub : ∀ x ∈ st.2, x ∈ st.1
def hmu (n : Nat) (st : List Nat × List Nat) : Nat := 2 * (n - st.1.length) + st.2.length
theorem hadd_inv {n : Nat} {st : List Nat × List Nat} {o : Nat} (h : HInv n st) (ho : o < n) : HInv n (hadd st o) ∧ hmu n (hadd st o) ≤ hmu n st := by
  unfold hadd
  by_cases c : o ∈ st.1
  · rw [if_pos c]
    exact ⟨h, Nat.le_refl _⟩
  · rw [if_neg c]
    have nd2 : (st.1 ++ [o]).Nodup := List.nodup_append.mpr ⟨h.nd, by simp, fun a ha b hb => by
      rw [List.mem_singleton.mp hb]
      exact fun z => c (z ▸ ha)⟩
    have lt2 : ∀ x ∈ st.1 ++ [o], x < n := fun x hx => by
      rcases List.mem_append.mp hx with z | z
      · exact h.lt x z
      · rw [List.mem_singleton.mp z]; exact ho
    refine ⟨⟨nd2, lt2, fun x hx => ?_⟩, ?_⟩
    · rcases List.mem_append.mp hx with z | z
      · exact List.mem_append_left _ (h.sub x z)
      · exact List.mem_append_right _ z
    · have := pigeon (st.1 ++ [o]) n nd2 lt2
      unfold hmu
      show 2 * (n - (st.1 ++ [o]).length) + (st.2 ++ [o]).length ≤ _
      rw [List.length_append, List.length_singleton] at this ⊢
      rw [List.length_append, List.length_singleton]
      omega
theorem hfold_inv {n : Nat} : ∀ (os : List Nat) {st : List Nat × List Nat}, HInv n st → (∀ o ∈ os, o < n) → HInv n (os.foldl hadd st) ∧ hmu n (os.foldl hadd st) ≤ hmu n st
  | [], st, h, _ => ⟨h, Nat.le_refl _⟩
  | o :: os, st, h, ho => by
    obtain ⟨h1, h2⟩ := hadd_inv h (ho o List.mem_cons_self)
    obtain ⟨h3, h4⟩ := hfold_inv os h1 fun x hx => ho x (List.mem_cons_of_mem _ hx)
    exact ⟨h3, Nat.le_trans h4 h2⟩
theorem hang_lt {near : List (List Nat)} {p x : Nat} (h : x ∈ hangs near p) : x < 10 := by
  unfold hangs at h
  split at h
  · exact (mem_sortN.mp h).1
  · simp at h
theorem hang_len (near : List (List Nat)) (p : Nat) : (hangs near p).length ≤ 10 := by
  unfold hangs
  split
  · exact sortN_len _
  · simp
theorem hang_nd (near : List (List Nat)) (p : Nat) : (hangs near p).Nodup := by
  unfold hangs
  split
  · exact pw_nodup (sortN_pw _)
  · simp
end KPR
set_option Elab.async false
set_option linter.all false
/-! KM3: flows in plain Lean: amounts within the weights, the flux over a side, the least side. -/
namespace KPR
def ind (S : List Nat) (x : Nat) : Int := if x ∈ S then 1 else 0
def flux (S : List Nat) : List Tie → List Int → Int
  | t :: ts, x :: am => x * (ind S t.1 - ind S t.2.1) + flux S ts am
  | _, _ => 0
def Caps : List Tie → List Int → Prop
  | [], [] => True
  | t :: ts, x :: am => (-t.2.2 ≤ x ∧ x ≤ t.2.2) ∧ Caps ts am
  | _, _ => False
theorem Caps.len : ∀ {ts : List Tie} {am : List Int}, Caps ts am → am.length = ts.length
  | [], [], _ => rfl
  | t :: ts, x :: am, h => by rw [List.length_cons, List.length_cons, h.2.len]
  | [], _ :: _, h => h.elim
  | _ :: _, [], h => h.elim
theorem Caps.get : ∀ {ts : List Tie} {am : List Int} {k : Nat} {t : Tie}, Caps ts am → ts[k]? = some t → ∃ x, am[k]? = some x ∧ -t.2.2 ≤ x ∧ x ≤ t.2.2
  | t :: ts, x :: am, 0, t', h, e => by
    have : t = t' := by simpa using e
    subst this
    exact ⟨x, rfl, h.1⟩
  | t :: ts, x :: am, k + 1, t', h, e => by
    obtain ⟨y, h1, h2⟩ := h.2.get (k := k) (by simpa using e)
    exact ⟨y, by simpa using h1, h2⟩
  | [], [], k, t, _, e => by simp at e
  | [], _ :: _, _, _, h, _ => h.elim
  | _ :: _, [], _, _, h, _ => h.elim
theorem Caps.set : ∀ {ts : List Tie} {am : List Int} {k : Nat} {t : Tie} {y : Int}, Caps ts am → ts[k]? = some t → -t.2.2 ≤ y → y ≤ t.2.2 → Caps ts (am.set k y)
  | t :: ts, x :: am, 0, t', y, h, e, h1, h2 => by
    have : t = t' := by simpa using e
    subst this
    exact ⟨⟨h1, h2⟩, h.2⟩
  | t :: ts, x :: am, k + 1, t', y, h, e, h1, h2 => ⟨h.1, h.2.set (k := k) (by simpa using e) h1 h2⟩
  | [], [], k, t, _, _, e, _, _ => by simp at e
  | [], _ :: _, _, _, _, h, _, _, _ => h.elim
  | _ :: _, [], _, _, _, h, _, _, _ => h.elim
theorem flux_set (S : List Nat) : ∀ {ts : List Tie} {am : List Int} {k : Nat} {t : Tie} {x d : Int}, ts[k]? = some t → am[k]? = some x → flux S ts (am.set k (x + d)) = flux S ts am + d * (ind S t.1 - ind S t.2.1)
  | t :: ts, x :: am, 0, t', x', d, e, ex => by
    have h1 : t = t' := by simpa using e
    have h2 : x = x' := by simpa using ex
    subst h1 h2
    show (x + d) * (ind S t.1 - ind S t.2.1) + flux S ts am = x * (ind S t.1 - ind S t.2.1) + flux S ts am + d * (ind S t.1 - ind S t.2.1)
    rw [Int.add_mul]
    omega
  | t :: ts, x :: am, k + 1, t', x', d, e, ex => by
    have ih := flux_set S (ts := ts) (am := am) (k := k) (t := t') (x := x') (d := d) (by simpa using e) (by simpa using ex)
    show x * (ind S t.1 - ind S t.2.1) + flux S ts (am.set k (x' + d)) = x * (ind S t.1 - ind S t.2.1) + flux S ts am + _
    rw [ih]
    omega
  | [], _, _, _, _, _, e, _ => by simp at e
  | _ :: _, [], _, _, _, _, _, ex => by simp at ex
theorem sideW_cons (t : Tie) (ts : List Tie) (S : List Nat) : sideW (t :: ts) S = (if sep S t.1 t.2.1 = true then t.2.2 else 0) + sideW ts S := by
  unfold sideW
  rw [List.filter_cons]
  by_cases h : sep S t.1 t.2.1 = true
  · rw [if_pos h, if_pos h, List.map_cons, List.sum_cons]
  · rw [if_neg h, if_neg h]
    omega
theorem ind_in {S : List Nat} {x : Nat} (h : x ∈ S) : ind S x = 1 := if_pos h
theorem ind_out {S : List Nat} {x : Nat} (h : x ∉ S) : ind S x = 0 := if_neg h
theorem sep_iff {S : List Nat} {a b : Nat} : sep S a b = true ↔ (a ∈ S ∧ b ∉ S) ∨ (a ∉ S ∧ b ∈ S) := by
  unfold sep
  by_cases h1 : a ∈ S <;> by_cases h2 : b ∈ S <;> simp [h1, h2]
theorem term_le {S : List Nat} {t : Tie} {x : Int} (h1 : -t.2.2 ≤ x) (h2 : x ≤ t.2.2) : x * (ind S t.1 - ind S t.2.1) ≤ if sep S t.1 t.2.1 = true then t.2.2 else 0 := by
  by_cases ha : t.1 ∈ S <;> by_cases hb : t.2.1 ∈ S
  · rw [ind_in ha, ind_in hb]
    split <;> omega
  · rw [ind_in ha, ind_out hb, if_pos (sep_iff.mpr (.inl ⟨ha, hb⟩))]
    omega
  · rw [ind_out ha, ind_in hb, if_pos (sep_iff.mpr (.inr ⟨ha, hb⟩))]
    omega
  · rw [ind_out ha, ind_out hb]
    split <;> omega
theorem flux_le (S : List Nat) : ∀ {ts : List Tie} {am : List Int}, Caps ts am → flux S ts am ≤ sideW ts S
  | [], [], _ => Int.le_refl _
  | t :: ts, x :: am, h => by
    rw [sideW_cons]
    have h1 := term_le (S := S) h.1.1 h.1.2
    have h2 := flux_le S h.2
    show x * (ind S t.1 - ind S t.2.1) + flux S ts am ≤ _
    omega
  | [], _ :: _, h => h.elim
  | _ :: _, [], h => h.elim
/-- no room over the side -/
theorem flux_sat (S : List Nat) : ∀ {ts : List Tie} {am : List Int}, Caps ts am → (∀ t ∈ ts, 0 < t.2.2) → flux S ts am = sideW ts S → ∀ (k : Nat) (t : Tie) (x : Int), ts[k]? = some t → am[k]? = some x → (t.1 ∈ S → t.2.1 ∉ S → x = t.2.2) ∧ (t.1 ∉ S → t.2.1 ∈ S → x = -t.2.2)
  | [], [], _, _, _ => fun k t x e _ => by simp at e
  | t :: ts, x :: am, h, pos, e => fun k t' x' e1 e2 => by
    rw [sideW_cons] at e
    have h1 := term_le (S := S) h.1.1 h.1.2
    have h2 := flux_le S h.2
    have e : x * (ind S t.1 - ind S t.2.1) + flux S ts am = _ := e
    cases k with
    | zero =>
      have q1 : t = t' := by simpa using e1
      have q2 : x = x' := by simpa using e2
      subst q1 q2
      have e3 : x * (ind S t.1 - ind S t.2.1) = if sep S t.1 t.2.1 = true then t.2.2 else 0 := by omega
      constructor
      · intro ha hb
        rw [ind_in ha, ind_out hb, if_pos (sep_iff.mpr (.inl ⟨ha, hb⟩))] at e3
        omega
      · intro ha hb
        rw [ind_out ha, ind_in hb, if_pos (sep_iff.mpr (.inr ⟨ha, hb⟩))] at e3
        omega
    | succ k => exact flux_sat S h.2 (fun t ht => pos t (List.mem_cons_of_mem _ ht)) (by omega) k t' x' (by simpa using e1) (by simpa using e2)
  | [], _ :: _, h, _, _ => h.elim
  | _ :: _, [], h, _, _ => h.elim
theorem flux_full (S : List Nat) : ∀ {ts : List Tie} {am : List Int}, am.length = ts.length → (∀ (k : Nat) (t : Tie) (x : Int), ts[k]? = some t → am[k]? = some x → (t.1 ∈ S → t.2.1 ∉ S → x = t.2.2) ∧ (t.1 ∉ S → t.2.1 ∈ S → x = -t.2.2)) → flux S ts am = sideW ts S
  | [], am, _, _ => by cases am <;> rfl
  | t :: ts, x :: am, hl, h => by
    rw [sideW_cons]
    have ih := flux_full S (ts := ts) (am := am) (by simpa using hl) fun k t' x' e1 e2 => h (k + 1) t' x' (by simpa using e1) (by simpa using e2)
    obtain ⟨h1, h2⟩ := h 0 t x rfl rfl
    show x * (ind S t.1 - ind S t.2.1) + flux S ts am = _
    rw [ih]
    by_cases ha : t.1 ∈ S <;> by_cases hb : t.2.1 ∈ S
    · have : ¬ sep S t.1 t.2.1 = true := by rw [sep_iff]; simp [ha, hb]
      rw [ind_in ha, ind_in hb, if_neg this]; omega
    · rw [ind_in ha, ind_out hb, if_pos (sep_iff.mpr (.inl ⟨ha, hb⟩)), h1 ha hb]; omega
    · rw [ind_out ha, ind_in hb, if_pos (sep_iff.mpr (.inr ⟨ha, hb⟩)), h2 ha hb]; omega
    · have : ¬ sep S t.1 t.2.1 = true := by rw [sep_iff]; simp [ha, hb]
      rw [ind_out ha, ind_out hb, if_neg this]; omega
  | _ :: _, [], hl, _ => by simp at hl
theorem flux_zero (S : List Nat) : ∀ (ts : List Tie), flux S ts (List.replicate ts.length 0) = 0
  | [] => rfl
  | t :: ts => by
    show 0 * _ + flux S ts (List.replicate ts.length 0) = 0
    rw [flux_zero S ts]
    omega
theorem caps_zero : ∀ {ts : List Tie}, (∀ t ∈ ts, 0 < t.2.2) → Caps ts (List.replicate ts.length 0)
  | [], _ => trivial
  | t :: ts, h => by
    have := h t List.mem_cons_self
    exact ⟨⟨by omega, by omega⟩, caps_zero fun t ht => h t (List.mem_cons_of_mem _ ht)⟩
/-! ### rooms and ways -/
def nearF (ts : List Tie) (p : Nat) : List (Nat × Nat) := ts.zipIdx.flatMap fun x => (if x.1.1 = p then [(x.2, x.1.2.1)] else []) ++ (if x.1.2.1 = p then [(x.2, x.1.1)] else [])
theorem nearF_snoc (ts : List Tie) (t : Tie) (p : Nat) : nearF (ts ++ [t]) p = nearF ts p ++ ((if t.1 = p then [(ts.length, t.2.1)] else []) ++ (if t.2.1 = p then [(ts.length, t.1)] else [])) := by
  unfold nearF
  rw [List.zipIdx_append, List.flatMap_append]
  simp
theorem mem_nearF {ts : List Tie} {p k q : Nat} : (k, q) ∈ nearF ts p ↔ ∃ t, ts[k]? = some t ∧ ((t.1 = p ∧ q = t.2.1) ∨ (t.2.1 = p ∧ q = t.1)) := by
  unfold nearF
  rw [List.mem_flatMap]
  constructor
  · rintro ⟨⟨t, i⟩, h1, h2⟩
    have h1 := List.mem_zipIdx_iff_getElem?.mp h1
    rcases List.mem_append.mp h2 with z | z
    · split at z
      · rename_i e
        have := List.mem_singleton.mp z
        cases this
        exact ⟨t, h1, .inl ⟨e, rfl⟩⟩
      · simp at z
    · split at z
      · rename_i e
        have := List.mem_singleton.mp z
        cases this
        exact ⟨t, h1, .inr ⟨e, rfl⟩⟩
      · simp at z
  · rintro ⟨t, h1, h2⟩
    refine ⟨(t, k), List.mem_zipIdx_iff_getElem?.mpr h1, ?_⟩
    rcases h2 with ⟨e, rfl⟩ | ⟨e, rfl⟩
    · exact List.mem_append_left _ (by rw [if_pos e]; simp)
    · exact List.mem_append_right _ (by rw [if_pos e]; simp)
theorem nearF_len (ts : List Tie) (p : Nat) : (nearF ts p).length ≤ 2 * ts.length := by
  have : ∀ l : List (Tie × Nat), (l.flatMap fun x => (if x.1.1 = p then [(x.2, x.1.2.1)] else []) ++ (if x.1.2.1 = p then [(x.2, x.1.1)] else [])).length ≤ 2 * l.length := by
    intro l
    induction l with
    | nil => simp
    | cons x l ih =>
      rw [List.flatMap_cons, List.length_append, List.length_append, List.length_cons]
      have h1 : (if x.1.1 = p then [(x.2, x.1.2.1)] else []).length ≤ 1 := by split <;> simp
      have h2 : (if x.1.2.1 = p then [(x.2, x.1.1)] else []).length ≤ 1 := by split <;> simp
      omega
  have h := this ts.zipIdx
  rw [List.length_zipIdx] at h
  exact h
def tieAt (ts : List Tie) (k : Nat) : Tie := ts.getD k (0, 0, 0)
def amAt (am : List Int) (k : Nat) : Int := am.getD k 0
def roomOf (ts : List Tie) (am : List Int) (k p : Nat) : Int := if p = (tieAt ts k).1 then (tieAt ts k).2.2 - amAt am k else (tieAt ts k).2.2 + amAt am k
def addAm (ts : List Tie) (am : List Int) (k p : Nat) (m : Int) : List Int := am.set k (amAt am k + if p = (tieAt ts k).1 then m else -m)
abbrev Came := List (Nat × Option (Nat × Nat))
/-- the ways on from s, as far as found -/
structure CameOk (n : Nat) (ts : List Tie) (am : List Int) (s : Nat) (came : Came) : Prop where
  nd : (came.map (·.1)).Nodup
  lt : ∀ x ∈ came.map (·.1), x < n
  hd : came[0]? = some (s, none)
  way : ∀ (i q : Nat) (e : Option (Nat × Nat)), came[i]? = some (q, e) → 0 < i → ∃ (k h j : Nat) (e' : Option (Nat × Nat)), e = some (k, h) ∧ j < i ∧ came[j]? = some (h, e') ∧ (k, q) ∈ nearF ts h ∧ 0 < roomOf ts am k h
theorem CameOk.snoc {n : Nat} {ts : List Tie} {am : List Int} {s : Nat} {came : Came} (c : CameOk n ts am s came) {k h q j : Nat} {e' : Option (Nat × Nat)} (hq : q ∉ came.map (·.1)) (hn : q < n) (hj : came[j]? = some (h, e')) (hw : (k, q) ∈ nearF ts h) (hr : 0 < roomOf ts am k h) : CameOk n ts am s (came ++ [(q, some (k, h))]) := by
  refine ⟨?_, ?_, ?_, ?_⟩
  · rw [List.map_append]
    refine List.nodup_append.mpr ⟨c.nd, by simp, fun a ha b hb => ?_⟩
    rw [List.mem_singleton.mp hb]
    exact fun z => hq (by rw [show q = a from z.symm]; exact ha)
  · intro x hx
    rw [List.map_append] at hx
    rcases List.mem_append.mp hx with z | z
    · exact c.lt x z
    · rw [List.mem_singleton.mp z]; exact hn
  · have h0 := c.hd
    rw [List.getElem?_append_left (List.getElem?_eq_some_iff.mp h0).1]
    exact h0
  · intro i q' e hi h0
    have hjl := (List.getElem?_eq_some_iff.mp hj).1
    by_cases hl : i < came.length
    · rw [List.getElem?_append_left hl] at hi
      obtain ⟨k1, h1, j1, e1, a1, a2, a3, a4⟩ := c.way i q' e hi h0
      exact ⟨k1, h1, j1, e1, a1, a2, by rw [List.getElem?_append_left (by omega)]; exact a3, a4⟩
    · have hi2 := (List.getElem?_eq_some_iff.mp hi).1
      rw [List.length_append, List.length_singleton] at hi2
      have : i = came.length := by omega
      subst this
      rw [List.getElem?_append_right (Nat.le_refl _), Nat.sub_self] at hi
      have : (q, some (k, h)) = (q', e) := by simpa using hi
      cases this
      exact ⟨k, h, j, e', rfl, hjl, by rw [List.getElem?_append_left hjl]; exact hj, hw, hr⟩
/-- closed: no room leads out of the first m -/
def Closed (ts : List Tie) (am : List Int) (came : Came) (m : Nat) : Prop := ∀ (i h : Nat) (e : Option (Nat × Nat)), i < m → came[i]? = some (h, e) → ∀ k q, (k, q) ∈ nearF ts h → 0 < roomOf ts am k h → q ∈ came.map (·.1)
/-! ### the path back -/
inductive PathTo (came : Came) (sink : Nat) : Nat → List (Nat × Nat) → Prop
  | nil : PathTo came sink sink []
  | snoc {p k h : Nat} {l : List (Nat × Nat)} : PathTo came sink p l → (p, some (k, h)) ∈ came → PathTo came sink h (l ++ [(k, h)])
def push (ts : List Tie) (m : Int) (am : List Int) (x : Nat × Nat) : List Int := addAm ts am x.1 x.2 m
def inStep (ts : List Tie) (S : List Nat) (x : Nat × Nat) : Int := if x.2 = (tieAt ts x.1).1 then ind S (tieAt ts x.1).1 - ind S (tieAt ts x.1).2.1 else ind S (tieAt ts x.1).2.1 - ind S (tieAt ts x.1).1
theorem flux_push {ts : List Tie} {am : List Int} {m : Int} {x : Nat × Nat} (S : List Nat) (hl : am.length = ts.length) (hk : x.1 < ts.length) : flux S ts (push ts m am x) = flux S ts am + m * inStep ts S x := by
  unfold push addAm
  have h1 : ts[x.1]? = some (tieAt ts x.1) := by unfold tieAt; rw [List.getD_eq_getElem?_getD, List.getElem?_eq_getElem hk]; rfl
  have h2 : am[x.1]? = some (amAt am x.1) := by unfold amAt; rw [List.getD_eq_getElem?_getD, List.getElem?_eq_getElem (by omega)]; rfl
  rw [flux_set S h1 h2]
  unfold inStep
  by_cases c : x.2 = (tieAt ts x.1).1
  · rw [if_pos c, if_pos c]
  · rw [if_neg c, if_neg c, Int.neg_mul, Int.mul_sub, Int.mul_sub]
    omega
theorem push_len {ts : List Tie} {am : List Int} {m : Int} {x : Nat × Nat} : (push ts m am x).length = am.length := by unfold push addAm; rw [List.length_set]
theorem flux_pushes {ts : List Tie} {m : Int} (S : List Nat) : ∀ (l : List (Nat × Nat)) {am : List Int}, am.length = ts.length → (∀ x ∈ l, x.1 < ts.length) → flux S ts (l.foldl (push ts m) am) = flux S ts am + m * (l.map (inStep ts S)).sum
  | [], am, _, _ => by simp
  | x :: l, am, hl, hk => by
    rw [List.foldl_cons, flux_pushes S l (by rw [push_len]; exact hl) fun y hy => hk y (List.mem_cons_of_mem _ hy), flux_push S hl (hk x List.mem_cons_self), List.map_cons, List.sum_cons, Int.mul_add]
    omega
end KPR
set_option Elab.async false
set_option linter.all false
/-! KM4: paths, the least side. -/
namespace KPR
theorem key_idx {came : Came} (nd : (came.map (·.1)).Nodup) {i j p : Nat} {e e' : Option (Nat × Nat)} (h1 : came[i]? = some (p, e)) (h2 : came[j]? = some (p, e')) : i = j := by
  obtain ⟨l1, q1⟩ := List.getElem?_eq_some_iff.mp h1
  obtain ⟨l2, q2⟩ := List.getElem?_eq_some_iff.mp h2
  have a1 : (came.map (·.1))[i]'(by rw [List.length_map]; exact l1) = p := by rw [List.getElem_map, q1]
  have a2 : (came.map (·.1))[j]'(by rw [List.length_map]; exact l2) = p := by rw [List.getElem_map, q2]
  exact (List.getElem_inj nd).mp (a1.trans a2.symm)
theorem tieAt_of {ts : List Tie} {k : Nat} {t : Tie} (h : ts[k]? = some t) : tieAt ts k = t := by
  unfold tieAt
  rw [List.getD_eq_getElem?_getD, h]
  rfl
theorem amAt_of {am : List Int} {k : Nat} {x : Int} (h : am[k]? = some x) : amAt am k = x := by
  unfold amAt
  rw [List.getD_eq_getElem?_getD, h]
  rfl
/-- a step's tie, and that the step's place is one of its ends -/
def Step (ts : List Tie) (x : Nat × Nat) : Prop := x.1 < ts.length ∧ (x.2 = (tieAt ts x.1).1 ∨ x.2 = (tieAt ts x.1).2.1)
theorem path_props {n : Nat} {ts : List Tie} {am : List Int} {s sink : Nat} {came : Came} (c : CameOk n ts am s came) (lt : ∀ t ∈ ts, t.1 < t.2.1) {p : Nat} {l : List (Nat × Nat)} (h : PathTo came sink p l) :
    (∀ x ∈ l, Step ts x ∧ 0 < roomOf ts am x.1 x.2 ∧ x.2 < n) ∧ (∀ (i : Nat) (e : Option (Nat × Nat)), came[i]? = some (p, e) → ∀ x ∈ l, ∃ (i' : Nat) (e' : Option (Nat × Nat)), i ≤ i' ∧ came[i']? = some (x.2, e')) ∧ (l.map (·.2)).Nodup ∧ ∀ S, (l.map (inStep ts S)).sum = ind S p - ind S sink := by
  induction h with
  | nil => exact ⟨(fun x hx => nomatch hx), (fun i e _ x hx => nomatch hx), List.nodup_nil, fun S => by simp⟩
  | @snoc p k h l hp he ih =>
    obtain ⟨i1, i2, i3, i4⟩ := ih
    obtain ⟨i, hi⟩ := List.mem_iff_getElem?.mp he
    have i0 : 0 < i := by
      rcases Nat.eq_zero_or_pos i with z | z
      · subst z
        rw [c.hd] at hi
        cases hi
      · exact z
    obtain ⟨k', h', j, e', ek, hj, hj2, hw, hr⟩ := c.way i p _ hi i0
    cases ek
    obtain ⟨t, ht, hends⟩ := mem_nearF.mp hw
    have eT := tieAt_of ht
    have hne := lt t (List.mem_of_getElem? ht)
    have hhn : h < n := c.lt h (List.mem_map.mpr ⟨_, List.mem_of_getElem? hj2, rfl⟩)
    refine ⟨fun x hx => ?_, fun m e hm x hx => ?_, ?_, fun S => ?_⟩
    · rcases List.mem_append.mp hx with z | z
      · exact i1 x z
      · rw [List.mem_singleton.mp z]
        refine ⟨⟨(List.getElem?_eq_some_iff.mp ht).1, ?_⟩, hr, hhn⟩
        show h = (tieAt ts k).1 ∨ h = (tieAt ts k).2.1
        rw [eT]
        rcases hends with ⟨q, _⟩ | ⟨q, _⟩
        · exact .inl q.symm
        · exact .inr q.symm
    · have hmj : m = j := key_idx c.nd hm hj2
      rcases List.mem_append.mp hx with z | z
      · obtain ⟨i', e'', a1, a2⟩ := i2 i _ hi x z
        exact ⟨i', e'', by omega, a2⟩
      · rw [List.mem_singleton.mp z]
        exact ⟨j, e', by omega, hj2⟩
    · rw [List.map_append]
      refine List.nodup_append.mpr ⟨i3, by simp, fun a ha b hb => ?_⟩
      have eb : b = h := by simpa using hb
      obtain ⟨x, hx, rfl⟩ := List.mem_map.mp ha
      obtain ⟨i', e'', a1, a2⟩ := i2 i _ hi x hx
      rw [eb]
      intro z
      have z : x.2 = h := z
      rw [z] at a2
      have := key_idx c.nd a2 hj2
      omega
    · rw [List.map_append, List.sum_append, i4 S]
      have : inStep ts S (k, h) = ind S h - ind S p := by
        unfold inStep
        show (if h = (tieAt ts k).1 then ind S (tieAt ts k).1 - ind S (tieAt ts k).2.1 else ind S (tieAt ts k).2.1 - ind S (tieAt ts k).1) = _
        rw [eT]
        rcases hends with ⟨q1, q2⟩ | ⟨q1, q2⟩
        · rw [if_pos q1.symm, q1, q2]
        · have : ¬ h = t.1 := by omega
          rw [if_neg this, q1, q2]
      simp [this]
      omega
theorem caps_push {ts : List Tie} {am : List Int} {m : Int} {x : Nat × Nat} (c : Caps ts am) (hm : 0 ≤ m) (st : Step ts x) (hr : m ≤ roomOf ts am x.1 x.2) : Caps ts (push ts m am x) := by
  have h1 : ts[x.1]? = some (tieAt ts x.1) := by unfold tieAt; rw [List.getD_eq_getElem?_getD, List.getElem?_eq_getElem st.1]; rfl
  obtain ⟨y, h2, h3, h4⟩ := c.get h1
  have e := amAt_of h2
  unfold push addAm
  unfold roomOf at hr
  rw [e] at hr ⊢
  refine c.set h1 ?_ ?_
  · by_cases q : x.2 = (tieAt ts x.1).1
    · rw [if_pos q]; omega
    · rw [if_neg q] at hr ⊢; omega
  · by_cases q : x.2 = (tieAt ts x.1).1
    · rw [if_pos q] at hr ⊢; omega
    · rw [if_neg q]; omega
theorem amAt_set {am : List Int} {k j : Nat} {y : Int} (h : k < am.length) : amAt (am.set k y) j = if j = k then y else amAt am j := by
  unfold amAt
  rw [List.getD_eq_getElem?_getD, List.getD_eq_getElem?_getD, List.getElem?_set]
  by_cases e : k = j
  · subst e
    rw [if_pos rfl, if_pos h, if_pos rfl]
    rfl
  · rw [if_neg e, if_neg (Ne.symm e)]
theorem room_push {ts : List Tie} {am : List Int} {m : Int} {x y : Nat × Nat} (hl : am.length = ts.length) (lt : ∀ t ∈ ts, t.1 < t.2.1) (hm : 0 ≤ m) (sx : Step ts x) (sy : Step ts y) (hne : x.2 ≠ y.2) : roomOf ts am y.1 y.2 ≤ roomOf ts (push ts m am x) y.1 y.2 := by
  unfold push addAm roomOf
  rw [amAt_set (by rw [hl]; exact sx.1)]
  by_cases e : y.1 = x.1
  · rw [if_pos e, ← e]
    have sx2 := sx.2
    rw [← e] at sx2
    have hlt : (tieAt ts y.1).1 < (tieAt ts y.1).2.1 := lt _ (by
      unfold tieAt
      rw [List.getD_eq_getElem?_getD, List.getElem?_eq_getElem sy.1]
      exact List.getElem_mem sy.1)
    rcases sx2 with a | a <;> rcases sy.2 with b | b
    · exact absurd (a.trans b.symm) hne
    · rw [if_pos a, if_neg (by omega), if_neg (by omega)]; omega
    · rw [if_neg (by omega : ¬ x.2 = (tieAt ts y.1).1), if_pos b, if_pos b]; omega
    · exact absurd (a.trans b.symm) hne
  · rw [if_neg e]
    exact Int.le_refl _
theorem caps_pushes {ts : List Tie} {m : Int} (lt : ∀ t ∈ ts, t.1 < t.2.1) (hm : 0 ≤ m) : ∀ (l : List (Nat × Nat)) {am : List Int}, Caps ts am → (∀ x ∈ l, Step ts x ∧ m ≤ roomOf ts am x.1 x.2) → (l.map (·.2)).Nodup → Caps ts (l.foldl (push ts m) am)
  | [], am, c, _, _ => c
  | x :: l, am, c, h, nd => by
    rw [List.map_cons] at nd
    obtain ⟨n1, n2⟩ := List.nodup_cons.mp nd
    have hx := h x List.mem_cons_self
    rw [List.foldl_cons]
    refine caps_pushes lt hm l (caps_push c hm hx.1 hx.2) (fun y hy => ?_) n2
    have hy' := h y (List.mem_cons_of_mem _ hy)
    refine ⟨hy'.1, Int.le_trans hy'.2 (room_push c.len lt hm hx.1 hy'.1 fun z => n1 ?_)⟩
    rw [z]
    exact List.mem_map.mpr ⟨y, hy, rfl⟩
/-! ### the least side -/
structure MinSide (ts : List Tie) (s : Nat) (T S : List Nat) : Prop where
  pw : S.Pairwise (· < ·)
  lt : ∀ x ∈ S, x < 10
  src : s ∈ S
  snk : ∀ t ∈ T, t ∉ S
  least : ∀ S', s ∈ S' → (∀ t ∈ T, t ∉ S') → sideW ts S ≤ sideW ts S'
  sub : ∀ S', s ∈ S' → (∀ t ∈ T, t ∉ S') → sideW ts S' = sideW ts S → ∀ x ∈ S, x ∈ S'
theorem MinSide.one {ts : List Tie} {s : Nat} {T S S' : List Nat} (a : MinSide ts s T S) (b : MinSide ts s T S') : S = S' := by
  have h1 := a.least S' b.src b.snk
  have h2 := b.least S a.src a.snk
  exact pw_ext a.pw b.pw fun x => ⟨a.sub S' b.src b.snk (by omega) x, b.sub S a.src a.snk (by omega) x⟩
/-- the amounts carry v from s to T -/
structure Carry (ts : List Tie) (s : Nat) (T : List Nat) (am : List Int) (v : Int) : Prop where
  caps : Caps ts am
  fl : ∀ S, s ∈ S → (∀ t ∈ T, t ∉ S) → flux S ts am = v
theorem Carry.zero {ts : List Tie} (pos : ∀ t ∈ ts, 0 < t.2.2) (s : Nat) (T : List Nat) : Carry ts s T (List.replicate ts.length 0) 0 := ⟨caps_zero pos, fun S _ _ => flux_zero S ts⟩
theorem Carry.le {ts : List Tie} {s : Nat} {T : List Nat} {am : List Int} {v : Int} (c : Carry ts s T am v) (hs : s ∉ T) : v ≤ sideW ts [s] := by
  have h := c.fl [s] (by simp) fun t ht z => hs (by rw [List.mem_singleton.mp z] at ht; exact ht)
  rw [← h]
  exact flux_le _ c.caps
theorem Carry.push {n : Nat} {ts : List Tie} {s sink : Nat} {T : List Nat} {am : List Int} {v m : Int} {came : Came} {l : List (Nat × Nat)} (c : Carry ts s T am v) (co : CameOk n ts am s came) (lt : ∀ t ∈ ts, t.1 < t.2.1) (hT : sink ∈ T) (h : PathTo came sink s l) (h0 : 0 ≤ m) (hm : ∀ x ∈ l, m ≤ roomOf ts am x.1 x.2) : Carry ts s T (l.foldl (push ts m) am) (v + m) := by
  obtain ⟨a1, a2, a3, a4⟩ := path_props co lt h
  refine ⟨caps_pushes lt h0 l c.caps (fun x hx => ⟨(a1 x hx).1, hm x hx⟩) a3, fun S hs ht => ?_⟩
  rw [flux_pushes S l c.caps.len fun x hx => (a1 x hx).1.1, c.fl S hs ht, a4 S, ind_in hs, ind_out (ht sink hT)]
  omega
theorem end_src {n : Nat} {ts : List Tie} {am : List Int} {s p : Nat} {came : Came} (co : CameOk n ts am s came) (h : (p, none) ∈ came) : p = s := by
  obtain ⟨i, hi⟩ := List.mem_iff_getElem?.mp h
  rcases Nat.eq_zero_or_pos i with z | z
  · subst z
    rw [co.hd] at hi
    cases hi
    rfl
  · obtain ⟨k, h, j, e', e, _⟩ := co.way i p _ hi z
    cases e
theorem Carry.done {n : Nat} {ts : List Tie} {s : Nat} {T : List Nat} {am : List Int} {v : Int} {came : Came} (c : Carry ts s T am v) (wf : Wf n ts) (co : CameOk n ts am s came) (cl : Closed ts am came came.length) (no : ∀ x ∈ came.map (·.1), x ∉ T) : MinSide ts s T (sortN (came.map (·.1))) ∧ v = sideW ts (sortN (came.map (·.1))) := by
  have hn := wf.n10
  have mem : ∀ x, x ∈ sortN (came.map (·.1)) ↔ x ∈ came.map (·.1) := fun x => by
    rw [mem_sortN]
    exact ⟨fun h => h.2, fun h => ⟨by have := co.lt x h; omega, h⟩⟩
  have hs0 : s ∈ came.map (·.1) := List.mem_map.mpr ⟨_, List.mem_of_getElem? co.hd, rfl⟩
  have hs : s ∈ sortN (came.map (·.1)) := (mem s).mpr hs0
  have hT : ∀ t ∈ T, t ∉ sortN (came.map (·.1)) := fun t ht z => no t ((mem t).mp z) ht
  have ev : v = sideW ts (sortN (came.map (·.1))) := by
    rw [← c.fl _ hs hT]
    refine flux_full _ c.caps.len fun k t x e1 e2 => ?_
    obtain ⟨x', e3, b1, b2⟩ := c.caps.get e1
    rw [e2] at e3
    cases e3
    have eT := tieAt_of e1
    have eA := amAt_of e2
    have lt := wf.lt t (List.mem_of_getElem? e1)
    constructor
    · intro ha hb
      obtain ⟨y, hy, ey⟩ := List.mem_map.mp ((mem _).mp ha)
      obtain ⟨i, hi⟩ := List.mem_iff_getElem?.mp hy
      obtain ⟨y1, y2⟩ := y
      have ey : y1 = t.1 := ey
      subst ey
      by_cases hr : 0 < roomOf ts am k t.1
      · exact absurd ((mem _).mpr (cl i _ _ (List.getElem?_eq_some_iff.mp hi).1 hi k t.2.1 (mem_nearF.mpr ⟨t, e1, .inl ⟨rfl, rfl⟩⟩) hr)) hb
      · unfold roomOf at hr
        rw [eT, eA, if_pos rfl] at hr
        omega
    · intro ha hb
      obtain ⟨y, hy, ey⟩ := List.mem_map.mp ((mem _).mp hb)
      obtain ⟨i, hi⟩ := List.mem_iff_getElem?.mp hy
      obtain ⟨y1, y2⟩ := y
      have ey : y1 = t.2.1 := ey
      subst ey
      by_cases hr : 0 < roomOf ts am k t.2.1
      · exact absurd ((mem _).mpr (cl i _ _ (List.getElem?_eq_some_iff.mp hi).1 hi k t.1 (mem_nearF.mpr ⟨t, e1, .inr ⟨rfl, rfl⟩⟩) hr)) ha
      · unfold roomOf at hr
        rw [eT, eA, if_neg (by omega)] at hr
        omega
  refine ⟨⟨sortN_pw _, fun x hx => (mem_sortN.mp hx).1, hs, hT, fun S' h1 h2 => ?_, fun S' h1 h2 e x hx => ?_⟩, ev⟩
  · rw [← ev, ← c.fl S' h1 h2]
    exact flux_le _ c.caps
  · have sat := flux_sat S' c.caps wf.pos (by rw [c.fl S' h1 h2, e, ev])
    have key : ∀ (i q : Nat) (e : Option (Nat × Nat)), came[i]? = some (q, e) → q ∈ S' := by
      intro i
      induction i using Nat.strongRecOn with
      | ind i ih =>
        intro q e hi
        rcases Nat.eq_zero_or_pos i with z | z
        · subst z
          rw [co.hd] at hi
          cases hi
          exact h1
        · obtain ⟨k, h, j, e', rfl, hj, hj2, hw, hr⟩ := co.way i q e hi z
          have hh := ih j hj h e' hj2
          obtain ⟨t, ht, hends⟩ := mem_nearF.mp hw
          obtain ⟨x', e3, b1, b2⟩ := c.caps.get ht
          have st := sat k t x' ht e3
          have eT := tieAt_of ht
          have eA := amAt_of e3
          have lt := wf.lt t (List.mem_of_getElem? ht)
          have pos := wf.pos t (List.mem_of_getElem? ht)
          unfold roomOf at hr
          rw [eT, eA] at hr
          rcases Classical.em (q ∈ S') with y | y
          · exact y
          · exfalso
            rcases hends with ⟨q1, q2⟩ | ⟨q1, q2⟩
            · rw [if_pos q1.symm] at hr
              have := st.1 (by rw [q1]; exact hh) (by rw [← q2]; exact y)
              omega
            · rw [if_neg (by omega)] at hr
              have := st.2 (by rw [← q2]; exact y) (by rw [q1]; exact hh)
              omega
    obtain ⟨y, hy, ey⟩ := List.mem_map.mp ((mem x).mp hx)
    obtain ⟨i, hi⟩ := List.mem_iff_getElem?.mp hy
    rw [← ey]
    exact key i y.1 y.2 hi
end KPR
set_option Elab.async false
set_option linter.all false
/-! KM5: sets of pairs, the greatest, the singles. -/
namespace KPR
def cadd (c : List Pr) (p : Pr) : List Pr := if p ∈ c then c else c ++ [p]
theorem cadd_nd {c : List Pr} {p : Pr} (h : c.Nodup) : (cadd c p).Nodup := by
  unfold cadd
  split
  · exact h
  · rename_i hn
    refine List.nodup_append.mpr ⟨h, by simp, fun a ha b hb => ?_⟩
    rw [List.mem_singleton.mp hb]
    exact fun z => hn (by rw [← z]; exact ha)
theorem mem_cadd {c : List Pr} {p q : Pr} : q ∈ cadd c p ↔ q ∈ c ∨ q = p := by
  unfold cadd
  split
  · rename_i h
    exact ⟨Or.inl, fun z => z.elim id fun e => by rw [e]; exact h⟩
  · rw [List.mem_append, List.mem_singleton]
theorem caddL_nd : ∀ (es : List Pr) {c : List Pr}, c.Nodup → (es.foldl cadd c).Nodup
  | [], _, h => h
  | e :: es, _, h => caddL_nd es (cadd_nd h)
theorem mem_caddL {q : Pr} : ∀ (es : List Pr) {c : List Pr}, q ∈ es.foldl cadd c ↔ q ∈ c ∨ q ∈ es
  | [], c => by simp
  | e :: es, c => by
    rw [List.foldl_cons, mem_caddL es, mem_cadd, List.mem_cons]
    constructor
    · rintro ((h | h) | h)
      · exact .inl h
      · exact .inr (.inl h)
      · exact .inr (.inr h)
    · rintro (h | h | h)
      · exact .inl (.inl h)
      · exact .inl (.inr h)
      · exact .inr h
theorem sortPr_congr {c d : List Pr} (h : ∀ p, p ∈ c ↔ p ∈ d) : sortPr c = sortPr d := by
  unfold sortPr
  refine List.filter_congr fun p _ => ?_
  rw [decide_eq_decide]
  exact h p
theorem edges_lt {n : Nat} {ts : List Tie} (wf : Wf n ts) {S : List Nat} {p : Pr} (h : p ∈ edgesT ts S) : p ∈ ts.map prOf ∧ p.1 < 10 ∧ p.2 < 10 := by
  unfold edgesT at h
  obtain ⟨t, ht, rfl⟩ := List.mem_map.mp h
  have hm := (List.mem_filter.mp ht).1
  have h1 := wf.lt t hm
  have h2 := wf.top t hm
  have h3 := wf.n10
  refine ⟨List.mem_map.mpr ⟨t, hm, rfl⟩, ?_, ?_⟩
  · show t.1 < 10
    omega
  · show t.2.1 < 10
    omega
theorem greatest_at {vs : List Int} {m : Int} (hm : m ∈ vs) (hall : ∀ y ∈ vs, y ≤ m) : vs[greatest vs]? = some m ∧ ∀ (j : Nat) (z : Int), j < greatest vs → vs[j]? = some z → z ≠ m := by
  have hex : ∃ x ∈ vs, (vs.all fun u => decide (u ≤ x)) = true := ⟨m, hm, List.all_eq_true.mpr fun u hu => decide_eq_true (hall u hu)⟩
  have hlt : greatest vs < vs.length := List.findIdx_lt_length_of_exists hex
  have hp := List.findIdx_getElem (w := hlt) (p := fun v => vs.all fun u => decide (u ≤ v)) (xs := vs)
  constructor
  · rw [List.getElem?_eq_getElem hlt]
    congr 1
    have h1 := of_decide_eq_true (List.all_eq_true.mp hp m hm)
    have h2 := hall _ (List.getElem_mem hlt)
    exact Int.le_antisymm h2 h1
  · intro j z hj hz e
    subst e
    have hjl := (List.getElem?_eq_some_iff.mp hz).1
    have hn := List.not_of_lt_findIdx (p := fun v => vs.all fun u => decide (u ≤ v)) hj
    have e1 : vs[j] = z := (List.getElem?_eq_some_iff.mp hz).2
    rw [e1] at hn
    exact absurd (List.all_eq_true.mpr fun u hu => decide_eq_true (hall u hu)) (by simpa using hn)
def othersOf (ps : List Nat) (q : Nat) : List Nat := ps.filter fun x => !decide (x = q)
/-- one side a post, each the least -/
structure SidesOk (ts : List Tie) (ps : List Nat) (sides : List (List Nat)) : Prop where
  len : sides.length = ps.length
  at_ : ∀ (i q : Nat), ps[i]? = some q → ∃ S, sides[i]? = some S ∧ MinSide ts q (othersOf ps q) S
theorem SidesOk.one {ts : List Tie} {ps : List Nat} {a b : List (List Nat)} (ha : SidesOk ts ps a) (hb : SidesOk ts ps b) : a = b := by
  apply List.ext_getElem?
  intro i
  cases h : ps[i]? with
  | none =>
    have h1 := List.getElem?_eq_none_iff.mp h
    rw [List.getElem?_eq_none (by rw [ha.len]; exact h1), List.getElem?_eq_none (by rw [hb.len]; exact h1)]
  | some q =>
    obtain ⟨S, e1, m1⟩ := ha.at_ i q h
    obtain ⟨S', e2, m2⟩ := hb.at_ i q h
    rw [e1, e2, m1.one m2]
end KPR
set_option Elab.async false
set_option linter.all false
/-! KM6: a web as weights by pairs; how the least side stays when a weight changes; what a keeper tells. -/
namespace KPR
abbrev Wt := Pr → Int
structure WOk (n : Nat) (W : Wt) : Prop where
  n10 : n ≤ 10
  ok : ∀ p, W p ≠ 0 → p.1 < p.2 ∧ p.2 < n ∧ 0 < W p
def mkT (W : Wt) (p : Pr) : Tie := (p.1, p.2, W p)
def supp (W : Wt) : List Pr := allP.filter fun p => decide (W p ≠ 0)
def tiesOf (W : Wt) : List Tie := (supp W).map (mkT W)
theorem mem_supp {n : Nat} {W : Wt} (h : WOk n W) {p : Pr} : p ∈ supp W ↔ W p ≠ 0 := by
  unfold supp
  rw [List.mem_filter, allP_mem]
  constructor
  · intro z; exact of_decide_eq_true z.2
  · intro z
    have := h.ok p z
    have := h.n10
    exact ⟨⟨by omega, by omega⟩, decide_eq_true z⟩
theorem up45 : (allP.filter fun p => decide (p.1 < p.2)).length = 45 := by decide +kernel
theorem supp_len {n : Nat} {W : Wt} (h : WOk n W) : (supp W).length ≤ 45 := by
  have e : supp W = (allP.filter fun p => decide (p.1 < p.2)).filter fun p => decide (W p ≠ 0) := by
    unfold supp
    rw [List.filter_filter]
    refine List.filter_congr fun p _ => ?_
    by_cases z : W p ≠ 0
    · rw [decide_eq_true z, decide_eq_true (h.ok p z).1]; rfl
    · rw [decide_eq_false z]; rfl
  rw [e, ← up45]
  exact List.length_filter_le _ _
theorem tiesOf_wf {n : Nat} {W : Wt} (h : WOk n W) : Wf n (tiesOf W) := by
  have key : ∀ t ∈ tiesOf W, W (t.1, t.2.1) ≠ 0 ∧ t.2.2 = W (t.1, t.2.1) := fun t ht => by
    obtain ⟨p, hp, rfl⟩ := List.mem_map.mp ht
    exact ⟨(mem_supp h).mp hp, rfl⟩
  refine ⟨h.n10, by unfold tiesOf; rw [List.length_map]; exact supp_len h, fun t ht => (h.ok _ (key t ht).1).1, fun t ht => (h.ok _ (key t ht).1).2.1, fun t ht => ?_⟩
  rw [(key t ht).2]
  exact (h.ok _ (key t ht).1).2.2
theorem prOf_ties (W : Wt) : (tiesOf W).map prOf = supp W := by
  unfold tiesOf
  rw [List.map_map]
  exact List.map_id _
theorem supp_nd (W : Wt) : (supp W).Nodup := (allP_pw.filter _).imp fun {p q} h z => by subst z; omega
theorem supp_sort {n : Nat} {W : Wt} (h : WOk n W) {c : List Pr} (hc : ∀ p, p ∈ c ↔ W p ≠ 0) : sortPr c = supp W := by
  unfold sortPr supp
  refine List.filter_congr fun p _ => ?_
  rw [decide_eq_decide]
  exact hc p
/-! ### a side's weight -/
def wAt (W : Wt) (S : List Nat) (p : Pr) : Int := if sep S p.1 p.2 = true then W p else 0
theorem side_sum (W : Wt) (S : List Nat) : sideW (tiesOf W) S = (allP.map (wAt W S)).sum := by
  unfold tiesOf supp
  generalize allP = l
  induction l with
  | nil => rfl
  | cons p l ih =>
    rw [List.map_cons, List.sum_cons, ← ih]
    by_cases z : W p ≠ 0
    · rw [List.filter_cons_of_pos (by simpa using z), List.map_cons, sideW_cons]
      rfl
    · rw [List.filter_cons_of_neg (by simpa using z)]
      have z0 : W p = 0 := by simpa using z
      have : wAt W S p = 0 := by
        unfold wAt
        rw [z0]
        split <;> rfl
      omega
def wput (W : Wt) (p : Pr) (x : Int) : Wt := fun q => if q = p then x else W q
theorem sum_put (W : Wt) (S : List Nat) (p : Pr) (x : Int) : ∀ (l : List Pr), l.Nodup → (l.map (wAt (wput W p x) S)).sum = (l.map (wAt W S)).sum + if p ∈ l then (if sep S p.1 p.2 = true then x - W p else 0) else 0
  | [], _ => by simp
  | q :: l, nd => by
    obtain ⟨n1, n2⟩ := List.nodup_cons.mp nd
    have ih := sum_put W S p x l n2
    rw [List.map_cons, List.map_cons, List.sum_cons, List.sum_cons, ih]
    by_cases e : q = p
    · subst e
      rw [if_neg n1, if_pos List.mem_cons_self]
      have : wAt (wput W q x) S q = wAt W S q + if sep S q.1 q.2 = true then x - W q else 0 := by
        unfold wAt wput
        rw [if_pos rfl]
        split <;> omega
      rw [this]
      omega
    · have h1 : wAt (wput W p x) S q = wAt W S q := by
        unfold wAt wput
        rw [if_neg e]
      rw [h1]
      by_cases h : p ∈ l
      · rw [if_pos h, if_pos (List.mem_cons_of_mem _ h)]
        omega
      · rw [if_neg h, if_neg (by
          rw [List.mem_cons]
          rintro (z | z)
          · exact e z.symm
          · exact h z)]
        omega
theorem allP_nd : allP.Nodup := allP_pw.imp fun {p q} h z => by subst z; omega
theorem side_put (W : Wt) (S : List Nat) {p : Pr} (x : Int) (hp : p ∈ allP) : sideW (tiesOf (wput W p x)) S = sideW (tiesOf W) S + if sep S p.1 p.2 = true then x - W p else 0 := by
  rw [side_sum, side_sum, sum_put W S p x allP allP_nd, if_pos hp]
theorem wput_ok {n : Nat} {W : Wt} (h : WOk n W) {p : Pr} {x : Int} (h1 : p.1 < p.2) (h2 : p.2 < n) (hx : 0 ≤ x) : WOk n (wput W p x) := by
  refine ⟨h.n10, fun q hq => ?_⟩
  unfold wput at hq ⊢
  by_cases e : q = p
  · subst e
    rw [if_pos rfl] at hq ⊢
    exact ⟨h1, h2, by omega⟩
  · rw [if_neg e] at hq ⊢
    exact h.ok q hq
/-- more weight where both ends or none lie in the side: the least side stays -/
theorem min_more {W : Wt} {s : Nat} {T S : List Nat} (m : MinSide (tiesOf W) s T S) {p : Pr} {x : Int} (hp : p ∈ allP) (hx : W p ≤ x) (hs : ¬ sep S p.1 p.2 = true) : MinSide (tiesOf (wput W p x)) s T S ∧ sideW (tiesOf (wput W p x)) S = sideW (tiesOf W) S := by
  have e0 : sideW (tiesOf (wput W p x)) S = sideW (tiesOf W) S := by rw [side_put W S x hp, if_neg hs]; omega
  refine ⟨⟨m.pw, m.lt, m.src, m.snk, fun S' h1 h2 => ?_, fun S' h1 h2 e => ?_⟩, e0⟩
  · have := m.least S' h1 h2
    rw [e0, side_put W S' x hp]
    split <;> omega
  · have l := m.least S' h1 h2
    rw [e0, side_put W S' x hp] at e
    refine m.sub S' h1 h2 ?_
    split at e <;> omega
/-- less weight where one end lies in the side: the least side stays -/
theorem min_less {W : Wt} {s : Nat} {T S : List Nat} (m : MinSide (tiesOf W) s T S) {p : Pr} {x : Int} (hp : p ∈ allP) (hx : x ≤ W p) (hs : sep S p.1 p.2 = true) : MinSide (tiesOf (wput W p x)) s T S ∧ sideW (tiesOf (wput W p x)) S = sideW (tiesOf W) S + (x - W p) := by
  have e0 : sideW (tiesOf (wput W p x)) S = sideW (tiesOf W) S + (x - W p) := by rw [side_put W S x hp, if_pos hs]
  refine ⟨⟨m.pw, m.lt, m.src, m.snk, fun S' h1 h2 => ?_, fun S' h1 h2 e => ?_⟩, e0⟩
  · have := m.least S' h1 h2
    rw [e0, side_put W S' x hp]
    split <;> omega
  · have l := m.least S' h1 h2
    rw [e0, side_put W S' x hp] at e
    refine m.sub S' h1 h2 ?_
    split at e <;> omega
/-! ### a keeper's state -/
structure KS where
  W : Wt
  ps : List Nat
structure KOk (n : Nat) (k : KS) : Prop where
  w : WOk n k.W
  pw : k.ps.Pairwise (· < ·)
  lt : ∀ q ∈ k.ps, q < n
  two : 2 ≤ k.ps.length
open Classical in
noncomputable def mside (ts : List Tie) (s : Nat) (T : List Nat) : List Nat := if h : ∃ S, MinSide ts s T S then h.choose else []
theorem mside_of {ts : List Tie} {s : Nat} {T S : List Nat} (m : MinSide ts s T S) : mside ts s T = S := by
  have q : ∃ S, MinSide ts s T S := ⟨S, m⟩
  unfold mside
  rw [dif_pos q]
  exact q.choose_spec.one m
/-- the side and the value of a post -/
noncomputable def sideK (k : KS) (q : Nat) : List Nat := mside (tiesOf k.W) q (othersOf k.ps q)
noncomputable def valK (k : KS) (q : Nat) : Int := sideW (tiesOf k.W) (sideK k q)
/-- the sides exist: some flow has found them -/
def Has (k : KS) : Prop := ∀ q ∈ k.ps, MinSide (tiesOf k.W) q (othersOf k.ps q) (sideK k q)
theorem sides_of {k : KS} {sides : List (List Nat)} (h : SidesOk (tiesOf k.W) k.ps sides) : sides = k.ps.map (sideK k) := by
  apply List.ext_getElem?
  intro i
  rw [List.getElem?_map]
  cases e : k.ps[i]? with
  | none => rw [List.getElem?_eq_none (by rw [h.len]; exact List.getElem?_eq_none_iff.mp e)]; rfl
  | some q =>
    obtain ⟨S, h1, h2⟩ := h.at_ i q e
    rw [h1]
    show some S = some (sideK k q)
    unfold sideK
    rw [mside_of h2]
noncomputable def cutK (n : Nat) (k : KS) : List Pr := partCut n (tiesOf k.W) k.ps (k.ps.map (sideK k))
/-- what stands of a post: value, or none where it is no post -/
noncomputable def valO (k : KS) (q : Nat) : Option Int := if q ∈ k.ps then some (valK k q) else none
/-- the posts whose value is another -/
noncomputable def diffK (a b : KS) : List (Nat × Option Int × Option Int) := ((sortN (a.ps ++ b.ps)).filter fun q => !decide (valO a q = valO b q)).map fun q => (q, valO a q, valO b q)
theorem diff_swap (a b : KS) : diffK b a = (diffK a b).map fun x => (x.1, x.2.2, x.2.1) := by
  unfold diffK
  rw [List.map_map]
  have e : sortN (b.ps ++ a.ps) = sortN (a.ps ++ b.ps) := by
    unfold sortN
    refine List.filter_congr fun x _ => ?_
    rw [decide_eq_decide, List.mem_append, List.mem_append]
    exact Or.comm
  rw [e]
  have e2 : ((sortN (a.ps ++ b.ps)).filter fun q => !decide (valO b q = valO a q)) = (sortN (a.ps ++ b.ps)).filter fun q => !decide (valO a q = valO b q) := by
    refine List.filter_congr fun x _ => ?_
    have : decide (valO b x = valO a x) = decide (valO a x = valO b x) := decide_eq_decide.mpr eq_comm
    rw [this]
  rw [e2]
  rfl
end KPR
set_option Elab.async false
set_option linter.all false
set_option maxRecDepth 100000
/-! KQ: sorted pairs, keyword calls, data that compare. -/
namespace KPR
open PySem L2
section
variable {K : PySem.W.Frag} {B H : Hp} {σ : St} {x y v : V} {Q : VK} {ds : List PyData} {d : PyData}
theorem w_ckw {r : List V → List V → Hp → VK → Prop} {t tk : TA} (h : t σ H fun vs H1 => tk σ H1 fun zs H2 => r vs zs H2 Q) : tCKw r t tk σ H Q := h
theorem w_gd {mg : Str → Option Value} {n : Str} (h : ∀ f : Addr, mg n = some (.ref f) → Q (.ref f) H) : tGd mg n σ H Q := h
theorem pr_nodup_len : ∀ (l D : List Pr), l.Nodup → (∀ x ∈ l, x ∈ D) → l.length ≤ D.length
  | [], _, _, _ => Nat.zero_le _
  | x :: l, D, hn, hs => by
    obtain ⟨h1, h2⟩ := List.nodup_cons.mp hn
    have hx : x ∈ D := hs x List.mem_cons_self
    have ih := pr_nodup_len l (D.erase x) h2 fun y hy => by
      have hne : y ≠ x := fun e => h1 (e ▸ hy)
      exact (List.mem_erase_of_ne hne).2 (hs y (List.mem_cons_of_mem _ hy))
    have e := List.length_erase_of_mem hx
    have hp : 0 < D.length := List.length_pos_of_mem hx
    rw [List.length_cons]
    omega
/-- sorted(d), its keys pairs -/
theorem r_sortDT {a : Addr} {c : List Pr} {kvs : List KD} (e : Ex B H) (h : H a = some (.dT kvs)) (hk : kvs.map (·.1) = c.map kP) (nd : c.Nodup) (h64 : c.length < 64) (lt : ∀ p ∈ c, p.1 < 10 ∧ p.2 < 10)
    (k : ∀ p B' H', Gro B H B' H' → D B' (.ref p) (dPairs (sortPr c)) → Q (.ref p) H') : rSortDT [.ref a] H Q := by
  refine ⟨a, kvs, c, rfl, h, hk, h64, fun p hp => by have := lt p hp; omega, fun bs p hp hs hb hn => ?_⟩
  have e1 := sortPr_eq hp hs nd lt
  have g1 := gro_knowT e
  have g2 := gro_new (o := .lst (bs.map V.ref)) g1.bh hn
  refine k p _ _ (g1.trans g2) (.lst upd_same (DA.up ?_ (Ex.new (g1.bh.back hn))))
  show DA (knowT B H) (bs.map V.ref) ((sortPr c).map dPair)
  rw [← e1, List.map_map]
  exact da_map fun b hb' => .tup (knowT_tup (hb b hb')) (.two (.int _) (.int _))
theorem kv_keys {α : Type} (items : List α) (kf : α → Pr) (vf : α → V) : (items.map fun a => (kP (kf a), vf a)).map (·.1) = (items.map kf).map kP := by rw [List.map_map, List.map_map]; rfl
theorem kv_fold {α : Type} {items : List α} {kf : α → Pr} {vf : α → V} (nd : (items.map kf).Nodup) : (items.map fun a => (kP (kf a), vf a)).foldl (fun acc kv => putK acc kv.1 kv.2) [] = items.map fun a => (kP (kf a), vf a) := by
  rw [foldl_put _ _ (by rw [kv_keys]; simpa using nodup_kP nd)]
  rfl
theorem kv_some {α : Type} {items : List α} {kf : α → Pr} {vf : α → V} (p : Pr) : (valV (items.map fun a => (kP (kf a), vf a)) (kP p)).isSome = decide (p ∈ items.map kf) := by
  rw [valV_isSome, kv_keys]
  simp only [kP_mem]
theorem eqv_pair (p q : Pr) : PyData.eqv (dPair p) (dPair q) = decide (p = q) := by
  have e : PyData.eqv (dPair p) (dPair q) = (((p.1 : Int) == (q.1 : Int)) && (((p.2 : Int) == (q.2 : Int)) && true)) := by
    simp only [dPair, PyData.eqv, PyData.eqvAll]
  rw [e]
  by_cases h : p = q
  · subst h; simp
  · rw [decide_eq_false h]
    by_cases h1 : p.1 = q.1
    · have h2 : p.2 ≠ q.2 := fun z => h (Prod.ext h1 z)
      have : ((p.2 : Int) == (q.2 : Int)) = false := beq_eq_false_iff_ne.mpr fun z => h2 (by omega)
      rw [this]; simp
    · have : ((p.1 : Int) == (q.1 : Int)) = false := beq_eq_false_iff_ne.mpr fun z => h1 (by omega)
      rw [this]; simp
theorem sh_pair (p : Pr) : SeqAt.shaped (dPair p) = true := by
  have h1 : (dPair p).canLay0 = true := by simp [dPair, PyData.canLay0, PyData.canLayAll0]
  have h2 : (dPair p).depth ≤ 64 := by simp [dPair, PyData.depth, PyData.depthAll]
  unfold SeqAt.shaped
  rw [h1, decide_eq_true h2]
  rfl
end
end KPR
set_option Elab.async false
set_option linter.all false
set_option maxRecDepth 100000
/-! KF: Flowing in a heap. -/
namespace KPR
open PySem L2
def dNP (x : Nat × Nat) : PyData := .tuple [.int (x.1 : Int), .int (x.2 : Int)]
def dNear (n : Nat) (ts : List Tie) : PyData := .list ((List.range n).map fun p => .list ((nearF ts p).map dNP))
def vI (l : List Int) : List V := l.map V.int
theorem flat_rep : ∀ m : Nat, (List.replicate m [V.int 0]).flatten = vI (List.replicate m 0)
  | 0 => rfl
  | m + 1 => by
    rw [List.replicate_succ, List.flatten_cons, flat_rep m]
    rfl
structure FlC (K : PySem.W.Frag) (C : Addr) : Prop where
  cls : Cls K C
  n1 : NoAttr K C "ties"
  n2 : NoAttr K C "near"
  n3 : NoAttr K C "amounts"
/-- a Flowing at x, its amounts at da -/
structure Fl (C : Addr) (B H : Hp) (n : Nat) (ts : List Tie) (am : List Int) (x da : Addr) : Prop where
  ins : ∃ dx vt vn, B x = some (.ins C dx [("ties", vt), ("near", vn), ("amounts", .ref da)]) ∧ D B vt (.tuple (ts.map dTie)) ∧ D B vn (dNear n ts)
  at_ : H da = some (.lst (vI am))
  un : B da = none
  len : am.length = ts.length
section
variable {C : Addr} {B H B' H' : Hp} {n : Nat} {ts : List Tie} {am am' : List Int} {x da : Addr}
theorem Fl.grow (f : Fl C B H n ts am x da) (g : Gro B H B' H') : Fl C B' H' n ts am x da := by
  obtain ⟨dx, vt, vn, h1, h2, h3⟩ := f.ins
  exact ⟨⟨dx, vt, vn, g.bb _ _ h1, h2.up g.bb, h3.up g.bb⟩, g.hh _ _ f.at_, g.fr _ _ f.at_ trivial f.un, f.len⟩
theorem Fl.set (f : Fl C B H n ts am x da) (h : am'.length = am.length) : Fl C B (upd H da (.lst (vI am'))) n ts am' x da :=
  ⟨f.ins, upd_same, f.un, h.trans f.len⟩
theorem Fresh.grow {H0 : Hp} {as : List Addr} {c : Nat → List V} (f : Fresh B H0 H as c) (g : Gro B H B' H') : Fresh B' H0 H' as c := by
  refine ⟨f.nd, fun a ha => ⟨(f.new a ha).1, ?_⟩, fun i a h => g.hh _ _ (f.at_ i a h)⟩
  obtain ⟨i, hi⟩ := List.mem_iff_getElem?.mp ha
  exact g.fr _ _ (f.at_ i a hi) trivial (f.new a ha).2
theorem at_some {l : List Int} {k : Nat} (h : k < l.length) : (vI l)[k]? = some (V.int (amAt l k)) := by
  unfold vI amAt
  rw [List.getElem?_map, List.getElem?_eq_getElem h, List.getD_eq_getElem?_getD, List.getElem?_eq_getElem h]
  rfl
theorem tie_some {k : Nat} (h : k < ts.length) : (ts.map dTie)[k]? = some (dTie (tieAt ts k)) := by
  unfold tieAt
  rw [List.getElem?_map, List.getElem?_eq_getElem h, List.getD_eq_getElem?_getD, List.getElem?_eq_getElem h]
  rfl
end
end KPR
set_option Elab.async false
set_option linter.all false
set_option maxRecDepth 100000
/-! KG: the ways on as a dict in a heap. -/
namespace KPR
open PySem L2
def dOpt : Option (Nat × Nat) → PyData
  | none => .none
  | some x => dNP x
structure CamV (B : Hp) (kvs : List (L2.Key × V)) (came : Came) : Prop where
  len : kvs.length = came.length
  at_ : ∀ (i q : Nat) (e : Option (Nat × Nat)), came[i]? = some (q, e) → ∃ v, kvs[i]? = some (kN q, v) ∧ D B v (dOpt e)
section
variable {B B' : Hp} {kvs : List (L2.Key × V)} {came : Came}
theorem CamV.up (c : CamV B kvs came) (e : Ex B B') : CamV B' kvs came := ⟨c.len, fun i q o h => let ⟨v, a, b⟩ := c.at_ i q o h; ⟨v, a, b.up e⟩⟩
theorem CamV.keys (c : CamV B kvs came) : kvs.map (·.1) = (came.map (·.1)).map kN := by
  apply List.ext_getElem?
  intro i
  rw [List.map_map, List.getElem?_map, List.getElem?_map]
  cases h : came[i]? with
  | none =>
    have h1 := List.getElem?_eq_none_iff.mp h
    rw [List.getElem?_eq_none (by rw [c.len]; exact h1)]
    rfl
  | some x =>
    obtain ⟨v, a, _⟩ := c.at_ i x.1 x.2 h
    rw [a]
    rfl
theorem CamV.some (c : CamV B kvs came) (q : Nat) : (valV kvs (kN q)).isSome = decide (q ∈ came.map (·.1)) := by
  rw [valV_isSome, c.keys]
  simp only [kN_mem]
theorem valV_at {κ : Type} [DecidableEq κ] : ∀ {kvs : List (κ × V)} {i : Nat} {k : κ} {v : V}, (kvs.map (·.1)).Nodup → kvs[i]? = Option.some (k, v) → valV kvs k = Option.some v
  | [], i, k, v, _, h => by simp at h
  | p :: r, 0, k, v, _, h => by
    have : p = (k, v) := by simpa using h
    subst this
    exact valV_pos rfl
  | p :: r, i + 1, k, v, nd, h => by
    rw [List.map_cons] at nd
    obtain ⟨n1, n2⟩ := List.nodup_cons.mp nd
    have h : r[i]? = Option.some (k, v) := by simpa using h
    have hne : ¬ p.1 = k := fun z => n1 (by rw [z]; exact List.mem_map.mpr ⟨(k, v), List.mem_of_getElem? h, rfl⟩)
    rw [valV_neg hne]
    exact valV_at n2 h
theorem CamV.get (c : CamV B kvs came) (nd : (came.map (·.1)).Nodup) {q : Nat} {e : Option (Nat × Nat)} (h : (q, e) ∈ came) : ∃ v, valV kvs (kN q) = Option.some v ∧ D B v (dOpt e) := by
  obtain ⟨i, hi⟩ := List.mem_iff_getElem?.mp h
  obtain ⟨v, a, b⟩ := c.at_ i q e hi
  exact ⟨v, valV_at (by rw [c.keys]; exact nodup_kN nd) a, b⟩
theorem CamV.snoc (c : CamV B kvs came) {q : Nat} {e : Option (Nat × Nat)} {v : V} (h : q ∉ came.map (·.1)) (d : D B v (dOpt e)) : CamV B (putK kvs (kN q) v) (came ++ [(q, e)]) := by
  rw [putK_new _ (valV_none (by rw [c.keys, kN_mem]; exact h))]
  refine ⟨by rw [List.length_append, List.length_append, c.len]; rfl, fun i q' e' hi => ?_⟩
  by_cases hl : i < came.length
  · rw [List.getElem?_append_left hl] at hi
    obtain ⟨w, a, b⟩ := c.at_ i q' e' hi
    exact ⟨w, by rw [List.getElem?_append_left (by rw [c.len]; exact hl)]; exact a, b⟩
  · have hi2 := (List.getElem?_eq_some_iff.mp hi).1
    rw [List.length_append, List.length_singleton] at hi2
    have : i = came.length := by omega
    subst this
    rw [List.getElem?_append_right (Nat.le_refl _), Nat.sub_self] at hi
    have : (q, e) = (q', e') := by simpa using hi
    cases this
    exact ⟨v, by rw [List.getElem?_append_right (by rw [c.len]; exact Nat.le_refl _), c.len, Nat.sub_self]; rfl, d⟩
theorem CamV.one (s : Nat) : CamV B [(kN s, V.non)] [(s, none)] := ⟨rfl, fun i q e h => by
  cases i with
  | zero =>
    have : (s, none) = (q, e) := by simpa using h
    cases this
    exact ⟨.non, rfl, .non⟩
  | succ i => simp at h⟩
theorem CamV.waits (c : CamV B kvs came) : (kvs.map fun kv => kV kv.1) = vN (came.map (·.1)) := by
  have h := congrArg (List.map kV) c.keys
  rw [List.map_map, List.map_map] at h
  exact h
end
theorem CameOk.one {n s : Nat} {ts : List Tie} {am : List Int} (h : s < n) : CameOk n ts am s [(s, none)] := ⟨by simp, fun x hx => by simp at hx; omega, rfl, fun i q e hi h0 => by
  cases i with
  | zero => omega
  | succ i => simp at hi⟩
end KPR
set_option Elab.async false
set_option linter.all false
set_option maxRecDepth 100000
/-! KH: a comprehension over a dict's keys, the dict held still. -/
namespace KPR
open PySem L2
section
variable {K : PySem.W.Frag} {B H : Hp} {σ : St} {Q : VK}
theorem gro_lock {F : Addr → Prop} {B' H' : Hp} {d : Addr} {u o : HO} (hd : H d = some u) (hB : B d = none) (hu : nT u) (ho : nT o) (g : Gof F B (upd H d o) B' H') : Gof F B H B' (upd H' d u) := by
  have bd : B' d = none := g.fr d o upd_same ho hB
  refine ⟨g.bb, g.bh.mut bd, fun a v h n => ?_, fun a h => ?_, fun a v h t n => ?_, fun a v h t => ?_⟩
  · by_cases e : a = d
    · subst e
      rw [hd] at h
      cases h
      exact upd_same
    · rw [upd_ne e]
      exact g.kp a v (by rw [upd_ne e]; exact h) n
  · by_cases e : a = d
    · subst e
      rw [upd_same]
      intro z
      cases z
    · rw [upd_ne e]
      exact g.al a (by rw [upd_ne e]; exact h)
  · by_cases e : a = d
    · rw [e]; exact bd
    · exact g.fr a v (by rw [upd_ne e]; exact h) t n
  · by_cases e : a = d
    · exact ⟨u, by rw [e, upd_same], hu⟩
    · obtain ⟨v', h1, h2⟩ := g.nt a v (by rw [upd_ne e]; exact h) t
      exact ⟨v', by rw [upd_ne e]; exact h1, h2⟩
theorem gro_freeze {d : Addr} {o : HO} (e : Ex B H) (hB : B d = none) : Ex B (upd H d o) := e.mut hB
theorem r_lcKeys {g : TG} {tt : TT} {te : TE} {vs : List Nat} {j : Nat} {d : Addr} {o : Obj} {kvs : List (L2.Key × V)} {items : List Nat} {p : Nat → Bool} {f : Nat → PyData} (hv : σ[j]? = some (some (.ref d))) (e : Ex B H) (hd : H d = some (.frz o (.dK kvs))) (hk : kvs.map (·.1) = items.map kN) (hB : B d = none) (hz : items.length ≤ 1000)
    (turn : ∀ (i : Nat) (it : Nat) B' H', items[i]? = some it → Gro B H B' H' → H' d = some (.frz o (.dK kvs)) → LcTurn g tt te vs σ B' H' (.int (it : Int)) (p it) (f it))
    (k : ∀ D0 B' H', Gro B H B' H' → H' d = some (.frz o (.dK kvs)) → D B' (.ref D0) (.list ((items.filter p).map f)) → Q (.ref D0) H') : tLc (iKeys (tVar j)) g tt te vs σ H Q := by
  have hl : kvs.length = items.length := by
    have := congrArg List.length hk
    rwa [List.length_map, List.length_map] at this
  refine ⟨_, hv, d, o, rfl, .inl ⟨kvs, hd, fun Dl hD => ?_⟩⟩
  have stay : ∀ {B' H'}, Gro B H B' H' → H' d = some (.frz o (.dK kvs)) := fun {B' H'} g => g.hh _ _ hd
  refine lc_it (J := Itk d o kvs) (n := kvs.length) (G := fun H' => H' d = some (.frz o (.dK kvs))) (Y := fun i H x H' => H' = H ∧ ∃ k v, kvs[i]? = some (k, v) ∧ x = kV k) ⟨fun i H hi h => ⟨h, hi⟩, fun H h => ⟨h, Nat.le_refl _⟩, fun i H x H' hi h y => y⟩ (LcAt B H items p f Dl) (LcAt.start e hD) (fun i H' _ ⟨B', g', _⟩ => stay g') (fun i x H1 H2 hi at' y => ?_) fun H' at' => LcAt.done (Qd := fun H' => Q (.ref Dl) H') hD hl at' fun B' H' g' => k Dl B' H' g' (stay g')
  obtain ⟨rfl, kk, v, h1, rfl⟩ := y
  have h2 : (kvs.map (·.1))[i]? = some kk := by rw [List.getElem?_map, h1]; rfl
  rw [hk, List.getElem?_map] at h2
  cases hit : items[i]? with
  | none => rw [hit] at h2; cases h2
  | some it =>
    rw [hit] at h2
    have e2 : kN it = kk := Option.some.inj h2
    subst e2
    exact LcAt.turn hz hD hit at' fun B' g' => turn i it B' _ hit g' (stay g')
end
end KPR
set_option Elab.async false
set_option linter.all false
set_option maxRecDepth 100000
/-! KI: comprehensions whose turns may write. -/
namespace KPR
open PySem L2
section
variable {α : Type} {K : PySem.W.Frag} {B H : Hp} {σ : St} {Q : VK} {g : TG} {tt : TT} {te : TE} {vs : List Nat} {tl : TE} {ta : TA}
/-- a turn: from what stands after i turns to what stands after i + 1 -/
def LcTurnG (F : Addr → Prop) (B H : Hp) (P : Nat → List V → Hp → Hp → Prop) (g : TG) (tt : TT) (te : TE) (vs : List Nat) (σ : St) (Dl : Addr) (i : Nat) (acc : List V) (H' : Hp) (x : V) : Prop :=
  ∀ (Y : V → Hp → Prop) (N : Hp → Prop), (∀ y B4 H4, Gof F B H B4 H4 → B4 Dl = none → H4 Dl = some (.lst acc) → P (i + 1) (acc ++ [y]) B4 (upd H4 Dl (.lst (acc ++ [y]))) → Y y H4) →
    (∀ B3 H3, Gof F B H B3 H3 → B3 Dl = none → H3 Dl = some (.lst acc) → P (i + 1) acc B3 H3 → N H3) →
    g x (wipe σ vs) H' fun σ2 H2 => wipe σ2 vs = wipe σ vs ∧ tt σ2 H2 fun b H3 => if b = true then te σ2 H3 Y else N H3
def LcAtG (F : Addr → Prop) (B H : Hp) (P : Nat → List V → Hp → Hp → Prop) (Dl : Addr) (i : Nat) (H' : Hp) : Prop := ∃ acc B', Gof F B H B' H' ∧ B' Dl = none ∧ H' Dl = some (.lst acc) ∧ acc.length ≤ i ∧ P i acc B' H'
theorem lcTurnG {F : Addr → Prop} {P : Nat → List V → Hp → Hp → Prop} {Dl : Addr} {i : Nat} {acc : List V} {H' : Hp} {x : V} (hD : H Dl = none) (ha : acc.length ≤ i) (hi : i ≤ 1000) (t : LcTurnG F B H P g tt te vs σ Dl i acc H' x) :
    g x (wipe σ vs) H' fun σ2 H2 => wipe σ2 vs = wipe σ vs ∧ tt σ2 H2 fun b H3 => if b = true then te σ2 H3 fun y H4 => ∃ acc, H4 Dl = some (.lst acc) ∧ acc.length < sizeLine ∧ LcAtG F B H P Dl (i + 1) (upd H4 Dl (.lst (acc ++ [y]))) else LcAtG F B H P Dl (i + 1) H3 :=
  t _ _ (fun y B4 H4 g4 b4 e4 p4 => ⟨acc, e4, slt (by omega), _, B4, gro_set g4 hD b4, b4, upd_same, by rw [List.length_append, List.length_singleton]; omega, p4⟩)
    fun B3 H3 g3 b3 e3 p3 => ⟨_, B3, g3, b3, e3, by omega, p3⟩
/-- over a known list -/
theorem r_lcLg {F : Addr → Prop} {enc : α → PyData} {items : List α} (P : Addr → Nat → List V → Hp → Hp → Prop) (hs : Gv tl σ B H (.list (items.map enc))) (hz : items.length ≤ 1000)
    (start : ∀ Dl B1 H1, Gro B H B1 H1 → H1 Dl = none → P Dl 0 [] B1 (upd H1 Dl (.lst [])))
    (turn : ∀ Dl B1 H1 (i : Nat) it x acc B' H', items[i]? = some it → Gro B H B1 H1 → H1 Dl = none → Gof F B1 H1 B' H' → B' Dl = none → H' Dl = some (.lst acc) → acc.length ≤ i → D B' x (enc it) → P Dl i acc B' H' → LcTurnG F B1 H1 (P Dl) g tt te vs σ Dl i acc H' x)
    (k : ∀ Dl B1 H1 acc B' H', Gro B H B1 H1 → H1 Dl = none → Gof F B1 H1 B' H' → B' Dl = none → H' Dl = some (.lst acc) → P Dl items.length acc B' H' → Q (.ref Dl) H') : tLc (iList K tl) g tt te vs σ H Q := by
  refine hs _ fun src B1 H1 g1 hsrc => ?_
  obtain ⟨a, xs, rfl, h1, h2⟩ := hsrc.lst_inv
  have hl := h2.len
  rw [List.length_map] at hl
  refine ⟨a, rfl, ⟨xs, SqL.of (g1.bh _ _ h1)⟩, fun Dl hD => lc_list (xs := xs) (LcAtG F B1 H1 (P Dl) Dl) ⟨[], B1, (gro_mut g1.bh hD).of, g1.bh.back hD, upd_same, Nat.le_refl _, start Dl B1 H1 g1 hD⟩ (fun i H' _ ⟨acc, B', g', _⟩ => SqL.of (g'.bh _ _ (g'.bb _ _ h1))) (fun i x H' hx at' => ?_) (fun H' ⟨acc, B', g', b', e', _, p'⟩ => k Dl B1 H1 acc B' H' g1 hD g' b' e' (hl ▸ p'))⟩
  obtain ⟨acc, B', g', b', e', la, p'⟩ := at'
  obtain ⟨it, hit, hd⟩ := items_at h2 hx
  have hi := (List.getElem?_eq_some_iff.mp hit).1
  exact lcTurnG hD la (by omega) (turn Dl B1 H1 i it x acc B' H' hit g1 hD g' b' e' la (hd.up g'.bb) p')
/-- over range(n) -/
theorem r_lcRg {F : Addr → Prop} {n : Nat} (P : Addr → Nat → List V → Hp → Hp → Prop) (hs : ∀ R : List V → Hp → Prop, (∀ B1 H1, Gof F B H B1 H1 → R [.int (n : Int)] H1) → ta σ H R) (hz : n ≤ 1000)
    (start : ∀ Dl B1 H1, Gof F B H B1 H1 → H1 Dl = none → P Dl 0 [] B1 (upd H1 Dl (.lst [])))
    (turn : ∀ Dl B1 H1 (i : Nat) acc B' H', i < n → Gof F B H B1 H1 → H1 Dl = none → Gof F B1 H1 B' H' → B' Dl = none → H' Dl = some (.lst acc) → acc.length ≤ i → P Dl i acc B' H' → LcTurnG F B1 H1 (P Dl) g tt te vs σ Dl i acc H' (.int (i : Int)))
    (k : ∀ Dl B1 H1 acc B' H', Gof F B H B1 H1 → H1 Dl = none → Gof F B1 H1 B' H' → B' Dl = none → H' Dl = some (.lst acc) → P Dl n acc B' H' → Q (.ref Dl) H') : tLc (iRng1 ta) g tt te vs σ H Q := by
  refine hs _ fun B1 H1 g1 => ?_
  refine ⟨(n : Int), rfl, by omega, by omega, fun Dl hD => ?_⟩
  rw [Int.toNat_natCast]
  refine lc_range (LcAtG F B1 H1 (P Dl) Dl) ⟨[], B1, (gro_mut g1.bh hD).of, g1.bh.back hD, upd_same, Nat.le_refl _, start Dl B1 H1 g1 hD⟩ (fun i H' hi at' => ?_) (fun H' ⟨acc, B', g', b', e', _, p'⟩ => k Dl B1 H1 acc B' H' g1 hD g' b' e' p')
  obtain ⟨acc, B', g', b', e', la, p'⟩ := at'
  rw [Int.zero_add]
  exact lcTurnG hD la (by omega) (turn Dl B1 H1 i acc B' H' hi g1 hD g' b' e' la p')
end
end KPR
set_option Elab.async false
set_option linter.all false
set_option maxRecDepth 100000
/-! KK: keepers in a heap. -/
namespace KPR
open PySem L2
structure KpC (K : PySem.W.Frag) (C : Addr) : Prop where
  cls : Cls K C
  n1 : NoAttr K C "many"
  n2 : NoAttr K C "weights"
  n3 : NoAttr K C "posts"
  n4 : NoAttr K C "kept"
  n5 : NoAttr K C "past"
  n6 : NoAttr K C "seen"
def flds (n : Nat) (wa : Addr) (vp : V) (ka pa : Addr) (vs : V) : List (Str × V) := [("many", .int (n : Int)), ("weights", .ref wa), ("posts", vp), ("kept", .ref ka), ("past", .ref pa), ("seen", vs)]
def kvW (c : List Pr) (W : Wt) : List KD := c.map fun p => (kP p, V.int (W p))
/-- the dict of weights -/
def WD (H : Hp) (wa : Addr) (W : Wt) : Prop := ∃ c : List Pr, H wa = some (.dT (kvW c W)) ∧ c.Nodup ∧ ∀ p, p ∈ c ↔ W p ≠ 0
/-- the dict of what is kept of the posts: value and side -/
def KDm (B H : Hp) (ka : Addr) (f : Nat → Option (Int × List Nat)) : Prop := ∃ (kk : List (L2.Key × V)) (ks : List Nat), H ka = some (.dK kk) ∧ kk.map (·.1) = ks.map kN ∧ ks.Nodup ∧ (∀ q, q ∈ ks ↔ (f q).isSome = true) ∧ (∀ q ∈ ks, q < 10) ∧
  ∀ q v S, f q = some (v, S) → ∃ u, valV kk (kN q) = some u ∧ D B u (.tuple [.int v, dL S])
noncomputable def fK (k : KS) (q : Nat) : Option (Int × List Nat) := if q ∈ k.ps then some (valK k q, sideK k q) else none
/-- a state of the past -/
def PastAt (B H : Hp) (v : V) (k : KS) (o : Addr × Addr) : Prop := ∃ t vp, v = .ref t ∧ B t = some (.tup [.ref o.1, vp, .ref o.2]) ∧ WD H o.1 k.W ∧ KDm B H o.2 (fK k) ∧ D B vp (dL k.ps)
inductive PastL (B H : Hp) : List V → List KS → List (Addr × Addr) → Prop
  | nil : PastL B H [] [] []
  | cons {v : V} {vs : List V} {k : KS} {ks : List KS} {o : Addr × Addr} {os : List (Addr × Addr)} : PastAt B H v k o → PastL B H vs ks os → PastL B H (v :: vs) (k :: ks) (o :: os)
def ownK (x wa ka pa : Addr) (os : List (Addr × Addr)) : List Addr := x :: wa :: ka :: pa :: os.flatMap fun o => [o.1, o.2]
structure Kp (C : Addr) (B H : Hp) (n : Nat) (x wa ka pa : Addr) (vp vs : V) (k : KS) (pv : List V) (past : List KS) (os : List (Addr × Addr)) : Prop where
  ins : ∃ dx, H x = some (.ins C dx (flds n wa vp ka pa vs))
  wd : WD H wa k.W
  kd : KDm B H ka (fK k)
  pd : D B vp (dL k.ps)
  pt : H pa = some (.lst pv)
  pl : PastL B H pv past os
  nd : (ownK x wa ka pa os).Nodup
  un : ∀ a ∈ ownK x wa ka pa os, B a = none
section
variable {B H B' H' : Hp} {F : Addr → Prop}
theorem WD.grow {wa : Addr} {W : Wt} (h : WD H wa W) (g : Gof F B H B' H') (hf : ¬ F wa) : WD H' wa W := let ⟨c, h1, h2⟩ := h; ⟨c, g.kp _ _ h1 hf, h2⟩
theorem KDm.grow {ka : Addr} {f : Nat → Option (Int × List Nat)} (h : KDm B H ka f) (g : Gof F B H B' H') (hf : ¬ F ka) : KDm B' H' ka f := by
  obtain ⟨kk, ks, h1, h2, h3, h4, h5, h6⟩ := h
  exact ⟨kk, ks, g.kp _ _ h1 hf, h2, h3, h4, h5, fun q v S e => let ⟨u, a, b⟩ := h6 q v S e; ⟨u, a, b.up g.bb⟩⟩
theorem PastAt.grow {v : V} {k : KS} {o : Addr × Addr} (h : PastAt B H v k o) (g : Gof F B H B' H') (h1 : ¬ F o.1) (h2 : ¬ F o.2) : PastAt B' H' v k o :=
  let ⟨t, vp, a, b, c, d, e⟩ := h; ⟨t, vp, a, g.bb _ _ b, c.grow g h1, d.grow g h2, e.up g.bb⟩
theorem PastL.grow {vs : List V} {ks : List KS} {os : List (Addr × Addr)} (h : PastL B H vs ks os) (g : Gof F B H B' H') (hf : ∀ o ∈ os, ¬ F o.1 ∧ ¬ F o.2) : PastL B' H' vs ks os := by
  induction h with
  | nil => exact .nil
  | cons h1 _ ih => exact .cons (h1.grow g (hf _ List.mem_cons_self).1 (hf _ List.mem_cons_self).2) (ih fun o ho => hf o (List.mem_cons_of_mem _ ho))
theorem PastL.len {vs : List V} {ks : List KS} {os : List (Addr × Addr)} (h : PastL B H vs ks os) : vs.length = ks.length ∧ os.length = ks.length := by
  induction h with
  | nil => exact ⟨rfl, rfl⟩
  | cons _ _ ih => exact ⟨by rw [List.length_cons, List.length_cons, ih.1], by rw [List.length_cons, List.length_cons, ih.2]⟩
theorem PastL.al {vs : List V} {ks : List KS} {os : List (Addr × Addr)} (h : PastL B H vs ks os) : ∀ o ∈ os, (∃ u, H o.1 = some u ∧ nT u) ∧ ∃ u, H o.2 = some u ∧ nT u := by
  induction h with
  | nil => exact fun o ho => nomatch ho
  | cons h1 _ ih =>
    intro o ho
    rcases List.mem_cons.mp ho with e | e
    · obtain ⟨t, vp, _, _, ⟨c, c1, _⟩, ⟨kk, ks, d1, _⟩, _⟩ := h1
      rw [e]
      exact ⟨⟨_, c1, trivial⟩, _, d1, trivial⟩
    · exact ih o e
theorem PastL.snoc {vs : List V} {ks : List KS} {os : List (Addr × Addr)} {v : V} {k : KS} {o : Addr × Addr} (h : PastL B H vs ks os) (h1 : PastAt B H v k o) : PastL B H (vs ++ [v]) (ks ++ [k]) (os ++ [o]) := by
  induction h with
  | nil => exact .cons h1 .nil
  | cons h2 _ ih => exact .cons h2 ih
theorem PastL.last {vs : List V} {ks : List KS} {os : List (Addr × Addr)} {k : KS} {ks0 : List KS} (h : PastL B H vs ks os) (e : ks = ks0 ++ [k]) : ∃ vs0 v os0 o, vs = vs0 ++ [v] ∧ os = os0 ++ [o] ∧ PastL B H vs0 ks0 os0 ∧ PastAt B H v k o := by
  induction h generalizing ks0 with
  | nil => simp at e
  | @cons v vs k' ks o os h1 h2 ih =>
    cases ks0 with
    | nil =>
      have e : k' :: ks = [k] := e
      cases e
      cases h2
      exact ⟨[], v, [], o, rfl, rfl, .nil, h1⟩
    | cons a ks0 =>
      rw [List.cons_append] at e
      injection e with e1 e2
      subst e1
      obtain ⟨vs0, w, os0, o', q1, q2, q3, q4⟩ := ih e2
      exact ⟨v :: vs0, w, o :: os0, o', by rw [q1]; rfl, by rw [q2]; rfl, .cons h1 q3, q4⟩
variable {C : Addr} {n : Nat} {x wa ka pa : Addr} {vp vs : V} {k : KS} {pv : List V} {past : List KS} {os : List (Addr × Addr)}
theorem mem_own {a : Addr} : a ∈ ownK x wa ka pa os ↔ a = x ∨ a = wa ∨ a = ka ∨ a = pa ∨ ∃ o ∈ os, a = o.1 ∨ a = o.2 := by
  unfold ownK
  simp only [List.mem_cons, List.mem_flatMap, List.not_mem_nil, or_false]
theorem Kp.al (h : Kp C B H n x wa ka pa vp vs k pv past os) : ∀ a ∈ ownK x wa ka pa os, ∃ u, H a = some u ∧ nT u := fun a ha => by
  rcases mem_own.mp ha with e | e | e | e | ⟨o, ho, e | e⟩
  · obtain ⟨dx, q⟩ := h.ins
    exact e ▸ ⟨_, q, trivial⟩
  · obtain ⟨c, q, _⟩ := h.wd
    exact e ▸ ⟨_, q, trivial⟩
  · obtain ⟨kk, ks, q, _⟩ := h.kd
    exact e ▸ ⟨_, q, trivial⟩
  · exact e ▸ ⟨_, h.pt, trivial⟩
  · exact e ▸ (h.pl.al o ho).1
  · exact e ▸ (h.pl.al o ho).2
/-- what is not touched stays -/
theorem Kp.frame (h : Kp C B H n x wa ka pa vp vs k pv past os) (g : Gof F B H B' H') (hf : ∀ a ∈ ownK x wa ka pa os, ¬ F a) : Kp C B' H' n x wa ka pa vp vs k pv past os := by
  obtain ⟨dx, hx⟩ := h.ins
  refine ⟨⟨dx, g.kp _ _ hx (hf _ (mem_own.mpr (.inl rfl)))⟩, h.wd.grow g (hf _ (mem_own.mpr (.inr (.inl rfl)))), h.kd.grow g (hf _ (mem_own.mpr (.inr (.inr (.inl rfl))))), h.pd.up g.bb, g.kp _ _ h.pt (hf _ (mem_own.mpr (.inr (.inr (.inr (.inl rfl)))))),
    h.pl.grow g fun o ho => ⟨hf _ (mem_own.mpr (.inr (.inr (.inr (.inr ⟨o, ho, .inl rfl⟩))))), hf _ (mem_own.mpr (.inr (.inr (.inr (.inr ⟨o, ho, .inr rfl⟩)))))⟩, h.nd, fun a ha => ?_⟩
  obtain ⟨u, h1, h2⟩ := h.al a ha
  exact g.fr a u h1 h2 (h.un a ha)
theorem Kp.grow (h : Kp C B H n x wa ka pa vp vs k pv past os) (g : Gro B H B' H') : Kp C B' H' n x wa ka pa vp vs k pv past os := h.frame g fun _ _ z => z
/-! ### weights -/
theorem kvW_keys (c : List Pr) (W : Wt) : (kvW c W).map (·.1) = c.map kP := by unfold kvW; rw [List.map_map]; rfl
theorem kvW_get {c : List Pr} {W : Wt} (nd : c.Nodup) (p : Pr) : valV (kvW c W) (kP p) = if p ∈ c then some (.int (W p)) else none := by
  by_cases h : p ∈ c
  · rw [if_pos h]
    obtain ⟨i, hi⟩ := List.mem_iff_getElem?.mp h
    refine valV_at (i := i) (by rw [kvW_keys]; exact nodup_kP nd) ?_
    unfold kvW
    rw [List.getElem?_map, hi]
    rfl
  · rw [if_neg h]
    exact valV_none (by rw [kvW_keys, kP_mem]; exact h)
theorem kvW_congr {c : List Pr} {W W' : Wt} (h : ∀ p ∈ c, W p = W' p) : kvW c W = kvW c W' := List.map_congr_left fun p hp => by rw [h p hp]
theorem kvW_put {c : List Pr} {W : Wt} (p : Pr) (x : Int) : putK (kvW c W) (kP p) (.int x) = kvW (cadd c p) (wput W p x) := by
  unfold cadd
  by_cases h : p ∈ c
  · rw [if_pos h]
    have ha : ((kvW c W).any fun kv => decide (kv.1 = kP p)) = true := List.any_eq_true.mpr ⟨(kP p, V.int (W p)), List.mem_map.mpr ⟨p, h, rfl⟩, by simp⟩
    unfold putK
    rw [if_pos ha]
    unfold kvW
    rw [List.map_map]
    refine List.map_congr_left fun q _ => ?_
    show (if kP q = kP p then (kP q, V.int x) else (kP q, V.int (W q))) = (kP q, V.int (wput W p x q))
    unfold wput
    by_cases e : q = p
    · rw [if_pos (by rw [e]), if_pos e]
    · rw [if_neg (fun z => e (kP_inj.mp z)), if_neg e]
  · rw [if_neg h, putK_new _ (valV_none (by rw [kvW_keys, kP_mem]; exact h))]
    unfold kvW
    rw [List.map_append]
    congr 1
    · refine List.map_congr_left fun q hq => ?_
      have : q ≠ p := fun z => h (z ▸ hq)
      unfold wput
      rw [if_neg this]
    · unfold wput
      simp
theorem kvW_drop {c : List Pr} {W : Wt} (p : Pr) : dropK (kvW c W) (kP p) = kvW (c.filter fun q => !decide (q = p)) W := by
  unfold dropK kvW
  rw [List.filter_map]
  congr 1
  refine List.filter_congr fun q _ => ?_
  show decide (kP q ≠ kP p) = !decide (q = p)
  by_cases e : q = p
  · subst e; simp
  · have : kP q ≠ kP p := fun z => e (kP_inj.mp z)
    simp [e, this]
/-- hashes of pairs of places differ -/
def hPr (p : Pr) : Int := PySem.reduceHash (PySem.Builtin.Tuple.tupleHashOf [PySem.hashInt (p.1 : Int), PySem.hashInt (p.2 : Int)])
theorem hPr_nd : (allP.map hPr).Nodup := by decide +kernel
theorem inj_on {α β : Type} {f : α → β} : ∀ {l : List α}, (l.map f).Nodup → ∀ {a b : α}, a ∈ l → b ∈ l → f a = f b → a = b
  | [], _, _, _, h, _, _ => nomatch h
  | x :: l, nd, a, b, ha, hb, e => by
    rw [List.map_cons] at nd
    obtain ⟨n1, n2⟩ := List.nodup_cons.mp nd
    rcases List.mem_cons.mp ha with za | za <;> rcases List.mem_cons.mp hb with zb | zb
    · rw [za, zb]
    · subst za
      exact absurd (List.mem_map.mpr ⟨b, zb, e.symm⟩) n1
    · subst zb
      exact absurd (List.mem_map.mpr ⟨a, za, e⟩) n1
    · exact inj_on n2 za zb e
theorem nodup_on {α β : Type} {f : α → β} : ∀ {l : List α}, l.Nodup → (∀ a ∈ l, ∀ b ∈ l, f a = f b → a = b) → (l.map f).Nodup
  | [], _, _ => List.nodup_nil
  | x :: l, nd, h => by
    obtain ⟨n1, n2⟩ := List.nodup_cons.mp nd
    rw [List.map_cons]
    refine List.nodup_cons.mpr ⟨fun m => ?_, nodup_on n2 fun a ha b hb => h a (List.mem_cons_of_mem _ ha) b (List.mem_cons_of_mem _ hb)⟩
    obtain ⟨y, hy, e⟩ := List.mem_map.mp m
    exact n1 (h y (List.mem_cons_of_mem _ hy) x List.mem_cons_self e ▸ hy)
theorem hash_kvW {c : List Pr} {W : Wt} (nd : c.Nodup) (lt : ∀ p ∈ c, p ∈ allP) (Pg : Program) (w : World) : ((kvW c W).map fun kv => (PySem.tupleKind (mixKind Pg w)).hash kv.1).Nodup := by
  have e : ((kvW c W).map fun kv => (PySem.tupleKind (mixKind Pg w)).hash kv.1) = c.map hPr := by
    unfold kvW
    rw [List.map_map]
    rfl
  rw [e]
  exact nodup_on nd fun a ha b hb => inj_on hPr_nd (lt a ha) (lt b hb)
end
end KPR
set_option Elab.async false
set_option linter.all false
set_option maxRecDepth 100000
/-! KL: what is otherwise, read from two dicts. -/
namespace KPR
open PySem L2
def diffF (f0 f1 : Nat → Option (Int × List Nat)) : List (Nat × Option Int × Option Int) :=
  (((List.range 10).filter fun q => (f0 q).isSome || (f1 q).isSome).filter fun q => !decide ((f0 q).map (·.1) = (f1 q).map (·.1))).map fun q => (q, (f0 q).map (·.1), (f1 q).map (·.1))
theorem fK_val (k : KS) (q : Nat) : (fK k q).map (·.1) = valO k q := by
  unfold fK valO
  split <;> rfl
theorem fK_some (k : KS) (q : Nat) : (fK k q).isSome = decide (q ∈ k.ps) := by
  unfold fK
  by_cases h : q ∈ k.ps
  · rw [if_pos h, decide_eq_true h]; rfl
  · rw [if_neg h, decide_eq_false h]; rfl
theorem diffF_K (a b : KS) : diffF (fK a) (fK b) = diffK a b := by
  unfold diffF diffK sortN
  have e1 : ((List.range 10).filter fun q => (fK a q).isSome || (fK b q).isSome) = (List.range 10).filter fun x => decide (x ∈ a.ps ++ b.ps) := by
    refine List.filter_congr fun q _ => ?_
    rw [fK_some, fK_some]
    by_cases h1 : q ∈ a.ps <;> by_cases h2 : q ∈ b.ps <;> simp [h1, h2]
  rw [e1]
  have e2 : ∀ l : List Nat, (l.filter fun q => !decide ((fK a q).map (·.1) = (fK b q).map (·.1))) = l.filter fun q => !decide (valO a q = valO b q) := fun l => List.filter_congr fun q _ => by rw [fK_val, fK_val]
  rw [e2]
  refine List.map_congr_left fun q _ => ?_
  rw [fK_val, fK_val]
def dO : Option Int → PyData
  | none => .none
  | some v => .int v
def dDiff (x : Nat × Option Int × Option Int) : PyData := .tuple [.int (x.1 : Int), dO x.2.1, dO x.2.2]
def vO : Option Int → V
  | none => .non
  | some v => .int v
theorem vO_d {H : Hp} : ∀ o : Option Int, D H (vO o) (dO o)
  | none => .non
  | some v => .int v
theorem vO_scal (a b : Option Int) : scal (vO a) (vO b) = true := by cases a <;> cases b <;> rfl
theorem vO_eq (a b : Option Int) : decide (vO a = vO b) = decide (a = b) := by
  rw [decide_eq_decide]
  cases a <;> cases b <;> simp [vO]
theorem pwi_ext : ∀ {l m : List Int}, l.Pairwise (· < ·) → m.Pairwise (· < ·) → (∀ x, x ∈ l ↔ x ∈ m) → l = m
  | [], [], _, _, _ => rfl
  | [], b :: m, _, _, h => absurd ((h b).mpr List.mem_cons_self) (by simp)
  | a :: l, [], _, _, h => absurd ((h a).mp List.mem_cons_self) (by simp)
  | a :: l, b :: m, h1, h2, h => by
    obtain ⟨p1, p2⟩ := List.pairwise_cons.mp h1
    obtain ⟨q1, q2⟩ := List.pairwise_cons.mp h2
    have e : a = b := by
      rcases List.mem_cons.mp ((h a).mp List.mem_cons_self) with z | z
      · exact z
      · rcases List.mem_cons.mp ((h b).mpr List.mem_cons_self) with y | y
        · exact y.symm
        · have := q1 a z; have := p1 b y; omega
    subst e
    rw [pwi_ext p2 q2 fun x => ?_]
    constructor
    · intro hx
      rcases List.mem_cons.mp ((h x).mp (List.mem_cons_of_mem _ hx)) with z | z
      · have := p1 x hx; omega
      · exact z
    · intro hx
      rcases List.mem_cons.mp ((h x).mpr (List.mem_cons_of_mem _ hx)) with z | z
      · have := q1 x hx; omega
      · exact z
theorem ints_sorted {l : List Nat} {ns : List Int} (h : ns.Pairwise (· < ·)) (hm : ∀ k : Int, k ∈ ns ↔ k ∈ l.map fun (n : Nat) => (n : Int)) (lt : ∀ x ∈ l, x < 10) : ns = (sortN l).map fun (n : Nat) => (n : Int) := by
  refine pwi_ext h ?_ fun k => ?_
  · rw [List.pairwise_map]
    exact (sortN_pw l).imp fun h => by omega
  · rw [hm, List.mem_map, List.mem_map]
    exact ⟨fun ⟨x, hx, e⟩ => ⟨x, mem_sortN.mpr ⟨lt x hx, hx⟩, e⟩, fun ⟨x, hx, e⟩ => ⟨x, (mem_sortN.mp hx).2, e⟩⟩
section
variable {K : PySem.W.Frag} {B H : Hp} {σ : St} {Q : VK}
theorem KDm.val {ka : Addr} {f : Nat → Option (Int × List Nat)} (h : KDm B H ka f) (q : Nat) : ∃ kk, H ka = some (.dK kk) ∧ (valV kk (kN q)).isSome = (f q).isSome ∧ ∀ v S, f q = some (v, S) → ∃ u, valV kk (kN q) = some u ∧ D B u (.tuple [.int v, dL S]) := by
  obtain ⟨kk, ks, h1, h2, h3, h4, h5, h6⟩ := h
  refine ⟨kk, h1, ?_, h6 q⟩
  rw [valV_isSome, h2]
  simp only [kN_mem]
  by_cases hq : q ∈ ks
  · rw [decide_eq_true hq, (h4 q).mp hq]
  · rw [decide_eq_false hq]
    cases e : (f q).isSome with
    | false => rfl
    | true => exact absurd ((h4 q).mpr e) hq
/-- d[q][0] if q in d else None -/
theorem r_old {td : TE} {j q : Nat} {ko : Addr} {f : Nat → Option (Int × List Nat)} (hd : ∀ Q : VK, Q (.ref ko) H → td σ H Q) (hq : σ[j]? = some (some (.int (q : Int)))) (e : Ex B H) (kd : KDm B H ko f) (k : Q (vO ((f q).map (·.1))) H) :
    tIf (tB (tDIn (tVar j) td)) (tOp (rIxT K) (tDGet td (tVar j)) (tC (.int ((0 : Nat) : Int)))) (tC .non) σ H Q := by
  obtain ⟨kk, h1, h2, h3⟩ := kd.val q
  refine ⟨_, hq, hd _ ⟨ko, _, rfl, DGet.k (k := kN q) h1, _, rfl, ?_⟩⟩
  rw [h2]
  cases hf : f q with
  | none =>
    rw [hf] at k
    exact k
  | some x =>
    obtain ⟨v, S⟩ := x
    rw [hf] at k
    obtain ⟨u, u1, u2⟩ := h3 v S hf
    show tOp (rIxT K) (tDGet td (tVar j)) (tC (.int ((0 : Nat) : Int))) σ H Q
    refine hd _ ⟨_, hq, ko, u, rfl, by rw [← u1]; exact DGet.k (k := kN q) h1, ?_⟩
    refine r_ixT (i := 0) e u2 rfl fun v0 h0 => ?_
    cases h0
    exact k
theorem w_chain {r r' : R2} {ta tb tc : TE} (h : ta σ H fun x H1 => tb σ H1 fun y H2 => r x y H2 fun z H3 => ∃ k, z = .bl k ∧ (if k = true then tc σ H3 fun w' H4 => r' y w' H4 Q else Q (.bl false) H3)) : tChain r r' ta tb tc σ H Q := h
end
end KPR
set_option Elab.async false
set_option linter.all false
set_option maxRecDepth 100000
/-! KN: owners of a keeper. -/
namespace KPR
open PySem L2
section
variable {B H B' H' : Hp} {F : Addr → Prop} {C : Addr} {n : Nat} {x wa ka pa : Addr} {vp vs : V} {k : KS} {pv : List V} {past : List KS} {os : List (Addr × Addr)}
theorem own_snoc (o : Addr × Addr) : ownK x wa ka pa (os ++ [o]) = ownK x wa ka pa os ++ [o.1, o.2] := by
  unfold ownK
  rw [List.flatMap_append]
  simp
structure OwnNe (x wa ka pa : Addr) (os : List (Addr × Addr)) : Prop where
  xw : x ≠ wa
  xk : x ≠ ka
  xp : x ≠ pa
  wk : wa ≠ ka
  wp : wa ≠ pa
  kp : ka ≠ pa
  os : ∀ o ∈ os, (o.1 ≠ x ∧ o.1 ≠ wa ∧ o.1 ≠ ka ∧ o.1 ≠ pa) ∧ (o.2 ≠ x ∧ o.2 ≠ wa ∧ o.2 ≠ ka ∧ o.2 ≠ pa)
theorem ownNe (nd : (ownK x wa ka pa os).Nodup) : OwnNe x wa ka pa os := by
  unfold ownK at nd
  obtain ⟨n1, nd⟩ := List.nodup_cons.mp nd
  obtain ⟨n2, nd⟩ := List.nodup_cons.mp nd
  obtain ⟨n3, nd⟩ := List.nodup_cons.mp nd
  obtain ⟨n4, nd⟩ := List.nodup_cons.mp nd
  simp only [List.mem_cons, not_or] at n1 n2 n3
  refine ⟨n1.1, n1.2.1, n1.2.2.1, n2.1, n2.2.1, n3.1, fun o ho => ?_⟩
  have m1 : o.1 ∈ os.flatMap fun o => [o.1, o.2] := List.mem_flatMap.mpr ⟨o, ho, by simp⟩
  have m2 : o.2 ∈ os.flatMap fun o => [o.1, o.2] := List.mem_flatMap.mpr ⟨o, ho, by simp⟩
  have q : ∀ {a b : Addr}, a ∈ (os.flatMap fun o => [o.1, o.2]) → b ∉ (os.flatMap fun o => [o.1, o.2]) → a ≠ b := fun h1 h2 z => h2 (z ▸ h1)
  exact ⟨⟨q m1 n1.2.2.2, q m1 n2.2.2, q m1 n3.2, q m1 n4⟩, ⟨q m2 n1.2.2.2, q m2 n2.2.2, q m2 n3.2, q m2 n4⟩⟩
theorem own_ka {ka' : Addr} (nd : (ownK x wa ka pa os).Nodup) (h : ka' ∉ ownK x wa ka pa os) : (ownK x wa ka' pa os).Nodup := by
  have nn := nd
  unfold ownK at nd h ⊢
  simp only [List.mem_cons, not_or] at h
  obtain ⟨n1, nd⟩ := List.nodup_cons.mp nd
  obtain ⟨n2, nd⟩ := List.nodup_cons.mp nd
  obtain ⟨n3, nd⟩ := List.nodup_cons.mp nd
  obtain ⟨n4, nd⟩ := List.nodup_cons.mp nd
  simp only [List.mem_cons, not_or] at n1 n2 n3
  refine List.nodup_cons.mpr ⟨?_, List.nodup_cons.mpr ⟨?_, List.nodup_cons.mpr ⟨?_, List.nodup_cons.mpr ⟨n4, nd⟩⟩⟩⟩
  · simp only [List.mem_cons, not_or]
    exact ⟨n1.1, fun z => h.1 z.symm, n1.2.2⟩
  · simp only [List.mem_cons, not_or]
    exact ⟨fun z => h.2.1 z.symm, n2.2⟩
  · simp only [List.mem_cons, not_or]
    exact ⟨h.2.2.2.1, h.2.2.2.2⟩
/-- a new state of the past -/
theorem own_more {o : Addr × Addr} (nd : (ownK x wa ka pa os).Nodup) (h1 : o.1 ∉ ownK x wa ka pa os) (h2 : o.2 ∉ ownK x wa ka pa os) (hne : o.1 ≠ o.2) : (ownK x wa ka pa (os ++ [o])).Nodup := by
  rw [own_snoc]
  refine List.nodup_append.mpr ⟨nd, by simp [hne], fun a ha b hb z => ?_⟩
  rcases (show b = o.1 ∨ b = o.2 by simpa using hb) with e | e
  · exact h1 (by rw [← e, ← z]; exact ha)
  · exact h2 (by rw [← e, ← z]; exact ha)
theorem Kp.notin (h : Kp C B H n x wa ka pa vp vs k pv past os) {a : Addr} (ha : H a = none) : a ∉ ownK x wa ka pa os := fun z => by
  obtain ⟨u, h1, _⟩ := h.al a z
  rw [ha] at h1
  cases h1
theorem Kp.unx (h : Kp C B H n x wa ka pa vp vs k pv past os) : B x = none := h.un x (mem_own.mpr (.inl rfl))
theorem Kp.unw (h : Kp C B H n x wa ka pa vp vs k pv past os) : B wa = none := h.un wa (mem_own.mpr (.inr (.inl rfl)))
theorem Kp.unk (h : Kp C B H n x wa ka pa vp vs k pv past os) : B ka = none := h.un ka (mem_own.mpr (.inr (.inr (.inl rfl))))
theorem Kp.unp (h : Kp C B H n x wa ka pa vp vs k pv past os) : B pa = none := h.un pa (mem_own.mpr (.inr (.inr (.inr (.inl rfl)))))
theorem KOk.len {n : Nat} {k : KS} (h : KOk n k) : k.ps.length ≤ 10 := by
  have := pigeon k.ps n (pw_nodup h.pw) h.lt
  have := h.w.n10
  omega
end
end KPR
set_option Elab.async false
set_option linter.all false
set_option maxRecDepth 100000
/-! KO: a keeper in the midst of a change. -/
namespace KPR
open PySem L2
/-- weights W, posts ps, kept f: they need not fit yet -/
structure Kg (C : Addr) (B H : Hp) (n : Nat) (x wa ka pa : Addr) (vp vs : V) (W : Wt) (ps : List Nat) (f : Nat → Option (Int × List Nat)) (pq : List V) (past : List KS) (os : List (Addr × Addr)) : Prop where
  ins : ∃ dx, H x = some (.ins C dx (flds n wa vp ka pa vs))
  wd : WD H wa W
  kd : KDm B H ka f
  pd : D B vp (dL ps)
  pt : H pa = some (.lst pq)
  pl : PastL B H pq past os
  nd : (ownK x wa ka pa os).Nodup
  un : ∀ a ∈ ownK x wa ka pa os, B a = none
section
variable {B H B' H' : Hp} {F : Addr → Prop} {C : Addr} {n : Nat} {x wa ka pa : Addr} {vp vs : V} {k : KS} {W W' : Wt} {ps : List Nat} {f : Nat → Option (Int × List Nat)} {pq : List V} {past : List KS} {os : List (Addr × Addr)}
theorem Kp.g (h : Kp C B H n x wa ka pa vp vs k pq past os) : Kg C B H n x wa ka pa vp vs k.W k.ps (fK k) pq past os := ⟨h.ins, h.wd, h.kd, h.pd, h.pt, h.pl, h.nd, h.un⟩
theorem Kg.p (h : Kg C B H n x wa ka pa vp vs k.W k.ps f pq past os) (e : f = fK k) : Kp C B H n x wa ka pa vp vs k pq past os := ⟨h.ins, h.wd, e ▸ h.kd, h.pd, h.pt, h.pl, h.nd, h.un⟩
theorem Kg.al (h : Kg C B H n x wa ka pa vp vs W ps f pq past os) : ∀ a ∈ ownK x wa ka pa os, ∃ u, H a = some u ∧ nT u := fun a ha => by
  rcases mem_own.mp ha with e | e | e | e | ⟨o, ho, e | e⟩
  · obtain ⟨dx, q⟩ := h.ins
    exact e ▸ ⟨_, q, trivial⟩
  · obtain ⟨c, q, _⟩ := h.wd
    exact e ▸ ⟨_, q, trivial⟩
  · obtain ⟨kk, ks, q, _⟩ := h.kd
    exact e ▸ ⟨_, q, trivial⟩
  · exact e ▸ ⟨_, h.pt, trivial⟩
  · exact e ▸ (h.pl.al o ho).1
  · exact e ▸ (h.pl.al o ho).2
theorem Kg.grow (h : Kg C B H n x wa ka pa vp vs W ps f pq past os) (g : Gro B H B' H') : Kg C B' H' n x wa ka pa vp vs W ps f pq past os := by
  obtain ⟨dx, hx⟩ := h.ins
  refine ⟨⟨dx, g.hh _ _ hx⟩, h.wd.grow g (fun z => z), h.kd.grow g (fun z => z), h.pd.up g.bb, g.hh _ _ h.pt, h.pl.grow g fun o ho => ⟨fun z => z, fun z => z⟩, h.nd, fun a ha => ?_⟩
  obtain ⟨u, h1, h2⟩ := h.al a ha
  exact g.fr a u h1 h2 (h.un a ha)
theorem Kg.unx (h : Kg C B H n x wa ka pa vp vs W ps f pq past os) : B x = none := h.un x (mem_own.mpr (.inl rfl))
theorem Kg.unw (h : Kg C B H n x wa ka pa vp vs W ps f pq past os) : B wa = none := h.un wa (mem_own.mpr (.inr (.inl rfl)))
theorem Kg.unk (h : Kg C B H n x wa ka pa vp vs W ps f pq past os) : B ka = none := h.un ka (mem_own.mpr (.inr (.inr (.inl rfl))))
theorem Kg.setW (h : Kg C B H n x wa ka pa vp vs W ps f pq past os) (e : Ex B H) {c : List Pr} (nd : c.Nodup) (mem : ∀ p, p ∈ c ↔ W' p ≠ 0) : Kg C B (upd H wa (.dT (kvW c W'))) n x wa ka pa vp vs W' ps f pq past os := by
  have ne := ownNe h.nd
  have g := gof_set (F := fun a => a = wa) (o := .dT (kvW c W')) e rfl h.unw
  obtain ⟨dx, hx⟩ := h.ins
  exact ⟨⟨dx, g.kp _ _ hx ne.xw⟩, ⟨c, upd_same, nd, mem⟩, h.kd.grow g (Ne.symm ne.wk), h.pd, g.kp _ _ h.pt (Ne.symm ne.wp), h.pl.grow g fun o ho => let ⟨⟨_, a, _⟩, ⟨_, b, _⟩⟩ := ne.os o ho; ⟨a, b⟩, h.nd, h.un⟩
theorem Kg.setK (h : Kg C B H n x wa ka pa vp vs W ps f pq past os) (g : Gof (fun a => a = ka) B H B' H') {f' : Nat → Option (Int × List Nat)} (bk : B' ka = none) (kd : KDm B' H' ka f') : Kg C B' H' n x wa ka pa vp vs W ps f' pq past os := by
  have ne := ownNe h.nd
  obtain ⟨dx, hx⟩ := h.ins
  refine ⟨⟨dx, g.kp _ _ hx ne.xk⟩, h.wd.grow g ne.wk, kd, h.pd.up g.bb, g.kp _ _ h.pt (Ne.symm ne.kp), h.pl.grow g fun o ho => let ⟨⟨_, _, a, _⟩, ⟨_, _, b, _⟩⟩ := ne.os o ho; ⟨a, b⟩, h.nd, fun a ha => ?_⟩
  obtain ⟨u, h1, h2⟩ := h.al a ha
  exact g.fr a u h1 h2 (h.un a ha)
theorem Kg.setW2 (h : Kg C B H n x wa ka pa vp vs W ps f pq past os) (g : Gof (fun a => a = wa) B H B' H') (bw : B' wa = none) (wd : WD H' wa W') : Kg C B' H' n x wa ka pa vp vs W' ps f pq past os := by
  have ne := ownNe h.nd
  obtain ⟨dx, hx⟩ := h.ins
  refine ⟨⟨dx, g.kp _ _ hx ne.xw⟩, wd, h.kd.grow g (Ne.symm ne.wk), h.pd.up g.bb, g.kp _ _ h.pt (Ne.symm ne.wp), h.pl.grow g fun o ho => let ⟨⟨_, a, _⟩, ⟨_, b, _⟩⟩ := ne.os o ho; ⟨a, b⟩, h.nd, fun a ha => ?_⟩
  obtain ⟨u, h1, h2⟩ := h.al a ha
  exact g.fr a u h1 h2 (h.un a ha)
theorem Kg.setS (h : Kg C B H n x wa ka pa vp vs W ps f pq past os) (e : Ex B H) {dx : Addr} {vs' : V} : Kg C B (upd H x (.ins C dx (flds n wa vp ka pa vs'))) n x wa ka pa vp vs' W ps f pq past os := by
  have ne := ownNe h.nd
  have g := gof_set (F := fun a => a = x) (o := .ins C dx (flds n wa vp ka pa vs')) e rfl h.unx
  exact ⟨⟨dx, upd_same⟩, h.wd.grow g (Ne.symm ne.xw), h.kd.grow g (Ne.symm ne.xk), h.pd, g.kp _ _ h.pt (Ne.symm ne.xp), h.pl.grow g fun o ho => let ⟨⟨a, _⟩, ⟨b, _⟩⟩ := ne.os o ho; ⟨a, b⟩, h.nd, h.un⟩
end
/-! ### a change of one weight -/
noncomputable def seenW (k : KS) (a b : Nat) (more : Int) : List Nat := k.ps.filter fun q => sep (sideK k q) a b == decide (0 < more)
/-- what is kept before the looked-at posts are found anew -/
noncomputable def keptW (k : KS) (a b : Nat) (more : Int) (l : List Nat) (q : Nat) : Option (Int × List Nat) := if more < 0 ∧ q ∉ seenW k a b more ∧ q ∈ l then some (valK k q + more, sideK k q) else fK k q
theorem weigh_kept {n : Nat} {k : KS} {a b : Nat} {wt : Int} (ok : KOk n k) (has : Has k) (hab : a < b) (hb : b < n) (hm : wt - k.W (a, b) ≠ 0) {f : Nat → Option (Int × List Nat)}
    (hout : ∀ q, q ∉ seenW k a b (wt - k.W (a, b)) → f q = keptW k a b (wt - k.W (a, b)) k.ps q) (hin : ∀ q ∈ seenW k a b (wt - k.W (a, b)), f q = some (valK ⟨wput k.W (a, b) wt, k.ps⟩ q, sideK ⟨wput k.W (a, b) wt, k.ps⟩ q) ∧ MinSide (tiesOf (wput k.W (a, b) wt)) q (othersOf k.ps q) (sideK ⟨wput k.W (a, b) wt, k.ps⟩ q)) :
    f = fK ⟨wput k.W (a, b) wt, k.ps⟩ ∧ Has ⟨wput k.W (a, b) wt, k.ps⟩ := by
  have hn := ok.w.n10
  have hp : ((a, b) : Pr) ∈ allP := allP_mem.mpr ⟨by show a < 10; omega, by show b < 10; omega⟩
  have key : ∀ q ∈ k.ps, q ∉ seenW k a b (wt - k.W (a, b)) → MinSide (tiesOf (wput k.W (a, b) wt)) q (othersOf k.ps q) (sideK k q) ∧ sideW (tiesOf (wput k.W (a, b) wt)) (sideK k q) = valK k q + if wt - k.W (a, b) < 0 then wt - k.W (a, b) else 0 := fun q hq hs => by
    have ms := has q hq
    have hs' : ¬ (sep (sideK k q) a b == decide (0 < wt - k.W (a, b))) = true := fun z => hs (List.mem_filter.mpr ⟨hq, z⟩)
    by_cases hpos : 0 < wt - k.W (a, b)
    · rw [decide_eq_true hpos] at hs'
      have hsep : ¬ sep (sideK k q) a b = true := fun z => hs' (by rw [z]; rfl)
      obtain ⟨m1, m2⟩ := min_more ms hp (show k.W (a, b) ≤ wt by omega) hsep
      refine ⟨m1, ?_⟩
      rw [m2, if_neg (by omega)]
      show valK k q = _
      omega
    · rw [decide_eq_false hpos] at hs'
      have hsep : sep (sideK k q) a b = true := by
        cases z : sep (sideK k q) a b with
        | true => rfl
        | false => exact absurd (by rw [z]; rfl) hs'
      obtain ⟨m1, m2⟩ := min_less ms hp (show wt ≤ k.W (a, b) by omega) hsep
      refine ⟨m1, ?_⟩
      rw [m2, if_pos (by omega)]
      rfl
  have side : ∀ q ∈ k.ps, q ∉ seenW k a b (wt - k.W (a, b)) → sideK ⟨wput k.W (a, b) wt, k.ps⟩ q = sideK k q := fun q hq hs => mside_of (key q hq hs).1
  constructor
  · funext q
    by_cases hs : q ∈ seenW k a b (wt - k.W (a, b))
    · have hq : q ∈ k.ps := (List.mem_filter.mp hs).1
      rw [(hin q hs).1]
      unfold fK
      rw [if_pos hq]
    · rw [hout q hs]
      unfold keptW
      by_cases hq : q ∈ k.ps
      · have e1 : fK ⟨wput k.W (a, b) wt, k.ps⟩ q = some (valK k q + (if wt - k.W (a, b) < 0 then wt - k.W (a, b) else 0), sideK k q) := by
          unfold fK
          rw [if_pos hq]
          have : valK ⟨wput k.W (a, b) wt, k.ps⟩ q = valK k q + if wt - k.W (a, b) < 0 then wt - k.W (a, b) else 0 := by
            show sideW (tiesOf (wput k.W (a, b) wt)) (sideK ⟨wput k.W (a, b) wt, k.ps⟩ q) = _
            rw [side q hq hs]
            exact (key q hq hs).2
          rw [this, side q hq hs]
        rw [e1]
        by_cases hneg : wt - k.W (a, b) < 0
        · rw [if_pos ⟨hneg, hs, hq⟩, if_pos hneg]
        · rw [if_neg (fun z => hneg z.1), if_neg hneg]
          unfold fK
          rw [if_pos hq]
          congr 2
          omega
      · rw [if_neg (fun z => hq z.2.2)]
        unfold fK
        rw [if_neg hq, if_neg hq]
  · intro q hq
    have hq : q ∈ k.ps := hq
    by_cases hs : q ∈ seenW k a b (wt - k.W (a, b))
    · exact (hin q hs).2
    · have := (key q hq hs).1
      rw [side q hq hs]
      exact this
theorem diff_self (k : KS) : diffK k k = [] := by
  unfold diffK
  have : ((sortN (k.ps ++ k.ps)).filter fun q => !decide (valO k q = valO k q)) = [] := by
    rw [List.filter_eq_nil_iff]
    intro q _
    simp
  rw [this]
  rfl
theorem wput_same (W : Wt) (p : Pr) : wput W p (W p) = W := by
  funext q
  unfold wput
  split
  · rename_i e; rw [e]
  · rfl
end KPR
set_option Elab.async false
set_option linter.all false
set_option maxRecDepth 100000
set_option maxHeartbeats 1000000
/-! W2: the small functions of the webs. -/
namespace KPR
open PySem L2
local macro_rules | `(tactic| walk_at "dn") => `(tactic| repeat (first
  | (with_reducible refine w_seq ?_) | (with_reducible refine w_asg ?_) | (with_reducible refine w_drop ?_) | (with_reducible refine w_ret ?_) | (with_reducible refine w_ifs ?_)
  | ((with_reducible refine' w_var ?hv ?_); (case hv => exact rfl)) | (with_reducible refine w_c ?_) | (with_reducible refine w_op ?_) | (with_reducible refine w_un ?_) | (with_reducible refine w_cb ?_)
  | (with_reducible refine w_nil ?_) | (with_reducible refine w_cons ?_) | (with_reducible refine w_gname ?_) | (with_reducible refine w_test ?_) | (with_reducible refine w_b ?_) | (with_reducible refine w_exbl ?_)
  | (with_reducible refine w_and ?_) | (with_reducible refine w_or ?_) | (with_reducible refine w_not ?_) | (with_reducible refine w_if ?_) | (with_reducible refine w_andV ?_) | (with_reducible refine w_orV ?_) | (with_reducible refine w_notV ?_)
  | (with_reducible refine w_tup ?_) | (with_reducible refine w_lst ?_) | (with_reducible refine w_dnewK ?_) | (with_reducible refine w_dnewT ?_) | (with_reducible refine w_din ?_) | (with_reducible refine w_dnin ?_) | (with_reducible refine w_dget ?_) | (with_reducible refine w_dget2 ?_)
  | (with_reducible refine w_fld ?_) | (with_reducible refine w_cal ?_) | (with_reducible refine w_met ?_) | (with_reducible refine w_mak ?_) | (with_reducible refine w_bm ?_) | (with_reducible refine w_bm0 ?_) | (with_reducible refine w_sl ?_)
  | (with_reducible refine w_nopart ?_) | (with_reducible refine w_part ?_) | (with_reducible refine w_sfld ?_) | (with_reducible refine w_dput ?_) | ((with_reducible refine' w_aug ?hv ?_); (case hv => exact rfl)) | (with_reducible refine w_iT ?_) | (with_reducible refine w_iF ?_)
  | (with_reducible refine w_ii0 ?_) | (with_reducible refine w_neg ?_) | (with_reducible refine w_ip ?_) | (with_reducible refine w_yes ?_) | (with_reducible refine w_for ?_) | (with_reducible refine w_ilist ?_) | (with_reducible refine w_itup ?_) | (with_reducible refine w_irng1 ?_) | (with_reducible refine w_irng2 ?_) | (with_reducible refine w_ienum ?_) | (with_reducible refine w_ienumT ?_)
  | (with_reducible refine w_next ?_)))

section
variable {P : Program} {w : World} {K : PySem.W.Frag} {mg : Str → Option Value} {base : Heap}
theorem true_v : ∀ (B : Hp) (v : V) {α : Type} (_ : α), D B v (.bool true) → v = .bl true := fun _ _ _ _ h => h.bl_inv
def sp_pairs_cut : Sp := fun vs H Q _ => ∃ (vc : V) (B : Hp) (c : List Pr), vs = [vc] ∧ Ex B H ∧ D B vc (dPairs c) ∧ c.length ≤ 1000 ∧ ∀ p B' H', Gro B H B' H' → MemT B' p c → Q (.ref p) H'
theorem ok_pairs_cut (R : Raw K mg "pairs_cut" "pairs_cut" s_pairs_cut ["cut"]) (T : TB mg) : DefT P w K mg base "pairs_cut" 1 ["cut"] sp_pairs_cut := by
  refine R.ok fun f fd F => F.ok sc_pairs_cut (fun vs H Q E h => ?_) (fun cdv A outer s H vs Q E hr h => ?_)
  · obtain ⟨_, _, _, rfl, _⟩ := h
    rfl
  · obtain ⟨vc, B, c, rfl, e, hc, hl, k⟩ := h
    refine ⟨_, (pss_one (ps_ret (pe_callTy (k_dictT rfl hr.units) (by rfl) T.z_dict (by decide +kernel) (pa_cons (pe_lc (own := [("pair", 1)]) (g := (gName 1)) (by rfl) sc_pairs_cut.nd (k_ilist (K := K) (pv 0)) (blkOk_by (N := nm_pairs_cut) (sc := defScope s_pairs_cut) (by decide +kernel)) (fun _ _ _ _ _ => (pg_name (i := 1) sc_pairs_cut.nd rfl (by first | exact Or.inl rfl | exact Or.inr rfl))) (fun _ _ _ _ _ => pts_nil) (fun _ _ _ _ _ => (pe_tup (pa_cons (pe_callTy (k_tuple (K := K)) (by rfl) T.z_tuple (by decide +kernel) (pa_cons (pv 1) pa_nil)) (pa_cons pe_bl pa_nil))))) pa_nil)))), ?_⟩
    walk_at "dn"
    refine r_lcL (enc := dPair) (items := c) (p := fun _ => true) (f := fun p => .tuple [dPair p, .bool true]) (gv_var rfl e hc) hl (fun i it x B1 H1 hi g1 hx Y N hY _ => ?_) fun D0 B1 H1 g1 d1 => ?_
    · refine ⟨rfl, ?_⟩
      walk_at "dn"
      refine r_tupleT g1.bh hx ?_
      walk_at "dn"
      exact r_tup2 g1.bh hx (.bl true) fun p B2 H2 g2 _ d2 => hY rfl _ _ _ g2 d2
    rw [filter_yes] at d1
    walk_at "dn"
    refine r_dictTm (items := c) (kf := id) (vf := fun _ => .bl true) (dv := fun _ => .bool true) (fun _ _ _ h => h.bl_inv) g1.bh d1 fun p B2 H2 g2 hm => ?_
    rw [List.map_id] at hm
    exact k p _ _ (g1.trans g2) hm
def sp_weight_of : Sp := fun vs H Q _ => ∃ (vw vc : V) (B : Hp) (n : Nat) (ts : List Tie) (c : List Pr), vs = [vw, vc] ∧ Ex B H ∧ D B vw (dWeb n ts) ∧ D B vc (dPairs c) ∧ ts.length ≤ 1000 ∧ c.length ≤ 1000 ∧
  ∀ B' H', Gro B H B' H' → Q (.int (cutW ts c)) H'
theorem ok_weight_of (R : Raw K mg "weight_of" "weight_of" s_weight_of ["web", "cut"]) (T : TB mg) (c_pairs_cut : DefT P w K mg base "pairs_cut" 1 ["cut"] sp_pairs_cut) : DefT P w K mg base "weight_of" 2 ["web", "cut"] sp_weight_of := by
  refine R.ok fun f fd F => F.ok sc_weight_of (fun vs H Q E h => ?_) (fun cdv A outer s H vs Q E hr h => ?_)
  · obtain ⟨_, _, _, _, _, _, rfl, _⟩ := h
    rfl
  · obtain ⟨vw, vc, B, n, ts, c, rfl, e, hw, hc, hts, hl, k⟩ := h
    refine ⟨_, (pss_cons (ps_set (i := 2) sc_weight_of.nd rfl (by first | exact Or.inl rfl | exact Or.inr rfl) (k_call c_pairs_cut hr (pa_cons (pv 1) pa_nil)))
  (pss_one (ps_ret (pe_callB (k_sum (K := K) rfl) (by rfl) T.z_sum (by decide +kernel) (pa_cons (pe_lc (own := [("a", 3), ("b", 4), ("weight", 5)]) (g := (gTup K 3 (gCons (gName 3) (gCons (gName 4) (gCons (gName 5) gNil))))) (by rfl) sc_weight_of.nd (k_itup (K := K) (pe_ix (k_ixT (K := K)) (pv 0) pe_int (fun _ _ => rfl))) (blkOk_by (N := nm_weight_of) (sc := defScope s_weight_of) (by decide +kernel)) (fun _ _ _ _ _ => (k_gtup (K := K) (by rfl) (pgs_cons (pg_name (i := 3) sc_weight_of.nd rfl (by first | exact Or.inl rfl | exact Or.inr rfl)) (pgs_cons (pg_name (i := 4) sc_weight_of.nd rfl (by first | exact Or.inl rfl | exact Or.inr rfl)) (pgs_cons (pg_name (i := 5) sc_weight_of.nd rfl (by first | exact Or.inl rfl | exact Or.inr rfl)) pgs_nil))))) (fun _ _ _ _ _ => (pts_one (pt_cmp (pc_din (hu_of hr) (pe_tup (pa_cons (pv 3) (pa_cons (pv 4) pa_nil))) (pv 2))))) (fun _ _ _ _ _ => (pv 5))) pa_nil))))), ?_⟩
    walk_at "dn"
    refine ⟨vc, B, c, rfl, e, hc, hl, fun there B2 H2 g12 hm => ?_⟩
    walk_at "dn"
    refine r_lcT (enc := dTie) (items := ts) (p := fun t => decide (prOf t ∈ c)) (f := fun t => .int t.2.2) (gv_ixT rfl g12.bh (hw.up g12.bb) rfl) hts
      (fun i it x B3 H3 hi g3 hx Y N hY hN => ?_) fun D0 B3 H3 g3 d3 => ?_
    · refine g_tup3 g3.bh hx fun a b wt ha hb hw => ⟨rfl, ?_⟩
      cases ha
      cases hb
      cases hw
      walk_at "dn"
      refine r_tup2 g3.bh (.int _) (.int _) fun p B4 H4 g4 _ d4 => ?_
      walk_at "dn"
      refine r_dinT (p := prOf it) g4.bh ((hm.up g3.bb).up g4.bb) d4 fun o1 h1 => ?_
      walk_at "dn"
      rw [h1]
      refine ite2 (fun c => ?_) (fun c => ?_)
      · walk_at "dn"
        exact hY c _ _ _ g4 (.int _)
      · exact hN (by simpa using c) _ _ g4
    · have g13 := g12.trans g3
      rw [show (ts.filter fun t => decide (prOf t ∈ c)).map (fun t => PyData.int t.2.2) = (((ts.filter fun t => decide (prOf t ∈ c)).map fun t => t.2.2)).map PyData.int by rw [List.map_map]; rfl] at d3
      exact r_sum g3.bh d3 (k _ _ g13)
def sp_without : Sp := fun vs H Q _ => ∃ (vw vc : V) (B : Hp) (n : Nat) (ts : List Tie) (c : List Pr), vs = [vw, vc] ∧ Ex B H ∧ D B vw (dWeb n ts) ∧ D B vc (dPairs c) ∧ ts.length ≤ 1000 ∧ c.length ≤ 1000 ∧
  ∀ v B' H', Gro B H B' H' → D B' v (dWeb n (withoutT ts c)) → Q v H'
theorem ok_without (R : Raw K mg "without" "without" s_without ["web", "cut"]) (T : TB mg) (c_pairs_cut : DefT P w K mg base "pairs_cut" 1 ["cut"] sp_pairs_cut) : DefT P w K mg base "without" 2 ["web", "cut"] sp_without := by
  refine R.ok fun f fd F => F.ok sc_without (fun vs H Q E h => ?_) (fun cdv A outer s H vs Q E hr h => ?_)
  · obtain ⟨_, _, _, _, _, _, rfl, _⟩ := h
    rfl
  · obtain ⟨vw, vc, B, n, ts, c, rfl, e, hw, hc, hts, hl, k⟩ := h
    refine ⟨_, (pss_cons (ps_set (i := 2) sc_without.nd rfl (by first | exact Or.inl rfl | exact Or.inr rfl) (k_call c_pairs_cut hr (pa_cons (pv 1) pa_nil)))
  (pss_one (ps_ret (pe_tup (pa_cons (pe_ix (k_ixT (K := K)) (pv 0) pe_int (fun _ _ => rfl)) (pa_cons (pe_callTy (k_tuple (K := K)) (by rfl) T.z_tuple (by decide +kernel) (pa_cons (pe_lc (own := [("tie", 3)]) (g := (gName 3)) (by rfl) sc_without.nd (k_itup (K := K) (pe_ix (k_ixT (K := K)) (pv 0) pe_int (fun _ _ => rfl))) (blkOk_by (N := nm_without) (sc := defScope s_without) (by decide +kernel)) (fun _ _ _ _ _ => (pg_name (i := 3) sc_without.nd rfl (by first | exact Or.inl rfl | exact Or.inr rfl))) (fun _ _ _ _ _ => (pts_one (pt_cmp (pc_dnotin (hu_of hr) (pe_slice (k_slT (K := K)) (pv 3) po_none (po_some pe_int)) (pv 2))))) (fun _ _ _ _ _ => (pv 3))) pa_nil)) pa_nil)))))), ?_⟩
    walk_at "dn"
    refine ⟨vc, B, c, rfl, e, hc, hl, fun there B2 H2 g12 hm => ?_⟩
    walk_at "dn"
    refine r_ixT (i := 0) g12.bh (hw.up g12.bb) rfl fun vn hn => ?_
    walk_at "dn"
    refine r_lcT (enc := dTie) (items := ts) (p := fun t => !decide (prOf t ∈ c)) (f := dTie) (gv_ixT rfl g12.bh (hw.up g12.bb) rfl) hts
      (fun i it x B3 H3 hi g3 hx Y N hY hN => ?_) fun D0 B3 H3 g3 d3 => ?_
    · refine ⟨rfl, ?_⟩
      walk_at "dn"
      refine r_slT_02 g3.bh hx fun p B4 H4 g4 d4 => ?_
      walk_at "dn"
      refine r_dinT (p := prOf it) g4.bh ((hm.up g3.bb).up g4.bb) d4 fun o1 h1 => ?_
      walk_at "dn"
      rw [h1]
      refine ite2 (fun c => ?_) (fun c => ?_)
      · walk_at "dn"
        exact hY c _ _ _ g4 (hx.up g4.bb)
      · exact hN (by simpa using c) _ _ g4
    · have g13 := g12.trans g3
      walk_at "dn"
      refine r_tupleL g3.bh d3 fun q B4 H4 g4 d4 => ?_
      walk_at "dn"
      exact r_tup2 g4.bh ((hn.up g3.bb).up g4.bb) d4 fun p B5 H5 g5 _ d5 => k _ _ _ ((g13.trans g4).trans g5) d5
def sp_posts_in : Sp := fun vs H Q _ => ∃ (vp vs' : V) (B : Hp) (ps S : List Nat), vs = [vp, vs'] ∧ Ex B H ∧ D B vp (dL ps) ∧ D B vs' (dL S) ∧ ps.length ≤ 1000 ∧
  ∀ v B' H', Gro B H B' H' → D B' v (dL (postsIn ps S)) → Q v H'
theorem ok_posts_in (R : Raw K mg "posts_in" "posts_in" s_posts_in ["posts", "piece"]) (T : TB mg) : DefT P w K mg base "posts_in" 1 ["posts", "piece"] sp_posts_in := by
  refine R.ok fun f fd F => F.ok sc_posts_in (fun vs H Q E h => ?_) (fun cdv A outer s H vs Q E hr h => ?_)
  · obtain ⟨_, _, _, _, _, rfl, _⟩ := h
    rfl
  · obtain ⟨vp, vs', B, ps, S, rfl, e, hp, hS, hl, k⟩ := h
    refine ⟨_, (pss_one (ps_ret (pe_lc (own := [("post", 2)]) (g := (gName 2)) (by rfl) sc_posts_in.nd (k_ilist (K := K) (pv 0)) (blkOk_by (N := nm_posts_in) (sc := defScope s_posts_in) (by decide +kernel)) (fun _ _ _ _ _ => (pg_name (i := 2) sc_posts_in.nd rfl (by first | exact Or.inl rfl | exact Or.inr rfl))) (fun _ _ _ _ _ => (pts_one (pt_cmpR (k_in (K := K)) (pv 2) (pv 1) (by with_unfolding_all rfl)))) (fun _ _ _ _ _ => (pv 2))))), ?_⟩
    walk_at "dn"
    refine r_lcL (enc := fun (n : Nat) => .int (n : Int)) (items := ps) (p := fun x => decide (x ∈ S)) (f := fun (n : Nat) => .int (n : Int)) (gv_var rfl e hp) hl (fun i it x B1 H1 hi g1 hx Y N hY hN => ?_) fun D0 B1 H1 g1 d1 => ?_
    · cases hx
      refine ⟨rfl, ?_⟩
      walk_at "dn"
      refine r_in g1.bh (hS.up g1.bb) ?_
      walk_at "dn"
      refine ite2 (fun c => ?_) (fun c => ?_)
      · walk_at "dn"
        exact hY c _ _ _ (Gof.refl g1.bh) (.int _)
      · exact hN (by simpa using c) _ _ (Gof.refl g1.bh)
    · exact k _ _ _ g1 d1
def sp_by_weight : Sp := fun vs H Q _ => ∃ (vt : V) (B : Hp) (t : Tie), vs = [vt] ∧ Ex B H ∧ D B vt (dTie t) ∧ ∀ v B' H', Gro B H B' H' → D B' v (dKey t) → Q v H'
theorem ok_by_weight (R : Raw K mg "by_weight" "by_weight" s_by_weight ["tie"]) (T : TB mg) : DefT P w K mg base "by_weight" 1 ["tie"] sp_by_weight := by
  refine R.ok fun f fd F => F.ok sc_by_weight (fun vs H Q E h => ?_) (fun cdv A outer s H vs Q E hr h => ?_)
  · obtain ⟨_, _, _, rfl, _⟩ := h
    rfl
  · obtain ⟨vt, B, t, rfl, e, ht, k⟩ := h
    refine ⟨_, (pss_one (ps_ret (pe_op (k_catT (K := K)) (pe_tup (pa_cons (pe_un un_neg (pe_ix (k_ixT (K := K)) (pv 0) pe_int (fun _ _ => rfl))) pa_nil)) (pe_slice (k_slT (K := K)) (pv 0) po_none (po_some pe_int))))), ?_⟩
    walk_at "dn"
    refine r_ixT (i := 2) e ht rfl fun v hv => ?_
    cases hv
    walk_at "dn"
    refine r_tup1 e (.int _) fun p B1 H1 g1 _ d1 => ?_
    walk_at "dn"
    refine r_slT_02 g1.bh (ht.up g1.bb) fun q B2 H2 g2 d2 => ?_
    exact r_catT g2.bh (d1.up g2.bb) d2 (by simp) (by simp) (by show 3 ≤ 100000; decide) fun r B3 H3 g3 d3 => k _ _ _ ((g1.trans g2).trans g3) d3

def sp_others_of : Sp := fun vs H Q _ => ∃ (vp : V) (B : Hp) (ps : List Nat) (q : Nat), vs = [vp, .int (q : Int)] ∧ Ex B H ∧ D B vp (dL ps) ∧ ps.length ≤ 1000 ∧
  ∀ v B' H', Gro B H B' H' → D B' v (dL (othersOf ps q)) → Q v H'
theorem ok_others_of (R : Raw K mg "others_of" "others_of" s_others_of ["posts", "post"]) (T : TB mg) : DefT P w K mg base "others_of" 1 ["posts", "post"] sp_others_of := by
  refine R.ok fun f fd F => F.ok sc_others_of (fun vs H Q E h => ?_) (fun cdv A outer s H vs Q E hr h => ?_)
  · obtain ⟨_, _, _, _, rfl, _⟩ := h
    rfl
  · obtain ⟨vp, B, ps, q, rfl, e, hp, hl, k⟩ := h
    refine ⟨_, (pss_one (ps_ret (pe_lc (own := [("other", 2)]) (g := (gName 2)) (by rfl) sc_others_of.nd (k_ilist (K := K) (pv 0)) (blkOk_by (N := nm_others_of) (sc := defScope s_others_of) (by decide +kernel)) (fun _ _ _ _ _ => (pg_name (i := 2) sc_others_of.nd rfl (by first | exact Or.inl rfl | exact Or.inr rfl))) (fun _ _ _ _ _ => (pts_one (pt_cmpR op_ne (pv 2) (pv 1) (nomark _)))) (fun _ _ _ _ _ => (pv 2))))), ?_⟩
    walk_at "dn"
    refine r_lcL (enc := fun (n : Nat) => .int (n : Int)) (items := ps) (p := fun x => !decide (x = q)) (f := fun (n : Nat) => .int (n : Int)) (gv_var rfl e hp) hl (fun i it x B1 H1 hi g1 hx Y N hY hN => ?_) fun D0 B1 H1 g1 d1 => ?_
    · cases hx
      refine ⟨rfl, ?_⟩
      walk_at "dn"
      refine ⟨rfl, ?_⟩
      walk_at "dn"
      rw [nat_eq]
      refine ite2 (fun c => ?_) (fun c => ?_)
      · walk_at "dn"
        exact hY c _ _ _ (Gof.refl g1.bh) (.int _)
      · exact hN (by simpa using c) _ _ (Gof.refl g1.bh)
    · exact k _ _ _ g1 d1
def sp_edge_of : Sp := fun vs H Q _ => ∃ (vw vs' : V) (B : Hp) (n : Nat) (ts : List Tie) (S : List Nat), vs = [vw, vs'] ∧ Ex B H ∧ D B vw (dWeb n ts) ∧ D B vs' (dL S) ∧ ts.length ≤ 1000 ∧ S.length ≤ 1000 ∧
  ∀ v B' H', Gro B H B' H' → D B' v (dPairs (edgesT ts S)) → Q v H'
theorem ok_edge_of (R : Raw K mg "edge_of" "edge_of" s_edge_of ["web", "side"]) (T : TB mg) : DefT P w K mg base "edge_of" 1 ["web", "side"] sp_edge_of := by
  refine R.ok fun f fd F => F.ok sc_edge_of (fun vs H Q E h => ?_) (fun cdv A outer s H vs Q E hr h => ?_)
  · obtain ⟨_, _, _, _, _, _, rfl, _⟩ := h
    rfl
  · obtain ⟨vw, vs', B, n, ts, S, rfl, e, hw, hS, hts, hSl, k⟩ := h
    refine ⟨_, (pss_cons (ps_set (i := 2) sc_edge_of.nd rfl (by first | exact Or.inl rfl | exact Or.inr rfl) (pe_callTy (k_dictK (K := K) rfl) (by rfl) T.z_dict (by decide +kernel) (pa_cons (pe_lc (own := [("place", 3)]) (g := (gName 3)) (by rfl) sc_edge_of.nd (k_ilist (K := K) (pv 1)) (blkOk_by (N := nm_edge_of) (sc := defScope s_edge_of) (by decide +kernel)) (fun _ _ _ _ _ => (pg_name (i := 3) sc_edge_of.nd rfl (by first | exact Or.inl rfl | exact Or.inr rfl))) (fun _ _ _ _ _ => pts_nil) (fun _ _ _ _ _ => (pe_tup (pa_cons (pv 3) (pa_cons pe_bl pa_nil))))) pa_nil)))
  (pss_one (ps_ret (pe_lc (own := [("a", 4), ("b", 5), ("weight", 6)]) (g := (gTup K 3 (gCons (gName 4) (gCons (gName 5) (gCons (gName 6) gNil))))) (by rfl) sc_edge_of.nd (k_itup (K := K) (pe_ix (k_ixT (K := K)) (pv 0) pe_int (fun _ _ => rfl))) (blkOk_by (N := nm_edge_of) (sc := defScope s_edge_of) (by decide +kernel)) (fun _ _ _ _ _ => (k_gtup (K := K) (by rfl) (pgs_cons (pg_name (i := 4) sc_edge_of.nd rfl (by first | exact Or.inl rfl | exact Or.inr rfl)) (pgs_cons (pg_name (i := 5) sc_edge_of.nd rfl (by first | exact Or.inl rfl | exact Or.inr rfl)) (pgs_cons (pg_name (i := 6) sc_edge_of.nd rfl (by first | exact Or.inl rfl | exact Or.inr rfl)) pgs_nil))))) (fun _ _ _ _ _ => (pts_one (pt_cmpR op_ne (pe_cmp (pc_din (hu_of hr) (pv 4) (pv 2)) rfl) (pe_cmp (pc_din (hu_of hr) (pv 5) (pv 2)) rfl) (nomark _)))) (fun _ _ _ _ _ => (pe_tup (pa_cons (pv 4) (pa_cons (pv 5) pa_nil)))))))), ?_⟩
    walk_at "dn"
    refine r_lcL (enc := fun (n : Nat) => .int (n : Int)) (items := S) (p := fun _ => true) (f := fun n => .tuple [.int (n : Int), .bool true]) (gv_var rfl e hS) hSl (fun i it x B1 H1 hi g1 hx Y N hY _ => ?_) fun D0 B1 H1 g1 d1 => ?_
    · cases hx
      refine ⟨rfl, ?_⟩
      walk_at "dn"
      exact r_tup2 g1.bh (.int _) (.bl true) fun p B2 H2 g2 _ d2 => hY rfl _ _ _ g2 d2
    rw [filter_yes] at d1
    walk_at "dn"
    refine r_dictK (c := .bool true) (vc := .bl true) (fun _ _ => tru_inv) g1.bh d1 fun there B2 H2 g2 hm => ?_
    have g12 := g1.trans g2
    walk_at "dn"
    refine r_lcT (enc := dTie) (items := ts) (p := fun t => sep S t.1 t.2.1) (f := fun t => dPair (prOf t)) (gv_ixT rfl g12.bh (hw.up g12.bb) rfl) hts
      (fun i it x B3 H3 hi g3 hx Y N hY hN => ?_) fun D0 B3 H3 g3 d3 => ?_
    · refine g_tup3 g3.bh hx fun a b wt ha hb hw => ⟨rfl, ?_⟩
      cases ha
      cases hb
      cases hw
      walk_at "dn"
      refine r_dinK g3.bh (hm.up g3.bb) fun o1 h1 => ?_
      walk_at "dn"
      refine r_dinK g3.bh (hm.up g3.bb) fun o2 h2 => ⟨rfl, ?_⟩
      walk_at "dn"
      rw [bl_ne, h1, h2]
      refine ite2 (fun c => ?_) (fun c => ?_)
      · walk_at "dn"
        exact r_tup2 g3.bh (.int _) (.int _) fun p B4 H4 g4 _ d4 => hY c _ _ _ g4 d4
      · exact hN (by simpa [sep] using c) _ _ (Gof.refl g3.bh)
    · have e2 : (edgesT ts S).map dPair = (ts.filter fun t => sep S t.1 t.2.1).map fun t => dPair (prOf t) := by unfold edgesT; rw [List.map_map]; rfl
      exact k _ _ _ (g12.trans g3) (by unfold dPairs; rw [e2]; exact d3)
def sp_side_weight : Sp := fun vs H Q _ => ∃ (vw vs' : V) (B : Hp) (n : Nat) (ts : List Tie) (S : List Nat), vs = [vw, vs'] ∧ Ex B H ∧ D B vw (dWeb n ts) ∧ D B vs' (dL S) ∧ ts.length ≤ 1000 ∧ S.length ≤ 1000 ∧
  ∀ B' H', Gro B H B' H' → Q (.int (sideW ts S)) H'
theorem ok_side_weight (R : Raw K mg "side_weight" "side_weight" s_side_weight ["web", "side"]) (T : TB mg) : DefT P w K mg base "side_weight" 1 ["web", "side"] sp_side_weight := by
  refine R.ok fun f fd F => F.ok sc_side_weight (fun vs H Q E h => ?_) (fun cdv A outer s H vs Q E hr h => ?_)
  · obtain ⟨_, _, _, _, _, _, rfl, _⟩ := h
    rfl
  · obtain ⟨vw, vs', B, n, ts, S, rfl, e, hw, hS, hts, hSl, k⟩ := h
    refine ⟨_, (pss_cons (ps_set (i := 2) sc_side_weight.nd rfl (by first | exact Or.inl rfl | exact Or.inr rfl) (pe_callTy (k_dictK (K := K) rfl) (by rfl) T.z_dict (by decide +kernel) (pa_cons (pe_lc (own := [("place", 3)]) (g := (gName 3)) (by rfl) sc_side_weight.nd (k_ilist (K := K) (pv 1)) (blkOk_by (N := nm_side_weight) (sc := defScope s_side_weight) (by decide +kernel)) (fun _ _ _ _ _ => (pg_name (i := 3) sc_side_weight.nd rfl (by first | exact Or.inl rfl | exact Or.inr rfl))) (fun _ _ _ _ _ => pts_nil) (fun _ _ _ _ _ => (pe_tup (pa_cons (pv 3) (pa_cons pe_bl pa_nil))))) pa_nil)))
  (pss_one (ps_ret (pe_callB (k_sum (K := K) rfl) (by rfl) T.z_sum (by decide +kernel) (pa_cons (pe_lc (own := [("a", 4), ("b", 5), ("weight", 6)]) (g := (gTup K 3 (gCons (gName 4) (gCons (gName 5) (gCons (gName 6) gNil))))) (by rfl) sc_side_weight.nd (k_itup (K := K) (pe_ix (k_ixT (K := K)) (pv 0) pe_int (fun _ _ => rfl))) (blkOk_by (N := nm_side_weight) (sc := defScope s_side_weight) (by decide +kernel)) (fun _ _ _ _ _ => (k_gtup (K := K) (by rfl) (pgs_cons (pg_name (i := 4) sc_side_weight.nd rfl (by first | exact Or.inl rfl | exact Or.inr rfl)) (pgs_cons (pg_name (i := 5) sc_side_weight.nd rfl (by first | exact Or.inl rfl | exact Or.inr rfl)) (pgs_cons (pg_name (i := 6) sc_side_weight.nd rfl (by first | exact Or.inl rfl | exact Or.inr rfl)) pgs_nil))))) (fun _ _ _ _ _ => (pts_one (pt_cmpR op_ne (pe_cmp (pc_din (hu_of hr) (pv 4) (pv 2)) rfl) (pe_cmp (pc_din (hu_of hr) (pv 5) (pv 2)) rfl) (nomark _)))) (fun _ _ _ _ _ => (pv 6))) pa_nil))))), ?_⟩
    walk_at "dn"
    refine r_lcL (enc := fun (n : Nat) => .int (n : Int)) (items := S) (p := fun _ => true) (f := fun n => .tuple [.int (n : Int), .bool true]) (gv_var rfl e hS) hSl (fun i it x B1 H1 hi g1 hx Y N hY _ => ?_) fun D0 B1 H1 g1 d1 => ?_
    · cases hx
      refine ⟨rfl, ?_⟩
      walk_at "dn"
      exact r_tup2 g1.bh (.int _) (.bl true) fun p B2 H2 g2 _ d2 => hY rfl _ _ _ g2 d2
    rw [filter_yes] at d1
    walk_at "dn"
    refine r_dictK (c := .bool true) (vc := .bl true) (fun _ _ => tru_inv) g1.bh d1 fun there B2 H2 g2 hm => ?_
    have g12 := g1.trans g2
    walk_at "dn"
    refine r_lcT (enc := dTie) (items := ts) (p := fun t => sep S t.1 t.2.1) (f := fun t => .int t.2.2) (gv_ixT rfl g12.bh (hw.up g12.bb) rfl) hts
      (fun i it x B3 H3 hi g3 hx Y N hY hN => ?_) fun D0 B3 H3 g3 d3 => ?_
    · refine g_tup3 g3.bh hx fun a b wt ha hb hw => ⟨rfl, ?_⟩
      cases ha
      cases hb
      cases hw
      walk_at "dn"
      refine r_dinK g3.bh (hm.up g3.bb) fun o1 h1 => ?_
      walk_at "dn"
      refine r_dinK g3.bh (hm.up g3.bb) fun o2 h2 => ⟨rfl, ?_⟩
      walk_at "dn"
      rw [bl_ne, h1, h2]
      refine ite2 (fun c => ?_) (fun c => ?_)
      · walk_at "dn"
        exact hY c _ _ _ (Gof.refl g3.bh) (.int _)
      · exact hN (by simpa [sep] using c) _ _ (Gof.refl g3.bh)
    · have g13 := g12.trans g3
      rw [show (ts.filter fun t => sep S t.1 t.2.1).map (fun t => PyData.int t.2.2) = (((ts.filter fun t => sep S t.1 t.2.1).map fun t => t.2.2)).map PyData.int by rw [List.map_map]; rfl] at d3
      exact r_sum g3.bh d3 (k _ _ g13)
end
end KPR
set_option Elab.async false
set_option linter.all false
set_option maxRecDepth 100000
set_option maxHeartbeats 2000000
/-! W3: beside, hangs_on, pieces, is_parting, pruned. -/
namespace KPR
open PySem L2
local macro_rules | `(tactic| walk_at "dn") => `(tactic| repeat (first
  | (with_reducible refine w_seq ?_) | (with_reducible refine w_asg ?_) | (with_reducible refine w_drop ?_) | (with_reducible refine w_ret ?_) | (with_reducible refine w_ifs ?_)
  | ((with_reducible refine' w_var ?hv ?_); (case hv => exact rfl)) | (with_reducible refine w_c ?_) | (with_reducible refine w_op ?_) | (with_reducible refine w_un ?_) | (with_reducible refine w_cb ?_)
  | (with_reducible refine w_nil ?_) | (with_reducible refine w_cons ?_) | (with_reducible refine w_gname ?_) | (with_reducible refine w_test ?_) | (with_reducible refine w_b ?_) | (with_reducible refine w_exbl ?_)
  | (with_reducible refine w_and ?_) | (with_reducible refine w_or ?_) | (with_reducible refine w_not ?_) | (with_reducible refine w_if ?_) | (with_reducible refine w_andV ?_) | (with_reducible refine w_orV ?_) | (with_reducible refine w_notV ?_)
  | (with_reducible refine w_tup ?_) | (with_reducible refine w_lst ?_) | (with_reducible refine w_dnewK ?_) | (with_reducible refine w_dnewT ?_) | (with_reducible refine w_din ?_) | (with_reducible refine w_dnin ?_) | (with_reducible refine w_dget ?_) | (with_reducible refine w_dget2 ?_)
  | (with_reducible refine w_fld ?_) | (with_reducible refine w_cal ?_) | (with_reducible refine w_met ?_) | (with_reducible refine w_mak ?_) | (with_reducible refine w_bm ?_) | (with_reducible refine w_bm0 ?_) | (with_reducible refine w_sl ?_)
  | (with_reducible refine w_nopart ?_) | (with_reducible refine w_part ?_) | (with_reducible refine w_sfld ?_) | (with_reducible refine w_dput ?_) | ((with_reducible refine' w_aug ?hv ?_); (case hv => exact rfl)) | (with_reducible refine w_iT ?_) | (with_reducible refine w_iF ?_)
  | (with_reducible refine w_ii0 ?_) | (with_reducible refine w_neg ?_) | (with_reducible refine w_ip ?_) | (with_reducible refine w_yes ?_) | (with_reducible refine w_for ?_) | (with_reducible refine w_ilist ?_) | (with_reducible refine w_itup ?_) | (with_reducible refine w_irng1 ?_) | (with_reducible refine w_irng2 ?_) | (with_reducible refine w_ienum ?_) | (with_reducible refine w_ienumT ?_)
  | (with_reducible refine w_next ?_)))

section
variable {P : Program} {w : World} {K : PySem.W.Frag} {mg : Str → Option Value} {base : Heap}
def dLL (l : List (List Nat)) : PyData := .list (l.map dL)
def sp_beside : Sp := fun vs H Q _ => ∃ (vw : V) (B : Hp) (n : Nat) (ts : List Tie), vs = [vw] ∧ Ex B H ∧ D B vw (dWeb n ts) ∧ Wf n ts ∧ ∀ v B' H', Gro B H B' H' → D B' v (dLL (nearOf n ts)) → Q v H'
theorem ok_beside (R : Raw K mg "beside" "beside" s_beside ["web"]) (T : TB mg) : DefT P w K mg base "beside" 1 ["web"] sp_beside := by
  refine R.ok fun f fd F => F.ok sc_beside (fun vs H Q E h => ?_) (fun cdv A outer s H vs Q E hr h => ?_)
  · obtain ⟨_, _, _, _, rfl, _⟩ := h
    rfl
  · obtain ⟨vw, B, n, ts, rfl, e, hw, wf, k⟩ := h
    refine ⟨_, (pss_cons (ps_setLc (i := 1) (own := [("place", 2)]) (g := (gName 2)) (by rfl) sc_beside.nd rfl rfl (sw_true rfl rfl rfl (by decide +kernel)) (pi_range1 (by rfl) T.z_range (pa_cons (pe_ix (k_ixT (K := K)) (pv 0) pe_int (fun _ _ => rfl)) pa_nil)) (blkOk_by (N := nm_beside) (sc := defScope s_beside) (by decide +kernel)) (fun _ _ _ _ _ => (pg_name (i := 2) sc_beside.nd rfl (by first | exact Or.inl rfl | exact Or.inr rfl))) (fun _ _ _ _ _ => pts_nil) (fun _ _ _ _ _ => (pe_lst pa_nil)))
  (pss_cons (ps_for PassesOwn.never rfl (k_itup (K := K) (pe_ix (k_ixT (K := K)) (pv 0) pe_int (fun _ _ => rfl))) (k_gtup (K := K) (by rfl) (pgs_cons (pg_name (i := 3) sc_beside.nd rfl (by first | exact Or.inl rfl | exact Or.inr rfl)) (pgs_cons (pg_name (i := 4) sc_beside.nd rfl (by first | exact Or.inl rfl | exact Or.inr rfl)) (pgs_cons (pg_name (i := 5) sc_beside.nd rfl (by first | exact Or.inl rfl | exact Or.inr rfl)) pgs_nil)))) (pss_cons (ps_expr (k_bm (K := K) PySem.F.plainAttrs_list PySem.F.slot_list_append PySem.F.type_list_append mt_append (pe_ix (k_ixL (K := K)) (pv 1) (pv 3) (fun _ _ => rfl)) (pa_cons (pv 4) pa_nil)))
  (pss_one (ps_expr (k_bm (K := K) PySem.F.plainAttrs_list PySem.F.slot_list_append PySem.F.type_list_append mt_append (pe_ix (k_ixL (K := K)) (pv 1) (pv 4) (fun _ _ => rfl)) (pa_cons (pv 3) pa_nil))))))
  (pss_one (ps_ret (pv 1))))), ?_⟩
    have hn := wf.n10
    walk_at "dn"
    refine r_lcFresh (B := B) (n := n) rfl (fun R r => ?_) (by omega) fun L as B1 H1 H2 g1 g2 hL0 hLa hal hL fr => ?_
    · walk_at "dn"
      refine r_ixT (i := 0) e hw rfl fun vn hvn => ?_
      cases hvn
      walk_at "dn"
      exact r _ _ (Gof.refl e)
    walk_at "dn"
    refine r_ixT (i := 1) (g1.trans g2).bh (hw.up (g1.trans g2).bb) rfl fun vt hvt => ?_
    refine loopT (F := FA) ts dTie (g1.trans g2).bh hvt ⟨fun i σ' B' H' => B' = B1 ∧ (∃ o3 o4 o5, σ' = [some vw, some (.ref L), none, o3, o4, o5]) ∧ Gro B1 H1 B1 H' ∧ H' L = some (.lst (as.map V.ref)) ∧ Fresh B1 H1 H' as (fun p => vN (nearP (ts.take i) p)), ⟨rfl, ⟨_, _, _, rfl⟩, g2, hL, ?_⟩, fun i x σ' B' H' hi gB hx p => ?_, fun σ' B' H' gB p => ?_⟩
    · simpa [nearP, vN] using fr
    · obtain ⟨rfl, ⟨o3, o4, o5, rfl⟩, g', hL', fr'⟩ := p
      obtain ⟨t, ht, hd⟩ := hx
      have tm := List.mem_of_getElem? ht
      have lt1 := wf.lt t tm
      have lt2 := wf.top t tm
      refine g_tup3 g'.bh hd fun va vb vwt ha hb hwt => ?_
      cases ha
      cases hb
      cases hwt
      walk_at "dn"
      obtain ⟨a1, ha1⟩ : ∃ a, as[t.1]? = some a := ⟨_, List.getElem?_eq_getElem (by omega)⟩
      obtain ⟨a2, ha2⟩ : ∃ a, as[t.2.1]? = some a := ⟨_, List.getElem?_eq_getElem (by omega)⟩
      refine r_ixLm (i := t.1) hL' (by rw [List.getElem?_map, ha1]; rfl) ⟨tyV_lst (fr'.at_ _ _ ha1), ?_⟩
      walk_at "dn"
      have nl := nearP_len (ts.take i) t.1
      have tl : (ts.take i).length ≤ 45 := Nat.le_trans (by rw [List.length_take]; exact Nat.min_le_right _ _) wf.len
      refine r_append (fr'.at_ _ _ ha1) (by unfold vN; rw [List.length_map]; omega) ?_
      walk_at "dn"
      have f1 := fr'.set (l := vN (nearP (ts.take i) t.1) ++ [V.int (t.2.1 : Int)]) ha1
      have ne1 : L ≠ a1 := fun z => hLa (z ▸ List.mem_of_getElem? ha1)
      have ne2 : L ≠ a2 := fun z => hLa (z ▸ List.mem_of_getElem? ha2)
      have g3 := gro_set (o := .lst (vN (nearP (ts.take i) t.1) ++ [V.int (t.2.1 : Int)])) g' (fr'.new a1 (List.mem_of_getElem? ha1)).1 (fr'.new a1 (List.mem_of_getElem? ha1)).2
      refine r_ixLm (i := t.2.1) (by rw [upd_ne ne1]; exact hL') (by rw [List.getElem?_map, ha2]; rfl) ⟨tyV_lst (f1.at_ _ _ ha2), ?_⟩
      walk_at "dn"
      have h21 : ¬ t.2.1 = t.1 := by omega
      have q2 := f1.at_ _ _ ha2
      rw [if_neg h21] at q2
      have nl2 := nearP_len (ts.take i) t.2.1
      refine r_append q2 (by unfold vN; rw [List.length_map]; omega) ?_
      walk_at "dn"
      have f2 := f1.set (l := vN (nearP (ts.take i) t.2.1) ++ [V.int (t.1 : Int)]) ha2
      have g4 := gro_set (o := .lst (vN (nearP (ts.take i) t.2.1) ++ [V.int (t.1 : Int)])) g3 (fr'.new a2 (List.mem_of_getElem? ha2)).1 (fr'.new a2 (List.mem_of_getElem? ha2)).2
      refine ⟨B', ?_, rfl, ⟨_, _, _, rfl⟩, g4, by rw [upd_ne ne2, upd_ne ne1]; exact hL', ?_⟩
      · have b1 := (fr'.new a1 (List.mem_of_getElem? ha1)).2
        have b2 := (fr'.new a2 (List.mem_of_getElem? ha2)).2
        have q1 := gB.trans (gof_set (F := FA) (o := .lst (vN (nearP (ts.take i) t.1) ++ [V.int (t.2.1 : Int)])) gB.bh trivial b1)
        exact q1.trans (gof_set (F := FA) q1.bh trivial b2)
      · refine ⟨f2.nd, f2.new, fun j a hj => ?_⟩
        have := f2.at_ j a hj
        rw [this, List.take_add_one, ht, Option.toList_some, nearP_snoc]
        unfold vN
        by_cases e1 : j = t.2.1
        · subst e1
          rw [if_pos rfl, if_neg (by omega : ¬ t.1 = t.2.1), if_pos rfl]
          simp
        · rw [if_neg e1, if_neg (by omega : ¬ t.2.1 = j)]
          by_cases e2 : j = t.1
          · subst e2
            rw [if_pos rfl, if_pos rfl]
            simp
          · rw [if_neg e2, if_neg (by omega : ¬ t.1 = j)]
            simp
    · obtain ⟨rfl, ⟨o3, o4, o5, rfl⟩, g', hL', fr'⟩ := p
      rw [List.take_length] at fr'
      obtain ⟨B5, g5, _, d5, _⟩ := fresh_know (cd := fun i => dN (nearP ts i)) g' fr' hL0 hL' (g1.bh.back hL0) hal fun i => DA.nats _
      walk_at "dn"
      exact k _ _ _ (g1.trans g5) (by unfold dLL nearOf; rw [List.map_map]; exact d5)
end
end KPR
set_option Elab.async false
set_option linter.all false
set_option maxRecDepth 100000
set_option maxHeartbeats 2000000
/-! W4: hangs_on, pieces. -/
namespace KPR
open PySem L2
local macro_rules | `(tactic| walk_at "dn") => `(tactic| repeat (first
  | (with_reducible refine w_seq ?_) | (with_reducible refine w_asg ?_) | (with_reducible refine w_drop ?_) | (with_reducible refine w_ret ?_) | (with_reducible refine w_ifs ?_)
  | ((with_reducible refine' w_var ?hv ?_); (case hv => exact rfl)) | (with_reducible refine w_c ?_) | (with_reducible refine w_op ?_) | (with_reducible refine w_un ?_) | (with_reducible refine w_cb ?_)
  | (with_reducible refine w_nil ?_) | (with_reducible refine w_cons ?_) | (with_reducible refine w_gname ?_) | (with_reducible refine w_test ?_) | (with_reducible refine w_b ?_) | (with_reducible refine w_exbl ?_)
  | (with_reducible refine w_and ?_) | (with_reducible refine w_or ?_) | (with_reducible refine w_not ?_) | (with_reducible refine w_if ?_) | (with_reducible refine w_andV ?_) | (with_reducible refine w_orV ?_) | (with_reducible refine w_notV ?_)
  | (with_reducible refine w_tup ?_) | (with_reducible refine w_lst ?_) | (with_reducible refine w_dnewK ?_) | (with_reducible refine w_dnewT ?_) | (with_reducible refine w_din ?_) | (with_reducible refine w_dnin ?_) | (with_reducible refine w_dget ?_) | (with_reducible refine w_dget2 ?_)
  | (with_reducible refine w_fld ?_) | (with_reducible refine w_cal ?_) | (with_reducible refine w_met ?_) | (with_reducible refine w_mak ?_) | (with_reducible refine w_bm ?_) | (with_reducible refine w_bm0 ?_) | (with_reducible refine w_sl ?_)
  | (with_reducible refine w_nopart ?_) | (with_reducible refine w_part ?_) | (with_reducible refine w_sfld ?_) | (with_reducible refine w_dput ?_) | ((with_reducible refine' w_aug ?hv ?_); (case hv => exact rfl)) | (with_reducible refine w_iT ?_) | (with_reducible refine w_iF ?_)
  | (with_reducible refine w_ii0 ?_) | (with_reducible refine w_neg ?_) | (with_reducible refine w_ip ?_) | (with_reducible refine w_yes ?_) | (with_reducible refine w_for ?_) | (with_reducible refine w_ilist ?_) | (with_reducible refine w_itup ?_) | (with_reducible refine w_irng1 ?_) | (with_reducible refine w_irng2 ?_) | (with_reducible refine w_ienum ?_) | (with_reducible refine w_ienumT ?_)
  | (with_reducible refine w_next ?_)))

section
variable {P : Program} {w : World} {K : PySem.W.Frag} {mg : Str → Option Value} {base : Heap}
structure NearOk (n : Nat) (near : List (List Nat)) : Prop where
  n10 : n ≤ 10
  len : near.length = n
  lt : ∀ l ∈ near, ∀ x ∈ l, x < n
  few : ∀ l ∈ near, l.length ≤ 1000
theorem nearOf_ok {n : Nat} {ts : List Tie} (wf : Wf n ts) : NearOk n (nearOf n ts) := by
  refine ⟨wf.n10, by unfold nearOf; rw [List.length_map, List.length_range], fun l hl x hx => ?_, fun l hl => ?_⟩
  · obtain ⟨p, hp, rfl⟩ := List.mem_map.mp hl
    exact nearP_lt wf hx
  · obtain ⟨p, hp, rfl⟩ := List.mem_map.mp hl
    have := nearP_len ts p
    have := wf.len
    omega
def sp_hangs_on : Sp := fun vs H Q _ => ∃ (vn : V) (B : Hp) (n : Nat) (near : List (List Nat)) (p : Nat), vs = [vn, .int (p : Int)] ∧ Ex B H ∧ D B vn (dLL near) ∧ NearOk n near ∧ p < n ∧ ∀ v B' H', Gro B H B' H' → D B' v (dL (hangs near p)) → Q v H'
def kvT (l : List Nat) : List (L2.Key × V) := l.map fun x => (kN x, V.bl true)
theorem kvT_keys (l : List Nat) : (kvT l).map (·.1) = l.map kN := by unfold kvT; rw [List.map_map]; rfl
theorem kvT_some (l : List Nat) (x : Nat) : (valV (kvT l) (kN x)).isSome = decide (x ∈ l) := by
  rw [valV_isSome, kvT_keys]
  simp only [kN_mem]
theorem ok_hangs_on (R : Raw K mg "hangs_on" "hangs_on" s_hangs_on ["near", "place"]) (T : TB mg) : DefT P w K mg base "hangs_on" 1 ["near", "place"] sp_hangs_on := by
  refine R.ok fun f fd F => F.ok sc_hangs_on (fun vs H Q E h => ?_) (fun cdv A outer s H vs Q E hr h => ?_)
  · obtain ⟨_, _, _, _, _, rfl, _⟩ := h
    rfl
  · obtain ⟨vn, B, n, near, p, rfl, e, hn, ok, hp, k⟩ := h
    refine ⟨_, (pss_cons (ps_set (i := 2) sc_hangs_on.nd rfl (by first | exact Or.inl rfl | exact Or.inr rfl) (pe_disp (pps_cons (pv 1) pe_bl pps_nil) (by rfl) (by rfl) (fun z => by cases z) (by decide)))
  (pss_cons (ps_set (i := 3) sc_hangs_on.nd rfl (by first | exact Or.inl rfl | exact Or.inr rfl) (pe_lst (pa_cons (pv 1) pa_nil)))
  (pss_cons (ps_while PassesOwn.never (pt_cmpR op_gt (pe_callB (k_len (K := K)) (by rfl) T.z_len (by decide +kernel) (pa_cons (pv 3) pa_nil)) pe_int (nomark _)) (pss_one (ps_for PassesOwn.never rfl (k_ilist (K := K) (pe_ix (k_ixL (K := K)) (pv 0) (k_bm0 (K := K) PySem.F.plainAttrs_list PySem.F.slot_list_pop PySem.F.type_list_pop mt_pop (pv 3)) (fun _ _ => rfl))) (pg_name (i := 4) sc_hangs_on.nd rfl (by first | exact Or.inl rfl | exact Or.inr rfl)) (pss_one (ps_if (pt_cmp (pc_dnotin (hu_of hr) (pv 4) (pv 2))) (pss_cons (ps_dput (hu_of hr) (pv 2) (pv 4) pe_bl rfl)
  (pss_one (ps_expr (k_bm (K := K) PySem.F.plainAttrs_list PySem.F.slot_list_append PySem.F.type_list_append mt_append (pv 3) (pa_cons (pv 4) pa_nil))))) pss_nil)))))
  (pss_one (ps_ret (pe_callB (k_sortedDI rfl) (by rfl) T.z_sorted (by decide +kernel) (pa_cons (pv 2) pa_nil))))))), ?_⟩
    have hn10 := ok.n10
    walk_at "dn"
    refine r_disp1 rfl (r_newM e fun Dm H1 hDm g1 e1 bDm => ?_)
    walk_at "dn"
    refine r_lstM g1.bh (by show 1 ≤ 100000; decide) fun Lw H2 hLw g2 e2 bLw => ?_
    walk_at "dn"
    have hDm2 : H2 Dm = some (.dK (kvT [p])) := g2.hh _ _ (by rw [e1, upd_same]; rfl)
    have hne : Dm ≠ Lw := fun z => by rw [z, e2] at hDm2; cases hDm2
    refine ⟨fun m σ' H' => ∃ st : List Nat × List Nat, HInv n st ∧ m = hmu n st ∧ hmu n st ≤ 30 ∧ (∀ fin, HRun near st fin → HRun near ([p], [p]) fin) ∧ Gro B H B H' ∧ H' Dm = some (.dK (kvT st.1)) ∧ H' Lw = some (.lst (vN st.2)) ∧ (∃ o, σ' = [some vn, some (.int (p : Int)), some (.ref Dm), some (.ref Lw), o]), ⟨_, ([p], [p]), ⟨by simp, fun x hx => by rw [List.mem_singleton.mp hx]; exact hp, fun x hx => hx⟩, rfl, by show 2 * (n - 1) + 1 ≤ 30; omega, fun _ h => h, g1.trans g2, hDm2, e2, ⟨_, rfl⟩⟩, ?_⟩
    rintro m σ' H' ⟨st, inv, rfl, hsz, run, g, hM, hW, ⟨o, rfl⟩⟩
    walk_at "dn"
    refine ⟨Lw, vN st.2, rfl, .inl (SqL.of hW), ?_⟩
    walk_at "dn"
    have hvl : (vN st.2).length = st.2.length := by unfold vN; rw [List.length_map]
    rw [hvl]
    refine ite2 (fun c => ?_) (fun c => ?_)
    · have h0 : st.2 ≠ [] := fun z => by rw [z] at c; exact absurd c (by decide)
      have hlast : st.2[st.2.length - 1]? = some (st.2.getLastD 0) := by
        rw [← List.getLast?_eq_getElem?, List.getLastD_eq_getLast?]
        cases e : st.2.getLast? with
        | none => exact absurd (List.getLast?_eq_none_iff.mp e) h0
        | some z => rfl
      have hm0 : st.2.getLastD 0 ∈ st.2 := List.mem_of_getElem? hlast
      have hw0 : st.2.getLastD 0 < n := inv.lt _ (inv.sub _ hm0)
      have hdrop : (vN st.2).dropLast = vN st.2.dropLast := by unfold vN; rw [List.map_dropLast]
      have hne1 : near[st.2.getLastD 0]? = some (near.getD (st.2.getLastD 0) []) := by
        rw [List.getD_eq_getElem?_getD, List.getElem?_eq_getElem (by rw [ok.len]; exact hw0)]
        rfl
      refine ⟨fun σ' H' => ∃ st' : List Nat × List Nat, hmu n st' < hmu n st ∧ HInv n st' ∧ hmu n st' ≤ 30 ∧ (∀ fin, HRun near st' fin → HRun near ([p], [p]) fin) ∧ Gro B H B H' ∧ H' Dm = some (.dK (kvT st'.1)) ∧ H' Lw = some (.lst (vN st'.2)) ∧ (∃ o, σ' = [some vn, some (.int (p : Int)), some (.ref Dm), some (.ref Lw), o]), ?_, ?_⟩
      · rintro σ' H' ⟨st', h1, h2, h3, h4, h5, h6, h7, h8⟩
        exact ⟨_, h1, st', h2, rfl, h3, h4, h5, h6, h7, h8⟩
      walk_at "dn"
      refine ⟨.inl ⟨rfl, _, SqL.of hW⟩, Lw, vN st.2, V.int ((st.2.getLastD 0 : Nat) : Int), rfl, rfl, hW, ?_, ?_⟩
      · rw [hvl]
        unfold vN
        rw [List.getElem?_map, hlast]
        rfl
      rw [hdrop]
      have gW := gro_set (o := .lst (vN st.2.dropLast)) g (g1.back hLw) bLw
      have hfew := ok.few _ (List.mem_of_getElem? hne1)
      refine r_ixL (i := st.2.getLastD 0) (d := dL (near.getD (st.2.getLastD 0) [])) gW.bh hn (by rw [List.getElem?_map, hne1]; rfl) fun vl hvl' => ?_
      have hlt : ∀ x ∈ near.getD (st.2.getLastD 0) [], x < n := ok.lt _ (List.mem_of_getElem? hne1)
      have i0 : HInv n (st.1, st.2.dropLast) := ⟨inv.nd, inv.lt, fun x hx => inv.sub x (List.dropLast_subset _ hx)⟩
      have m0 : hmu n (st.1, st.2.dropLast) + 1 = hmu n st := by
        unfold hmu
        show 2 * (n - st.1.length) + st.2.dropLast.length + 1 = _
        rw [List.length_dropLast]
        have : 0 < st.2.length := List.length_pos_iff.mpr h0
        omega
      have hlen : ∀ st : List Nat × List Nat, st.2.length ≤ hmu n st := fun st => Nat.le_add_left _ _
      refine loopL (F := FA) (near.getD (st.2.getLastD 0) []) (fun (n : Nat) => .int (n : Int)) gW.bh hvl' ⟨fun i σ' B' H' => B' = B ∧ ∃ st' : List Nat × List Nat, st' = ((near.getD (st.2.getLastD 0) []).take i).foldl hadd (st.1, st.2.dropLast) ∧ Gro B H B H' ∧ H' Dm = some (.dK (kvT st'.1)) ∧ H' Lw = some (.lst (vN st'.2)) ∧ (∃ o, σ' = [some vn, some (.int (p : Int)), some (.ref Dm), some (.ref Lw), o]),
        ⟨rfl, _, rfl, gW, by rw [upd_ne hne]; exact hM, upd_same, ⟨_, rfl⟩⟩, fun i x σ' B' H' hi gB hx p => ?_, fun σ' B' H' gB p => ?_⟩
      · obtain ⟨rfl, st', es, g', hM', hW', ⟨o', rfl⟩⟩ := p
        obtain ⟨it, hit, hd⟩ := hx
        cases hd
        have hit2 := hlt it (List.mem_of_getElem? hit)
        have pre : HInv n st' ∧ hmu n st' ≤ hmu n (st.1, st.2.dropLast) := by
          rw [es]
          exact hfold_inv _ i0 fun o ho => hlt o (List.take_subset _ _ ho)
        have st1l := pigeon _ n pre.1.nd pre.1.lt
        have est : ((near.getD (st.2.getLastD 0) []).take (i + 1)).foldl hadd (st.1, st.2.dropLast) = hadd st' it := by
          rw [List.take_add_one, hit, Option.toList_some, List.foldl_append, ← es]
          rfl
        walk_at "dn"
        refine r_dinKm hM' ?_
        walk_at "dn"
        rw [kvT_some]
        have kl : (kvT st'.1).length = st'.1.length := by unfold kvT; rw [List.length_map]
        refine ite2 (fun c => ?_) (fun c => ?_)
        · have hnot : it ∉ st'.1 := by simpa using c
          have eh : hadd st' it = (st'.1 ++ [it], st'.2 ++ [it]) := by unfold hadd; rw [if_neg hnot]
          have lz1 := hlen st'
          walk_at "dn"
          refine r_putK hM' (by omega) ?_
          walk_at "dn"
          have bD : B' Dm = none := bDm
          have g4 := gro_set (o := .dK (putK (kvT st'.1) (kN it) (V.bl true))) g' hDm bD
          have hW2 : (upd H' Dm (.dK (putK (kvT st'.1) (kN it) (V.bl true)))) Lw = some (.lst (vN st'.2)) := by rw [upd_ne (Ne.symm hne)]; exact hW'
          refine ⟨tyV_lst hW2, ?_⟩
          walk_at "dn"
          refine r_append hW2 (by unfold vN; rw [List.length_map]; omega) ?_
          walk_at "dn"
          have ek : putK (kvT st'.1) (kN it) (V.bl true) = kvT (st'.1 ++ [it]) := by
            rw [putK_new _ (valV_none (by rw [kvT_keys, kN_mem]; exact hnot))]
            unfold kvT
            rw [List.map_append]
            rfl
          refine ⟨B', ?_, rfl, _, est.symm, ?_⟩
          · have q1 := gB.trans (gof_set (F := FA) (o := .dK (putK (kvT st'.1) (kN it) (V.bl true))) gB.bh trivial bD)
            exact q1.trans (gof_set (F := FA) q1.bh trivial bLw)
          · rw [eh]
            refine ⟨gro_set g4 (g1.back hLw) bLw, ?_, ?_, ⟨_, rfl⟩⟩
            · rw [upd_ne hne, upd_same, ek]
            · rw [upd_same]
              unfold vN
              rw [List.map_append]
              rfl
        · have hin : it ∈ st'.1 := by simpa using c
          have eh : hadd st' it = st' := by unfold hadd; rw [if_pos hin]
          walk_at "dn"
          exact ⟨B', gB, rfl, _, est.symm, by rw [eh]; exact ⟨g', hM', hW', ⟨_, rfl⟩⟩⟩
      · obtain ⟨rfl, st', es, g', hM', hW', h8⟩ := p
        rw [List.take_length] at es
        have pre : HInv n st' ∧ hmu n st' ≤ hmu n (st.1, st.2.dropLast) := by
          rw [es]
          exact hfold_inv _ i0 hlt
        have st1 := pigeon _ n inv.nd inv.lt
        refine ⟨st', by omega, pre.1, by omega, fun fin hf => run fin (.step h0 (by unfold hstep; rw [← es]; exact hf)), g', hM', hW', h8⟩
    · have h0 : st.2 = [] := by
        have : ¬ ((0 : Int) < (st.2.length : Int)) := by simpa using c
        exact List.length_eq_zero_iff.mp (by omega)
      walk_at "dn"
      refine r_sortDK g.bh hM (kvT_keys _) inv.nd (fun x hx => by have := inv.lt x hx; omega) fun v B3 H3 g3 d3 => k _ _ _ (g.trans g3) ?_
      rw [hangs_of (run st.1 (by obtain ⟨a, b⟩ := st; obtain rfl : b = [] := h0; exact HRun.done a))]
      exact d3
end
end KPR
set_option Elab.async false
set_option linter.all false
set_option maxRecDepth 100000
set_option maxHeartbeats 2000000
/-! W5: pieces, is_parting, pruned. -/
namespace KPR
open PySem L2
local macro_rules | `(tactic| walk_at "dn") => `(tactic| repeat (first
  | (with_reducible refine w_seq ?_) | (with_reducible refine w_asg ?_) | (with_reducible refine w_drop ?_) | (with_reducible refine w_ret ?_) | (with_reducible refine w_ifs ?_)
  | ((with_reducible refine' w_var ?hv ?_); (case hv => exact rfl)) | (with_reducible refine w_c ?_) | (with_reducible refine w_op ?_) | (with_reducible refine w_un ?_) | (with_reducible refine w_cb ?_)
  | (with_reducible refine w_nil ?_) | (with_reducible refine w_cons ?_) | (with_reducible refine w_gname ?_) | (with_reducible refine w_test ?_) | (with_reducible refine w_b ?_) | (with_reducible refine w_exbl ?_)
  | (with_reducible refine w_and ?_) | (with_reducible refine w_or ?_) | (with_reducible refine w_not ?_) | (with_reducible refine w_if ?_) | (with_reducible refine w_andV ?_) | (with_reducible refine w_orV ?_) | (with_reducible refine w_notV ?_)
  | (with_reducible refine w_tup ?_) | (with_reducible refine w_lst ?_) | (with_reducible refine w_dnewK ?_) | (with_reducible refine w_dnewT ?_) | (with_reducible refine w_din ?_) | (with_reducible refine w_dnin ?_) | (with_reducible refine w_dget ?_) | (with_reducible refine w_dget2 ?_)
  | (with_reducible refine w_fld ?_) | (with_reducible refine w_cal ?_) | (with_reducible refine w_met ?_) | (with_reducible refine w_mak ?_) | (with_reducible refine w_bm ?_) | (with_reducible refine w_bm0 ?_) | (with_reducible refine w_sl ?_)
  | (with_reducible refine w_nopart ?_) | (with_reducible refine w_part ?_) | (with_reducible refine w_sfld ?_) | (with_reducible refine w_dput ?_) | ((with_reducible refine' w_aug ?hv ?_); (case hv => exact rfl)) | (with_reducible refine w_iT ?_) | (with_reducible refine w_iF ?_)
  | (with_reducible refine w_ii0 ?_) | (with_reducible refine w_neg ?_) | (with_reducible refine w_ip ?_) | (with_reducible refine w_yes ?_) | (with_reducible refine w_for ?_) | (with_reducible refine w_ilist ?_) | (with_reducible refine w_itup ?_) | (with_reducible refine w_irng1 ?_) | (with_reducible refine w_irng2 ?_) | (with_reducible refine w_ienum ?_) | (with_reducible refine w_ienumT ?_)
  | (with_reducible refine w_next ?_)))

section
variable {P : Program} {w : World} {K : PySem.W.Frag} {mg : Str → Option Value} {base : Heap}
theorem piece_len (near : List (List Nat)) : ∀ (l : List Nat) (f : List (List Nat)), (l.foldl (pieceStep near) f).length ≤ f.length + l.length
  | [], f => by simp
  | p :: l, f => by
    have h1 := piece_len near l (pieceStep near f p)
    have h2 : (pieceStep near f p).length ≤ f.length + 1 := by
      unfold pieceStep
      split
      · omega
      · rw [List.length_append, List.length_singleton]; omega
    rw [List.foldl_cons, List.length_cons]
    omega
def sp_pieces : Sp := fun vs H Q _ => ∃ (vw : V) (B : Hp) (n : Nat) (ts : List Tie), vs = [vw] ∧ Ex B H ∧ D B vw (dWeb n ts) ∧ Wf n ts ∧ ∀ v B' H', Gro B H B' H' → D B' v (dLL (piecesOf n ts)) → Q v H'
theorem ok_pieces (R : Raw K mg "pieces" "pieces" s_pieces ["web"]) (T : TB mg) (c_beside : DefT P w K mg base "beside" 1 ["web"] sp_beside) (c_hangs_on : DefT P w K mg base "hangs_on" 1 ["near", "place"] sp_hangs_on) : DefT P w K mg base "pieces" 2 ["web"] sp_pieces := by
  refine R.ok fun f fd F => F.ok sc_pieces (fun vs H Q E h => ?_) (fun cdv A outer s H vs Q E hr h => ?_)
  · obtain ⟨_, _, _, _, rfl, _⟩ := h
    rfl
  · obtain ⟨vw, B, n, ts, rfl, e, hw, wf, k⟩ := h
    refine ⟨_, (pss_cons (ps_set (i := 1) sc_pieces.nd rfl (by first | exact Or.inl rfl | exact Or.inr rfl) (k_call c_beside hr (pa_cons (pv 0) pa_nil)))
  (pss_cons (ps_set (i := 2) sc_pieces.nd rfl (by first | exact Or.inl rfl | exact Or.inr rfl) pe_dnewK)
  (pss_cons (ps_set (i := 3) sc_pieces.nd rfl (by first | exact Or.inl rfl | exact Or.inr rfl) (pe_lst pa_nil))
  (pss_cons (ps_for PassesOwn.never rfl (pi_range1 (by rfl) T.z_range (pa_cons (pe_ix (k_ixT (K := K)) (pv 0) pe_int (fun _ _ => rfl)) pa_nil)) (pg_name (i := 4) sc_pieces.nd rfl (by first | exact Or.inl rfl | exact Or.inr rfl)) (pss_one (ps_if (pt_cmp (pc_dnotin (hu_of hr) (pv 4) (pv 2))) (pss_cons (ps_expr (k_bm (K := K) PySem.F.plainAttrs_list PySem.F.slot_list_append PySem.F.type_list_append mt_append (pv 3) (pa_cons (k_call c_hangs_on hr (pa_cons (pv 1) (pa_cons (pv 4) pa_nil))) pa_nil)))
  (pss_one (ps_expr (k_bm (K := K) PySem.F.plainAttrs_dict PySem.F.slot_dict_update PySem.F.type_dict_update k_update (pv 2) (pa_cons (pe_callTy (k_dictK (K := K) rfl) (by rfl) T.z_dict (by decide +kernel) (pa_cons (pe_lc (own := [("other", 5)]) (g := (gName 5)) (by rfl) sc_pieces.nd (k_ilist (K := K) (pe_ix (k_ixL (K := K)) (pv 3) (pe_un un_neg pe_int) (fun _ _ => rfl))) (blkOk_by (N := nm_pieces) (sc := defScope s_pieces) (by decide +kernel)) (fun _ _ _ _ _ => (pg_name (i := 5) sc_pieces.nd rfl (by first | exact Or.inl rfl | exact Or.inr rfl))) (fun _ _ _ _ _ => pts_nil) (fun _ _ _ _ _ => (pe_tup (pa_cons (pv 5) (pa_cons pe_bl pa_nil))))) pa_nil)) pa_nil))))) pss_nil)))
  (pss_one (ps_ret (pv 3))))))), ?_⟩
    have hn := wf.n10
    have nok := nearOf_ok wf
    walk_at "dn"
    refine ⟨vw, B, n, ts, rfl, e, hw, wf, fun vnear B1 H1 g1 hnear => ?_⟩
    walk_at "dn"
    refine r_newM g1.bh fun Dm H2 hDm g2 e2 bDm => ?_
    walk_at "dn"
    refine r_lstM g2.bh (by show 0 ≤ 100000; decide) fun Lf H3 hLf g3 e3 bLf => ?_
    walk_at "dn"
    have g13 := (g1.trans g2).trans g3
    have hDm3 : H3 Dm = some (.dK []) := g3.hh _ _ (by rw [e2, upd_same])
    have hne : Dm ≠ Lf := fun z => by rw [z, e3] at hDm3; cases hDm3
    refine r_ixT (i := 0) g13.bh (hw.up g13.bb) rfl fun vn hvn => ?_
    cases hvn
    walk_at "dn"
    have hDm0 := g1.back hDm
    have hLf0 := (g1.trans g2).back hLf
    refine loopR (F := FA) n (by omega) g13.bh ⟨fun i σ' B' H' => ∃ (fs : List V) (kvs : List (L2.Key × V)) (found : List (List Nat)), found = (List.range i).foldl (pieceStep (nearOf n ts)) [] ∧ (∃ o4 o5, σ' = [some vw, some vnear, some (.ref Dm), some (.ref Lf), o4, o5]) ∧ Gro B H B' H' ∧ B' Dm = none ∧ B' Lf = none ∧
      H' Dm = some (.dK kvs) ∧ (∀ x : Nat, (valV kvs (kN x)).isSome = decide (x ∈ found.flatten)) ∧ kvs.length ≤ 10 * i ∧ H' Lf = some (.lst fs) ∧ DA B' fs (found.map dL), ⟨[], [], [], rfl, ⟨_, _, rfl⟩, g13, bDm, bLf, hDm3, fun x => by simp [valV_nil], by simp, e3, .nil⟩, fun i x σ' B' H' hi gB hx p => ?_, fun σ' B' H' gB p => ?_⟩
    · obtain ⟨fs, kvs, found, ef, ⟨o4, o5, rfl⟩, g', bD', bL', hD', hk', hkl, hL', dfs⟩ := p
      obtain rfl : x = .int (i : Int) := by rw [show x = _ from hx]; congr 1; omega
      have efound : (List.range (i + 1)).foldl (pieceStep (nearOf n ts)) [] = pieceStep (nearOf n ts) found i := by
        rw [List.range_succ, List.foldl_append, ← ef]
        rfl
      walk_at "dn"
      refine r_dinKm hD' ?_
      walk_at "dn"
      rw [hk']
      refine ite2 (fun c => ?_) (fun c => ?_)
      · have hnot : i ∉ found.flatten := by simpa using c
        have est : pieceStep (nearOf n ts) found i = found ++ [hangs (nearOf n ts) i] := by unfold pieceStep; rw [if_neg hnot]
        walk_at "dn"
        refine ⟨tyV_lst hL', ?_⟩
        walk_at "dn"
        refine ⟨vnear, B', n, nearOf n ts, i, rfl, g'.bh, hnear.up gB.bb, nok, hi, fun vh B4 H4 g4 hvh => ?_⟩
        walk_at "dn"
        have hL4 := g4.hh _ _ hL'
        have hD4 := g4.hh _ _ hD'
        have bL4 := g4.fr _ _ hL' trivial bL'
        have bD4 := g4.fr _ _ hD' trivial bD'
        have lf := dfs.len
        have lf2 : found.length ≤ i := by
          have := piece_len (nearOf n ts) (List.range i) []
          rw [ef]
          simpa using this
        rw [List.length_map] at lf
        refine r_append hL4 (by omega) ?_
        walk_at "dn"
        have g5 := gro_set (o := .lst (fs ++ [vh])) (g'.trans g4) hLf0 bL4
        have hD5 : (upd H4 Lf (.lst (fs ++ [vh]))) Dm = some (.dK kvs) := by rw [upd_ne hne]; exact hD4
        refine ⟨.inr (.inr (.inl ⟨rfl, .inl ⟨_, hD5⟩⟩)), ?_⟩
        walk_at "dn"
        have hl10 := hang_len (nearOf n ts) i
        refine r_lcL (B := B4) (enc := fun (n : Nat) => .int (n : Int)) (items := hangs (nearOf n ts) i) (p := fun _ => true) (f := fun n => .tuple [.int (n : Int), .bool true]) (fun R r => ?_) (by omega) (fun j it x B6 H6 hj g6 hx Y N hY _ => ?_) fun D0 B6 H6 g6 d6 => ?_
        · walk_at "dn"
          refine ⟨Lf, fs ++ [vh], _, vh, rfl, rfl, SqL.of upd_same, atI_last _ _, r _ _ _ (Gof.refl g5.bh) hvh⟩
        · cases hx
          refine ⟨rfl, ?_⟩
          walk_at "dn"
          exact r_tup2 g6.bh (.int _) (.bl true) fun p B7 H7 g7 _ d7 => hY rfl _ _ _ g7 d7
        rw [filter_yes] at d6
        walk_at "dn"
        refine r_dictKm (c := .bool true) (vc := .bl true) (fun _ _ => tru_inv) (hang_nd _ _) g6.bh d6 fun more H7 hmore g7 b7 e7 => ?_
        have g67 := g6.trans g7
        have hD7 := g67.hh _ _ hD5
        have bD7 := g67.fr _ _ hD5 trivial bD4
        have hL7 : H7 Lf = some (.lst (fs ++ [vh])) := g67.hh _ _ upd_same
        have bL7 := g67.fr Lf _ upd_same trivial bL4
        have hkl2 : ((hangs (nearOf n ts) i).map fun n => (kN n, V.bl true)).length ≤ 10 := by rw [List.length_map]; exact hl10
        refine ⟨Dm, more, kvs, _, rfl, rfl, hD7, e7, ne_of_none (g6.hh _ _ hD5) hmore, by omega, ?_⟩
        walk_at "dn"
        have hne' : Lf ≠ Dm := Ne.symm hne
        refine ⟨B6, ?_, fs ++ [vh], _, _, rfl, ⟨_, _, rfl⟩, gro_set (g5.trans g67) hDm0 bD7, bD7, bL7, upd_same, fun x => ?_, ?_, by rw [upd_ne hne']; exact hL7, ?_⟩
        · have q1 := gB.trans (Gro.of g4)
          have q2 := q1.trans (gof_set (F := FA) (o := .lst (fs ++ [vh])) q1.bh trivial bL4)
          have q3 := q2.trans (Gro.of g67)
          exact q3.trans (gof_set (F := FA) q3.bh trivial bD7)
        · unfold mergeK
          rw [foldl_put_some, efound, est, hk', kvK_keys]
          simp only [kN_mem, List.flatten_append, List.mem_append]
          by_cases h1 : x ∈ found.flatten <;> by_cases h2 : x ∈ hangs (nearOf n ts) i <;> simp [h1, h2]
        · have := length_mergeK ((hangs (nearOf n ts) i).map fun n => (kN n, V.bl true)) kvs
          omega
        · rw [efound, est, List.map_append]
          exact (dfs.up (g4.bb.trans g67.bb)).app (.one (hvh.up g67.bb))
      · have hin : i ∈ found.flatten := by simpa using c
        have est : pieceStep (nearOf n ts) found i = found := by unfold pieceStep; rw [if_pos hin]
        walk_at "dn"
        exact ⟨B', gB, fs, kvs, found, by rw [efound, est], ⟨_, _, rfl⟩, g', bD', bL', hD', hk', by omega, hL', dfs⟩
    · obtain ⟨fs, kvs, found, ef, ⟨o4, o5, rfl⟩, g', bD', bL', hD', hk', hkl, hL', dfs⟩ := p
      walk_at "dn"
      refine k _ _ _ (gro_know g' hLf0 bL' hL') (.lst upd_same ?_)
      unfold piecesOf
      rw [← ef]
      exact dfs.up (Ex.new bL')
end
end KPR
set_option Elab.async false
set_option linter.all false
set_option maxRecDepth 100000
set_option maxHeartbeats 2000000
/-! W6: is_parting, pruned. -/
namespace KPR
open PySem L2
local macro_rules | `(tactic| walk_at "dn") => `(tactic| repeat (first
  | (with_reducible refine w_seq ?_) | (with_reducible refine w_asg ?_) | (with_reducible refine w_drop ?_) | (with_reducible refine w_ret ?_) | (with_reducible refine w_ifs ?_)
  | ((with_reducible refine' w_var ?hv ?_); (case hv => exact rfl)) | (with_reducible refine w_c ?_) | (with_reducible refine w_op ?_) | (with_reducible refine w_un ?_) | (with_reducible refine w_cb ?_)
  | (with_reducible refine w_nil ?_) | (with_reducible refine w_cons ?_) | (with_reducible refine w_gname ?_) | (with_reducible refine w_test ?_) | (with_reducible refine w_b ?_) | (with_reducible refine w_exbl ?_)
  | (with_reducible refine w_and ?_) | (with_reducible refine w_or ?_) | (with_reducible refine w_not ?_) | (with_reducible refine w_if ?_) | (with_reducible refine w_andV ?_) | (with_reducible refine w_orV ?_) | (with_reducible refine w_notV ?_)
  | (with_reducible refine w_tup ?_) | (with_reducible refine w_lst ?_) | (with_reducible refine w_dnewK ?_) | (with_reducible refine w_dnewT ?_) | (with_reducible refine w_din ?_) | (with_reducible refine w_dnin ?_) | (with_reducible refine w_dget ?_) | (with_reducible refine w_dget2 ?_)
  | (with_reducible refine w_fld ?_) | (with_reducible refine w_cal ?_) | (with_reducible refine w_met ?_) | (with_reducible refine w_mak ?_) | (with_reducible refine w_bm ?_) | (with_reducible refine w_bm0 ?_) | (with_reducible refine w_sl ?_)
  | (with_reducible refine w_nopart ?_) | (with_reducible refine w_part ?_) | (with_reducible refine w_sfld ?_) | (with_reducible refine w_dput ?_) | ((with_reducible refine' w_aug ?hv ?_); (case hv => exact rfl)) | (with_reducible refine w_iT ?_) | (with_reducible refine w_iF ?_)
  | (with_reducible refine w_ii0 ?_) | (with_reducible refine w_neg ?_) | (with_reducible refine w_ip ?_) | (with_reducible refine w_yes ?_) | (with_reducible refine w_for ?_) | (with_reducible refine w_ilist ?_) | (with_reducible refine w_itup ?_) | (with_reducible refine w_irng1 ?_) | (with_reducible refine w_irng2 ?_) | (with_reducible refine w_ienum ?_) | (with_reducible refine w_ienumT ?_)
  | (with_reducible refine w_ckw ?_) | (with_reducible refine w_gd ?_) | (with_reducible refine w_next ?_)))

section
variable {P : Program} {w : World} {K : PySem.W.Frag} {mg : Str → Option Value} {base : Heap}
def sp_is_parting : Sp := fun vs H Q _ => ∃ (vw vp vc : V) (B : Hp) (n : Nat) (ts : List Tie) (ps : List Nat) (c : List Pr), vs = [vw, vp, vc] ∧ Ex B H ∧ D B vw (dWeb n ts) ∧ Wf n ts ∧ D B vp (dL ps) ∧ ps.length ≤ 1000 ∧ D B vc (dPairs c) ∧ c.length ≤ 1000 ∧
  ∀ B' H', Gro B H B' H' → Q (.bl (isPart n ts ps c)) H'
theorem ok_is_parting (R : Raw K mg "is_parting" "is_parting" s_is_parting ["web", "posts", "cut"]) (T : TB mg) (c_pieces : DefT P w K mg base "pieces" 2 ["web"] sp_pieces) (c_without : DefT P w K mg base "without" 2 ["web", "cut"] sp_without) (c_posts_in : DefT P w K mg base "posts_in" 1 ["posts", "piece"] sp_posts_in) :
    DefT P w K mg base "is_parting" 3 ["web", "posts", "cut"] sp_is_parting := by
  refine R.ok fun f fd F => F.ok sc_is_parting (fun vs H Q E h => ?_) (fun cdv A outer s H vs Q E hr h => ?_)
  · obtain ⟨_, _, _, _, _, _, _, _, rfl, _⟩ := h
    rfl
  · obtain ⟨vw, vp, vc, B, n, ts, ps, c, rfl, e, hw, wf, hp, hpl, hc, hcl, k⟩ := h
    refine ⟨_, (pss_one (ps_ret (pe_callB (k_all (K := K) rfl) (by rfl) T.z_all (by decide +kernel) (pa_cons (pe_lc (own := [("piece", 3)]) (g := (gName 3)) (by rfl) sc_is_parting.nd (k_ilist (K := K) (k_call c_pieces hr (pa_cons (k_call c_without hr (pa_cons (pv 0) (pa_cons (pv 2) pa_nil))) pa_nil))) (blkOk_by (N := nm_is_parting) (sc := defScope s_is_parting) (by decide +kernel)) (fun _ _ _ _ _ => (pg_name (i := 3) sc_is_parting.nd rfl (by first | exact Or.inl rfl | exact Or.inr rfl))) (fun _ _ _ _ _ => pts_nil) (fun _ _ _ _ _ => (pe_cmpR op_lt (pe_callB (k_len (K := K)) (by rfl) T.z_len (by decide +kernel) (pa_cons (k_call c_posts_in hr (pa_cons (pv 1) (pa_cons (pv 3) pa_nil))) pa_nil)) pe_int (nomark _)))) pa_nil)))), ?_⟩
    have wf2 : Wf n (withoutT ts c) := wf.filter _
    have hl := piece_len (nearOf n (withoutT ts c)) (List.range n) []
    have hn := wf.n10
    walk_at "dn"
    refine r_lcL (B := B) (enc := dL) (items := piecesOf n (withoutT ts c)) (p := fun _ => true) (f := fun pc => .bool (decide ((postsIn ps pc).length < 2))) (fun R r => ?_) (by
      unfold piecesOf
      rw [List.length_range] at hl
      have : ([] : List (List Nat)).length = 0 := rfl
      omega) (fun i it x B1 H1 hi g1 hx Y N hY _ => ?_) fun D0 B1 H1 g1 d1 => ?_
    · walk_at "dn"
      refine ⟨vw, vc, B, n, ts, c, rfl, e, hw, hc, by have := wf.len; omega, hcl, fun v1 B1 H1 g1 d1 => ?_⟩
      walk_at "dn"
      exact ⟨v1, B1, n, withoutT ts c, rfl, g1.bh, d1, wf2, fun v2 B2 H2 g2 d2 => r _ _ _ (g1.trans g2) d2⟩
    · refine ⟨rfl, ?_⟩
      walk_at "dn"
      refine ⟨vp, x, B1, ps, it, rfl, g1.bh, hp.up g1.bb, hx, hpl, fun v2 B2 H2 g2 d2 => ?_⟩
      walk_at "dn"
      refine r_lenL g2.bh d2 ?_
      walk_at "dn"
      refine hY rfl _ _ _ g2 ?_
      have : (dN (postsIn ps it)).length = (postsIn ps it).length := by unfold dN; rw [List.length_map]
      rw [this]
      have : decide (((postsIn ps it).length : Int) < 2) = decide ((postsIn ps it).length < 2) := by
        rw [decide_eq_decide]
        omega
      rw [this]
      exact .bl _
    rw [filter_yes] at d1
    have e1 : (piecesOf n (withoutT ts c)).map (fun pc => PyData.bool (decide ((postsIn ps pc).length < 2))) = ((piecesOf n (withoutT ts c)).map fun pc => decide ((postsIn ps pc).length < 2)).map PyData.bool := by rw [List.map_map]; rfl
    rw [e1] at d1
    refine r_all g1.bh d1 ?_
    have e2 : ((piecesOf n (withoutT ts c)).map fun pc => decide ((postsIn ps pc).length < 2)).all id = isPart n ts ps c := by
      rw [List.all_map]
      rfl
    rw [e2]
    exact k _ _ g1
theorem prune_sub (n : Nat) (ts : List Tie) (ps : List Nat) : ∀ (l : List Tie) (c : List Pr), ((l.foldl (pruneStep n ts ps) c).length ≤ c.length) ∧ ∀ x ∈ l.foldl (pruneStep n ts ps) c, x ∈ c
  | [], c => ⟨Nat.le_refl _, fun _ h => h⟩
  | t :: l, c => by
    obtain ⟨h1, h2⟩ := prune_sub n ts ps l (pruneStep n ts ps c t)
    have h3 : (pruneStep n ts ps c t).length ≤ c.length := by
      unfold pruneStep
      split
      · exact List.length_filter_le _ _
      · exact Nat.le_refl _
    have h4 : ∀ x ∈ pruneStep n ts ps c t, x ∈ c := fun x hx => by
      unfold pruneStep at hx
      split at hx
      · exact (List.mem_filter.mp hx).1
      · exact hx
    exact ⟨Nat.le_trans h1 h3, fun x hx => h4 x (h2 x hx)⟩
def sp_pruned : Sp := fun vs H Q _ => ∃ (vw vp vc : V) (B : Hp) (n : Nat) (ts : List Tie) (ps : List Nat) (c : List Pr), vs = [vw, vp, vc] ∧ Ex B H ∧ D B vw (dWeb n ts) ∧ Wf n ts ∧ D B vp (dL ps) ∧ ps.length ≤ 1000 ∧ D B vc (dPairs c) ∧ c.Nodup ∧ c.length < 64 ∧ (∀ p ∈ c, p.1 < 10 ∧ p.2 < 10) ∧
  ∀ v B' H', Gro B H B' H' → D B' v (dPairs (prunedT n ts ps c)) → Q v H'
theorem ok_pruned (R : Raw K mg "pruned" "pruned" s_pruned ["web", "posts", "cut"]) (T : TB mg) (c_by_weight : DefT P w K mg base "by_weight" 1 ["tie"] sp_by_weight) (c_is_parting : DefT P w K mg base "is_parting" 3 ["web", "posts", "cut"] sp_is_parting) :
    DefT P w K mg base "pruned" 4 ["web", "posts", "cut"] sp_pruned := by
  refine R.ok fun f fd F => F.ok sc_pruned (fun vs H Q E h => ?_) (fun cdv A outer s H vs Q E hr h => ?_)
  · obtain ⟨_, _, _, _, _, _, _, _, rfl, _⟩ := h
    rfl
  · obtain ⟨vw, vp, vc, B, n, ts, ps, c, rfl, e, hw, wf, hp, hpl, hc, nd, h64, lt, k⟩ := h
    refine ⟨_, (pss_cons (ps_set (i := 3) sc_pruned.nd rfl (by first | exact Or.inl rfl | exact Or.inr rfl) (pe_callTy (k_dictT rfl hr.units) (by rfl) T.z_dict (by decide +kernel) (pa_cons (pe_lc (own := [("pair", 4)]) (g := (gName 4)) (by rfl) sc_pruned.nd (k_ilist (K := K) (pv 2)) (blkOk_by (N := nm_pruned) (sc := defScope s_pruned) (by decide +kernel)) (fun _ _ _ _ _ => (pg_name (i := 4) sc_pruned.nd rfl (by first | exact Or.inl rfl | exact Or.inr rfl))) (fun _ _ _ _ _ => pts_nil) (fun _ _ _ _ _ => (pe_tup (pa_cons (pe_callTy (k_tuple (K := K)) (by rfl) T.z_tuple (by decide +kernel) (pa_cons (pv 4) pa_nil)) (pa_cons pe_bl pa_nil))))) pa_nil)))
  (pss_cons (ps_setLc (i := 5) (own := [("pair", 4)]) (g := (gName 4)) (by rfl) sc_pruned.nd rfl rfl (sw_true rfl rfl rfl (by decide +kernel)) (k_ilist (K := K) (pe_callB (k_sortDT rfl) (by rfl) T.z_sorted (by decide +kernel) (pa_cons (pv 3) pa_nil))) (blkOk_by (N := nm_pruned) (sc := defScope s_pruned) (by decide +kernel)) (fun _ _ _ _ _ => (pg_name (i := 4) sc_pruned.nd rfl (by first | exact Or.inl rfl | exact Or.inr rfl))) (fun _ _ _ _ _ => pts_nil) (fun _ _ _ _ _ => (pv 4)))
  (pss_cons (ps_for PassesOwn.never rfl (k_ilist (K := K) (pe_callBK (k_sortKey (K := K) rfl c_by_weight hr) (by rfl) T.z_sorted (by decide +kernel) (pa_cons (pe_lc (own := [("tie", 6)]) (g := (gName 6)) (by rfl) sc_pruned.nd (k_itup (K := K) (pe_ix (k_ixT (K := K)) (pv 0) pe_int (fun _ _ => rfl))) (blkOk_by (N := nm_pruned) (sc := defScope s_pruned) (by decide +kernel)) (fun _ _ _ _ _ => (pg_name (i := 6) sc_pruned.nd rfl (by first | exact Or.inl rfl | exact Or.inr rfl))) (fun _ _ _ _ _ => (pts_one (pt_cmp (pc_din (hu_of hr) (pe_slice (k_slT (K := K)) (pv 6) po_none (po_some pe_int)) (pv 3))))) (fun _ _ _ _ _ => (pv 6))) pa_nil) (pk_cons (k_gdef c_by_weight (by rfl)) pk_nil))) (pg_name (i := 6) sc_pruned.nd rfl (by first | exact Or.inl rfl | exact Or.inr rfl)) (pss_cons (ps_setLc (i := 7) (own := [("pair", 4)]) (g := (gName 4)) (by rfl) sc_pruned.nd rfl rfl (sw_true rfl rfl rfl (by decide +kernel)) (k_ilist (K := K) (pv 5)) (blkOk_by (N := nm_pruned) (sc := defScope s_pruned) (by decide +kernel)) (fun _ _ _ _ _ => (pg_name (i := 4) sc_pruned.nd rfl (by first | exact Or.inl rfl | exact Or.inr rfl))) (fun _ _ _ _ _ => (pts_one (pt_cmpR (k_neD (K := K) hr.units) (pv 4) (pe_slice (k_slT (K := K)) (pv 6) po_none (po_some pe_int)) (nomark _)))) (fun _ _ _ _ _ => (pv 4)))
  (pss_one (ps_if (pt_val (k_call c_is_parting hr (pa_cons (pv 0) (pa_cons (pv 1) (pa_cons (pv 7) pa_nil))))) (pss_one (ps_set (i := 5) sc_pruned.nd rfl (by first | exact Or.inl rfl | exact Or.inr rfl) (pv 7))) pss_nil))))
  (pss_one (ps_ret (pv 5)))))), ?_⟩
    have tsl := wf.len
    walk_at "dn"
    refine r_lcL (enc := dPair) (items := c) (p := fun _ => true) (f := fun p => .tuple [dPair p, .bool true]) (gv_var rfl e hc) (by omega) (fun i it x B1 H1 hi g1 hx Y N hY _ => ?_) fun D0 B1 H1 g1 d1 => ?_
    · refine ⟨rfl, ?_⟩
      walk_at "dn"
      refine r_tupleT g1.bh hx ?_
      walk_at "dn"
      exact r_tup2 g1.bh hx (.bl true) fun p B2 H2 g2 _ d2 => hY rfl _ _ _ g2 d2
    rw [filter_yes] at d1
    walk_at "dn"
    refine r_dictT (items := c) (kf := id) (vf := fun _ => .bl true) (dv := fun _ => .bool true) (fun _ _ _ h => h.bl_inv) g1.bh d1 fun there hth => ?_
    have nd2 : (c.map id).Nodup := by rw [List.map_id]; exact nd
    rw [kv_fold nd2]
    have g2 := gro_new (o := .dT (c.map fun a => (kP (id a), V.bl true))) g1.bh hth
    generalize hB2 : upd B1 there (.dT (c.map fun a => (kP (id a), V.bl true))) = B2 at g2
    generalize hH2 : upd H1 there (.dT (c.map fun a => (kP (id a), V.bl true))) = H2 at g2
    have bt : B2 there = some (.dT (c.map fun a => (kP (id a), V.bl true))) := by rw [← hB2, upd_same]
    have hm : MemT B2 there c := ⟨_, bt, fun p => by rw [kv_some, List.map_id]⟩
    have g12 := g1.trans g2
    walk_at "dn"
    refine r_lcL (B := B2) (enc := dPair) (items := sortPr c) (p := fun _ => true) (f := dPair) (fun R r => ?_) (by
      have h1 := (sortPr_pw c)
      have := pr_nodup_len _ _ (sortPr_nodup c) fun p hp => (mem_sortPr.mp hp).2
      omega) (fun i it x B3 H3 hi g3 hx Y N hY _ => ?_) fun Dl B3 H3 g3 d3 => ?_
    · walk_at "dn"
      exact r_sortDT g12.bh (g12.bh _ _ bt) (by rw [kv_keys, List.map_id]) nd h64 lt fun p B3 H3 g3 d3 => r _ _ _ g3 d3
    · refine ⟨rfl, ?_⟩
      walk_at "dn"
      exact hY rfl _ _ _ (Gof.refl g3.bh) hx
    rw [filter_yes] at d3
    have g13 := g12.trans g3
    walk_at "dn"
    refine r_lcT (enc := dTie) (items := ts) (p := fun t => decide (prOf t ∈ c)) (f := dTie) (gv_ixT rfl g13.bh (hw.up g13.bb) rfl) (by omega)
      (fun i it x B4 H4 hi g4 hx Y N hY hN => ?_) fun D0 B4 H4 g4 d4 => ?_
    · refine ⟨rfl, ?_⟩
      walk_at "dn"
      refine r_slT_02 g4.bh hx fun p B5 H5 g5 d5 => ?_
      walk_at "dn"
      refine r_dinT (p := prOf it) g5.bh (((hm.up g3.bb).up g4.bb).up g5.bb) d5 fun o1 h1 => ?_
      walk_at "dn"
      rw [h1]
      refine ite2 (fun c => ?_) (fun c => ?_)
      · walk_at "dn"
        exact hY c _ _ _ g5 (hx.up g5.bb)
      · exact hN (by simpa using c) _ _ g5
    have g14 := g13.trans g4
    walk_at "dn"
    refine fun fk hfk => ?_
    walk_at "dn"
    obtain ⟨a4, xs4, ea4, hx4, dx4⟩ := d4.lst_inv
    cases ea4
    refine ⟨D0, fk, B4, xs4, ts.filter fun t => decide (prOf t ∈ c), rfl, rfl, hfk, g4.bh, SqL.of (g4.bh _ _ hx4), dx4, Nat.le_trans (List.length_filter_le _ _) (by omega), fun t v B5 H5 g5 hv R r => ⟨v, B5, t, rfl, g5.bh, hv, fun y B6 H6 g6 d6 => r _ _ _ g6 d6⟩, fun ys p B5 H5 g5 hpn dys => ?_⟩
    have g6 := gro_new (o := .lst ys) g5.bh hpn
    have g15 := (g14.trans g5).trans g6
    refine loopL (F := FA) (byW (ts.filter fun t => decide (prOf t ∈ c))) dTie g6.bh (.lst upd_same (dys.up (Ex.new (g5.bh.back hpn)))) ⟨fun i σ' B' H' => ∃ (vl : V) (o4 o6 o7 : Option V), σ' = [some vw, some vp, some vc, some (.ref there), o4, some vl, o6, o7] ∧ Gro B H B' H' ∧ D B' vl (dPairs (((byW (ts.filter fun t => decide (prOf t ∈ c))).take i).foldl (pruneStep n ts ps) (sortPr c))),
      ⟨_, _, _, _, rfl, g15, ((d3.up g4.bb).up g5.bb).up g6.bb⟩, fun i x σ' B' H' hi gB hx p => ?_, fun σ' B' H' gB p => ?_⟩
    · obtain ⟨vl, o4, o6, o7, rfl, g', dl⟩ := p
      obtain ⟨t, ht, dt⟩ := hx
      have est : ((byW (ts.filter fun t => decide (prOf t ∈ c))).take (i + 1)).foldl (pruneStep n ts ps) (sortPr c) = pruneStep n ts ps (((byW (ts.filter fun t => decide (prOf t ∈ c))).take i).foldl (pruneStep n ts ps) (sortPr c)) t := by
        rw [List.take_add_one, ht, Option.toList_some, List.foldl_append]
        rfl
      have hlen : (((byW (ts.filter fun t => decide (prOf t ∈ c))).take i).foldl (pruneStep n ts ps) (sortPr c)).length ≤ 63 := by
        have h1 := (prune_sub n ts ps ((byW (ts.filter fun t => decide (prOf t ∈ c))).take i) (sortPr c)).1
        have := pr_nodup_len _ _ (sortPr_nodup c) fun p hp => (mem_sortPr.mp hp).2
        omega
      generalize ((byW (ts.filter fun t => decide (prOf t ∈ c))).take i).foldl (pruneStep n ts ps) (sortPr c) = left at dl est hlen
      walk_at "dn"
      refine r_lcL (B := B') (enc := dPair) (items := left) (p := fun p => !decide (p = prOf t)) (f := dPair) (gv_var rfl g'.bh dl) (by omega) (fun i it x B7 H7 hi g7 hx Y N hY hN => ?_) fun Dl7 B7 H7 g7 d7 => ?_
      · refine ⟨rfl, ?_⟩
        walk_at "dn"
        refine r_slT_02 g7.bh (dt.up g7.bb) fun p B8 H8 g8 d8 => ?_
        refine r_neD (d1 := dPair it) (d2 := dPair (prOf t)) g8.bh (hx.up g8.bb) d8 (sh_pair _) (sh_pair _) ?_
        walk_at "dn"
        rw [eqv_pair]
        refine ite2 (fun c => ?_) (fun c => ?_)
        · walk_at "dn"
          exact hY c _ _ _ g8 (hx.up g8.bb)
        · exact hN (by simpa using c) _ _ g8
      walk_at "dn"
      refine ⟨vw, vp, .ref Dl7, B7, n, ts, ps, left.filter fun p => !decide (p = prOf t), rfl, g7.bh, hw.up ((g'.trans g7).bb), wf, hp.up ((g'.trans g7).bb), hpl, d7, Nat.le_trans (List.length_filter_le _ _) (by omega), fun B8 H8 g8 => ?_⟩
      walk_at "dn"
      refine ite2 (fun c => ?_) (fun c => ?_)
      · walk_at "dn"
        refine ⟨B8, gB.trans (Gro.of (g7.trans g8)), _, _, _, _, rfl, g'.trans (g7.trans g8), ?_⟩
        rw [est]
        unfold pruneStep
        rw [if_pos c]
        exact d7.up g8.bb
      · walk_at "dn"
        refine ⟨B8, gB.trans (Gro.of (g7.trans g8)), _, _, _, _, rfl, g'.trans (g7.trans g8), ?_⟩
        rw [est]
        unfold pruneStep
        rw [if_neg c]
        exact dl.up (g7.trans g8).bb
    · obtain ⟨vl, o4, o6, o7, rfl, g', dl⟩ := p
      rw [List.take_length] at dl
      walk_at "dn"
      exact k _ _ _ g' dl
end
end KPR
set_option Elab.async false
set_option linter.all false
set_option maxRecDepth 100000
set_option maxHeartbeats 2000000
/-! W7: Flowing: __init__, room, add. -/
namespace KPR
open PySem L2
local macro_rules | `(tactic| walk_at "dn") => `(tactic| repeat (first
  | (with_reducible refine w_seq ?_) | (with_reducible refine w_asg ?_) | (with_reducible refine w_drop ?_) | (with_reducible refine w_ret ?_) | (with_reducible refine w_ifs ?_)
  | ((with_reducible refine' w_var ?hv ?_); (case hv => exact rfl)) | (with_reducible refine w_c ?_) | (with_reducible refine w_op ?_) | (with_reducible refine w_un ?_) | (with_reducible refine w_cb ?_)
  | (with_reducible refine w_nil ?_) | (with_reducible refine w_cons ?_) | (with_reducible refine w_gname ?_) | (with_reducible refine w_test ?_) | (with_reducible refine w_b ?_) | (with_reducible refine w_exbl ?_)
  | (with_reducible refine w_and ?_) | (with_reducible refine w_or ?_) | (with_reducible refine w_not ?_) | (with_reducible refine w_if ?_) | (with_reducible refine w_andV ?_) | (with_reducible refine w_orV ?_) | (with_reducible refine w_notV ?_)
  | (with_reducible refine w_tup ?_) | (with_reducible refine w_lst ?_) | (with_reducible refine w_dnewK ?_) | (with_reducible refine w_dnewT ?_) | (with_reducible refine w_din ?_) | (with_reducible refine w_dnin ?_) | (with_reducible refine w_dget ?_) | (with_reducible refine w_dget2 ?_)
  | (with_reducible refine w_fld ?_) | (with_reducible refine w_cal ?_) | (with_reducible refine w_met ?_) | (with_reducible refine w_mak ?_) | (with_reducible refine w_bm ?_) | (with_reducible refine w_bm0 ?_) | (with_reducible refine w_sl ?_)
  | (with_reducible refine w_nopart ?_) | (with_reducible refine w_part ?_) | (with_reducible refine w_sfld ?_) | (with_reducible refine w_dput ?_) | ((with_reducible refine' w_aug ?hv ?_); (case hv => exact rfl)) | (with_reducible refine w_iT ?_) | (with_reducible refine w_iF ?_)
  | (with_reducible refine w_ii0 ?_) | (with_reducible refine w_neg ?_) | (with_reducible refine w_ip ?_) | (with_reducible refine w_yes ?_) | (with_reducible refine w_for ?_) | (with_reducible refine w_ilist ?_) | (with_reducible refine w_itup ?_) | (with_reducible refine w_irng1 ?_) | (with_reducible refine w_irng2 ?_) | (with_reducible refine w_ienum ?_) | (with_reducible refine w_ienumT ?_)
  | (with_reducible refine w_ckw ?_) | (with_reducible refine w_gd ?_) | (with_reducible refine w_next ?_)))

section
variable {P : Program} {w : World} {K : PySem.W.Frag} {mg : Str → Option Value} {base : Heap} {C : Addr}
def sp_F_room (C : Addr) : Sp := fun vs H Q _ => ∃ (x da : Addr) (k p : Nat) (B : Hp) (n : Nat) (ts : List Tie) (am : List Int), vs = [.ref x, .int (k : Int), .int (p : Int)] ∧ Ex B H ∧ Fl C B H n ts am x da ∧ k < ts.length ∧ Q (.int (roomOf ts am k p)) H
theorem ok_F_room (R : RawM K C "room" "Flowing.room" s_F_room ["self", "number", "place"]) (fc : FlC K C) (T : TB mg) : MethT P w K mg base C "room" 1 ["self", "number", "place"] (sp_F_room C) := by
  refine R.ok fc.cls fun f fd F => F.ok sc_F_room (fun vs H Q E h => ?_) (fun cdv A outer s H vs Q E hr h => ?_)
  · obtain ⟨_, _, _, _, _, _, _, _, rfl, _⟩ := h
    rfl
  · obtain ⟨x, da, k, p, B, n, ts, am, rfl, e, fl, hk, q⟩ := h
    refine ⟨_, (pss_cons (ps_asg (pe_ix (k_ixT (K := K)) (k_fld (K := K) (pv 0)) (pv 1) (fun _ _ => rfl)) (k_gtup (K := K) (by rfl) (pgs_cons (pg_name (i := 3) sc_F_room.nd rfl (by first | exact Or.inl rfl | exact Or.inr rfl)) (pgs_cons (pg_name (i := 4) sc_F_room.nd rfl (by first | exact Or.inl rfl | exact Or.inr rfl)) (pgs_cons (pg_name (i := 5) sc_F_room.nd rfl (by first | exact Or.inl rfl | exact Or.inr rfl)) pgs_nil)))))
  (pss_one (ps_ret (pe_ifExp (pt_cmpR op_eq (pv 2) (pv 3) (nomark _)) (pe_op op_sub (pv 5) (pe_ix (k_ixL (K := K)) (k_fld (K := K) (pv 0)) (pv 1) (fun _ _ => rfl))) (pe_op op_add (pv 5) (pe_ix (k_ixL (K := K)) (k_fld (K := K) (pv 0)) (pv 1) (fun _ _ => rfl))))))), ?_⟩
    obtain ⟨dx, vt, vn, h1, h2, h3⟩ := fl.ins
    have hx := e _ _ h1
    have hlen := fl.len
    walk_at "dn"
    refine ⟨x, C, dx, _, vt, rfl, hx, fc.cls, fc.n1, by rfl, ?_⟩
    walk_at "dn"
    refine r_ixT (i := k) e h2 (tie_some hk) fun v hv => ?_
    refine g_tup3 e hv fun va vb vw ha hb hw => ?_
    cases ha
    cases hb
    cases hw
    walk_at "dn"
    refine ⟨rfl, ?_⟩
    walk_at "dn"
    rw [nat_eq]
    unfold roomOf at q
    refine ite2 (fun c => ?_) (fun c => ?_)
    · rw [if_pos (by simpa using c)] at q
      walk_at "dn"
      refine ⟨x, C, dx, _, .ref da, rfl, hx, fc.cls, fc.n3, by rfl, ?_⟩
      walk_at "dn"
      refine r_ixLm (i := k) fl.at_ (at_some (by omega)) ?_
      walk_at "dn"
      exact q
    · rw [if_neg (by simpa using c)] at q
      walk_at "dn"
      refine ⟨x, C, dx, _, .ref da, rfl, hx, fc.cls, fc.n3, by rfl, ?_⟩
      walk_at "dn"
      refine r_ixLm (i := k) fl.at_ (at_some (by omega)) ?_
      walk_at "dn"
      exact q
def sp_F_add (C : Addr) : Sp := fun vs H Q _ => ∃ (x da : Addr) (k p : Nat) (m : Int) (B : Hp) (n : Nat) (ts : List Tie) (am : List Int), vs = [.ref x, .int (k : Int), .int (p : Int), .int m] ∧ Ex B H ∧ Fl C B H n ts am x da ∧ k < ts.length ∧ ts.length ≤ 100 ∧ Q .non (upd H da (.lst (vI (addAm ts am k p m))))
theorem ok_F_add (R : RawM K C "add" "Flowing.add" s_F_add ["self", "number", "place", "more"]) (fc : FlC K C) (T : TB mg) : MethT P w K mg base C "add" 1 ["self", "number", "place", "more"] (sp_F_add C) := by
  refine R.ok fc.cls fun f fd F => F.ok sc_F_add (fun vs H Q E h => ?_) (fun cdv A outer s H vs Q E hr h => ?_)
  · obtain ⟨_, _, _, _, _, _, _, _, _, rfl, _⟩ := h
    rfl
  · obtain ⟨x, da, k, p, m, B, n, ts, am, rfl, e, fl, hk, hz, q⟩ := h
    refine ⟨_, (pss_one (ps_augS (k_fld (K := K) (pv 0)) (pv 1) k_getL (pe_ifExp (pt_cmpR op_eq (pv 2) (pe_ix (k_ixT (K := K)) (pe_ix (k_ixT (K := K)) (k_fld (K := K) (pv 0)) (pv 1) (fun _ _ => rfl)) pe_int (fun _ _ => rfl)) (nomark _)) (pv 3) (pe_un un_neg (pv 3))) ip_add set_list)), ?_⟩
    obtain ⟨dx, vt, vn, h1, h2, h3⟩ := fl.ins
    have hx := e _ _ h1
    have hlen := fl.len
    unfold tAugS
    walk_at "dn"
    refine ⟨x, C, dx, _, .ref da, rfl, hx, fc.cls, fc.n3, by rfl, ?_⟩
    walk_at "dn"
    refine ⟨da, _, k, _, rfl, rfl, fl.at_, by omega, at_some (by omega), ?_⟩
    have fin : ∀ d : Int, d = (if p = (tieAt ts k).1 then m else -m) → rSetL (.ref da) (.int (k : Int)) (.int (amAt am k + d)) H fun H6 => Q .non H6 := fun d hd => by
      refine ⟨da, _, (k : Int), k, rfl, rfl, fl.at_, ?_, ?_⟩
      · unfold ixN vI
        rw [List.length_map, if_pos (by omega), if_pos (by omega)]
        rw [Int.toNat_natCast]
      · have e2 : (vI am).set k (V.int (amAt am k + d)) = vI (addAm ts am k p m) := by
          unfold vI addAm
          rw [List.map_set, hd]
        rw [e2]
        exact q
    walk_at "dn"
    refine ⟨x, C, dx, _, vt, rfl, hx, fc.cls, fc.n1, by rfl, ?_⟩
    walk_at "dn"
    refine r_ixT (i := k) e h2 (tie_some hk) fun v hv => ?_
    walk_at "dn"
    refine r_ixT (i := 0) e hv rfl fun va ha => ?_
    cases ha
    walk_at "dn"
    refine ⟨rfl, ?_⟩
    walk_at "dn"
    rw [nat_eq]
    refine ite2 (fun c => ?_) (fun c => ?_)
    · walk_at "dn"
      exact fin m (by rw [if_pos (by simpa using c)])
    · walk_at "dn"
      exact fin (-m) (by rw [if_neg (by simpa using c)])
def sp_F_init (C : Addr) : Sp := fun vs H Q _ => ∃ (x : Addr) (vw : V) (dx : Addr) (B : Hp) (n : Nat) (ts : List Tie), vs = [.ref x, vw] ∧ Ex B H ∧ H x = some (.ins C dx []) ∧ B x = none ∧ D B vw (dWeb n ts) ∧ Wf n ts ∧
  ∀ vt vn da B' H', Gof (fun a => a = x) B H B' H' → H' x = some (.ins C dx [("ties", vt), ("near", vn), ("amounts", .ref da)]) → D B' vt (.tuple (ts.map dTie)) → D B' vn (dNear n ts) → H da = none → B' da = none → H' da = some (.lst (vI (List.replicate ts.length 0))) → Q .non H'
theorem ok_F_init (R : RawI K mg C "Flowing" "Flowing.__init__" s_F_init ["self", "web"]) (fc : FlC K C) (T : TB mg) : MakeT P w K mg base C "Flowing" 1 ["self", "web"] (sp_F_init C) := by
  refine R.ok fun f fd F => F.ok sc_F_init (fun vs H Q E h => ?_) (fun cdv A outer s H vs Q E hr h => ?_)
  · obtain ⟨_, _, _, _, _, _, rfl, _⟩ := h
    rfl
  · obtain ⟨x, vw, dx, B, n, ts, rfl, e, hx, bx, hw, wf, k⟩ := h
    refine ⟨_, (pss_cons (k_sfld (K := K) (pv 0) (pe_ix (k_ixT (K := K)) (pv 1) pe_int (fun _ _ => rfl)) rfl)
  (pss_cons (k_sfld (K := K) (pv 0) (pe_lc (own := [("place", 2)]) (g := (gName 2)) (by rfl) sc_F_init.nd (pi_range1 (by rfl) T.z_range (pa_cons (pe_ix (k_ixT (K := K)) (pv 1) pe_int (fun _ _ => rfl)) pa_nil)) (blkOk_by (N := nm_F_init) (sc := defScope s_F_init) (by decide +kernel)) (fun _ _ _ _ _ => (pg_name (i := 2) sc_F_init.nd rfl (by first | exact Or.inl rfl | exact Or.inr rfl))) (fun _ _ _ _ _ => pts_nil) (fun _ _ _ _ _ => (pe_lst pa_nil))) rfl)
  (pss_cons (ps_for PassesOwn.never rfl (k_enumT (K := K) (by rfl) T.z_enumerate (pa_cons (pe_ix (k_ixT (K := K)) (pv 1) pe_int (fun _ _ => rfl)) pa_nil)) (k_gtup (K := K) (by rfl) (pgs_cons (pg_name (i := 3) sc_F_init.nd rfl (by first | exact Or.inl rfl | exact Or.inr rfl)) (pgs_cons (pg_name (i := 4) sc_F_init.nd rfl (by first | exact Or.inl rfl | exact Or.inr rfl)) pgs_nil))) (pss_cons (ps_expr (k_bm (K := K) PySem.F.plainAttrs_list PySem.F.slot_list_append PySem.F.type_list_append mt_append (pe_ix (k_ixL (K := K)) (k_fld (K := K) (pv 0)) (pe_ix (k_ixT (K := K)) (pv 4) pe_int (fun _ _ => rfl)) (fun _ _ => rfl)) (pa_cons (pe_tup (pa_cons (pv 3) (pa_cons (pe_ix (k_ixT (K := K)) (pv 4) pe_int (fun _ _ => rfl)) pa_nil))) pa_nil)))
  (pss_one (ps_expr (k_bm (K := K) PySem.F.plainAttrs_list PySem.F.slot_list_append PySem.F.type_list_append mt_append (pe_ix (k_ixL (K := K)) (k_fld (K := K) (pv 0)) (pe_ix (k_ixT (K := K)) (pv 4) pe_int (fun _ _ => rfl)) (fun _ _ => rfl)) (pa_cons (pe_tup (pa_cons (pv 3) (pa_cons (pe_ix (k_ixT (K := K)) (pv 4) pe_int (fun _ _ => rfl)) pa_nil))) pa_nil))))))
  (pss_one (k_sfld (K := K) (pv 0) (pe_op op_rep (pe_lst (pa_cons pe_int pa_nil)) (pe_callB (k_len (K := K)) (by rfl) T.z_len (by decide +kernel) (pa_cons (pe_ix (k_ixT (K := K)) (pv 1) pe_int (fun _ _ => rfl)) pa_nil))) rfl))))), ?_⟩
    have hn := wf.n10
    have hlen := wf.len
    walk_at "dn"
    refine r_ixT (i := 1) e hw rfl fun vt hvt => ?_
    walk_at "dn"
    refine ⟨x, C, dx, _, rfl, hx, fc.cls, fc.n1, by decide, ?_⟩
    have g1 := gof_set (F := fun a => a = x) (o := .ins C dx [("ties", vt)]) e rfl bx
    show tSeq _ _ _ _ (upd H x (.ins C dx [("ties", vt)]))
    walk_at "dn"
    refine r_lcFresh (B := B) (n := n) rfl (fun R r => ?_) (by omega) fun L as B1 H1 H2 g2 g3 hL0 hLa hal hL fr => ?_
    · walk_at "dn"
      refine r_ixT (i := 0) g1.bh hw rfl fun vn hvn => ?_
      cases hvn
      walk_at "dn"
      exact r _ _ (Gof.refl g1.bh)
    have g23 := g2.trans g3
    have hx2 : H2 x = some (.ins C dx [("ties", vt)]) := g23.hh _ _ upd_same
    have bx2 : B1 x = none := g23.fr x _ upd_same trivial bx
    walk_at "dn"
    refine ⟨x, C, dx, _, rfl, hx2, fc.cls, fc.n2, by show 1 < 1000; decide, ?_⟩
    have gA := (g1.trans g23).trans (gof_set (F := fun a => a = x) (o := .ins C dx [("ties", vt), ("near", .ref L)]) g23.bh rfl bx2)
    show tSeq _ _ _ _ (upd H2 x (.ins C dx [("ties", vt), ("near", .ref L)]))
    have hxL : x ≠ L := fun z => by rw [← z, g2.hh _ _ upd_same] at hL0; cases hL0
    have hxas : ∀ a ∈ as, a ≠ x := fun a ha z => by
      obtain ⟨i, hi⟩ := List.mem_iff_getElem?.mp ha
      have := fr.at_ i a hi
      rw [z, hx2] at this
      cases this
    have frA : Fresh B1 H1 (upd H2 x (.ins C dx [("ties", vt), ("near", .ref L)])) as (fun _ => []) := ⟨fr.nd, fr.new, fun i a h => by
      rw [upd_ne (hxas a (List.mem_of_getElem? h))]
      exact fr.at_ i a h⟩
    have hLA : (upd H2 x (.ins C dx [("ties", vt), ("near", .ref L)])) L = some (.lst (as.map V.ref)) := by rw [upd_ne (Ne.symm hxL)]; exact hL
    have hxA : (upd H2 x (.ins C dx [("ties", vt), ("near", .ref L)])) x = some (.ins C dx [("ties", vt), ("near", .ref L)]) := upd_same
    have hH1 : ∀ a, H1 a = none → H a = none := fun a h => by
      have := g2.back h
      by_cases z : a = x
      · rw [z, upd_same] at this; cases this
      · rwa [upd_ne z] at this
    generalize hHA : upd H2 x (.ins C dx [("ties", vt), ("near", .ref L)]) = HA at gA frA hLA hxA
    have hw1 := hw.up gA.bb
    have bL1 : B1 L = none := g2.bh.back hL0
    walk_at "dn"
    refine r_ixT (i := 1) gA.bh hw1 rfl fun vt' hvt' => ?_
    refine loopET (F := FA) ts dTie gA.bh hvt' ⟨fun i σ' B' H' => ∃ (o2 o3 o4 : Option V) (c : Nat → List V), σ' = [some (.ref x), some vw, o2, o3, o4] ∧ Gof (fun a => a = x) B H B' H' ∧ Ex B1 B' ∧ H' x = some (.ins C dx [("ties", vt), ("near", .ref L)]) ∧ H' L = some (.lst (as.map V.ref)) ∧ B' L = none ∧ B' x = none ∧ Fresh B' H1 H' as c ∧ (∀ p, DA B' (c p) ((nearF (ts.take i) p).map dNP)),
      ⟨_, _, _, fun _ => [], rfl, gA, Ex.refl _, hxA, hLA, bL1, bx2, frA, fun p => by simp [nearF]; exact .nil⟩, fun i y σ' B0 H0' B' H' hi gB0 p gN hy => ?_, fun σ' B' H' gB p => ?_⟩
    · obtain ⟨o2, o3, o4, c, rfl, g', ex1, hx', hL', bL', bx', fr', dc⟩ := p
      have hx2 := gN.hh _ _ hx'
      have bx2 := gN.fr x _ hx' trivial bx'
      have hL2 := gN.hh _ _ hL'
      have bL2 := gN.fr L _ hL' trivial bL'
      have fr2 := fr'.grow gN
      have g2' := g'.trans (Gro.of gN)
      obtain ⟨t, ht, hd⟩ := hy
      have tm := List.mem_of_getElem? ht
      have lt1 := wf.lt t tm
      have lt2 := wf.top t tm
      have til : (ts.take i).length = i := by rw [List.length_take]; omega
      refine g_tup2 gN.bh hd fun v3 v4 h3 h4 => ?_
      cases h3
      walk_at "dn"
      obtain ⟨a1, ha1⟩ : ∃ a, as[t.1]? = some a := ⟨_, List.getElem?_eq_getElem (by omega)⟩
      obtain ⟨a2, ha2⟩ : ∃ a, as[t.2.1]? = some a := ⟨_, List.getElem?_eq_getElem (by omega)⟩
      refine ⟨x, C, dx, _, .ref L, rfl, hx2, fc.cls, fc.n2, by rfl, ?_⟩
      walk_at "dn"
      refine r_ixT (i := 0) gN.bh h4 rfl fun va hva => ?_
      cases hva
      refine r_ixLm (i := t.1) hL2 (by rw [List.getElem?_map, ha1]; rfl) ⟨tyV_lst (fr2.at_ _ _ ha1), ?_⟩
      walk_at "dn"
      refine r_ixT (i := 1) gN.bh h4 rfl fun vb hvb => ?_
      cases hvb
      walk_at "dn"
      refine r_tup2 gN.bh (.int _) (.int _) fun p1 B3 H3 g3 _ d3 => ?_
      walk_at "dn"
      have fr3 := fr2.grow g3
      have cl : ∀ p, (c p).length ≤ 200 := fun p => by
        have h1 := (dc p).len
        have h2 := nearF_len (ts.take i) p
        rw [List.length_map] at h1
        omega
      refine r_append (fr3.at_ _ _ ha1) (by have := cl t.1; omega) ?_
      walk_at "dn"
      have f4 := fr3.set (l := c t.1 ++ [V.ref p1]) ha1
      have ne1 : L ≠ a1 := fun z => hLa (z ▸ List.mem_of_getElem? ha1)
      have ne2 : L ≠ a2 := fun z => hLa (z ▸ List.mem_of_getElem? ha2)
      have nx1 : x ≠ a1 := fun z => hxas a1 (List.mem_of_getElem? ha1) z.symm
      have nx2 : x ≠ a2 := fun z => hxas a2 (List.mem_of_getElem? ha2) z.symm
      have g4 := (g2'.trans (Gro.of g3)).trans (gof_set (F := fun a => a = x ∨ a ∈ as) (o := .lst (c t.1 ++ [V.ref p1])) g3.bh (.inr (List.mem_of_getElem? ha1)) (fr3.new a1 (List.mem_of_getElem? ha1)).2) fun y hy => hy.imp id fun m => hH1 y (fr.new y m).1
      have hx4 : (upd H3 a1 (.lst (c t.1 ++ [V.ref p1]))) x = some (.ins C dx [("ties", vt), ("near", .ref L)]) := by rw [upd_ne nx1]; exact g3.hh _ _ hx2
      have hL4 : (upd H3 a1 (.lst (c t.1 ++ [V.ref p1]))) L = some (.lst (as.map V.ref)) := by rw [upd_ne ne1]; exact g3.hh _ _ hL2
      have bx3 := g3.fr x _ hx2 trivial bx2
      have bL3 := g3.fr L _ hL2 trivial bL2
      have gB4 : Gof FA _ _ _ _ := (gB0.trans ((Gro.of (gN.trans g3)))).trans (gof_set (F := FA) (o := .lst (c t.1 ++ [V.ref p1])) g3.bh trivial (fr3.new a1 (List.mem_of_getElem? ha1)).2)
      generalize hH4 : upd H3 a1 (.lst (c t.1 ++ [V.ref p1])) = H4 at f4 g4 hx4 hL4 gB4
      refine ⟨x, C, dx, _, .ref L, rfl, hx4, fc.cls, fc.n2, by rfl, ?_⟩
      walk_at "dn"
      refine r_ixT (i := 1) g4.bh (h4.up g3.bb) rfl fun vb hvb => ?_
      cases hvb
      refine r_ixLm (i := t.2.1) hL4 (by rw [List.getElem?_map, ha2]; rfl) ⟨tyV_lst (f4.at_ _ _ ha2), ?_⟩
      walk_at "dn"
      refine r_ixT (i := 0) g4.bh (h4.up g3.bb) rfl fun va hva => ?_
      cases hva
      walk_at "dn"
      refine r_tup2 g4.bh (.int _) (.int _) fun p2 B5 H5 g5 _ d5 => ?_
      walk_at "dn"
      have fr5 := f4.grow g5
      have h21 : ¬ t.2.1 = t.1 := by omega
      have q5 := fr5.at_ _ _ ha2
      rw [if_neg h21] at q5
      refine r_append q5 (by have := cl t.2.1; omega) ?_
      walk_at "dn"
      have f6 := fr5.set (l := c t.2.1 ++ [V.ref p2]) ha2
      have b2n := (fr5.new a2 (List.mem_of_getElem? ha2)).2
      have g6 := (g4.trans (Gro.of g5)).trans (gof_set (F := fun a => a = x ∨ a ∈ as) (o := .lst (c t.2.1 ++ [V.ref p2])) g5.bh (.inr (List.mem_of_getElem? ha2)) b2n) fun y hy => hy.imp id fun m => hH1 y (fr.new y m).1
      refine ⟨B5, (gB4.trans (Gro.of g5)).trans (gof_set (F := FA) g5.bh trivial b2n), _, _, _, _, rfl, g6, (ex1.trans (gN.bb.trans g3.bb)).trans g5.bb, by rw [upd_ne nx2]; exact g5.hh _ _ hx4, by rw [upd_ne ne2]; exact g5.hh _ _ hL4, g5.fr L _ hL4 trivial bL3, g5.fr x _ hx4 trivial bx3, f6, fun p => ?_⟩
      have exx := (gN.bb.trans g3.bb).trans g5.bb
      rw [List.take_add_one, ht, Option.toList_some, nearF_snoc, til]
      by_cases e1 : p = t.2.1
      · subst e1
        rw [if_pos rfl, if_neg (by omega : ¬ t.1 = t.2.1), if_pos rfl, List.nil_append, List.map_append]
        exact ((dc _).up exx).app (.one d5)
      · rw [if_neg e1, if_neg (by omega : ¬ t.2.1 = p), List.append_nil]
        by_cases e2 : p = t.1
        · subst e2
          rw [if_pos rfl, if_pos rfl, List.map_append]
          exact ((dc _).up exx).app (.one (d3.up g5.bb))
        · rw [if_neg e2, if_neg (by omega : ¬ t.1 = p), List.append_nil]
          exact (dc _).up exx
    · obtain ⟨o2, o3, o4, c, rfl, g', ex1, hx', hL', bL', bx', fr', dc⟩ := p
      rw [List.take_length] at dc
      walk_at "dn"
      refine r_lstM g'.bh (by show 1 ≤ 100000; decide) fun Z H5 hZ g5 e5 bZ => ?_
      walk_at "dn"
      refine r_ixT (i := 1) g5.bh (hw.up g'.bb) rfl fun vt2 hvt2 => ?_
      walk_at "dn"
      refine r_lenT g5.bh hvt2 ?_
      rw [List.length_map]
      refine ⟨Z, (ts.length : Int), _, rfl, rfl, e5, by omega, by omega, by show 1 * (ts.length : Int).toNat ≤ _; exact szl (by omega), fun da hda => ?_⟩
      have hx5 := g5.hh _ _ hx'
      have hx6 : (upd H5 da (.lst (List.replicate (ts.length : Int).toNat [V.int 0]).flatten)) x = some (.ins C dx [("ties", vt), ("near", .ref L)]) := by rw [upd_ne (ne_of_none hx5 hda)]; exact hx5
      walk_at "dn"
      refine ⟨x, C, dx, _, rfl, hx6, fc.cls, fc.n3, by show 2 < 1000; decide, ?_⟩
      have g6 := g5.trans (gro_mut (o := .lst (List.replicate (ts.length : Int).toNat [V.int 0]).flatten) g5.bh hda)
      have bx6 := g6.fr x _ hx' trivial bx'
      have bL6 := g6.fr L _ hL' trivial bL'
      have fr6 := fr'.grow g6
      have g06 := g'.trans (Gro.of g6)
      have g7 := g06.trans (gof_set (F := fun a => a = x) (o := .ins C dx [("ties", vt), ("near", .ref L), ("amounts", .ref da)]) g6.bh rfl bx6)
      have hda0 : H da = none := (g'.trans (Gro.of g5)).back hda
      have fr7 : Fresh B' H1 (upd (upd H5 da (.lst (List.replicate (ts.length : Int).toNat [V.int 0]).flatten)) x (.ins C dx [("ties", vt), ("near", .ref L), ("amounts", .ref da)])) as c := ⟨fr6.nd, fr6.new, fun i a h => by
        rw [upd_ne (hxas a (List.mem_of_getElem? h))]
        exact fr6.at_ i a h⟩
      have fr8 : Fresh B' H (upd (upd H5 da (.lst (List.replicate (ts.length : Int).toNat [V.int 0]).flatten)) x (.ins C dx [("ties", vt), ("near", .ref L), ("amounts", .ref da)])) as c := ⟨fr7.nd, fun a ha => ⟨hH1 a (fr7.new a ha).1, (fr7.new a ha).2⟩, fr7.at_⟩
      have hL6 := g6.hh _ _ hL'
      obtain ⟨B9, g9, ex9, d9, out9⟩ := fresh_know (n := n) (cd := fun p => (nearF ts p).map dNP) g7 fr8 (hH1 L hL0) (by rw [upd_ne (Ne.symm hxL)]; exact hL6) bL6 hal dc
      have hxda : da ≠ x := fun z => by rw [← z, hda] at hx5; cases hx5
      refine k vt (.ref L) da B9 _ g9 upd_same ((hvt.up g'.bb).up ex9) d9 hda0 ?_ ?_
      · refine out9 da (g5.bh.back hda) (fun z => ?_) (fun z => ?_)
        · obtain ⟨i, hi⟩ := List.mem_iff_getElem?.mp z
          have := g5.hh _ _ (fr'.at_ i da hi)
          rw [hda] at this
          cases this
        · have := g5.hh _ _ hL'
          rw [← z, hda] at this
          cases this
      · rw [upd_ne hxda, upd_same, Int.toNat_natCast, flat_rep]
end
end KPR
set_option Elab.async false
set_option linter.all false
set_option maxRecDepth 100000
set_option maxHeartbeats 2000000
/-! W8: Flowing.ways_on. -/
namespace KPR
open PySem L2
local macro_rules | `(tactic| walk_at "dn") => `(tactic| repeat (first
  | (with_reducible refine w_seq ?_) | (with_reducible refine w_asg ?_) | (with_reducible refine w_drop ?_) | (with_reducible refine w_ret ?_) | (with_reducible refine w_ifs ?_)
  | ((with_reducible refine' w_var ?hv ?_); (case hv => exact rfl)) | (with_reducible refine w_c ?_) | (with_reducible refine w_op ?_) | (with_reducible refine w_un ?_) | (with_reducible refine w_cb ?_)
  | (with_reducible refine w_nil ?_) | (with_reducible refine w_cons ?_) | (with_reducible refine w_gname ?_) | (with_reducible refine w_test ?_) | (with_reducible refine w_b ?_) | (with_reducible refine w_exbl ?_)
  | (with_reducible refine w_and ?_) | (with_reducible refine w_or ?_) | (with_reducible refine w_not ?_) | (with_reducible refine w_if ?_) | (with_reducible refine w_andV ?_) | (with_reducible refine w_orV ?_) | (with_reducible refine w_notV ?_)
  | (with_reducible refine w_tup ?_) | (with_reducible refine w_lst ?_) | (with_reducible refine w_dnewK ?_) | (with_reducible refine w_dnewT ?_) | (with_reducible refine w_din ?_) | (with_reducible refine w_dnin ?_) | (with_reducible refine w_dget ?_) | (with_reducible refine w_dget2 ?_)
  | (with_reducible refine w_fld ?_) | (with_reducible refine w_cal ?_) | (with_reducible refine w_met ?_) | (with_reducible refine w_mak ?_) | (with_reducible refine w_bm ?_) | (with_reducible refine w_bm0 ?_) | (with_reducible refine w_sl ?_)
  | (with_reducible refine w_nopart ?_) | (with_reducible refine w_part ?_) | (with_reducible refine w_sfld ?_) | (with_reducible refine w_dput ?_) | ((with_reducible refine' w_aug ?hv ?_); (case hv => exact rfl)) | (with_reducible refine w_iT ?_) | (with_reducible refine w_iF ?_)
  | (with_reducible refine w_ii0 ?_) | (with_reducible refine w_neg ?_) | (with_reducible refine w_ip ?_) | (with_reducible refine w_yes ?_) | (with_reducible refine w_for ?_) | (with_reducible refine w_ilist ?_) | (with_reducible refine w_itup ?_) | (with_reducible refine w_irng1 ?_) | (with_reducible refine w_irng2 ?_) | (with_reducible refine w_ienum ?_) | (with_reducible refine w_ienumT ?_)
  | (with_reducible refine w_ckw ?_) | (with_reducible refine w_gd ?_) | (with_reducible refine w_next ?_)))

section
variable {P : Program} {w : World} {K : PySem.W.Frag} {mg : Str → Option Value} {base : Heap} {C : Addr}
def sp_F_ways_on (C : Addr) : Sp := fun vs H Q _ => ∃ (x da : Addr) (vsrc : V) (s : Nat) (B : Hp) (n : Nat) (ts : List Tie) (am : List Int), vs = [.ref x, vsrc] ∧ Ex B H ∧ Fl C B H n ts am x da ∧ Wf n ts ∧ D B vsrc (dL [s]) ∧ s < n ∧
  ∀ Dc B' H' kvs came, Gro B H B' H' → H Dc = none → B' Dc = none → H' Dc = some (.dK kvs) → CamV B' kvs came → CameOk n ts am s came → Closed ts am came came.length → Q (.ref Dc) H'
theorem ok_F_ways_on (R : RawM K C "ways_on" "Flowing.ways_on" s_F_ways_on ["self", "sources"]) (fc : FlC K C) (T : TB mg) (c_F_room : MethT P w K mg base C "room" 1 ["self", "number", "place"] (sp_F_room C)) : MethT P w K mg base C "ways_on" 2 ["self", "sources"] (sp_F_ways_on C) := by
  refine R.ok fc.cls fun f fd F => F.ok sc_F_ways_on (fun vs H Q E h => ?_) (fun cdv A outer s H vs Q E hr h => ?_)
  · obtain ⟨_, _, _, _, _, _, _, _, rfl, _⟩ := h
    rfl
  · obtain ⟨x, da, vsrc, s, B, n, ts, am, rfl, e, fl, wf, hsrc, hs, k⟩ := h
    refine ⟨_, (pss_cons (ps_set (i := 2) sc_F_ways_on.nd rfl (by first | exact Or.inl rfl | exact Or.inr rfl) (pe_callTy (k_dictK (K := K) rfl) (by rfl) T.z_dict (by decide +kernel) (pa_cons (pe_lc (own := [("place", 3)]) (g := (gName 3)) (by rfl) sc_F_ways_on.nd (k_ilist (K := K) (pv 1)) (blkOk_by (N := nm_F_ways_on) (sc := defScope s_F_ways_on) (by decide +kernel)) (fun _ _ _ _ _ => (pg_name (i := 3) sc_F_ways_on.nd rfl (by first | exact Or.inl rfl | exact Or.inr rfl))) (fun _ _ _ _ _ => pts_nil) (fun _ _ _ _ _ => (pe_tup (pa_cons (pv 3) (pa_cons pe_non pa_nil))))) pa_nil)))
  (pss_cons (ps_set (i := 4) sc_F_ways_on.nd rfl (by first | exact Or.inl rfl | exact Or.inr rfl) (pe_callTy (call_list_dK rfl) (by rfl) T.z_list (by decide +kernel) (pa_cons (pv 2) pa_nil)))
  (pss_cons (ps_set (i := 5) sc_F_ways_on.nd rfl (by first | exact Or.inl rfl | exact Or.inr rfl) pe_int)
  (pss_cons (ps_while PassesOwn.never (pt_cmpR op_lt (pv 5) (pe_callB (k_len (K := K)) (by rfl) T.z_len (by decide +kernel) (pa_cons (pv 4) pa_nil)) (nomark _)) (pss_cons (ps_set (i := 6) sc_F_ways_on.nd rfl (by first | exact Or.inl rfl | exact Or.inr rfl) (pe_ix (k_ixL (K := K)) (pv 4) (pv 5) (fun _ _ => rfl)))
  (pss_cons (ps_aug (i := 5) sc_F_ways_on.nd rfl (by first | exact Or.inl rfl | exact Or.inr rfl) pe_int ip_add)
  (pss_one (ps_for PassesOwn.never rfl (k_ilist (K := K) (pe_ix (k_ixL (K := K)) (k_fld (K := K) (pv 0)) (pv 6) (fun _ _ => rfl))) (k_gtup (K := K) (by rfl) (pgs_cons (pg_name (i := 7) sc_F_ways_on.nd rfl (by first | exact Or.inl rfl | exact Or.inr rfl)) (pgs_cons (pg_name (i := 8) sc_F_ways_on.nd rfl (by first | exact Or.inl rfl | exact Or.inr rfl)) pgs_nil))) (pss_one (ps_if (PW.pt (pw_and (pt_cmp (pc_dnotin (hu_of hr) (pv 8) (pv 2))) (pw_and1 (pt_cmpR op_gt (k_meth c_F_room hr (pv 0) (pa_cons (pv 7) (pa_cons (pv 6) pa_nil))) pe_int (nomark _))))) (pss_cons (ps_dput (hu_of hr) (pv 2) (pv 8) (pe_tup (pa_cons (pv 7) (pa_cons (pv 6) pa_nil))) rfl)
  (pss_one (ps_expr (k_bm (K := K) PySem.F.plainAttrs_list PySem.F.slot_list_append PySem.F.type_list_append mt_append (pv 4) (pa_cons (pv 8) pa_nil))))) pss_nil)))))))
  (pss_one (ps_ret (pv 2))))))), ?_⟩
    have hn := wf.n10
    have htl := wf.len
    walk_at "dn"
    refine r_lcL (enc := fun (n : Nat) => .int (n : Int)) (items := [s]) (p := fun _ => true) (f := fun n => .tuple [.int (n : Int), .none]) (gv_var rfl e hsrc) (by show 1 ≤ 1000; decide) (fun i it y B1 H1 hi g1 hy Y N hY _ => ?_) fun D0 B1 H1 g1 d1 => ?_
    · cases hy
      refine ⟨rfl, ?_⟩
      walk_at "dn"
      exact r_tup2 g1.bh (.int _) .non fun p B2 H2 g2 _ d2 => hY rfl _ _ _ g2 d2
    rw [filter_yes] at d1
    walk_at "dn"
    refine r_dictKm (c := .none) (vc := .non) (fun _ _ h => h.non_inv) (by simp) g1.bh d1 fun Dc H2 hDc g2 b2 e2 => ?_
    have e2 : H2 Dc = some (.dK [(kN s, V.non)]) := e2
    walk_at "dn"
    refine ⟨Dc, _, rfl, e2, fun Lw hLw => ?_⟩
    have g3 := gro_mut (o := .lst (([(kN s, V.non)] : List (L2.Key × V)).map fun kv => kV kv.1)) g2.bh hLw
    have e3 : (upd H2 Lw (.lst (([(kN s, V.non)] : List (L2.Key × V)).map fun kv => kV kv.1))) Lw = some (.lst (vN [s])) := upd_same
    have bLw : B1 Lw = none := g2.bh.back hLw
    generalize upd H2 Lw (.lst (([(kN s, V.non)] : List (L2.Key × V)).map fun kv => kV kv.1)) = H3 at g3 e3
    have hDc3 := g3.hh _ _ e2
    have hne : Dc ≠ Lw := ne_of_none e2 hLw
    have hDc0 : H Dc = none := g1.back hDc
    have hLw0 : H Lw = none := (g1.trans g2).back hLw
    walk_at "dn"
    refine ⟨fun m σ' H' => ∃ B' kvs came at_, m = n - at_ ∧ at_ ≤ came.length ∧ Gro B H B' H' ∧ B' Dc = none ∧ B' Lw = none ∧ H' Dc = some (.dK kvs) ∧ H' Lw = some (.lst (vN (came.map (·.1)))) ∧ CamV B' kvs came ∧ CameOk n ts am s came ∧ Closed ts am came at_ ∧ ∃ o3 o6 o7 o8, σ' = [some (.ref x), some vsrc, some (.ref Dc), o3, some (.ref Lw), some (.int ((at_ : Nat) : Int)), o6, o7, o8],
      ⟨n, B1, [(kN s, V.non)], [(s, none)], 0, rfl, Nat.zero_le _, (g1.trans g2).trans g3, b2, bLw, hDc3, e3, CamV.one s, CameOk.one hs, (fun i h e hi => absurd hi (Nat.not_lt_zero _)), _, _, _, _, rfl⟩, ?_⟩
    rintro m σ' H' ⟨B', kvs, came, at_, rfl, hat, g, bD, bL, hD, hL, cv, co, cl, o3, o6, o7, o8, rfl⟩
    have cln : came.length ≤ n := by
      have := pigeon (came.map (·.1)) n co.nd co.lt
      rwa [List.length_map] at this
    walk_at "dn"
    refine ⟨Lw, _, rfl, .inl (SqL.of hL), ?_⟩
    walk_at "dn"
    have hvl : (vN (came.map (·.1))).length = came.length := by unfold vN; rw [List.length_map, List.length_map]
    rw [hvl]
    refine ite2 (fun c => ?_) (fun c => ?_)
    · have hlt : at_ < came.length := by
        have : ((at_ : Nat) : Int) < (came.length : Int) := by simpa using c
        omega
      obtain ⟨⟨here, eh⟩, hhere⟩ : ∃ y, came[at_]? = some y := ⟨_, List.getElem?_eq_getElem hlt⟩
      have hhn : here < n := co.lt here (List.mem_map.mpr ⟨_, List.mem_of_getElem? hhere, rfl⟩)
      refine ⟨fun σ' H' => ∃ B' kvs came', at_ + 1 ≤ came'.length ∧ Gro B H B' H' ∧ B' Dc = none ∧ B' Lw = none ∧ H' Dc = some (.dK kvs) ∧ H' Lw = some (.lst (vN (came'.map (·.1)))) ∧ CamV B' kvs came' ∧ CameOk n ts am s came' ∧ Closed ts am came' (at_ + 1) ∧ ∃ o3 o6 o7 o8, σ' = [some (.ref x), some vsrc, some (.ref Dc), o3, some (.ref Lw), some (.int ((at_ + 1 : Nat) : Int)), o6, o7, o8], ?_, ?_⟩
      · rintro σ' H' ⟨B', kvs, came', h1, h2⟩
        exact ⟨n - (at_ + 1), by omega, B', kvs, came', at_ + 1, rfl, h1, h2⟩
      walk_at "dn"
      refine r_ixLm (i := at_) hL (by unfold vN; rw [List.getElem?_map, List.getElem?_map, hhere]; rfl) ?_
      walk_at "dn"
      have fl' := fl.grow g
      obtain ⟨dx, vt, vn, h1, h2, h3⟩ := fl'.ins
      refine ⟨x, C, dx, _, vn, rfl, g.bh _ _ h1, fc.cls, fc.n2, by rfl, ?_⟩
      walk_at "dn"
      refine r_ixL (i := here) g.bh h3 (by rw [List.getElem?_map, List.getElem?_range hhn]; rfl) fun vl hvl => ?_
      refine loopL (F := FA) (nearF ts here) dNP g.bh hvl ⟨fun j σ' B2 H2 => ∃ kvs2 came2, Gro B H B2 H2 ∧ B2 Dc = none ∧ B2 Lw = none ∧ H2 Dc = some (.dK kvs2) ∧ H2 Lw = some (.lst (vN (came2.map (·.1)))) ∧ CamV B2 kvs2 came2 ∧ CameOk n ts am s came2 ∧ (∀ (i : Nat) e, came[i]? = some e → came2[i]? = some e) ∧ (∀ y ∈ (nearF ts here).take j, 0 < roomOf ts am y.1 here → y.2 ∈ came2.map (·.1)) ∧ ∃ o3 o7 o8, σ' = [some (.ref x), some vsrc, some (.ref Dc), o3, some (.ref Lw), some (.int ((at_ + 1 : Nat) : Int)), some (.int (here : Int)), o7, o8],
        ⟨kvs, came, g, bD, bL, hD, hL, cv, co, fun i e h => h, (fun y hy => by simp at hy), _, _, _, rfl⟩, fun j y σ' B2 H2 hj gB hy p => ?_, fun σ' B2 H2 gB p => ?_⟩
      · obtain ⟨kvs2, came2, g2', bD2, bL2, hD2, hL2, cv2, co2, pre, done, o3', o7', o8', rfl⟩ := p
        obtain ⟨⟨kk, qq⟩, hit, hd⟩ := hy
        have hmem := List.mem_of_getElem? hit
        obtain ⟨t, ht, hends⟩ := mem_nearF.mp hmem
        have tm := List.mem_of_getElem? ht
        have lt1 := wf.lt t tm
        have lt2 := wf.top t tm
        have hqn : qq < n := by rcases hends with ⟨_, z⟩ | ⟨_, z⟩ <;> omega
        have hkl : kk < ts.length := (List.getElem?_eq_some_iff.mp ht).1
        have cln2 : came2.length ≤ n := by
          have := pigeon (came2.map (·.1)) n co2.nd co2.lt
          rwa [List.length_map] at this
        refine g_tup2 gB.bh hd fun v7 v8 h7 h8 => ?_
        cases h7
        cases h8
        have take' : (nearF ts here).take (j + 1) = (nearF ts here).take j ++ [(kk, qq)] := by rw [List.take_add_one, hit]; rfl
        walk_at "dn"
        refine r_dinKm hD2 ?_
        walk_at "dn"
        rw [cv2.some]
        refine ite2 (fun c => ?_) (fun c => ?_)
        · have hnot : qq ∉ came2.map (·.1) := by simpa using c
          have fl2 := fl.grow g2'
          obtain ⟨dx2, vt2, vn2, q1, q2, q3⟩ := fl2.ins
          walk_at "dn"
          refine ⟨x, dx2, _, rfl, g2'.bh _ _ q1, by rfl, ?_⟩
          walk_at "dn"
          refine ⟨x, da, kk, here, B2, n, ts, am, rfl, g2'.bh, fl2, hkl, ?_⟩
          walk_at "dn"
          refine ite2 (fun c => ?_) (fun c => ?_)
          · have hroom : 0 < roomOf ts am kk here := by simpa using c
            walk_at "dn"
            refine r_tup2 g2'.bh (.int _) (.int _) fun p B5 H5 g5 _ d5 => ?_
            walk_at "dn"
            have hD5 := g5.hh _ _ hD2
            have hL5 := g5.hh _ _ hL2
            have bD5 := g5.fr _ _ hD2 trivial bD2
            have bL5 := g5.fr _ _ hL2 trivial bL2
            refine r_putK hD5 (by have := cv2.len; omega) ?_
            walk_at "dn"
            have hL6 : (upd H5 Dc (.dK (putK kvs2 (kN qq) (.ref p)))) Lw = some (.lst (vN (came2.map (·.1)))) := by rw [upd_ne (Ne.symm hne)]; exact hL5
            refine ⟨tyV_lst hL6, ?_⟩
            walk_at "dn"
            refine r_append hL6 (by unfold vN; rw [List.length_map, List.length_map]; omega) ?_
            walk_at "dn"
            have g6 := gro_set (o := .lst (vN (came2.map (·.1)) ++ [V.int (qq : Int)])) (gro_set (o := .dK (putK kvs2 (kN qq) (.ref p))) (g2'.trans g5) hDc0 bD5) hLw0 bL5
            refine ⟨B5, ?_, putK kvs2 (kN qq) (.ref p), came2 ++ [(qq, some (kk, here))], g6, bD5, bL5, by rw [upd_ne hne, upd_same], by rw [upd_same, List.map_append]; unfold vN; rw [List.map_append]; rfl, (cv2.up g5.bb).snoc hnot d5, co2.snoc hnot hqn (pre at_ _ hhere) hmem hroom, fun i e h => ?_, ?_, _, _, _, rfl⟩
            · have q1 := gB.trans (Gro.of g5)
              have q2 := q1.trans (gof_set (F := FA) (o := .dK (putK kvs2 (kN qq) (.ref p))) q1.bh trivial bD5)
              exact q2.trans (gof_set (F := FA) q2.bh trivial bL5)
            · have := pre i e h
              rw [List.getElem?_append_left (List.getElem?_eq_some_iff.mp this).1]
              exact this
            · intro y hy hr
              rw [take'] at hy
              rw [List.map_append]
              rcases List.mem_append.mp hy with z | z
              · exact List.mem_append_left _ (done y z hr)
              · rw [List.mem_singleton.mp z]
                exact List.mem_append_right _ (by simp)
          · have hroom : ¬ 0 < roomOf ts am kk here := by simpa using c
            walk_at "dn"
            refine ⟨B2, gB, kvs2, came2, g2', bD2, bL2, hD2, hL2, cv2, co2, pre, ?_, _, _, _, rfl⟩
            intro y hy hr
            rw [take'] at hy
            rcases List.mem_append.mp hy with z | z
            · exact done y z hr
            · rw [List.mem_singleton.mp z] at hr
              exact absurd hr hroom
        · have hin : qq ∈ came2.map (·.1) := by simpa using c
          walk_at "dn"
          refine ⟨B2, gB, kvs2, came2, g2', bD2, bL2, hD2, hL2, cv2, co2, pre, ?_, _, _, _, rfl⟩
          intro y hy hr
          rw [take'] at hy
          rcases List.mem_append.mp hy with z | z
          · exact done y z hr
          · rw [List.mem_singleton.mp z]; exact hin
      · obtain ⟨kvs2, came2, g2', bD2, bL2, hD2, hL2, cv2, co2, pre, done, o3', o7', o8', rfl⟩ := p
        rw [List.take_length] at done
        have mono : ∀ q, q ∈ came.map (·.1) → q ∈ came2.map (·.1) := fun q hq => by
          obtain ⟨y, hy, rfl⟩ := List.mem_map.mp hq
          obtain ⟨i, hi⟩ := List.mem_iff_getElem?.mp hy
          exact List.mem_map.mpr ⟨y, List.mem_of_getElem? (pre i y hi), rfl⟩
        refine ⟨B2, kvs2, came2, (List.getElem?_eq_some_iff.mp (pre _ _ hhere)).1, g2', bD2, bL2, hD2, hL2, cv2, co2, fun i h e hi hi2 k q hkq hr => ?_, _, _, _, _, rfl⟩
        have hi3 : i < came.length := by omega
        obtain ⟨y, hy⟩ : ∃ y, came[i]? = some y := ⟨_, List.getElem?_eq_getElem hi3⟩
        have e1 := pre i y hy
        rw [hi2] at e1
        have e1 : (h, e) = y := Option.some.inj e1
        subst e1
        rcases Nat.lt_or_ge i at_ with z | z
        · exact mono q (cl i h e z hy k q hkq hr)
        · have : i = at_ := by omega
          subst this
          rw [hhere] at hy
          cases hy
          exact done (k, q) hkq hr
    · have hge : at_ = came.length := by
        have : ¬ ((at_ : Nat) : Int) < (came.length : Int) := by simpa using c
        omega
      subst hge
      walk_at "dn"
      exact k Dc B' H' kvs came g hDc0 bD hD cv co cl
end
end KPR
set_option Elab.async false
set_option linter.all false
set_option maxRecDepth 100000
set_option maxHeartbeats 2000000
/-! W9: Flowing.bring. -/
namespace KPR
open PySem L2
local macro_rules | `(tactic| walk_at "dn") => `(tactic| repeat (first
  | (with_reducible refine w_seq ?_) | (with_reducible refine w_asg ?_) | (with_reducible refine w_drop ?_) | (with_reducible refine w_ret ?_) | (with_reducible refine w_ifs ?_)
  | ((with_reducible refine' w_var ?hv ?_); (case hv => exact rfl)) | (with_reducible refine w_c ?_) | (with_reducible refine w_op ?_) | (with_reducible refine w_un ?_) | (with_reducible refine w_cb ?_)
  | (with_reducible refine w_nil ?_) | (with_reducible refine w_cons ?_) | (with_reducible refine w_gname ?_) | (with_reducible refine w_test ?_) | (with_reducible refine w_b ?_) | (with_reducible refine w_exbl ?_)
  | (with_reducible refine w_and ?_) | (with_reducible refine w_or ?_) | (with_reducible refine w_not ?_) | (with_reducible refine w_if ?_) | (with_reducible refine w_andV ?_) | (with_reducible refine w_orV ?_) | (with_reducible refine w_notV ?_)
  | (with_reducible refine w_tup ?_) | (with_reducible refine w_lst ?_) | (with_reducible refine w_dnewK ?_) | (with_reducible refine w_dnewT ?_) | (with_reducible refine w_din ?_) | (with_reducible refine w_dnin ?_) | (with_reducible refine w_dget ?_) | (with_reducible refine w_dget2 ?_)
  | (with_reducible refine w_fld ?_) | (with_reducible refine w_cal ?_) | (with_reducible refine w_met ?_) | (with_reducible refine w_mak ?_) | (with_reducible refine w_bm ?_) | (with_reducible refine w_bm0 ?_) | (with_reducible refine w_sl ?_)
  | (with_reducible refine w_nopart ?_) | (with_reducible refine w_part ?_) | (with_reducible refine w_sfld ?_) | (with_reducible refine w_dput ?_) | ((with_reducible refine' w_aug ?hv ?_); (case hv => exact rfl)) | (with_reducible refine w_iT ?_) | (with_reducible refine w_iF ?_)
  | (with_reducible refine w_ii0 ?_) | (with_reducible refine w_neg ?_) | (with_reducible refine w_ip ?_) | (with_reducible refine w_yes ?_) | (with_reducible refine w_for ?_) | (with_reducible refine w_ilist ?_) | (with_reducible refine w_itup ?_) | (with_reducible refine w_irng1 ?_) | (with_reducible refine w_irng2 ?_) | (with_reducible refine w_ienum ?_) | (with_reducible refine w_ienumT ?_)
  | (with_reducible refine w_ckw ?_) | (with_reducible refine w_gd ?_) | (with_reducible refine w_next ?_)))

section
variable {P : Program} {w : World} {K : PySem.W.Frag} {mg : Str → Option Value} {base : Heap} {C : Addr}
theorem path_nil {came : Came} {sink p : Nat} {l : List (Nat × Nat)} (h : PathTo came sink p l) (e : l = []) : p = sink := by
  cases h with
  | nil => rfl
  | snoc _ _ => simp at e
def sp_F_bring (C : Addr) : Sp := fun vs H Q _ => ∃ (x da Dc : Addr) (s sink : Nat) (B : Hp) (n : Nat) (ts : List Tie) (am : List Int) (kvs : List (L2.Key × V)) (came : Came), vs = [.ref x, .ref Dc, .int (sink : Int)] ∧ Ex B H ∧ Fl C B H n ts am x da ∧ Wf n ts ∧ H Dc = some (.dK kvs) ∧ CamV B kvs came ∧ CameOk n ts am s came ∧ sink ∈ came.map (·.1) ∧ sink ≠ s ∧ Dc ≠ da ∧
  ∀ B' H' m l, Gof (fun a => a = da) B H B' H' → B' da = none → PathTo came sink s l → 0 < m → (∀ y ∈ l, m ≤ roomOf ts am y.1 y.2) → H' da = some (.lst (vI (l.foldl (push ts m) am))) → Q .non H'
theorem ok_F_bring (R : RawM K C "bring" "Flowing.bring" s_F_bring ["self", "came", "sink"]) (fc : FlC K C) (T : TB mg) (c_F_room : MethT P w K mg base C "room" 1 ["self", "number", "place"] (sp_F_room C)) (c_F_add : MethT P w K mg base C "add" 1 ["self", "number", "place", "more"] (sp_F_add C)) : MethT P w K mg base C "bring" 2 ["self", "came", "sink"] (sp_F_bring C) := by
  refine R.ok fc.cls fun f fd F => F.ok sc_F_bring (fun vs H Q E h => ?_) (fun cdv A outer s H vs Q E hr h => ?_)
  · obtain ⟨_, _, _, _, _, _, _, _, _, _, _, rfl, _⟩ := h
    rfl
  · obtain ⟨x, da, Dc, s, sink, B, n, ts, am, kvs, came, rfl, e, fl, wf, hDc, cv, co, hsink, hss, hdd, k⟩ := h
    refine ⟨_, (pss_cons (ps_set (i := 3) sc_F_bring.nd rfl (by first | exact Or.inl rfl | exact Or.inr rfl) (pe_lst pa_nil))
  (pss_cons (ps_set (i := 4) sc_F_bring.nd rfl (by first | exact Or.inl rfl | exact Or.inr rfl) (pe_dget (hu_of hr) (pv 1) (pv 2) (fun _ _ => rfl)))
  (pss_cons (ps_while PassesOwn.never (pt_cmpR op_notN1 (pv 4) pe_non (nomark _)) (pss_cons (ps_expr (k_bm (K := K) PySem.F.plainAttrs_list PySem.F.slot_list_append PySem.F.type_list_append mt_append (pv 3) (pa_cons (pv 4) pa_nil)))
  (pss_one (ps_set (i := 4) sc_F_bring.nd rfl (by first | exact Or.inl rfl | exact Or.inr rfl) (pe_dget (hu_of hr) (pv 1) (pe_ix (k_ixT (K := K)) (pv 4) pe_int (fun _ _ => rfl)) (fun _ _ => rfl))))))
  (pss_cons (ps_set (i := 5) sc_F_bring.nd rfl (by first | exact Or.inl rfl | exact Or.inr rfl) (pe_callB (k_min (K := K) rfl) (by rfl) T.z_min (by decide +kernel) (pa_cons (pe_lc (own := [("number", 6), ("place", 7)]) (g := (gTup K 2 (gCons (gName 6) (gCons (gName 7) gNil)))) (by rfl) sc_F_bring.nd (k_ilist (K := K) (pv 3)) (blkOk_by (N := nm_F_bring) (sc := defScope s_F_bring) (by decide +kernel)) (fun _ _ _ _ _ => (k_gtup (K := K) (by rfl) (pgs_cons (pg_name (i := 6) sc_F_bring.nd rfl (by first | exact Or.inl rfl | exact Or.inr rfl)) (pgs_cons (pg_name (i := 7) sc_F_bring.nd rfl (by first | exact Or.inl rfl | exact Or.inr rfl)) pgs_nil)))) (fun _ _ _ _ _ => pts_nil) (fun _ _ _ _ _ => (k_meth c_F_room hr (pv 0) (pa_cons (pv 6) (pa_cons (pv 7) pa_nil))))) pa_nil)))
  (pss_one (ps_for PassesOwn.never rfl (k_ilist (K := K) (pv 3)) (k_gtup (K := K) (by rfl) (pgs_cons (pg_name (i := 6) sc_F_bring.nd rfl (by first | exact Or.inl rfl | exact Or.inr rfl)) (pgs_cons (pg_name (i := 7) sc_F_bring.nd rfl (by first | exact Or.inl rfl | exact Or.inr rfl)) pgs_nil))) (pss_one (ps_expr (k_meth c_F_add hr (pv 0) (pa_cons (pv 6) (pa_cons (pv 7) (pa_cons (pv 5) pa_nil)))))))))))), ?_⟩
    have hn := wf.n10
    have htl := wf.len
    obtain ⟨⟨s0, es⟩, hs0, es0⟩ := List.mem_map.mp hsink
    have es0 : s0 = sink := es0
    subst es0
    walk_at "dn"
    refine r_lstM e (by show 0 ≤ 100000; decide) fun Ls H1 hLs g1 e1 bLs => ?_
    walk_at "dn"
    have hDc1 := g1.hh _ _ hDc
    obtain ⟨v0, hv0, dv0⟩ := cv.get co.nd hs0
    refine ⟨Dc, v0, rfl, by rw [← hv0]; exact DGet.k (k := kN s0) hDc1, ?_⟩
    walk_at "dn"
    obtain ⟨i0, hi0⟩ := List.mem_iff_getElem?.mp hs0
    refine ⟨fun m σ' H' => ∃ (p : Nat) (l : List (Nat × Nat)) (e' : Option (Nat × Nat)) (v : V) (ls : List V), PathTo came s0 p l ∧ came[m]? = some (p, e') ∧ D B v (dOpt e') ∧ Gro B H B H' ∧ H' Ls = some (.lst ls) ∧ DA B ls (l.map dNP) ∧ ∃ o5 o6 o7, σ' = [some (.ref x), some (.ref Dc), some (.int (s0 : Int)), some (.ref Ls), some v, o5, o6, o7],
      ⟨i0, s0, [], es, v0, [], .nil, hi0, dv0, g1, e1, .nil, _, _, _, rfl⟩, ?_⟩
    rintro m σ' H' ⟨p, l, e', v, ls, path, hm, dv, g, hL, dl, o5, o6, o7, rfl⟩
    have pp := path_props co wf.lt path
    have ll : l.length ≤ 10 := by
      have := pigeon (l.map (·.2)) n pp.2.2.1 fun y hy => by
        obtain ⟨z, hz, rfl⟩ := List.mem_map.mp hy
        exact (pp.1 z hz).2.2
      rw [List.length_map] at this
      omega
    have lls := dl.len
    rw [List.length_map] at lls
    walk_at "dn"
    refine ⟨rfl, ?_⟩
    walk_at "dn"
    cases e' with
    | some kh =>
      obtain ⟨kk, hh⟩ := kh
      obtain ⟨q, xs, rfl, hq1, hq2⟩ := dv.tup_inv
      have hv : D B (.ref q) (dNP (kk, hh)) := dv
      rw [show (!decide (V.ref q = V.non)) = true by simp]
      have m0 : 0 < m := by
        rcases Nat.eq_zero_or_pos m with z | z
        · subst z
          rw [co.hd] at hm
          cases hm
        · exact z
      obtain ⟨k', h', j, e'', ek, hj, hj2, hw, hr'⟩ := co.way m p _ hm m0
      cases ek
      refine w_iT ⟨fun σ' H' => ∃ m', m' < m ∧ ∃ (p : Nat) (l : List (Nat × Nat)) (e' : Option (Nat × Nat)) (v : V) (ls : List V), PathTo came s0 p l ∧ came[m']? = some (p, e') ∧ D B v (dOpt e') ∧ Gro B H B H' ∧ H' Ls = some (.lst ls) ∧ DA B ls (l.map dNP) ∧ ∃ o5 o6 o7, σ' = [some (.ref x), some (.ref Dc), some (.int (s0 : Int)), some (.ref Ls), some v, o5, o6, o7], fun σ' H' h => h, ?_⟩
      walk_at "dn"
      refine ⟨tyV_lst hL, ?_⟩
      walk_at "dn"
      refine r_append hL (by omega) ?_
      walk_at "dn"
      have g2 := gro_set (o := .lst (ls ++ [V.ref q])) g hLs bLs
      refine r_ixT (i := 1) g2.bh hv rfl fun vh hvh => ?_
      cases hvh
      obtain ⟨v2, hv2, dv2⟩ := cv.get co.nd (List.mem_of_getElem? hj2)
      have hDc2 : (upd H' Ls (.lst (ls ++ [V.ref q]))) Dc = some (.dK kvs) := by
        rw [upd_ne (ne_of_none hDc hLs)]
        exact g.hh _ _ hDc
      refine ⟨Dc, v2, rfl, by rw [← hv2]; exact DGet.k (k := kN hh) hDc2, ?_⟩
      walk_at "dn"
      exact ⟨j, hj, hh, l ++ [(kk, hh)], e'', v2, ls ++ [V.ref q], path.snoc (List.mem_of_getElem? hm), hj2, dv2, g2, upd_same, by rw [List.map_append]; exact dl.app (.one hv), _, _, _, rfl⟩
    | none =>
      obtain rfl := dv.non_inv
      rw [show (!decide (V.non = V.non)) = false by simp]
      have eps := end_src co (List.mem_of_getElem? hm)
      subst eps
      have lne : l ≠ [] := fun z => by
        exact hss (path_nil path z).symm
      walk_at "dn"
      have g3 := gro_know g hLs bLs hL
      have dlist : D (upd B Ls (.lst ls)) (.ref Ls) (.list (l.map dNP)) := .lst upd_same (dl.up (Ex.new bLs))
      have fl3 := fl.grow g3
      obtain ⟨dx3, vt3, vn3, q1, q2, q3⟩ := fl3.ins
      generalize upd B Ls (.lst ls) = B3 at g3 dlist fl3 q1
      refine r_lcL (B := B3) (enc := dNP) (items := l) (p := fun _ => true) (f := fun y => .int (roomOf ts am y.1 y.2)) (gv_var rfl g3.bh dlist) (by omega) (fun i it y B4 H4 hi g4 hy Y N hY _ => ?_) fun D0 B4 H4 g4 d4 => ?_
      · refine g_tup2 g4.bh hy fun v6 v7 h6 h7 => ⟨rfl, ?_⟩
        cases h6
        cases h7
        have st := (pp.1 it (List.mem_of_getElem? hi)).1
        have fl4 := fl3.grow g4
        walk_at "dn"
        refine ⟨x, dx3, _, rfl, g4.bh _ _ (g4.bb _ _ q1), by rfl, ?_⟩
        walk_at "dn"
        exact ⟨x, da, it.1, it.2, B4, n, ts, am, rfl, g4.bh, fl4, st.1, hY rfl _ _ _ (Gof.refl g4.bh) (.int _)⟩
      rw [filter_yes] at d4
      have e4 : l.map (fun y => PyData.int (roomOf ts am y.1 y.2)) = (l.map fun y => roomOf ts am y.1 y.2).map PyData.int := by rw [List.map_map]; rfl
      rw [e4] at d4
      walk_at "dn"
      refine r_min g4.bh d4 (by rw [List.length_map]; exact List.length_pos_iff.mpr lne) fun mm hmm1 hmm2 => ?_
      walk_at "dn"
      have hm0 : 0 < mm := by
        obtain ⟨y, hy, ey⟩ := List.mem_map.mp hmm1
        rw [← ey]
        exact (pp.1 y hy).2.1
      have hmall : ∀ y ∈ l, mm ≤ roomOf ts am y.1 y.2 := fun y hy => hmm2 _ (List.mem_map.mpr ⟨y, hy, rfl⟩)
      have g34 := g3.trans g4
      have fl4 := fl3.grow g4
      refine loopL (F := fun a => a = da) l dNP g4.bh (dlist.up g4.bb) ⟨fun i σ' B5 H5 => B5 = B4 ∧ Gof (fun a => a = da) B H B4 H5 ∧ H5 da = some (.lst (vI ((l.take i).foldl (push ts mm) am))) ∧ ∃ o6 o7, σ' = [some (.ref x), some (.ref Dc), some (.int (s0 : Int)), some (.ref Ls), some .non, some (.int mm), o6, o7], ⟨rfl, Gro.of g34, fl4.at_, _, _, rfl⟩, fun i y σ' B5 H5 hi gB hy p => ?_, fun σ' B5 H5 gB p => ?_⟩
      · obtain ⟨rfl, g5, h5, o6', o7', rfl⟩ := p
        obtain ⟨it, hit, hd⟩ := hy
        refine g_tup2 g5.bh hd fun v6 v7 h6 h7 => ?_
        cases h6
        cases h7
        have st := (pp.1 it (List.mem_of_getElem? hit)).1
        obtain ⟨dx4, vt4, vn4, r1, r2, r3⟩ := fl4.ins
        have lam : ∀ (l : List (Nat × Nat)) (am : List Int), (l.foldl (push ts mm) am).length = am.length := by
          intro l
          induction l with
          | nil => intro am; rfl
          | cons y l ih => intro am; rw [List.foldl_cons, ih, push_len]
        have fl5 : Fl C B5 H5 n ts ((l.take i).foldl (push ts mm) am) x da := ⟨⟨dx4, vt4, vn4, r1, r2, r3⟩, h5, fl4.un, (lam _ _).trans fl4.len⟩
        walk_at "dn"
        refine ⟨x, dx4, _, rfl, g5.bh _ _ r1, by rfl, ?_⟩
        walk_at "dn"
        refine ⟨x, da, it.1, it.2, mm, B5, n, ts, _, rfl, g5.bh, fl5, st.1, by omega, ?_⟩
        walk_at "dn"
        refine ⟨B5, gB.trans (gof_set (F := fun a => a = da) gB.bh rfl fl4.un), rfl, g5.trans (gof_set (F := fun a => a = da) g5.bh rfl fl4.un), ?_, _, _, rfl⟩
        rw [upd_same, List.take_add_one, hit, Option.toList_some, List.foldl_append]
        rfl
      · obtain ⟨rfl, g5, h5, o6', o7', rfl⟩ := p
        rw [List.take_length] at h5
        walk_at "dn"
        exact k _ _ mm l g5 fl4.un path hm0 hmall h5
end
end KPR
set_option Elab.async false
set_option linter.all false
set_option maxRecDepth 100000
set_option maxHeartbeats 2000000
/-! W10: Flowing.fill, flow. -/
namespace KPR
open PySem L2
local macro_rules | `(tactic| walk_at "dn") => `(tactic| repeat (first
  | (with_reducible refine w_seq ?_) | (with_reducible refine w_asg ?_) | (with_reducible refine w_drop ?_) | (with_reducible refine w_ret ?_) | (with_reducible refine w_ifs ?_)
  | ((with_reducible refine' w_var ?hv ?_); (case hv => exact rfl)) | (with_reducible refine w_c ?_) | (with_reducible refine w_op ?_) | (with_reducible refine w_un ?_) | (with_reducible refine w_cb ?_)
  | (with_reducible refine w_nil ?_) | (with_reducible refine w_cons ?_) | (with_reducible refine w_gname ?_) | (with_reducible refine w_test ?_) | (with_reducible refine w_b ?_) | (with_reducible refine w_exbl ?_)
  | (with_reducible refine w_and ?_) | (with_reducible refine w_or ?_) | (with_reducible refine w_not ?_) | (with_reducible refine w_if ?_) | (with_reducible refine w_andV ?_) | (with_reducible refine w_orV ?_) | (with_reducible refine w_notV ?_)
  | (with_reducible refine w_tup ?_) | (with_reducible refine w_lst ?_) | (with_reducible refine w_dnewK ?_) | (with_reducible refine w_dnewT ?_) | (with_reducible refine w_din ?_) | (with_reducible refine w_dnin ?_) | (with_reducible refine w_dget ?_) | (with_reducible refine w_dget2 ?_)
  | (with_reducible refine w_fld ?_) | (with_reducible refine w_cal ?_) | (with_reducible refine w_met ?_) | (with_reducible refine w_mak ?_) | (with_reducible refine w_bm ?_) | (with_reducible refine w_bm0 ?_) | (with_reducible refine w_sl ?_)
  | (with_reducible refine w_nopart ?_) | (with_reducible refine w_part ?_) | (with_reducible refine w_sfld ?_) | (with_reducible refine w_dput ?_) | ((with_reducible refine' w_aug ?hv ?_); (case hv => exact rfl)) | (with_reducible refine w_iT ?_) | (with_reducible refine w_iF ?_)
  | (with_reducible refine w_ii0 ?_) | (with_reducible refine w_neg ?_) | (with_reducible refine w_ip ?_) | (with_reducible refine w_yes ?_) | (with_reducible refine w_for ?_) | (with_reducible refine w_ilist ?_) | (with_reducible refine w_itup ?_) | (with_reducible refine w_irng1 ?_) | (with_reducible refine w_irng2 ?_) | (with_reducible refine w_ienum ?_) | (with_reducible refine w_ienumT ?_)
  | (with_reducible refine w_ckw ?_) | (with_reducible refine w_gd ?_) | (with_reducible refine w_next ?_)))

section
variable {P : Program} {w : World} {K : PySem.W.Frag} {mg : Str → Option Value} {base : Heap} {C : Addr}
abbrev reachOf (Ts : List Nat) (came : Came) : List Nat := (came.map (·.1)).filter fun q => decide (q ∈ Ts)
def sp_F_fill (C : Addr) : Sp := fun vs H Q _ => ∃ (x da : Addr) (vsrc vsnk : V) (s : Nat) (Ts : List Nat) (B : Hp) (n : Nat) (ts : List Tie), vs = [.ref x, vsrc, vsnk] ∧ Ex B H ∧ Fl C B H n ts (List.replicate ts.length 0) x da ∧ Wf n ts ∧ D B vsrc (dL [s]) ∧ D B vsnk (dL Ts) ∧ s < n ∧ s ∉ Ts ∧ Ts.length ≤ 1000 ∧
  ∀ v B' H' (am : List Int) S, Gof (fun a => a = da) B H B' H' → B' da = none → H' da = some (.lst (vI am)) → D B' v (dL S) → MinSide ts s Ts S → Q v H'
theorem ok_F_fill (R : RawM K C "fill" "Flowing.fill" s_F_fill ["self", "sources", "sinks"]) (fc : FlC K C) (T : TB mg) (c_F_ways_on : MethT P w K mg base C "ways_on" 2 ["self", "sources"] (sp_F_ways_on C)) (c_F_bring : MethT P w K mg base C "bring" 2 ["self", "came", "sink"] (sp_F_bring C)) : MethT P w K mg base C "fill" 3 ["self", "sources", "sinks"] (sp_F_fill C) := by
  refine R.ok fc.cls fun f fd F => F.ok sc_F_fill (fun vs H Q E h => ?_) (fun cdv A outer s H vs Q E hr h => ?_)
  · obtain ⟨_, _, _, _, _, _, _, _, _, rfl, _⟩ := h
    rfl
  · obtain ⟨x, da, vsrc, vsnk, s0, Ts, B, n, ts, rfl, e, fl, wf, hsrc, hsnk, hs, hsT, hTl, k⟩ := h
    refine ⟨_, (pss_cons (ps_set (i := 3) sc_F_fill.nd rfl (by first | exact Or.inl rfl | exact Or.inr rfl) (pe_callTy (k_dictK (K := K) rfl) (by rfl) T.z_dict (by decide +kernel) (pa_cons (pe_lc (own := [("place", 4)]) (g := (gName 4)) (by rfl) sc_F_fill.nd (k_ilist (K := K) (pv 2)) (blkOk_by (N := nm_F_fill) (sc := defScope s_F_fill) (by decide +kernel)) (fun _ _ _ _ _ => (pg_name (i := 4) sc_F_fill.nd rfl (by first | exact Or.inl rfl | exact Or.inr rfl))) (fun _ _ _ _ _ => pts_nil) (fun _ _ _ _ _ => (pe_tup (pa_cons (pv 4) (pa_cons pe_bl pa_nil))))) pa_nil)))
  (pss_cons (ps_set (i := 5) sc_F_fill.nd rfl (by first | exact Or.inl rfl | exact Or.inr rfl) (k_meth c_F_ways_on hr (pv 0) (pa_cons (pv 1) pa_nil)))
  (pss_cons (ps_lock (ps_setLc (i := 6) (own := [("place", 4)]) (g := (gName 4)) (by rfl) sc_F_fill.nd rfl rfl (sw_true rfl rfl rfl (by decide +kernel)) (pi_keys (pv 5)) (blkOk_by (N := nm_F_fill) (sc := defScope s_F_fill) (by decide +kernel)) (fun _ _ _ _ _ => (pg_name (i := 4) sc_F_fill.nd rfl (by first | exact Or.inl rfl | exact Or.inr rfl))) (fun _ _ _ _ _ => (pts_one (pt_cmp (pc_din (hu_of hr) (pv 4) (pv 3))))) (fun _ _ _ _ _ => (pv 4))))
  (pss_cons (ps_while PassesOwn.never (pt_cmpR op_gt (pe_callB (k_len (K := K)) (by rfl) T.z_len (by decide +kernel) (pa_cons (pv 6) pa_nil)) pe_int (nomark _)) (pss_cons (ps_expr (k_meth c_F_bring hr (pv 0) (pa_cons (pv 5) (pa_cons (pe_ix (k_ixL (K := K)) (pv 6) pe_int (fun _ _ => rfl)) pa_nil))))
  (pss_cons (ps_set (i := 5) sc_F_fill.nd rfl (by first | exact Or.inl rfl | exact Or.inr rfl) (k_meth c_F_ways_on hr (pv 0) (pa_cons (pv 1) pa_nil)))
  (pss_one (ps_lock (ps_setLc (i := 6) (own := [("place", 4)]) (g := (gName 4)) (by rfl) sc_F_fill.nd rfl rfl (sw_true rfl rfl rfl (by decide +kernel)) (pi_keys (pv 5)) (blkOk_by (N := nm_F_fill) (sc := defScope s_F_fill) (by decide +kernel)) (fun _ _ _ _ _ => (pg_name (i := 4) sc_F_fill.nd rfl (by first | exact Or.inl rfl | exact Or.inr rfl))) (fun _ _ _ _ _ => (pts_one (pt_cmp (pc_din (hu_of hr) (pv 4) (pv 3))))) (fun _ _ _ _ _ => (pv 4))))))))
  (pss_one (ps_ret (pe_callB (k_sortedDI rfl) (by rfl) T.z_sorted (by decide +kernel) (pa_cons (pv 5) pa_nil)))))))), ?_⟩
    have hn := wf.n10
    have htl := wf.len
    -- ends
    walk_at "dn"
    refine r_lcL (enc := fun (n : Nat) => .int (n : Int)) (items := Ts) (p := fun _ => true) (f := fun n => .tuple [.int (n : Int), .bool true]) (gv_var rfl e hsnk) hTl (fun i it y B1 H1 hi g1 hy Y N hY _ => ?_) fun D0 B1 H1 g1 d1 => ?_
    · cases hy
      refine ⟨rfl, ?_⟩
      walk_at "dn"
      exact r_tup2 g1.bh (.int _) (.bl true) fun p B2 H2 g2 _ d2 => hY rfl _ _ _ g2 d2
    rw [filter_yes] at d1
    walk_at "dn"
    refine r_dictK (c := .bool true) (vc := .bl true) (fun _ _ => tru_inv) g1.bh d1 fun ends B2 H2 g2 hm => ?_
    have g12 := g1.trans g2
    walk_at "dn"
    obtain ⟨dx, vt, vn, q1, q2, q3⟩ := (fl.grow g12).ins
    refine ⟨x, dx, _, rfl, ((Gro.of g12 : Gof (fun a => a = da) B H B2 H2)).bh _ _ q1, by rfl, ?_⟩
    walk_at "dn"
    refine ⟨x, da, vsrc, s0, B2, n, ts, _, rfl, ((Gro.of g12 : Gof (fun a => a = da) B H B2 H2)).bh, fl.grow g12, wf, hsrc.up ((Gro.of g12 : Gof (fun a => a = da) B H B2 H2)).bb, hs, fun Dc B4 H4 kvs came g4 hDc bD hD cv co cl => ?_⟩
    walk_at "dn"
    refine ⟨Dc, _, hD, trivial, fun od => ?_⟩
    walk_at "dn"
    have cln : (came.map (·.1)).length ≤ n := pigeon _ n co.nd co.lt
    refine r_lcKeys (B := B4) (items := came.map (·.1)) (p := fun q => decide (q ∈ Ts)) (f := fun (n : Nat) => .int (n : Int)) rfl (g4.bh.mut bD) upd_same cv.keys bD (by omega) (fun i it B5 H5 hi g5 hd5 Y N hY hN => ?_) fun Lr B5 H5 g5 hd5 d5 => ?_
    · refine ⟨rfl, ?_⟩
      walk_at "dn"
      refine r_dinK g5.bh (((hm.up (Ex.refl B2)).up g4.bb).up g5.bb) fun o1 h1 => ?_
      walk_at "dn"
      rw [h1]
      refine ite2 (fun c => ?_) (fun c => ?_)
      · walk_at "dn"
        exact hY c _ _ _ (Gof.refl g5.bh) (.int _)
      · exact hN (by simpa using c) _ _ (Gof.refl g5.bh)
    walk_at "dn"
    refine ⟨hd5, ?_⟩
    have g6 := gro_lock (u := .dK kvs) (o := .frz od (.dK kvs)) hD bD trivial trivial g5
    have gE := ((Gro.of g12 : Gof (fun a => a = da) B H B2 H2)).trans (Gro.of (g4.trans g6))
    have fl6 := ((fl.grow g12).grow g4).grow g6
    have hdd : Dc ≠ da := fun z => by
      have := (fl.grow g12).at_
      rw [← z, hDc] at this
      cases this
    walk_at "dn"
    refine ⟨fun m σ' H' => ∃ (Bc : Hp) (Dc Lr : Addr) (am : List Int) (v : Int) (kvs : List (L2.Key × V)) (came : Came) (o4 : Option V), m = (sideW ts [s0] - v).toNat ∧ Gof (fun a => a = da) B H Bc H' ∧ Ex B2 Bc ∧ Fl C Bc H' n ts am x da ∧ Carry ts s0 Ts am v ∧ H' Dc = some (.dK kvs) ∧ Dc ≠ da ∧ CamV Bc kvs came ∧ CameOk n ts am s0 came ∧ Closed ts am came came.length ∧
      D Bc (.ref Lr) (dL (reachOf Ts came)) ∧ σ' = [some (.ref x), some vsrc, some vsnk, some (.ref ends), o4, some (.ref Dc), some (.ref Lr)],
      ⟨_, B5, Dc, Lr, _, 0, kvs, came, _, rfl, gE, g4.bb.trans g6.bb, fl6, Carry.zero wf.pos s0 Ts, upd_same, hdd, cv.up g6.bb, co, cl, d5, rfl⟩, ?_⟩
    rintro m σ' H' ⟨Bc, Dc, Lr, am, v, kvs, came, o4, rfl, gc, exc, flc, car, hD, hdd, cv, co, cl, dr, rfl⟩
    walk_at "dn"
    refine r_lenL gc.bh dr ?_
    have hl : (dN ((came.map (·.1)).filter fun q => decide (q ∈ Ts))).length = ((came.map (·.1)).filter fun q => decide (q ∈ Ts)).length := by unfold dN; rw [List.length_map]
    rw [hl]
    walk_at "dn"
    refine ite2 (fun c => ?_) (fun c => ?_)
    · have hpos : 0 < ((came.map (·.1)).filter fun q => decide (q ∈ Ts)).length := by
        have : (0 : Int) < (((came.map (·.1)).filter fun q => decide (q ∈ Ts)).length : Int) := by simpa using c
        omega
      obtain ⟨sink, hsk⟩ : ∃ q, ((came.map (·.1)).filter fun q => decide (q ∈ Ts))[0]? = some q := ⟨_, List.getElem?_eq_getElem hpos⟩
      have hmem := List.mem_filter.mp (List.mem_of_getElem? hsk)
      have hsinkT : sink ∈ Ts := by simpa using hmem.2
      have hss : sink ≠ s0 := fun z => hsT (z ▸ hsinkT)
      have hle := car.le hsT
      refine ⟨fun σ' H' => ∃ (Bc : Hp) (Dc Lr : Addr) (am : List Int) (v' : Int) (kvs : List (L2.Key × V)) (came : Came) (o4 : Option V), v < v' ∧ v' ≤ sideW ts [s0] ∧ Gof (fun a => a = da) B H Bc H' ∧ Ex B2 Bc ∧ Fl C Bc H' n ts am x da ∧ Carry ts s0 Ts am v' ∧ H' Dc = some (.dK kvs) ∧ Dc ≠ da ∧ CamV Bc kvs came ∧ CameOk n ts am s0 came ∧ Closed ts am came came.length ∧
        D Bc (.ref Lr) (dL (reachOf Ts came)) ∧ σ' = [some (.ref x), some vsrc, some vsnk, some (.ref ends), o4, some (.ref Dc), some (.ref Lr)], ?_, ?_⟩
      · rintro σ' H' ⟨Bc, Dc, Lr, am, v', kvs, came, o4, h1, h2, h3⟩
        exact ⟨(sideW ts [s0] - v').toNat, by omega, Bc, Dc, Lr, am, v', kvs, came, o4, rfl, h3⟩
      walk_at "dn"
      obtain ⟨dx, vt, vn, q1, q2, q3⟩ := flc.ins
      refine ⟨x, dx, _, rfl, gc.bh _ _ q1, by rfl, ?_⟩
      walk_at "dn"
      refine r_ixL (i := 0) gc.bh dr (by unfold dN; rw [List.getElem?_map, hsk]; rfl) fun vs hvs => ?_
      cases hvs
      walk_at "dn"
      refine ⟨x, da, Dc, s0, sink, Bc, n, ts, am, kvs, came, rfl, gc.bh, flc, wf, hD, cv, co, hmem.1, hss, hdd, fun B7 H7 mm l g7 b7 path hm0 hma h7 => ?_⟩
      walk_at "dn"
      have gc7 := gc.trans g7
      have lam : ∀ (l : List (Nat × Nat)) (am : List Int), (l.foldl (push ts mm) am).length = am.length := by
        intro l
        induction l with
        | nil => intro am; rfl
        | cons y l ih => intro am; rw [List.foldl_cons, ih, push_len]
      have fl7 : Fl C B7 H7 n ts (l.foldl (push ts mm) am) x da := by
        obtain ⟨dx, vt, vn, q1, q2, q3⟩ := flc.ins
        exact ⟨⟨dx, vt, vn, g7.bb _ _ q1, q2.up g7.bb, q3.up g7.bb⟩, h7, b7, (lam _ _).trans flc.len⟩
      have car7 := car.push co wf.lt hsinkT path (by omega) hma
      have hle7 := car7.le hsT
      have ex7 := exc.trans g7.bb
      clear hD hdd cv co cl dr hsk hmem hma path hpos hl
      obtain ⟨dx, vt, vn, q1, q2, q3⟩ := (fl7).ins
      refine ⟨x, dx, _, rfl, (gc7).bh _ _ q1, by rfl, ?_⟩
      walk_at "dn"
      refine ⟨x, da, vsrc, s0, B7, n, ts, _, rfl, (gc7).bh, fl7, wf, hsrc.up (gc7).bb, hs, fun Dc B4 H4 kvs came g4 hDc bD hD cv co cl => ?_⟩
      walk_at "dn"
      refine ⟨Dc, _, hD, trivial, fun od => ?_⟩
      walk_at "dn"
      have cln : (came.map (·.1)).length ≤ n := pigeon _ n co.nd co.lt
      refine r_lcKeys (B := B4) (items := came.map (·.1)) (p := fun q => decide (q ∈ Ts)) (f := fun (n : Nat) => .int (n : Int)) rfl (g4.bh.mut bD) upd_same cv.keys bD (by omega) (fun i it B5 H5 hi g5 hd5 Y N hY hN => ?_) fun Lr B5 H5 g5 hd5 d5 => ?_
      · refine ⟨rfl, ?_⟩
        walk_at "dn"
        refine r_dinK g5.bh (((hm.up ex7).up g4.bb).up g5.bb) fun o1 h1 => ?_
        walk_at "dn"
        rw [h1]
        refine ite2 (fun c => ?_) (fun c => ?_)
        · walk_at "dn"
          exact hY c _ _ _ (Gof.refl g5.bh) (.int _)
        · exact hN (by simpa using c) _ _ (Gof.refl g5.bh)
      walk_at "dn"
      refine ⟨hd5, ?_⟩
      have g6 := gro_lock (u := .dK kvs) (o := .frz od (.dK kvs)) hD bD trivial trivial g5
      have gE := (gc7).trans (Gro.of (g4.trans g6))
      have fl6 := ((fl7).grow g4).grow g6
      have hdd : Dc ≠ da := fun z => by
        have := (fl7).at_
        rw [← z, hDc] at this
        cases this
      walk_at "dn"
      exact ⟨B5, Dc, Lr, _, v + mm, kvs, came, _, by omega, hle7, gE, (ex7.trans g4.bb).trans g6.bb, fl6, car7, upd_same, hdd, cv.up g6.bb, co, cl, d5, rfl⟩
    · have hnil : ((came.map (·.1)).filter fun q => decide (q ∈ Ts)) = [] := by
        have : ¬ (0 : Int) < (((came.map (·.1)).filter fun q => decide (q ∈ Ts)).length : Int) := by simpa using c
        exact List.length_eq_zero_iff.mp (by omega)
      have no : ∀ q ∈ came.map (·.1), q ∉ Ts := fun q hq z => by
        have : q ∈ ((came.map (·.1)).filter fun q => decide (q ∈ Ts)) := List.mem_filter.mpr ⟨hq, by simpa using z⟩
        rw [hnil] at this
        simp at this
      walk_at "dn"
      refine r_sortDK gc.bh hD cv.keys co.nd (fun q hq => by have := co.lt q hq; omega) fun r B8 H8 g8 d8 => ?_
      exact k _ B8 H8 am _ (gc.trans (Gro.of g8)) (g8.fr _ _ flc.at_ trivial flc.un) (g8.hh _ _ flc.at_) d8 (car.done wf co cl no).1
def sp_flow (Cf : Addr) : Sp := fun vs H Q _ => ∃ (vw vsrc vsnk : V) (s : Nat) (Ts : List Nat) (B : Hp) (n : Nat) (ts : List Tie), vs = [vw, vsrc, vsnk] ∧ Ex B H ∧ D B vw (dWeb n ts) ∧ Wf n ts ∧ D B vsrc (dL [s]) ∧ D B vsnk (dL Ts) ∧ s < n ∧ s ∉ Ts ∧ Ts.length ≤ 1000 ∧
  ∀ v B' H' (am : List Int) S, Gro B H B' H' → MinSide ts s Ts S → D B' v (.tuple [.int (sideW ts S), .list (am.map PyData.int), dL S]) → Q v H'
theorem ok_flow (R : Raw K mg "flow" "flow" s_flow ["web", "sources", "sinks"]) (fc : FlC K C) (T : TB mg) (c_F_init : MakeT P w K mg base C "Flowing" 1 ["self", "web"] (sp_F_init C)) (c_F_fill : MethT P w K mg base C "fill" 3 ["self", "sources", "sinks"] (sp_F_fill C)) (c_side_weight : DefT P w K mg base "side_weight" 1 ["web", "side"] sp_side_weight) :
    DefT P w K mg base "flow" 4 ["web", "sources", "sinks"] (sp_flow C) := by
  refine R.ok fun f fd F => F.ok sc_flow (fun vs H Q E h => ?_) (fun cdv A outer s H vs Q E hr h => ?_)
  · obtain ⟨_, _, _, _, _, _, _, _, rfl, _⟩ := h
    rfl
  · obtain ⟨vw, vsrc, vsnk, s0, Ts, B, n, ts, rfl, e, hw, wf, hsrc, hsnk, hs, hsT, hTl, k⟩ := h
    refine ⟨_, (pss_cons (ps_set (i := 3) sc_flow.nd rfl (by first | exact Or.inl rfl | exact Or.inr rfl) (k_make c_F_init hr (pa_cons (pv 0) pa_nil)))
  (pss_cons (ps_set (i := 4) sc_flow.nd rfl (by first | exact Or.inl rfl | exact Or.inr rfl) (k_meth c_F_fill hr (pv 3) (pa_cons (pv 1) (pa_cons (pv 2) pa_nil))))
  (pss_one (ps_ret (pe_tup (pa_cons (k_call c_side_weight hr (pa_cons (pv 0) (pa_cons (pv 4) pa_nil))) (pa_cons (k_fld (K := K) (pv 3)) (pa_cons (pv 4) pa_nil)))))))), ?_⟩
    have htl := wf.len
    walk_at "dn"
    intro x dx hx hdx hne
    have g1 := gro_mut (o := .own x) e hdx
    have hx1 : upd H dx (.own x) x = none := by rw [upd_ne (Ne.symm hne)]; exact hx
    have g2 := g1.trans (gro_mut (o := .ins C dx []) g1.bh hx1)
    refine ⟨x, vw, dx, B, n, ts, rfl, g2.bh, upd_same, e.back hx, hw, wf, fun vt vn da B3 H3 g3 hx3 d1 d2 hda bda h3 => ?_⟩
    have g4 : Gro B H B3 H3 := g2.trans g3 fun y hy => .inr (by rw [hy]; exact hx)
    have bx3 : B3 x = none := g3.fr x _ upd_same trivial (e.back hx)
    have g5 := gro_know g4 hx bx3 hx3
    have ex5 : Ex B3 (upd B3 x (.ins C dx [("ties", vt), ("near", vn), ("amounts", .ref da)])) := Ex.new bx3
    have hda0 : H da = none := g2.back hda
    have ndx : da ≠ x := fun z => by rw [z, upd_same] at hda; cases hda
    have fl : Fl C (upd B3 x (.ins C dx [("ties", vt), ("near", vn), ("amounts", .ref da)])) H3 n ts (List.replicate ts.length 0) x da := ⟨⟨dx, vt, vn, upd_same, d1.up ex5, d2.up ex5⟩, h3, by rw [upd_ne ndx]; exact bda, by rw [List.length_replicate]⟩
    generalize upd B3 x (.ins C dx [("ties", vt), ("near", vn), ("amounts", .ref da)]) = B5 at g5 ex5 fl
    refine ⟨rfl, ?_⟩
    walk_at "dn"
    obtain ⟨dx2, vt2, vn2, q1, q2, q3⟩ := fl.ins
    refine ⟨x, dx2, _, rfl, g5.bh _ _ q1, by rfl, ?_⟩
    walk_at "dn"
    refine ⟨x, da, vsrc, vsnk, s0, Ts, B5, n, ts, rfl, g5.bh, fl, wf, hsrc.up g5.bb, hsnk.up g5.bb, hs, hsT, hTl, fun v B6 H6 am S g6 b6 h6 dv ms => ?_⟩
    have g7 : Gro B H B6 H6 := g5.trans g6 fun y hy => .inr (by rw [hy]; exact hda0)
    have lS : S.length ≤ 10 := pigeon S 10 (pw_nodup ms.pw) ms.lt
    walk_at "dn"
    refine ⟨vw, v, B6, n, ts, S, rfl, g7.bh, hw.up g7.bb, dv, by omega, by omega, fun B8 H8 g8 => ?_⟩
    walk_at "dn"
    refine ⟨x, C, dx2, _, .ref da, rfl, g8.bh _ _ (g8.bb _ _ (g6.bb _ _ q1)), fc.cls, fc.n3, by rfl, ?_⟩
    walk_at "dn"
    have h8 := g8.hh _ _ h6
    have b8 := g8.fr _ _ h6 trivial b6
    have g9 := gro_know (g7.trans g8) hda0 b8 h8
    have ex9 : Ex B8 (upd B8 da (.lst (vI am))) := Ex.new b8
    refine r_tup3 g9.bh (.int _) (.lst (ds := am.map PyData.int) upd_same (DA.ints am)) ((dv.up g8.bb).up ex9) fun p B10 H10 g10 _ d10 => ?_
    exact k _ _ _ am S (g9.trans g10) ms d10
end
end KPR
set_option Elab.async false
set_option linter.all false
set_option maxRecDepth 100000
set_option maxHeartbeats 2000000
/-! W11: greatest_at, singles, by_singles. -/
namespace KPR
open PySem L2
local macro_rules | `(tactic| walk_at "dn") => `(tactic| repeat (first
  | (with_reducible refine w_seq ?_) | (with_reducible refine w_asg ?_) | (with_reducible refine w_drop ?_) | (with_reducible refine w_ret ?_) | (with_reducible refine w_ifs ?_)
  | ((with_reducible refine' w_var ?hv ?_); (case hv => exact rfl)) | (with_reducible refine w_c ?_) | (with_reducible refine w_op ?_) | (with_reducible refine w_un ?_) | (with_reducible refine w_cb ?_)
  | (with_reducible refine w_nil ?_) | (with_reducible refine w_cons ?_) | (with_reducible refine w_gname ?_) | (with_reducible refine w_test ?_) | (with_reducible refine w_b ?_) | (with_reducible refine w_exbl ?_)
  | (with_reducible refine w_and ?_) | (with_reducible refine w_or ?_) | (with_reducible refine w_not ?_) | (with_reducible refine w_if ?_) | (with_reducible refine w_andV ?_) | (with_reducible refine w_orV ?_) | (with_reducible refine w_notV ?_)
  | (with_reducible refine w_tup ?_) | (with_reducible refine w_lst ?_) | (with_reducible refine w_dnewK ?_) | (with_reducible refine w_dnewT ?_) | (with_reducible refine w_din ?_) | (with_reducible refine w_dnin ?_) | (with_reducible refine w_dget ?_) | (with_reducible refine w_dget2 ?_)
  | (with_reducible refine w_fld ?_) | (with_reducible refine w_cal ?_) | (with_reducible refine w_met ?_) | (with_reducible refine w_mak ?_) | (with_reducible refine w_bm ?_) | (with_reducible refine w_bm0 ?_) | (with_reducible refine w_sl ?_)
  | (with_reducible refine w_nopart ?_) | (with_reducible refine w_part ?_) | (with_reducible refine w_sfld ?_) | (with_reducible refine w_dput ?_) | ((with_reducible refine' w_aug ?hv ?_); (case hv => exact rfl)) | (with_reducible refine w_iT ?_) | (with_reducible refine w_iF ?_)
  | (with_reducible refine w_ii0 ?_) | (with_reducible refine w_neg ?_) | (with_reducible refine w_ip ?_) | (with_reducible refine w_yes ?_) | (with_reducible refine w_for ?_) | (with_reducible refine w_ilist ?_) | (with_reducible refine w_itup ?_) | (with_reducible refine w_irng1 ?_) | (with_reducible refine w_irng2 ?_) | (with_reducible refine w_ienum ?_) | (with_reducible refine w_ienumT ?_)
  | (with_reducible refine w_ckw ?_) | (with_reducible refine w_gd ?_) | (with_reducible refine w_next ?_)))

section
variable {P : Program} {w : World} {K : PySem.W.Frag} {mg : Str → Option Value} {base : Heap} {C : Addr}
def sp_greatest_at : Sp := fun vs H Q _ => ∃ (v : V) (B : Hp) (ns : List Int), vs = [v] ∧ Ex B H ∧ D B v (.list (ns.map PyData.int)) ∧ 0 < ns.length ∧ Q (.int (greatest ns : Nat)) H
theorem ok_greatest_at (R : Raw K mg "greatest_at" "greatest_at" s_greatest_at ["values"]) (T : TB mg) : DefT P w K mg base "greatest_at" 1 ["values"] sp_greatest_at := by
  refine R.ok fun f fd F => F.ok sc_greatest_at (fun vs H Q E h => ?_) (fun cdv A outer s H vs Q E hr h => ?_)
  · obtain ⟨_, _, _, rfl, _⟩ := h
    rfl
  · obtain ⟨v, B, ns, rfl, e, hv, h0, k⟩ := h
    refine ⟨_, (pss_one (ps_ret (k_bm (K := K) PySem.F.plainAttrs_list PySem.F.slot_list_index PySem.F.type_list_index (k_index (K := K)) (pv 0) (pa_cons (pe_callB (k_max (K := K) rfl) (by rfl) T.z_max (by decide +kernel) (pa_cons (pv 0) pa_nil)) pa_nil)))), ?_⟩
    obtain ⟨a, xs, rfl, h1, h2⟩ := hv.lst_inv
    have exs := h2.ints_inv
    have hq := SqL.of (K := K) (e _ _ h1)
    walk_at "dn"
    refine ⟨.inl ⟨rfl, xs, hq⟩, ?_⟩
    walk_at "dn"
    refine r_max e hv h0 fun m hm hall => ?_
    walk_at "dn"
    obtain ⟨g1, g2⟩ := greatest_at hm hall
    refine ⟨a, xs, .int m, greatest ns, .int m, rfl, rfl, hq, rfl, ?_, ?_, ?_, fun j z hj hz => ?_, ?_⟩
    · rw [exs, List.all_map]
      exact List.all_eq_true.mpr fun _ _ => rfl
    · rw [exs, List.getElem?_map, g1]
      rfl
    · show (m == m) = true
      simp
    · rw [exs, List.getElem?_map] at hz
      cases hy : ns[j]? with
      | none => rw [hy] at hz; cases hz
      | some y =>
        rw [hy] at hz
        have : V.int y = z := Option.some.inj hz
        subst this
        have := g2 j y hj hy
        show (y == m) = false
        simpa using this
    · walk_at "dn"
      exact k
/-- a paper: value, amounts, side -/
abbrev Paper := Int × List Int × List Nat
def dPaper (p : Paper) : PyData := .tuple [.int p.1, .list (p.2.1.map PyData.int), dL p.2.2]
structure PapersOk (ts : List Tie) (ps : List Nat) (l : List Paper) : Prop where
  len : l.length = ps.length
  at_ : ∀ (i q : Nat), ps[i]? = some q → ∃ p, l[i]? = some p ∧ MinSide ts q (othersOf ps q) p.2.2 ∧ p.1 = sideW ts p.2.2
theorem PapersOk.sides {ts : List Tie} {ps : List Nat} {l : List Paper} (h : PapersOk ts ps l) : SidesOk ts ps (l.map fun p => p.2.2) := by
  refine ⟨by rw [List.length_map]; exact h.len, fun i q hq => ?_⟩
  obtain ⟨p, h1, h2, _⟩ := h.at_ i q hq
  exact ⟨p.2.2, by rw [List.getElem?_map, h1]; rfl, h2⟩
theorem PapersOk.vals {ts : List Tie} {ps : List Nat} {l : List Paper} (h : PapersOk ts ps l) : (l.map fun p => p.1) = (l.map fun p => p.2.2).map (sideW ts) := by
  rw [List.map_map]
  refine List.map_congr_left fun p hp => ?_
  obtain ⟨i, hi⟩ := List.mem_iff_getElem?.mp hp
  have hl := (List.getElem?_eq_some_iff.mp hi).1
  obtain ⟨p', h1, _, h3⟩ := h.at_ i (ps[i]'(by rw [← h.len]; exact hl)) (List.getElem?_eq_getElem _)
  rw [hi] at h1
  cases h1
  exact h3
theorem others_not (ps : List Nat) (q : Nat) : q ∉ othersOf ps q := fun h => by
  have := (List.mem_filter.mp h).2
  simp at this
def sp_singles : Sp := fun vs H Q _ => ∃ (vw vp : V) (B : Hp) (n : Nat) (ts : List Tie) (ps : List Nat), vs = [vw, vp] ∧ Ex B H ∧ D B vw (dWeb n ts) ∧ Wf n ts ∧ D B vp (dL ps) ∧ ps.length ≤ 1000 ∧ (∀ q ∈ ps, q < n) ∧
  ∀ v B' H' l, Gro B H B' H' → PapersOk ts ps l → D B' v (.list (l.map dPaper)) → Q v H'
theorem ok_singles (R : Raw K mg "singles" "singles" s_singles ["web", "posts"]) (T : TB mg) (c_flow : DefT P w K mg base "flow" 4 ["web", "sources", "sinks"] (sp_flow C)) (c_others_of : DefT P w K mg base "others_of" 1 ["posts", "post"] sp_others_of) : DefT P w K mg base "singles" 5 ["web", "posts"] sp_singles := by
  refine R.ok fun f fd F => F.ok sc_singles (fun vs H Q E h => ?_) (fun cdv A outer s H vs Q E hr h => ?_)
  · obtain ⟨_, _, _, _, _, _, rfl, _⟩ := h
    rfl
  · obtain ⟨vw, vp, B, n, ts, ps, rfl, e, hw, wf, hp, hpl, hlt, k⟩ := h
    refine ⟨_, (pss_one (ps_ret (pe_lc (own := [("post", 2)]) (g := (gName 2)) (by rfl) sc_singles.nd (k_ilist (K := K) (pv 1)) (blkOk_by (N := nm_singles) (sc := defScope s_singles) (by decide +kernel)) (fun _ _ _ _ _ => (pg_name (i := 2) sc_singles.nd rfl (by first | exact Or.inl rfl | exact Or.inr rfl))) (fun _ _ _ _ _ => pts_nil) (fun _ _ _ _ _ => (k_call c_flow hr (pa_cons (pv 0) (pa_cons (pe_lst (pa_cons (pv 2) pa_nil)) (pa_cons (k_call c_others_of hr (pa_cons (pv 1) (pa_cons (pv 2) pa_nil))) pa_nil)))))))), ?_⟩
    walk_at "dn"
    refine r_lcLg (F := F0) (enc := fun (n : Nat) => .int (n : Int)) (items := ps) (fun Dl i acc B' H' => ∃ l : List Paper, l.length = i ∧ DA B' acc (l.map dPaper) ∧ ∀ (j q : Nat), j < i → ps[j]? = some q → ∃ p, l[j]? = some p ∧ MinSide ts q (othersOf ps q) p.2.2 ∧ p.1 = sideW ts p.2.2) (gv_var rfl e hp) hpl
      (fun Dl B1 H1 g1 hD => ⟨[], rfl, .nil, fun j q hj => absurd hj (Nat.not_lt_zero _)⟩) (fun Dl B1 H1 i it x acc B' H' hit g1 hD g' bD eD la hx p => ?_) (fun Dl B1 H1 acc B' H' g1 hD g' bD eD p => ?_)
    · obtain ⟨l, hl, dl, hall⟩ := p
      intro Y N hY hN
      cases hx
      refine ⟨rfl, ?_⟩
      walk_at "dn"
      have g01 := g1.trans g'
      refine r_lst1 g'.bh (.int _) fun p2 B2 H2 g2 _ d2 => ?_
      walk_at "dn"
      refine ⟨vp, B2, ps, it, rfl, g2.bh, (hp.up g01.bb).up g2.bb, hpl, fun v3 B3 H3 g3 d3 => ?_⟩
      walk_at "dn"
      have g23 := g2.trans g3
      refine ⟨vw, _, v3, it, othersOf ps it, B3, n, ts, rfl, g3.bh, (hw.up g01.bb).up g23.bb, wf, (show D B2 (.ref p2) (dL [it]) from d2).up g3.bb, d3, hlt it (List.mem_of_getElem? hit), others_not ps it, Nat.le_trans (List.length_filter_le _ _) hpl, fun v4 B4 H4 am S g4 ms d4 => ?_⟩
      have g24 := g23.trans g4
      refine hY _ B4 H4 (g'.trans g24) (g24.fr _ _ eD trivial bD) (g24.hh _ _ eD) ⟨l ++ [(sideW ts S, am, S)], by rw [List.length_append, List.length_singleton, hl], ?_, fun j q hj hq => ?_⟩
      · rw [List.map_append]
        exact (dl.up g24.bb).app (.one d4)
      · by_cases hji : j < i
        · obtain ⟨p, h1, h2⟩ := hall j q hji hq
          exact ⟨p, by rw [List.getElem?_append_left (by omega)]; exact h1, h2⟩
        · have : j = i := by omega
          subst this
          rw [hit] at hq
          cases hq
          exact ⟨(sideW ts S, am, S), by rw [List.getElem?_append_right (by omega), hl, Nat.sub_self]; rfl, ms, rfl⟩
    · obtain ⟨l, hl, dl, hall⟩ := p
      have g2 := gro_know (g1.trans g') (g1.back hD) bD eD
      exact k _ _ _ l g2 ⟨hl, fun i q hq => hall i q (List.getElem?_eq_some_iff.mp hq).1 hq⟩ (.lst upd_same (dl.up (Ex.new bD)))
def kvC (c : List Pr) : List KD := c.map fun p => (kP p, V.bl true)
theorem kvC_keys (c : List Pr) : (kvC c).map (·.1) = c.map kP := by unfold kvC; rw [List.map_map]; rfl
theorem put_kvC (c : List Pr) (p : Pr) : putK (kvC c) (kP p) (.bl true) = kvC (cadd c p) := by
  unfold cadd
  by_cases h : p ∈ c
  · rw [if_pos h]
    have ha : ((kvC c).any fun kv => decide (kv.1 = kP p)) = true := List.any_eq_true.mpr ⟨(kP p, V.bl true), List.mem_map.mpr ⟨p, h, rfl⟩, by simp⟩
    unfold putK
    rw [if_pos ha]
    unfold kvC
    rw [List.map_map]
    refine List.map_congr_left fun q _ => ?_
    show (if kP q = kP p then (kP q, V.bl true) else (kP q, V.bl true)) = (kP q, V.bl true)
    split <;> rfl
  · rw [if_neg h, putK_new _ (valV_none (by rw [kvC_keys, kP_mem]; exact h))]
    unfold kvC
    rw [List.map_append]
    rfl
def sp_by_singles : Sp := fun vs H Q _ => ∃ (vw vp : V) (B : Hp) (n : Nat) (ts : List Tie) (ps : List Nat), vs = [vw, vp] ∧ Ex B H ∧ D B vw (dWeb n ts) ∧ Wf n ts ∧ D B vp (dL ps) ∧ ps.length ≤ 1000 ∧ 0 < ps.length ∧ (∀ q ∈ ps, q < n) ∧
  ∀ v B' H' sides dp, Gro B H B' H' → SidesOk ts ps sides → D B' v (.tuple [.int (cutW ts (partCut n ts ps sides)), dPairs (partCut n ts ps sides), dp]) → Q v H'
theorem ok_by_singles (R : Raw K mg "by_singles" "by_singles" s_by_singles ["web", "posts"]) (T : TB mg) (c_singles : DefT P w K mg base "singles" 5 ["web", "posts"] sp_singles) (c_greatest_at : DefT P w K mg base "greatest_at" 1 ["values"] sp_greatest_at)
    (c_edge_of : DefT P w K mg base "edge_of" 1 ["web", "side"] sp_edge_of) (c_pruned : DefT P w K mg base "pruned" 4 ["web", "posts", "cut"] sp_pruned) (c_weight_of : DefT P w K mg base "weight_of" 2 ["web", "cut"] sp_weight_of) : DefT P w K mg base "by_singles" 6 ["web", "posts"] sp_by_singles := by
  refine R.ok fun f fd F => F.ok sc_by_singles (fun vs H Q E h => ?_) (fun cdv A outer s H vs Q E hr h => ?_)
  · obtain ⟨_, _, _, _, _, _, rfl, _⟩ := h
    rfl
  · obtain ⟨vw, vp, B, n, ts, ps, rfl, e, hw, wf, hp, hpl, hp0, hlt, k⟩ := h
    refine ⟨_, (pss_cons (ps_set (i := 2) sc_by_singles.nd rfl (by first | exact Or.inl rfl | exact Or.inr rfl) (k_call c_singles hr (pa_cons (pv 0) (pa_cons (pv 1) pa_nil))))
  (pss_cons (ps_set (i := 3) sc_by_singles.nd rfl (by first | exact Or.inl rfl | exact Or.inr rfl) (k_call c_greatest_at hr (pa_cons (pe_lc (own := [("paper", 4)]) (g := (gName 4)) (by rfl) sc_by_singles.nd (k_ilist (K := K) (pv 2)) (blkOk_by (N := nm_by_singles) (sc := defScope s_by_singles) (by decide +kernel)) (fun _ _ _ _ _ => (pg_name (i := 4) sc_by_singles.nd rfl (by first | exact Or.inl rfl | exact Or.inr rfl))) (fun _ _ _ _ _ => pts_nil) (fun _ _ _ _ _ => (pe_ix (k_ixT (K := K)) (pv 4) pe_int (fun _ _ => rfl)))) pa_nil)))
  (pss_cons (ps_set (i := 5) sc_by_singles.nd rfl (by first | exact Or.inl rfl | exact Or.inr rfl) pe_dnewT)
  (pss_cons (ps_for PassesOwn.never rfl (k_enumL (K := K) (by rfl) T.z_enumerate (pa_cons (pv 2) pa_nil)) (k_gtup (K := K) (by rfl) (pgs_cons (pg_name (i := 6) sc_by_singles.nd rfl (by first | exact Or.inl rfl | exact Or.inr rfl)) (pgs_cons (pg_name (i := 4) sc_by_singles.nd rfl (by first | exact Or.inl rfl | exact Or.inr rfl)) pgs_nil))) (pss_one (ps_if (pt_cmpR op_ne (pv 6) (pv 3) (nomark _)) (pss_one (ps_for PassesOwn.never rfl (k_ilist (K := K) (k_call c_edge_of hr (pa_cons (pv 0) (pa_cons (pe_ix (k_ixT (K := K)) (pv 4) pe_int (fun _ _ => rfl)) pa_nil)))) (pg_name (i := 7) sc_by_singles.nd rfl (by first | exact Or.inl rfl | exact Or.inr rfl)) (pss_one (ps_dput (hu_of hr) (pv 5) (pv 7) pe_bl rfl)))) pss_nil)))
  (pss_cons (ps_set (i := 8) sc_by_singles.nd rfl (by first | exact Or.inl rfl | exact Or.inr rfl) (k_call c_pruned hr (pa_cons (pv 0) (pa_cons (pv 1) (pa_cons (pe_callB (k_sortDT rfl) (by rfl) T.z_sorted (by decide +kernel) (pa_cons (pv 5) pa_nil)) pa_nil)))))
  (pss_one (ps_ret (pe_tup (pa_cons (k_call c_weight_of hr (pa_cons (pv 0) (pa_cons (pv 8) pa_nil))) (pa_cons (pv 8) (pa_cons (pv 2) pa_nil))))))))))), ?_⟩
    have htl := wf.len
    walk_at "dn"
    refine ⟨vw, vp, B, n, ts, ps, rfl, e, hw, wf, hp, hpl, hlt, fun v1 B1 H1 l g1 ok d1 => ?_⟩
    have hll := ok.len
    walk_at "dn"
    refine r_lcL (B := B1) (enc := dPaper) (items := l) (p := fun _ => true) (f := fun p => .int p.1) (gv_var rfl g1.bh d1) (by omega) (fun i it x B2 H2 hi g2 hx Y N hY _ => ?_) fun D0 B2 H2 g2 d2 => ?_
    · refine ⟨rfl, ?_⟩
      walk_at "dn"
      exact r_ixT (i := 0) g2.bh hx rfl fun v hv => hY rfl _ _ _ (Gof.refl g2.bh) hv
    rw [filter_yes] at d2
    have e2 : l.map (fun p => PyData.int p.1) = (l.map fun p => p.1).map PyData.int := by rw [List.map_map]; rfl
    rw [e2] at d2
    walk_at "dn"
    refine ⟨_, B2, l.map fun p => p.1, rfl, g2.bh, d2, by rw [List.length_map]; omega, ?_⟩
    rw [ok.vals]
    generalize hlo : greatest ((l.map fun p => p.2.2).map (sideW ts)) = lo
    walk_at "dn"
    refine r_newM g2.bh fun Dc H3 hDc g3 e3 b3 => ?_
    walk_at "dn"
    have g13 := (g1.trans g2).trans g3
    have hDc0 := (g1.trans g2).back hDc
    have hDc3 : H3 Dc = some (.dT (kvC [])) := by rw [e3, upd_same]; rfl
    refine loopEL (F := FA) l dPaper g13.bh (d1.up (g2.trans g3).bb) ⟨fun i σ' B' H' => ∃ (c : List Pr) (o4 o6 o7 o8 : Option V), σ' = [some vw, some vp, some v1, some (.int (lo : Int)), o4, some (.ref Dc), o6, o7, o8] ∧ Gro B H B' H' ∧ Ex B2 B' ∧ B' Dc = none ∧ H' Dc = some (.dT (kvC c)) ∧ c.Nodup ∧
      (∀ p, p ∈ c ↔ p ∈ ((((l.map fun p => p.2.2).zipIdx.take i).filter fun x => !decide (x.2 = lo)).flatMap fun x => edgesT ts x.1)), ⟨[], _, _, _, _, rfl, g13, Ex.refl _, b3, hDc3, List.nodup_nil, fun p => by simp⟩, fun i y σ' B0 H0 B' H' hi gB0 p gN hy => ?_, fun σ' B' H' gB p => ?_⟩
    · obtain ⟨c, o4, o6, o7, o8, rfl, g', ex2, bD, hD, nd, mem⟩ := p
      obtain ⟨pp, hpp, hd⟩ := hy
      have hD2 := gN.hh _ _ hD
      have bD2 := gN.fr Dc _ hD trivial bD
      have g2' := g'.trans gN
      refine g_tup2 gN.bh hd fun v6 v4 h6 h4 => ?_
      cases h6
      have csub : ∀ p ∈ c, p ∈ ts.map prOf := fun p hp => by
        obtain ⟨y, _, hy⟩ := List.mem_flatMap.mp ((mem p).mp hp)
        exact (edges_lt wf hy).1
      have tk : ((l.map fun p => p.2.2).zipIdx.take (i + 1)) = ((l.map fun p => p.2.2).zipIdx.take i) ++ [(pp.2.2, i)] := by
        rw [List.take_add_one, List.getElem?_zipIdx, List.getElem?_map, hpp]
        simp
      walk_at "dn"
      refine ⟨rfl, ?_⟩
      walk_at "dn"
      rw [nat_eq]
      refine ite2 (fun cc => ?_) (fun cc => ?_)
      · have hil : ¬ i = lo := by simpa using cc
        walk_at "dn"
        refine r_ixT (i := 2) gN.bh h4 rfl fun vS hS => ?_
        walk_at "dn"
        have mlen : pp.2.2.length ≤ 10 := by
          have hil2 := (List.getElem?_eq_some_iff.mp hpp).1
          obtain ⟨p', h1, ms, _⟩ := ok.at_ i (ps[i]'(by omega)) (List.getElem?_eq_getElem _)
          rw [hpp] at h1
          cases h1
          exact pigeon _ 10 (pw_nodup ms.pw) ms.lt
        refine ⟨vw, vS, _, n, ts, pp.2.2, rfl, gN.bh, hw.up g2'.bb, hS, by omega, by omega, fun vE B6 H6 g6 hE => ?_⟩
        have hD6 := g6.hh _ _ hD2
        have bD6 := g6.fr Dc _ hD2 trivial bD2
        have gB6 := gB0.trans (Gro.of (gN.trans g6))
        refine loopL (F := FA) (edgesT ts pp.2.2) dPair g6.bh hE ⟨fun j σ' B7 H7 => B7 = B6 ∧ ∃ (o7 : Option V), σ' = [some vw, some vp, some v1, some (.int (lo : Int)), some v4, some (.ref Dc), some (.int (i : Int)), o7, o8] ∧ Gro B H B6 H7 ∧ H7 Dc = some (.dT (kvC (((edgesT ts pp.2.2).take j).foldl cadd c))), ⟨rfl, _, rfl, g2'.trans g6, hD6⟩, fun j y σ' B7 H7 hj gB7 hy p => ?_, fun σ' B7 H7 gB7 p => ?_⟩
        · obtain ⟨rfl, o7', rfl, g7, hD7⟩ := p
          obtain ⟨pr, hpr, hdp⟩ := hy
          obtain ⟨q, xs, rfl, _, _⟩ := hdp.tup_inv
          have ndj : (((edgesT ts pp.2.2).take j).foldl cadd c).Nodup := caddL_nd _ nd
          have lj : (((edgesT ts pp.2.2).take j).foldl cadd c).length ≤ 45 := by
            have := pr_nodup_len _ (ts.map prOf) ndj fun p hp => by
              rcases (mem_caddL _).mp hp with z | z
              · exact csub p z
              · exact (edges_lt wf (List.take_subset _ _ z)).1
            rw [List.length_map] at this
            omega
          walk_at "dn"
          refine r_putT (p := pr) hD7 (g7.bh _ _ (pair_at hdp)) (by unfold kvC; rw [List.length_map]; omega) ?_
          walk_at "dn"
          refine ⟨B7, gB7.trans (gof_set (F := FA) gB7.bh trivial bD6), rfl, _, rfl, gro_set g7 hDc0 bD6, ?_⟩
          rw [upd_same, put_kvC, List.take_add_one, hpr, Option.toList_some, List.foldl_append]
          rfl
        · obtain ⟨rfl, o7', rfl, g7, hD7⟩ := p
          rw [List.take_length] at hD7
          refine ⟨B7, gB6.trans gB7, (edgesT ts pp.2.2).foldl cadd c, _, _, _, _, rfl, g7, (ex2.trans gN.bb).trans g6.bb, bD6, hD7, caddL_nd _ nd, fun p => ?_⟩
          rw [mem_caddL, mem, tk, List.filter_append, List.flatMap_append, List.mem_append]
          simp [hil]
      · have hil : i = lo := by simpa using cc
        walk_at "dn"
        refine ⟨_, gB0.trans (Gro.of gN), c, _, _, _, _, rfl, g2', ex2.trans gN.bb, bD2, hD2, nd, fun p => ?_⟩
        rw [mem, tk, List.filter_append, List.flatMap_append, List.mem_append]
        simp [hil]
    · obtain ⟨c, o4, o6, o7, o8, rfl, g', ex2, bD, hD, nd, mem⟩ := p
      have tkl : ((l.map fun p => p.2.2).zipIdx.take l.length) = (l.map fun p => p.2.2).zipIdx := List.take_of_length_le (by rw [List.length_zipIdx, List.length_map]; exact Nat.le_refl _)
      rw [tkl] at mem
      have clt : ∀ p ∈ c, p ∈ ts.map prOf ∧ p.1 < 10 ∧ p.2 < 10 := fun p hp => by
        obtain ⟨y, _, hy⟩ := List.mem_flatMap.mp ((mem p).mp hp)
        exact edges_lt wf hy
      have cl : c.length ≤ 45 := by
        have := pr_nodup_len c (ts.map prOf) nd fun p hp => (clt p hp).1
        rw [List.length_map] at this
        omega
      have ec : sortPr c = singleCut ts (l.map fun p => p.2.2) lo := sortPr_congr mem
      have scl : (sortPr c).length ≤ 45 := Nat.le_trans (pr_nodup_len _ c (sortPr_nodup c) fun p hp => (mem_sortPr.mp hp).2) cl
      have g3' := gB
      walk_at "dn"
      refine r_sortDT g'.bh hD (kvC_keys c) nd (by omega) (fun p hp => (clt p hp).2) fun q B6 H6 g6 d6 => ?_
      walk_at "dn"
      have g06 := g'.trans g6
      refine ⟨vw, vp, _, B6, n, ts, ps, sortPr c, rfl, g6.bh, hw.up g06.bb, wf, hp.up g06.bb, hpl, d6, sortPr_nodup c, by omega, fun p hp => (mem_sortPr.mp hp).1, fun vt B7 H7 g7 d7 => ?_⟩
      have ep : prunedT n ts ps (sortPr c) = partCut n ts ps (l.map fun p => p.2.2) := by
        unfold partCut
        rw [hlo, ec]
      have pl : (prunedT n ts ps (sortPr c)).length ≤ 45 := by
        unfold prunedT
        exact Nat.le_trans (prune_sub n ts ps _ _).1 (Nat.le_trans (pr_nodup_len _ (sortPr c) (sortPr_nodup _) fun p hp => (mem_sortPr.mp hp).2) scl)
      rw [ep] at d7 pl
      walk_at "dn"
      have g07 := g06.trans g7
      refine ⟨vw, vt, B7, n, ts, _, rfl, g7.bh, hw.up g07.bb, d7, by omega, by omega, fun B8 H8 g8 => ?_⟩
      walk_at "dn"
      have g08 := g07.trans g8
      refine r_tup3 g8.bh (.int _) (d7.up g8.bb) (d1.up ((g2.bb.trans ex2).trans (g6.bb.trans (g7.bb.trans g8.bb)))) fun r B9 H9 g9 _ d9 => ?_
      exact k _ _ _ _ _ (g08.trans g9) ok.sides d9
end
end KPR
set_option Elab.async false
set_option linter.all false
set_option maxRecDepth 100000
set_option maxHeartbeats 2000000
/-! W12: Keeper: web_now, posts_now, cut_of, find, singles_now, parting_now. -/
namespace KPR
open PySem L2
local macro_rules | `(tactic| walk_at "dn") => `(tactic| repeat (first
  | (with_reducible refine w_seq ?_) | (with_reducible refine w_asg ?_) | (with_reducible refine w_drop ?_) | (with_reducible refine w_ret ?_) | (with_reducible refine w_ifs ?_)
  | ((with_reducible refine' w_var ?hv ?_); (case hv => exact rfl)) | (with_reducible refine w_c ?_) | (with_reducible refine w_op ?_) | (with_reducible refine w_un ?_) | (with_reducible refine w_cb ?_)
  | (with_reducible refine w_nil ?_) | (with_reducible refine w_cons ?_) | (with_reducible refine w_gname ?_) | (with_reducible refine w_test ?_) | (with_reducible refine w_b ?_) | (with_reducible refine w_exbl ?_)
  | (with_reducible refine w_and ?_) | (with_reducible refine w_or ?_) | (with_reducible refine w_not ?_) | (with_reducible refine w_if ?_) | (with_reducible refine w_andV ?_) | (with_reducible refine w_orV ?_) | (with_reducible refine w_notV ?_)
  | (with_reducible refine w_tup ?_) | (with_reducible refine w_lst ?_) | (with_reducible refine w_dnewK ?_) | (with_reducible refine w_dnewT ?_) | (with_reducible refine w_din ?_) | (with_reducible refine w_dnin ?_) | (with_reducible refine w_dget ?_) | (with_reducible refine w_dget2 ?_)
  | (with_reducible refine w_fld ?_) | (with_reducible refine w_cal ?_) | (with_reducible refine w_met ?_) | (with_reducible refine w_mak ?_) | (with_reducible refine w_bm ?_) | (with_reducible refine w_bm0 ?_) | (with_reducible refine w_sl ?_)
  | (with_reducible refine w_nopart ?_) | (with_reducible refine w_part ?_) | (with_reducible refine w_sfld ?_) | (with_reducible refine w_dput ?_) | ((with_reducible refine' w_aug ?hv ?_); (case hv => exact rfl)) | (with_reducible refine w_iT ?_) | (with_reducible refine w_iF ?_)
  | (with_reducible refine w_ii0 ?_) | (with_reducible refine w_neg ?_) | (with_reducible refine w_ip ?_) | (with_reducible refine w_yes ?_) | (with_reducible refine w_for ?_) | (with_reducible refine w_ilist ?_) | (with_reducible refine w_itup ?_) | (with_reducible refine w_irng1 ?_) | (with_reducible refine w_irng2 ?_) | (with_reducible refine w_ienum ?_) | (with_reducible refine w_ienumT ?_)
  | (with_reducible refine w_ckw ?_) | (with_reducible refine w_gd ?_) | (with_reducible refine w_next ?_)))

section
variable {P : Program} {w : World} {K : PySem.W.Frag} {mg : Str → Option Value} {base : Heap} {C Cf : Addr}
/-- the instance and its weights -/
structure KW0 (C : Addr) (B H : Hp) (n : Nat) (x wa ka pa : Addr) (vp vs : V) (W : Wt) : Prop where
  ins : ∃ dx, H x = some (.ins C dx (flds n wa vp ka pa vs))
  wd : WD H wa W
  ok : WOk n W
theorem KW0.grow {B H B' H' : Hp} {n : Nat} {x wa ka pa : Addr} {vp vs : V} {W : Wt} {F : Addr → Prop} (h : KW0 C B H n x wa ka pa vp vs W) (g : Gof F B H B' H') (h1 : ¬ F x) (h2 : ¬ F wa) : KW0 C B' H' n x wa ka pa vp vs W :=
  ⟨let ⟨dx, a⟩ := h.ins; ⟨dx, g.kp _ _ a h1⟩, h.wd.grow g h2, h.ok⟩
def sp_K_web_now (C : Addr) : Sp := fun vs H Q _ => ∃ (x wa ka pa : Addr) (vp vseen : V) (B : Hp) (n : Nat) (W : Wt), vs = [.ref x] ∧ Ex B H ∧ KW0 C B H n x wa ka pa vp vseen W ∧ ∀ v B' H', Gro B H B' H' → D B' v (dWeb n (tiesOf W)) → Q v H'
theorem ok_K_web_now (R : RawM K C "web_now" "Keeper.web_now" s_K_web_now ["self"]) (kc : KpC K C) (T : TB mg) : MethT P w K mg base C "web_now" 1 ["self"] (sp_K_web_now C) := by
  refine R.ok kc.cls fun f fd F => F.ok sc_K_web_now (fun vs H Q E h => ?_) (fun cdv A outer s H vs Q E hr h => ?_)
  · obtain ⟨_, _, _, _, _, _, _, _, _, rfl, _⟩ := h
    rfl
  · obtain ⟨x, wa, ka, pa, vp, vseen, B, n, W, rfl, e, kw, k⟩ := h
    refine ⟨_, (pss_one (ps_ret (pe_tup (pa_cons (k_fld (K := K) (pv 0)) (pa_cons (pe_callTy (k_tuple (K := K)) (by rfl) T.z_tuple (by decide +kernel) (pa_cons (pe_lc (own := [("pair", 1)]) (g := (gName 1)) (by rfl) sc_K_web_now.nd (k_ilist (K := K) (pe_callB (k_sortDT rfl) (by rfl) T.z_sorted (by decide +kernel) (pa_cons (k_fld (K := K) (pv 0)) pa_nil))) (blkOk_by (N := nm_K_web_now) (sc := defScope s_K_web_now) (by decide +kernel)) (fun _ _ _ _ _ => (pg_name (i := 1) sc_K_web_now.nd rfl (by first | exact Or.inl rfl | exact Or.inr rfl))) (fun _ _ _ _ _ => pts_nil) (fun _ _ _ _ _ => (pe_op (k_catT (K := K)) (pv 1) (pe_tup (pa_cons (pe_dget (hu_of hr) (k_fld (K := K) (pv 0)) (pv 1) (fun _ _ => rfl)) pa_nil))))) pa_nil)) pa_nil))))), ?_⟩
    obtain ⟨dx, hx⟩ := kw.ins
    obtain ⟨c, hc, nd, mem⟩ := kw.wd
    have hn := kw.ok.n10
    have clt : ∀ p ∈ c, p.1 < 10 ∧ p.2 < 10 := fun p hp => by
      have := kw.ok.ok p ((mem p).mp hp)
      omega
    have cl : c.length ≤ 45 := by
      have := pr_nodup_len c (supp W) nd fun p hp => (mem_supp kw.ok).mpr ((mem p).mp hp)
      have := supp_len kw.ok
      omega
    have es : sortPr c = supp W := supp_sort kw.ok mem
    walk_at "dn"
    refine ⟨x, C, dx, _, .int (n : Int), rfl, hx, kc.cls, kc.n1, by rfl, ?_⟩
    walk_at "dn"
    refine r_lcL (B := B) (enc := dPair) (items := supp W) (p := fun _ => true) (f := fun p => dTie (mkT W p)) (fun R r => ?_) (by have := supp_len kw.ok; omega) (fun i it y B1 H1 hi g1 hy Y N hY _ => ?_) fun D0 B1 H1 g1 d1 => ?_
    · walk_at "dn"
      refine ⟨x, C, dx, _, .ref wa, rfl, hx, kc.cls, kc.n2, by rfl, ?_⟩
      walk_at "dn"
      refine r_sortDT e hc (kvW_keys c W) nd (by omega) clt fun q B1 H1 g1 d1 => ?_
      rw [es] at d1
      exact r _ _ _ g1 d1
    · refine ⟨rfl, ?_⟩
      walk_at "dn"
      refine ⟨x, C, dx, _, .ref wa, rfl, g1.hh _ _ hx, kc.cls, kc.n2, by rfl, ?_⟩
      walk_at "dn"
      obtain ⟨q, xs, rfl, _, _⟩ := hy.tup_inv
      have hin : it ∈ c := (mem it).mpr ((mem_supp kw.ok).mp (List.mem_of_getElem? hi))
      refine ⟨wa, .int (W it), rfl, ?_, ?_⟩
      · have := DGet.t (k := kP it) (g1.hh _ _ hc) (g1.bh _ _ (pair_at hy))
        rwa [kvW_get nd, if_pos hin] at this
      walk_at "dn"
      refine r_tup1 g1.bh (.int _) fun p2 B2 H2 g2 _ d2 => ?_
      exact r_catT g2.bh (hy.up g2.bb) d2 (by simp) (by simp) (by show 3 ≤ 100000; decide) fun p3 B3 H3 g3 d3 => hY rfl _ _ _ (g2.trans g3) d3
    rw [filter_yes] at d1
    walk_at "dn"
    refine r_tupleL g1.bh d1 fun q B2 H2 g2 d2 => ?_
    walk_at "dn"
    refine r_tup2 g2.bh (.int _) d2 fun p B3 H3 g3 _ d3 => k _ _ _ ((g1.trans g2).trans g3) ?_
    have et : (tiesOf W).map dTie = (supp W).map fun p => dTie (mkT W p) := by unfold tiesOf; rw [List.map_map]; rfl
    unfold dWeb
    rw [et]
    exact d3
def sp_K_posts_now (C : Addr) : Sp := fun vs H Q _ => ∃ (x wa ka pa : Addr) (vp vseen : V) (B : Hp) (n : Nat) (dx : Addr) (ps : List Nat), vs = [.ref x] ∧ Ex B H ∧ H x = some (.ins C dx (flds n wa vp ka pa vseen)) ∧ D B vp (dL ps) ∧ ∀ v B' H', Gro B H B' H' → D B' v (dL ps) → Q v H'
theorem ok_K_posts_now (R : RawM K C "posts_now" "Keeper.posts_now" s_K_posts_now ["self"]) (kc : KpC K C) (T : TB mg) : MethT P w K mg base C "posts_now" 1 ["self"] (sp_K_posts_now C) := by
  refine R.ok kc.cls fun f fd F => F.ok sc_K_posts_now (fun vs H Q E h => ?_) (fun cdv A outer s H vs Q E hr h => ?_)
  · obtain ⟨_, _, _, _, _, _, _, _, _, _, rfl, _⟩ := h
    rfl
  · obtain ⟨x, wa, ka, pa, vp, vseen, B, n, dx, ps, rfl, e, hx, hp, k⟩ := h
    refine ⟨_, (pss_one (ps_ret (pe_callTy (k_list (K := K)) (by rfl) T.z_list (by decide +kernel) (pa_cons (k_fld (K := K) (pv 0)) pa_nil)))), ?_⟩
    walk_at "dn"
    refine ⟨x, C, dx, _, vp, rfl, hx, kc.cls, kc.n3, by rfl, ?_⟩
    walk_at "dn"
    exact r_listL e hp fun p B1 H1 g1 d1 => k _ _ _ g1 d1
def sp_K_cut_of (C : Addr) : Sp := fun vs H Q _ => ∃ (x wa ka pa : Addr) (vp vseen : V) (B : Hp) (n : Nat) (k : KS) (q : Nat), vs = [.ref x, .int (q : Int)] ∧ Ex B H ∧ KW0 C B H n x wa ka pa vp vseen k.W ∧ D B vp (dL k.ps) ∧ k.ps.length ≤ 1000 ∧ q < n ∧
  ∀ v B' H' (am : List Int), Gro B H B' H' → MinSide (tiesOf k.W) q (othersOf k.ps q) (sideK k q) → D B' v (.tuple [.int (valK k q), .list (am.map PyData.int), dL (sideK k q)]) → Q v H'
theorem ok_K_cut_of (R : RawM K C "cut_of" "Keeper.cut_of" s_K_cut_of ["self", "post"]) (kc : KpC K C) (T : TB mg) (c_flow : DefT P w K mg base "flow" 4 ["web", "sources", "sinks"] (sp_flow Cf)) (c_K_web_now : MethT P w K mg base C "web_now" 1 ["self"] (sp_K_web_now C)) : MethT P w K mg base C "cut_of" 5 ["self", "post"] (sp_K_cut_of C) := by
  refine R.ok kc.cls fun f fd F => F.ok sc_K_cut_of (fun vs H Q E h => ?_) (fun cdv A outer s H vs Q E hr h => ?_)
  · obtain ⟨_, _, _, _, _, _, _, _, _, _, rfl, _⟩ := h
    rfl
  · obtain ⟨x, wa, ka, pa, vp, vseen, B, n, ks, q, rfl, e, kw, hp, hpl, hq, k⟩ := h
    refine ⟨_, (pss_one (ps_ret (k_call c_flow hr (pa_cons (k_meth0 c_K_web_now hr (pv 0)) (pa_cons (pe_lst (pa_cons (pv 1) pa_nil)) (pa_cons (pe_lc (own := [("other", 2)]) (g := (gName 2)) (by rfl) sc_K_cut_of.nd (k_ilist (K := K) (k_fld (K := K) (pv 0))) (blkOk_by (N := nm_K_cut_of) (sc := defScope s_K_cut_of) (by decide +kernel)) (fun _ _ _ _ _ => (pg_name (i := 2) sc_K_cut_of.nd rfl (by first | exact Or.inl rfl | exact Or.inr rfl))) (fun _ _ _ _ _ => (pts_one (pt_cmpR op_ne (pv 2) (pv 1) (nomark _)))) (fun _ _ _ _ _ => (pv 2))) pa_nil)))))), ?_⟩
    obtain ⟨dx, hx⟩ := kw.ins
    walk_at "dn"
    refine ⟨x, dx, _, rfl, hx, by rfl, ?_⟩
    walk_at "dn"
    refine ⟨x, wa, ka, pa, vp, vseen, B, n, ks.W, rfl, e, kw, fun v1 B1 H1 g1 d1 => ?_⟩
    walk_at "dn"
    refine r_lst1 g1.bh (.int _) fun p2 B2 H2 g2 _ d2 => ?_
    have g12 := g1.trans g2
    walk_at "dn"
    refine r_lcL (B := B2) (enc := fun (n : Nat) => .int (n : Int)) (items := ks.ps) (p := fun y => !decide (y = q)) (f := fun (n : Nat) => .int (n : Int)) (fun R r => ?_) hpl (fun i it y B3 H3 hi g3 hy Y N hY hN => ?_) fun D0 B3 H3 g3 d3 => ?_
    · walk_at "dn"
      refine ⟨x, C, dx, _, vp, rfl, g12.hh _ _ hx, kc.cls, kc.n3, by rfl, ?_⟩
      exact r _ _ _ (Gof.refl g12.bh) (hp.up g12.bb)
    · cases hy
      refine ⟨rfl, ?_⟩
      walk_at "dn"
      refine ⟨rfl, ?_⟩
      walk_at "dn"
      rw [nat_eq]
      refine ite2 (fun c => ?_) (fun c => ?_)
      · walk_at "dn"
        exact hY c _ _ _ (Gof.refl g3.bh) (.int _)
      · exact hN (by simpa using c) _ _ (Gof.refl g3.bh)
    walk_at "dn"
    refine ⟨v1, _, _, q, othersOf ks.ps q, B3, n, tiesOf ks.W, rfl, g3.bh, (d1.up g2.bb).up g3.bb, tiesOf_wf kw.ok, (show D B2 (.ref p2) (dL [q]) from d2).up g3.bb, d3, hq, others_not ks.ps q, Nat.le_trans (List.length_filter_le _ _) hpl, fun v B4 H4 am S g4 ms d4 => ?_⟩
    have eS : sideK ks q = S := mside_of ms
    refine k v B4 H4 am ((g12.trans g3).trans g4) (by rw [eS]; exact ms) ?_
    unfold valK
    rw [eS]
    exact d4
end
end KPR
set_option Elab.async false
set_option linter.all false
set_option maxRecDepth 100000
set_option maxHeartbeats 2000000
/-! W13: Keeper: find, singles_now, parting_now. -/
namespace KPR
open PySem L2
local macro_rules | `(tactic| walk_at "dn") => `(tactic| repeat (first
  | (with_reducible refine w_seq ?_) | (with_reducible refine w_asg ?_) | (with_reducible refine w_drop ?_) | (with_reducible refine w_ret ?_) | (with_reducible refine w_ifs ?_)
  | ((with_reducible refine' w_var ?hv ?_); (case hv => exact rfl)) | (with_reducible refine w_c ?_) | (with_reducible refine w_op ?_) | (with_reducible refine w_un ?_) | (with_reducible refine w_cb ?_)
  | (with_reducible refine w_nil ?_) | (with_reducible refine w_cons ?_) | (with_reducible refine w_gname ?_) | (with_reducible refine w_test ?_) | (with_reducible refine w_b ?_) | (with_reducible refine w_exbl ?_)
  | (with_reducible refine w_and ?_) | (with_reducible refine w_or ?_) | (with_reducible refine w_not ?_) | (with_reducible refine w_if ?_) | (with_reducible refine w_andV ?_) | (with_reducible refine w_orV ?_) | (with_reducible refine w_notV ?_)
  | (with_reducible refine w_tup ?_) | (with_reducible refine w_lst ?_) | (with_reducible refine w_dnewK ?_) | (with_reducible refine w_dnewT ?_) | (with_reducible refine w_din ?_) | (with_reducible refine w_dnin ?_) | (with_reducible refine w_dget ?_) | (with_reducible refine w_dget2 ?_)
  | (with_reducible refine w_fld ?_) | (with_reducible refine w_cal ?_) | (with_reducible refine w_met ?_) | (with_reducible refine w_mak ?_) | (with_reducible refine w_bm ?_) | (with_reducible refine w_bm0 ?_) | (with_reducible refine w_sl ?_)
  | (with_reducible refine w_nopart ?_) | (with_reducible refine w_part ?_) | (with_reducible refine w_sfld ?_) | (with_reducible refine w_dput ?_) | ((with_reducible refine' w_aug ?hv ?_); (case hv => exact rfl)) | (with_reducible refine w_iT ?_) | (with_reducible refine w_iF ?_)
  | (with_reducible refine w_ii0 ?_) | (with_reducible refine w_neg ?_) | (with_reducible refine w_ip ?_) | (with_reducible refine w_yes ?_) | (with_reducible refine w_for ?_) | (with_reducible refine w_ilist ?_) | (with_reducible refine w_itup ?_) | (with_reducible refine w_irng1 ?_) | (with_reducible refine w_irng2 ?_) | (with_reducible refine w_ienum ?_) | (with_reducible refine w_ienumT ?_)
  | (with_reducible refine w_ckw ?_) | (with_reducible refine w_gd ?_) | (with_reducible refine w_next ?_)))

def fput (f : Nat → Option (Int × List Nat)) (q : Nat) (x : Int × List Nat) : Nat → Option (Int × List Nat) := fun q' => if q' = q then some x else f q'
theorem KDm.put {B H : Hp} {ka : Addr} {f : Nat → Option (Int × List Nat)} (h : KDm B H ka f) {q : Nat} {v : Int} {S : List Nat} {u : V} (hq : q < 10) (d : D B u (.tuple [.int v, dL S])) :
    ∃ kk, H ka = some (.dK kk) ∧ kk.length ≤ 10 ∧ KDm B (upd H ka (.dK (putK kk (kN q) u))) ka (fput f q (v, S)) := by
  obtain ⟨kk, ks, h1, h2, h3, h4, h5, h6⟩ := h
  have hl : kk.length = ks.length := by
    have := congrArg List.length h2
    rwa [List.length_map, List.length_map] at this
  have hl2 := pigeon ks 10 h3 h5
  refine ⟨kk, h1, by omega, putK kk (kN q) u, if q ∈ ks then ks else ks ++ [q], upd_same, ?_, ?_, fun q' => ?_, fun q' hq' => ?_, fun q' v' S' e => ?_⟩
  · by_cases hin : q ∈ ks
    · rw [if_pos hin]
      have ha : (kk.any fun kv => decide (kv.1 = kN q)) = true := by
        rw [valV_any, valV_isSome, h2]
        simp only [kN_mem]
        exact decide_eq_true hin
      unfold putK
      rw [if_pos ha, List.map_map, ← h2]
      refine List.map_congr_left fun p _ => ?_
      show (if p.1 = kN q then (p.1, u) else p).1 = p.1
      split <;> rfl
    · rw [if_neg hin, putK_new _ (valV_none (by rw [h2, kN_mem]; exact hin)), List.map_append, List.map_append, h2]
      rfl
  · split
    · exact h3
    · rename_i hin
      refine List.nodup_append.mpr ⟨h3, by simp, fun a ha b hb => ?_⟩
      rw [List.mem_singleton.mp hb]
      exact fun z => hin (by rw [← z]; exact ha)
  · unfold fput
    by_cases e : q' = q
    · subst e
      rw [if_pos rfl]
      refine ⟨fun _ => rfl, fun _ => ?_⟩
      split
      · assumption
      · simp
    · rw [if_neg e, ← h4 q']
      split
      · exact Iff.rfl
      · simp [e]
  · split at hq'
    · exact h5 q' hq'
    · rcases List.mem_append.mp hq' with z | z
      · exact h5 q' z
      · rw [List.mem_singleton.mp z]; exact hq
  · unfold fput at e
    by_cases e2 : q' = q
    · subst e2
      rw [if_pos rfl] at e
      cases e
      exact ⟨u, by rw [valV_put, if_pos rfl], d⟩
    · rw [if_neg e2] at e
      obtain ⟨u', a, b⟩ := h6 q' v' S' e
      exact ⟨u', by rw [valV_put, if_neg (fun z => e2 (kN_inj.mp z))]; exact a, b⟩
section
variable {P : Program} {w : World} {K : PySem.W.Frag} {mg : Str → Option Value} {base : Heap} {C Cf : Addr}
def sp_K_find (C : Addr) : Sp := fun vs H Q _ => ∃ (x wa ka pa : Addr) (vp vseen vl : V) (B : Hp) (n : Nat) (k : KS) (l : List Nat) (f : Nat → Option (Int × List Nat)), vs = [.ref x, vl] ∧ Ex B H ∧ KW0 C B H n x wa ka pa vp vseen k.W ∧ D B vp (dL k.ps) ∧ k.ps.length ≤ 1000 ∧ D B vl (dL l) ∧ (∀ q ∈ l, q < n) ∧
  KDm B H ka f ∧ B ka = none ∧ x ≠ ka ∧ wa ≠ ka ∧
  ∀ B' H' f', Gof (fun a => a = ka) B H B' H' → B' ka = none → KDm B' H' ka f' → (∀ q, q ∉ l → f' q = f q) → (∀ q ∈ l, f' q = some (valK k q, sideK k q) ∧ MinSide (tiesOf k.W) q (othersOf k.ps q) (sideK k q)) → Q .non H'
theorem ok_K_find (R : RawM K C "find" "Keeper.find" s_K_find ["self", "posts"]) (kc : KpC K C) (T : TB mg) (c_K_cut_of : MethT P w K mg base C "cut_of" 5 ["self", "post"] (sp_K_cut_of C)) : MethT P w K mg base C "find" 6 ["self", "posts"] (sp_K_find C) := by
  refine R.ok kc.cls fun f fd F => F.ok sc_K_find (fun vs H Q E h => ?_) (fun cdv A outer s H vs Q E hr h => ?_)
  · obtain ⟨_, _, _, _, _, _, _, _, _, _, _, _, rfl, _⟩ := h
    rfl
  · obtain ⟨x, wa, ka, pa, vp, vseen, vl, B, n, ks, l, f0, rfl, e, kw, hp, hpl, hl, hlt, kd, bka, nxk, nwk, k⟩ := h
    refine ⟨_, (pss_one (ps_for PassesOwn.never rfl (k_ilist (K := K) (pv 1)) (pg_name (i := 2) sc_K_find.nd rfl (by first | exact Or.inl rfl | exact Or.inr rfl)) (pss_cons (ps_asg (k_meth c_K_cut_of hr (pv 0) (pa_cons (pv 2) pa_nil)) (k_gtup (K := K) (by rfl) (pgs_cons (pg_name (i := 3) sc_K_find.nd rfl (by first | exact Or.inl rfl | exact Or.inr rfl)) (pgs_cons (pg_name (i := 4) sc_K_find.nd rfl (by first | exact Or.inl rfl | exact Or.inr rfl)) (pgs_cons (pg_name (i := 5) sc_K_find.nd rfl (by first | exact Or.inl rfl | exact Or.inr rfl)) pgs_nil)))))
  (pss_one (ps_dput (hu_of hr) (k_fld (K := K) (pv 0)) (pv 2) (pe_tup (pa_cons (pv 3) (pa_cons (pv 5) pa_nil))) rfl))))), ?_⟩
    have hn := kw.ok.n10
    walk_at "dn"
    refine loopL (F := fun a => a = ka) l (fun (n : Nat) => .int (n : Int)) e hl ⟨fun i σ' B' H' => ∃ (f' : Nat → Option (Int × List Nat)) (o2 o3 o4 o5 : Option V), σ' = [some (.ref x), some vl, o2, o3, o4, o5] ∧ B' ka = none ∧ KDm B' H' ka f' ∧ (∀ q, q ∉ l.take i → f' q = f0 q) ∧ (∀ q ∈ l.take i, f' q = some (valK ks q, sideK ks q) ∧ MinSide (tiesOf ks.W) q (othersOf ks.ps q) (sideK ks q)),
      ⟨f0, _, _, _, _, rfl, bka, kd, fun q _ => rfl, fun q hq => by simp at hq⟩, fun i y σ' B' H' hi gB hy p => ?_, fun σ' B' H' gB p => ?_⟩
    · obtain ⟨f', o2, o3, o4, o5, rfl, bk, kd', hout, hin⟩ := p
      obtain ⟨q, hq, hd⟩ := hy
      cases hd
      have kw' := kw.grow gB nxk nwk
      obtain ⟨dx, hx⟩ := kw'.ins
      walk_at "dn"
      refine ⟨x, dx, _, rfl, hx, by rfl, ?_⟩
      walk_at "dn"
      refine ⟨x, wa, ka, pa, vp, vseen, B', n, ks, q, rfl, gB.bh, kw', hp.up gB.bb, hpl, hlt q (List.mem_of_getElem? hq), fun v B2 H2 am g2 ms d2 => ?_⟩
      refine g_tup3 g2.bh d2 fun v3 v4 v5 h3 h4 h5 => ?_
      cases h3
      walk_at "dn"
      refine r_tup2 g2.bh (.int _) h5 fun p3 B3 H3 g3 _ d3 => ?_
      have g23 := g2.trans g3
      walk_at "dn"
      refine ⟨x, C, dx, _, .ref ka, rfl, g23.hh _ _ hx, kc.cls, kc.n4, by rfl, ?_⟩
      walk_at "dn"
      obtain ⟨kk, hk1, hk2, hk3⟩ := (kd'.grow g23 fun z => z).put (q := q) (by have := hlt q (List.mem_of_getElem? hq); omega) d3
      obtain ⟨kk0, _, hk0, _⟩ := kd'
      have bk3 : B3 ka = none := g23.fr ka _ hk0 trivial bk
      refine r_putK hk1 (by omega) ?_
      walk_at "dn"
      refine ⟨B3, (gB.trans (Gro.of g23)).trans (gof_set (F := fun a => a = ka) g23.bh rfl bk3), _, _, _, _, _, rfl, bk3, hk3, fun q' hq' => ?_, fun q' hq' => ?_⟩
      · rw [List.take_add_one, hq, Option.toList_some] at hq'
        simp only [List.mem_append, List.mem_singleton, not_or] at hq'
        unfold fput
        rw [if_neg hq'.2]
        exact hout q' hq'.1
      · rw [List.take_add_one, hq, Option.toList_some] at hq'
        unfold fput
        by_cases e1 : q' = q
        · subst e1
          rw [if_pos rfl]
          exact ⟨rfl, ms⟩
        · rw [if_neg e1]
          rcases List.mem_append.mp hq' with z | z
          · exact hin q' z
          · exact absurd (List.mem_singleton.mp z) e1
    · obtain ⟨f', o2, o3, o4, o5, rfl, bk, kd', hout, hin⟩ := p
      rw [List.take_length] at hout hin
      walk_at "dn"
      exact k B' H' f' gB bk kd' hout hin
def sp_K_singles_now (C : Addr) : Sp := fun vs H Q _ => ∃ (x wa ka pa : Addr) (vp vseen : V) (B : Hp) (n : Nat) (k : KS), vs = [.ref x] ∧ Ex B H ∧ KW0 C B H n x wa ka pa vp vseen k.W ∧ D B vp (dL k.ps) ∧ k.ps.length ≤ 1000 ∧ (∀ q ∈ k.ps, q < n) ∧ KDm B H ka (fK k) ∧
  ∀ v B' H' (l : List Paper), Gro B H B' H' → l.length = k.ps.length → (∀ (i q : Nat), k.ps[i]? = some q → ∃ am : List Int, l[i]? = some (valK k q, am, sideK k q)) → D B' v (.list (l.map dPaper)) → Q v H'
theorem ok_K_singles_now (R : RawM K C "singles_now" "Keeper.singles_now" s_K_singles_now ["self"]) (kc : KpC K C) (T : TB mg) (c_K_cut_of : MethT P w K mg base C "cut_of" 5 ["self", "post"] (sp_K_cut_of C)) : MethT P w K mg base C "singles_now" 6 ["self"] (sp_K_singles_now C) := by
  refine R.ok kc.cls fun f fd F => F.ok sc_K_singles_now (fun vs H Q E h => ?_) (fun cdv A outer s H vs Q E hr h => ?_)
  · obtain ⟨_, _, _, _, _, _, _, _, _, rfl, _⟩ := h
    rfl
  · obtain ⟨x, wa, ka, pa, vp, vseen, B, n, ks, rfl, e, kw, hp, hpl, hlt, kd, k⟩ := h
    refine ⟨_, (pss_one (ps_ret (pe_lc (own := [("post", 1)]) (g := (gName 1)) (by rfl) sc_K_singles_now.nd (k_ilist (K := K) (k_fld (K := K) (pv 0))) (blkOk_by (N := nm_K_singles_now) (sc := defScope s_K_singles_now) (by decide +kernel)) (fun _ _ _ _ _ => (pg_name (i := 1) sc_K_singles_now.nd rfl (by first | exact Or.inl rfl | exact Or.inr rfl))) (fun _ _ _ _ _ => pts_nil) (fun _ _ _ _ _ => (pe_tup (pa_cons (pe_ix (k_ixT (K := K)) (pe_dget (hu_of hr) (k_fld (K := K) (pv 0)) (pv 1) (fun _ _ => rfl)) pe_int (fun _ _ => rfl)) (pa_cons (pe_ix (k_ixT (K := K)) (k_meth c_K_cut_of hr (pv 0) (pa_cons (pv 1) pa_nil)) pe_int (fun _ _ => rfl)) (pa_cons (pe_callTy (k_list (K := K)) (by rfl) T.z_list (by decide +kernel) (pa_cons (pe_ix (k_ixT (K := K)) (pe_dget (hu_of hr) (k_fld (K := K) (pv 0)) (pv 1) (fun _ _ => rfl)) pe_int (fun _ _ => rfl)) pa_nil)) pa_nil)))))))), ?_⟩
    obtain ⟨dx, hx⟩ := kw.ins
    walk_at "dn"
    refine r_lcLg (F := F0) (B := B) (enc := fun (n : Nat) => .int (n : Int)) (items := ks.ps) (fun Dl i acc B' H' => ∃ l : List Paper, l.length = i ∧ DA B' acc (l.map dPaper) ∧ ∀ (j q : Nat), j < i → ks.ps[j]? = some q → ∃ am : List Int, l[j]? = some (valK ks q, am, sideK ks q)) (fun R r => ?_) hpl
      (fun Dl B1 H1 g1 hD => ⟨[], rfl, .nil, fun j q hj => absurd hj (Nat.not_lt_zero _)⟩) (fun Dl B1 H1 i it y acc B' H' hit g1 hD g' bD eD la hy p => ?_) (fun Dl B1 H1 acc B' H' g1 hD g' bD eD p => ?_)
    · walk_at "dn"
      exact ⟨x, C, dx, _, vp, rfl, hx, kc.cls, kc.n3, by rfl, r _ _ _ (Gof.refl e) hp⟩
    · obtain ⟨l, hl, dl, hall⟩ := p
      intro Y N hY hN
      cases hy
      refine ⟨rfl, ?_⟩
      have hitm := List.mem_of_getElem? hit
      have g01 := g1.trans g'
      have kw1 := kw.grow g01 (fun z => z) (fun z => z)
      obtain ⟨kk, kks, hk1, _, _, _, _, hk6⟩ := kd.grow g01 (fun z => z)
      obtain ⟨u, hu1, hu2⟩ := hk6 it (valK ks it) (sideK ks it) (by unfold fK; rw [if_pos hitm])
      have hx1 := g01.hh _ _ hx
      walk_at "dn"
      refine ⟨x, C, dx, _, .ref ka, rfl, hx1, kc.cls, kc.n4, by rfl, ?_⟩
      walk_at "dn"
      refine ⟨ka, u, rfl, by rw [← hu1]; exact DGet.k (k := kN it) hk1, ?_⟩
      walk_at "dn"
      refine r_ixT (i := 0) g'.bh hu2 rfl fun v0 h0 => ?_
      cases h0
      walk_at "dn"
      refine ⟨x, dx, _, rfl, hx1, by rfl, ?_⟩
      walk_at "dn"
      refine ⟨x, wa, ka, pa, vp, vseen, B', n, ks, it, rfl, g'.bh, kw1, hp.up g01.bb, hpl, hlt it hitm, fun v2 B2 H2 am g2 ms d2 => ?_⟩
      walk_at "dn"
      refine r_ixT (i := 1) g2.bh d2 rfl fun v1 h1 => ?_
      walk_at "dn"
      refine ⟨x, C, dx, _, .ref ka, rfl, g2.hh _ _ hx1, kc.cls, kc.n4, by rfl, ?_⟩
      walk_at "dn"
      refine ⟨ka, u, rfl, by rw [← hu1]; exact DGet.k (k := kN it) (g2.hh _ _ hk1), ?_⟩
      walk_at "dn"
      refine r_ixT (i := 1) g2.bh (hu2.up g2.bb) rfl fun vs2 hs2 => ?_
      walk_at "dn"
      refine r_listL g2.bh hs2 fun p3 B3 H3 g3 d3 => ?_
      walk_at "dn"
      refine r_tup3 g3.bh (.int _) (h1.up g3.bb) d3 fun p4 B4 H4 g4 _ d4 => ?_
      have g24 := (g2.trans g3).trans g4
      refine hY _ B4 H4 (g'.trans g24) (g24.fr _ _ eD trivial bD) (g24.hh _ _ eD) ⟨l ++ [(valK ks it, am, sideK ks it)], by rw [List.length_append, List.length_singleton, hl], ?_, fun j q hj hq => ?_⟩
      · rw [List.map_append]
        exact (dl.up g24.bb).app (.one d4)
      · by_cases hji : j < i
        · obtain ⟨am', h1⟩ := hall j q hji hq
          exact ⟨am', by rw [List.getElem?_append_left (by omega)]; exact h1⟩
        · have : j = i := by omega
          subst this
          rw [hit] at hq
          cases hq
          exact ⟨am, by rw [List.getElem?_append_right (by omega), hl, Nat.sub_self]; rfl⟩
    · obtain ⟨l, hl, dl, hall⟩ := p
      have g2 := gro_know (g1.trans g') (g1.back hD) bD eD
      exact k _ _ _ l g2 hl (fun i q hq => hall i q (List.getElem?_eq_some_iff.mp hq).1 hq) (.lst upd_same (dl.up (Ex.new bD)))
def sp_K_parting_now (C : Addr) : Sp := fun vs H Q _ => ∃ (x wa ka pa : Addr) (vp vseen : V) (B : Hp) (n : Nat) (k : KS), vs = [.ref x] ∧ Ex B H ∧ KW0 C B H n x wa ka pa vp vseen k.W ∧ D B vp (dL k.ps) ∧ k.ps.length ≤ 1000 ∧ 0 < k.ps.length ∧ (∀ q ∈ k.ps, q < n) ∧
  ∀ v B' H', Gro B H B' H' → D B' v (.tuple [.int (cutW (tiesOf k.W) (cutK n k)), dPairs (cutK n k)]) → Q v H'
theorem ok_K_parting_now (R : RawM K C "parting_now" "Keeper.parting_now" s_K_parting_now ["self"]) (kc : KpC K C) (T : TB mg) (c_by_singles : DefT P w K mg base "by_singles" 6 ["web", "posts"] sp_by_singles) (c_K_web_now : MethT P w K mg base C "web_now" 1 ["self"] (sp_K_web_now C)) : MethT P w K mg base C "parting_now" 7 ["self"] (sp_K_parting_now C) := by
  refine R.ok kc.cls fun f fd F => F.ok sc_K_parting_now (fun vs H Q E h => ?_) (fun cdv A outer s H vs Q E hr h => ?_)
  · obtain ⟨_, _, _, _, _, _, _, _, _, rfl, _⟩ := h
    rfl
  · obtain ⟨x, wa, ka, pa, vp, vseen, B, n, ks, rfl, e, kw, hp, hpl, hp0, hlt, k⟩ := h
    refine ⟨_, (pss_cons (ps_asg (k_call c_by_singles hr (pa_cons (k_meth0 c_K_web_now hr (pv 0)) (pa_cons (k_fld (K := K) (pv 0)) pa_nil))) (k_gtup (K := K) (by rfl) (pgs_cons (pg_name (i := 1) sc_K_parting_now.nd rfl (by first | exact Or.inl rfl | exact Or.inr rfl)) (pgs_cons (pg_name (i := 2) sc_K_parting_now.nd rfl (by first | exact Or.inl rfl | exact Or.inr rfl)) (pgs_cons (pg_name (i := 3) sc_K_parting_now.nd rfl (by first | exact Or.inl rfl | exact Or.inr rfl)) pgs_nil)))))
  (pss_one (ps_ret (pe_tup (pa_cons (pv 1) (pa_cons (pv 2) pa_nil)))))), ?_⟩
    obtain ⟨dx, hx⟩ := kw.ins
    walk_at "dn"
    refine ⟨x, dx, _, rfl, hx, by rfl, ?_⟩
    walk_at "dn"
    refine ⟨x, wa, ka, pa, vp, vseen, B, n, ks.W, rfl, e, kw, fun v1 B1 H1 g1 d1 => ?_⟩
    walk_at "dn"
    refine ⟨x, C, dx, _, vp, rfl, g1.hh _ _ hx, kc.cls, kc.n3, by rfl, ?_⟩
    walk_at "dn"
    refine ⟨v1, vp, B1, n, tiesOf ks.W, ks.ps, rfl, g1.bh, d1, tiesOf_wf kw.ok, hp.up g1.bb, hpl, hp0, hlt, fun v2 B2 H2 sides dp g2 ok d2 => ?_⟩
    rw [sides_of ok] at d2
    refine g_tup3 g2.bh d2 fun va vb vc ha hb hc => ?_
    walk_at "dn"
    exact r_tup2 g2.bh ha hb fun p B3 H3 g3 _ d3 => k _ _ _ ((g1.trans g2).trans g3) d3
end
end KPR
set_option Elab.async false
set_option linter.all false
set_option maxRecDepth 100000
set_option maxHeartbeats 2000000
/-! W14: Keeper: state, otherwise_than, look_place, begin, has_one_end. -/
namespace KPR
open PySem L2
local macro_rules | `(tactic| walk_at "dn") => `(tactic| repeat (first
  | (with_reducible refine w_seq ?_) | (with_reducible refine w_asg ?_) | (with_reducible refine w_drop ?_) | (with_reducible refine w_ret ?_) | (with_reducible refine w_ifs ?_)
  | ((with_reducible refine' w_var ?hv ?_); (case hv => exact rfl)) | (with_reducible refine w_c ?_) | (with_reducible refine w_op ?_) | (with_reducible refine w_un ?_) | (with_reducible refine w_cb ?_)
  | (with_reducible refine w_nil ?_) | (with_reducible refine w_cons ?_) | (with_reducible refine w_gname ?_) | (with_reducible refine w_test ?_) | (with_reducible refine w_b ?_) | (with_reducible refine w_exbl ?_)
  | (with_reducible refine w_and ?_) | (with_reducible refine w_or ?_) | (with_reducible refine w_not ?_) | (with_reducible refine w_if ?_) | (with_reducible refine w_andV ?_) | (with_reducible refine w_orV ?_) | (with_reducible refine w_notV ?_)
  | (with_reducible refine w_tup ?_) | (with_reducible refine w_lst ?_) | (with_reducible refine w_dnewK ?_) | (with_reducible refine w_dnewT ?_) | (with_reducible refine w_din ?_) | (with_reducible refine w_dnin ?_) | (with_reducible refine w_dget ?_) | (with_reducible refine w_dget2 ?_)
  | (with_reducible refine w_fld ?_) | (with_reducible refine w_cal ?_) | (with_reducible refine w_met ?_) | (with_reducible refine w_mak ?_) | (with_reducible refine w_bm ?_) | (with_reducible refine w_bm0 ?_) | (with_reducible refine w_sl ?_)
  | (with_reducible refine w_nopart ?_) | (with_reducible refine w_part ?_) | (with_reducible refine w_sfld ?_) | (with_reducible refine w_dput ?_) | ((with_reducible refine' w_aug ?hv ?_); (case hv => exact rfl)) | (with_reducible refine w_iT ?_) | (with_reducible refine w_iF ?_)
  | (with_reducible refine w_ii0 ?_) | (with_reducible refine w_neg ?_) | (with_reducible refine w_ip ?_) | (with_reducible refine w_yes ?_) | (with_reducible refine w_for ?_) | (with_reducible refine w_ilist ?_) | (with_reducible refine w_itup ?_) | (with_reducible refine w_irng1 ?_) | (with_reducible refine w_irng2 ?_) | (with_reducible refine w_ienum ?_) | (with_reducible refine w_ienumT ?_)
  | (with_reducible refine w_ckw ?_) | (with_reducible refine w_gd ?_) | (with_reducible refine w_chain ?_) | (with_reducible refine w_next ?_)))

section
variable {P : Program} {w : World} {K : PySem.W.Frag} {mg : Str → Option Value} {base : Heap} {C Cf : Addr}
def sp_K_look_place (C : Addr) : Sp := fun vs H Q _ => ∃ (x wa ka pa : Addr) (vp vseen : V) (n : Nat) (dx : Addr) (p : Nat), vs = [.ref x, .int (p : Int)] ∧ H x = some (.ins C dx (flds n wa vp ka pa vseen)) ∧ p < n ∧ Q .non H
theorem ok_K_look_place (R : RawM K C "look_place" "Keeper.look_place" s_K_look_place ["self", "place"]) (kc : KpC K C) (T : TB mg) : MethT P w K mg base C "look_place" 1 ["self", "place"] (sp_K_look_place C) := by
  refine R.ok kc.cls fun f fd F => F.ok sc_K_look_place (fun vs H Q E h => ?_) (fun cdv A outer s H vs Q E hr h => ?_)
  · obtain ⟨_, _, _, _, _, _, _, _, _, rfl, _⟩ := h
    rfl
  · obtain ⟨x, wa, ka, pa, vp, vseen, n, dx, p, rfl, hx, hp, k⟩ := h
    refine ⟨_, (pss_one (ps_if (pt_not (pt_chain op_le op_lt pe_int (pv 1) (k_fld (K := K) (pv 0)))) (pss_one ps_never) pss_nil)), ?_⟩
    walk_at "dn"
    rw [decide_eq_true (show (0 : Int) ≤ (p : Int) by omega)]
    walk_at "dn"
    refine ⟨x, C, dx, _, .int (n : Int), rfl, hx, kc.cls, kc.n1, by rfl, ?_⟩
    walk_at "dn"
    rw [decide_eq_true (show (p : Int) < (n : Int) by omega)]
    show if (!true) = true then _ else _
    rw [Bool.not_true]
    walk_at "dn"
    exact k
def sp_K_has_one_end (C : Addr) : Sp := fun vs H Q _ => ∃ (x wa ka pa : Addr) (vp vseen : V) (B : Hp) (n : Nat) (dx : Addr) (q a b : Nat) (f : Nat → Option (Int × List Nat)) (v : Int) (S : List Nat), vs = [.ref x, .int (q : Int), .int (a : Int), .int (b : Int)] ∧ Ex B H ∧ H x = some (.ins C dx (flds n wa vp ka pa vseen)) ∧ KDm B H ka f ∧ f q = some (v, S) ∧ Q (.bl (sep S a b)) H
theorem ok_K_has_one_end (R : RawM K C "has_one_end" "Keeper.has_one_end" s_K_has_one_end ["self", "post", "a", "b"]) (kc : KpC K C) (T : TB mg) : MethT P w K mg base C "has_one_end" 1 ["self", "post", "a", "b"] (sp_K_has_one_end C) := by
  refine R.ok kc.cls fun f fd F => F.ok sc_K_has_one_end (fun vs H Q E h => ?_) (fun cdv A outer s H vs Q E hr h => ?_)
  · obtain ⟨_, _, _, _, _, _, _, _, _, _, _, _, _, _, _, rfl, _⟩ := h
    rfl
  · obtain ⟨x, wa, ka, pa, vp, vseen, B, n, dx, q, a, b, f', v, S, rfl, e, hx, kd, hf, k⟩ := h
    refine ⟨_, (pss_cons (ps_set (i := 4) sc_K_has_one_end.nd rfl (by first | exact Or.inl rfl | exact Or.inr rfl) (pe_ix (k_ixT (K := K)) (pe_dget (hu_of hr) (k_fld (K := K) (pv 0)) (pv 1) (fun _ _ => rfl)) pe_int (fun _ _ => rfl)))
  (pss_one (ps_ret (pe_cmpR op_ne (pe_cmpR (k_in (K := K)) (pv 2) (pv 4) (by with_unfolding_all rfl)) (pe_cmpR (k_in (K := K)) (pv 3) (pv 4) (by with_unfolding_all rfl)) (nomark _))))), ?_⟩
    obtain ⟨kk, h1, _, h3⟩ := kd.val q
    obtain ⟨u, u1, u2⟩ := h3 v S hf
    walk_at "dn"
    refine ⟨x, C, dx, _, .ref ka, rfl, hx, kc.cls, kc.n4, by rfl, ?_⟩
    walk_at "dn"
    refine ⟨ka, u, rfl, by rw [← u1]; exact DGet.k (k := kN q) h1, ?_⟩
    walk_at "dn"
    refine r_ixT (i := 1) e u2 rfl fun vs2 hs2 => ?_
    walk_at "dn"
    refine r_in e hs2 ?_
    walk_at "dn"
    refine r_in e hs2 ?_
    refine ⟨rfl, ?_⟩
    rw [bl_ne]
    exact k
def sp_K_state (C : Addr) : Sp := fun vs H Q _ => ∃ (x wa ka pa : Addr) (vp vseen : V) (B : Hp) (n : Nat) (W : Wt) (ps : List Nat) (f : Nat → Option (Int × List Nat)), vs = [.ref x] ∧ Ex B H ∧ KW0 C B H n x wa ka pa vp vseen W ∧ D B vp (dL ps) ∧ KDm B H ka f ∧
  ∀ t wi ki vpi B' H', Gro B H B' H' → H wi = none → H ki = none → wi ≠ ki → B' wi = none → B' ki = none → B' t = some (.tup [.ref wi, vpi, .ref ki]) → WD H' wi W → KDm B' H' ki f → D B' vpi (dL ps) → Q (.ref t) H'
theorem ok_K_state (R : RawM K C "state" "Keeper.state" s_K_state ["self"]) (kc : KpC K C) (T : TB mg) : MethT P w K mg base C "state" 1 ["self"] (sp_K_state C) := by
  refine R.ok kc.cls fun f fd F => F.ok sc_K_state (fun vs H Q E h => ?_) (fun cdv A outer s H vs Q E hr h => ?_)
  · obtain ⟨_, _, _, _, _, _, _, _, _, _, _, rfl, _⟩ := h
    rfl
  · obtain ⟨x, wa, ka, pa, vp, vseen, B, n, W, ps, f', rfl, e, kw, hp, kd, k⟩ := h
    refine ⟨_, (pss_one (ps_ret (pe_tup (pa_cons (pe_callTy (k_copyT hr.units) (by rfl) T.z_dict (by decide +kernel) (pa_cons (k_fld (K := K) (pv 0)) pa_nil)) (pa_cons (pe_callTy (k_list (K := K)) (by rfl) T.z_list (by decide +kernel) (pa_cons (k_fld (K := K) (pv 0)) pa_nil)) (pa_cons (pe_callTy k_dictD (by rfl) T.z_dict (by decide +kernel) (pa_cons (k_fld (K := K) (pv 0)) pa_nil)) pa_nil)))))), ?_⟩
    obtain ⟨dx, hx⟩ := kw.ins
    obtain ⟨c, hc, nd, mem⟩ := kw.wd
    obtain ⟨kk, ks, k1, k2, k3, k4, k5, k6⟩ := kd
    have hn := kw.ok.n10
    walk_at "dn"
    refine ⟨x, C, dx, _, .ref wa, rfl, hx, kc.cls, kc.n2, by rfl, ?_⟩
    walk_at "dn"
    refine ⟨wa, kvW c W, rfl, hc, hash_kvW nd fun p hp => allP_mem.mpr (by have := kw.ok.ok p ((mem p).mp hp); omega), fun wi hwi => ?_⟩
    have g1 := gro_mut (o := .dT (kvW c W)) e hwi
    have e1 : (upd H wi (.dT (kvW c W))) wi = some (.dT (kvW c W)) := upd_same
    have b1 : B wi = none := e.back hwi
    generalize upd H wi (.dT (kvW c W)) = H1 at g1 e1
    walk_at "dn"
    refine ⟨x, C, dx, _, vp, rfl, g1.hh _ _ hx, kc.cls, kc.n3, by rfl, ?_⟩
    walk_at "dn"
    refine r_listL g1.bh hp fun vpi B2 H2 g2 d2 => ?_
    have g12 := g1.trans g2
    have e2 := g2.hh _ _ e1
    have b2 := g2.fr wi _ e1 trivial b1
    walk_at "dn"
    refine ⟨x, C, dx, _, .ref ka, rfl, g12.hh _ _ hx, kc.cls, kc.n4, by rfl, ?_⟩
    walk_at "dn"
    refine ⟨ka, kk, rfl, .inl (g12.hh _ _ k1), fun ki hki => ?_⟩
    have g3 := gro_mut (o := .dK kk) g2.bh hki
    have e3 : (upd H2 ki (.dK kk)) ki = some (.dK kk) := upd_same
    have b3 : B2 ki = none := g2.bh.back hki
    have hne : wi ≠ ki := ne_of_none e2 hki
    generalize upd H2 ki (.dK kk) = H3 at g3 e3
    have g13 := g12.trans g3
    walk_at "dn"
    refine ⟨by show 3 ≤ sizeLine; exact szl (by decide), fun t ht => ?_⟩
    have g4 := gro_new (o := .tup [.ref wi, .ref vpi, .ref ki]) g3.bh ht
    have e4 := g3.hh _ _ e2
    refine k t wi ki (.ref vpi) _ _ (g13.trans g4) hwi (g12.back hki) hne (g4.fr wi _ e4 trivial b2) (g4.fr ki _ e3 trivial b3) upd_same ⟨c, g4.hh _ _ e4, nd, mem⟩ ⟨kk, ks, g4.hh _ _ e3, k2, k3, k4, k5, fun q v S hq => ?_⟩ (d2.up g4.bb)
    obtain ⟨u, u1, u2⟩ := k6 q v S hq
    exact ⟨u, u1, u2.up ((g12.trans g3).trans g4).bb⟩
def sp_K_otherwise_than (C : Addr) : Sp := fun vs H Q _ => ∃ (x wa ka pa ko : Addr) (vp vseen : V) (B : Hp) (n : Nat) (dx : Addr) (f0 f1 : Nat → Option (Int × List Nat)), vs = [.ref x, .ref ko] ∧ Ex B H ∧ H x = some (.ins C dx (flds n wa vp ka pa vseen)) ∧ KDm B H ko f0 ∧ KDm B H ka f1 ∧
  ∀ v B' H', Gro B H B' H' → D B' v (.list ((diffF f0 f1).map dDiff)) → Q v H'
theorem ok_K_otherwise_than (R : RawM K C "otherwise_than" "Keeper.otherwise_than" s_K_otherwise_than ["self", "kept"]) (kc : KpC K C) (T : TB mg) : MethT P w K mg base C "otherwise_than" 1 ["self", "kept"] (sp_K_otherwise_than C) := by
  refine R.ok kc.cls fun f fd F => F.ok sc_K_otherwise_than (fun vs H Q E h => ?_) (fun cdv A outer s H vs Q E hr h => ?_)
  · obtain ⟨_, _, _, _, _, _, _, _, _, _, _, _, rfl, _⟩ := h
    rfl
  · obtain ⟨x, wa, ka, pa, ko, vp, vseen, B, n, dx, f0, f1, rfl, e, hx, kd0, kd1, k⟩ := h
    refine ⟨_, (pss_cons (ps_set (i := 2) sc_K_otherwise_than.nd rfl (by first | exact Or.inl rfl | exact Or.inr rfl) (pe_lst pa_nil))
  (pss_cons (ps_for PassesOwn.never rfl (k_ilist (K := K) (pe_callB (k_sortedSet (w := w) rfl) (by rfl) T.z_sorted (by decide +kernel) (pa_cons (pe_callTy (k_setI (K := K) (w := w) rfl) (by rfl) T.z_set (by decide +kernel) (pa_cons (pe_op op_cat (pe_callTy (call_list_dK rfl) (by rfl) T.z_list (by decide +kernel) (pa_cons (pv 1) pa_nil)) (pe_callTy (call_list_dK rfl) (by rfl) T.z_list (by decide +kernel) (pa_cons (k_fld (K := K) (pv 0)) pa_nil))) pa_nil)) pa_nil))) (pg_name (i := 3) sc_K_otherwise_than.nd rfl (by first | exact Or.inl rfl | exact Or.inr rfl)) (pss_cons (ps_set (i := 4) sc_K_otherwise_than.nd rfl (by first | exact Or.inl rfl | exact Or.inr rfl) (pe_ifExp (pt_cmp (pc_din (hu_of hr) (pv 3) (pv 1))) (pe_ix (k_ixT (K := K)) (pe_dget (hu_of hr) (pv 1) (pv 3) (fun _ _ => rfl)) pe_int (fun _ _ => rfl)) pe_non))
  (pss_cons (ps_set (i := 5) sc_K_otherwise_than.nd rfl (by first | exact Or.inl rfl | exact Or.inr rfl) (pe_ifExp (pt_cmp (pc_din (hu_of hr) (pv 3) (k_fld (K := K) (pv 0)))) (pe_ix (k_ixT (K := K)) (pe_dget (hu_of hr) (k_fld (K := K) (pv 0)) (pv 3) (fun _ _ => rfl)) pe_int (fun _ _ => rfl)) pe_non))
  (pss_one (ps_if (pt_cmpR op_ne (pv 4) (pv 5) (nomark _)) (pss_one (ps_expr (k_bm (K := K) PySem.F.plainAttrs_list PySem.F.slot_list_append PySem.F.type_list_append mt_append (pv 2) (pa_cons (pe_tup (pa_cons (pv 3) (pa_cons (pv 4) (pa_cons (pv 5) pa_nil)))) pa_nil)))) pss_nil)))))
  (pss_one (ps_ret (pv 2))))), ?_⟩
    have kd0' := kd0
    have kd1' := kd1
    obtain ⟨kk0, ks0, a1, a2, a3, a4, a5, a6⟩ := kd0'
    obtain ⟨kk1, ks1, b1, b2, b3, b4, b5, b6⟩ := kd1'
    have l0 := pigeon ks0 10 a3 a5
    have l1 := pigeon ks1 10 b3 b5
    walk_at "dn"
    refine r_lstM e (by show 0 ≤ 100000; decide) fun Lf H1 hLf g1 e1 bLf => ?_
    walk_at "dn"
    refine ⟨ko, kk0, rfl, g1.hh _ _ a1, fun p2 hp2 => ?_⟩
    have g2 := g1.trans (gro_mut (o := .lst (kk0.map fun kv => kV kv.1)) g1.bh hp2)
    have e2 : (upd H1 p2 (.lst (kk0.map fun kv => kV kv.1))) p2 = some (.lst (kk0.map fun kv => kV kv.1)) := upd_same
    have e12 : (upd H1 p2 (.lst (kk0.map fun kv => kV kv.1))) Lf = some (.lst []) := by rw [upd_ne (ne_of_none e1 hp2)]; exact e1
    generalize upd H1 p2 (.lst (kk0.map fun kv => kV kv.1)) = H2 at g2 e2 e12
    walk_at "dn"
    refine ⟨x, C, dx, _, .ref ka, rfl, g2.hh _ _ hx, kc.cls, kc.n4, by rfl, ?_⟩
    walk_at "dn"
    refine ⟨ka, kk1, rfl, g2.hh _ _ b1, fun p3 hp3 => ?_⟩
    have g3 := g2.trans (gro_mut (o := .lst (kk1.map fun kv => kV kv.1)) g2.bh hp3)
    have e3 : (upd H2 p3 (.lst (kk1.map fun kv => kV kv.1))) p3 = some (.lst (kk1.map fun kv => kV kv.1)) := upd_same
    have e23 : (upd H2 p3 (.lst (kk1.map fun kv => kV kv.1))) p2 = some (.lst (kk0.map fun kv => kV kv.1)) := by rw [upd_ne (ne_of_none e2 hp3)]; exact e2
    have e13 : (upd H2 p3 (.lst (kk1.map fun kv => kV kv.1))) Lf = some (.lst []) := by rw [upd_ne (ne_of_none e12 hp3)]; exact e12
    generalize upd H2 p3 (.lst (kk1.map fun kv => kV kv.1)) = H3 at g3 e3 e23 e13
    have w0 : (kk0.map fun kv => kV kv.1) = (ks0.map fun (n : Nat) => (n : Int)).map V.int := by
      have h := congrArg (List.map kV) a2
      rw [List.map_map, List.map_map] at h
      rw [List.map_map]
      exact h
    have w1 : (kk1.map fun kv => kV kv.1) = (ks1.map fun (n : Nat) => (n : Int)).map V.int := by
      have h := congrArg (List.map kV) b2
      rw [List.map_map, List.map_map] at h
      rw [List.map_map]
      exact h
    refine ⟨p2, p3, _, _, rfl, rfl, e23, e3, ?_, fun p4 hp4 => ?_⟩
    · rw [w0, w1, List.length_map, List.length_map, List.length_map, List.length_map]
      exact szl (by omega)
    have ew : (kk0.map fun kv => kV kv.1) ++ (kk1.map fun kv => kV kv.1) = ((ks0 ++ ks1).map fun (n : Nat) => (n : Int)).map V.int := by rw [w0, w1, List.map_append, List.map_append]
    rw [ew]
    have g4 := g3.trans (gro_mut (o := .lst (((ks0 ++ ks1).map fun (n : Nat) => (n : Int)).map V.int)) g3.bh hp4)
    have e4 : (upd H3 p4 (.lst (((ks0 ++ ks1).map fun (n : Nat) => (n : Int)).map V.int))) p4 = some (.lst (((ks0 ++ ks1).map fun (n : Nat) => (n : Int)).map V.int)) := upd_same
    have e14 : (upd H3 p4 (.lst (((ks0 ++ ks1).map fun (n : Nat) => (n : Int)).map V.int))) Lf = some (.lst []) := by rw [upd_ne (ne_of_none e13 hp4)]; exact e13
    generalize upd H3 p4 (.lst (((ks0 ++ ks1).map fun (n : Nat) => (n : Int)).map V.int)) = H4 at g4 e4 e14
    walk_at "dn"
    refine ⟨p4, (ks0 ++ ks1).map fun (n : Nat) => (n : Int), rfl, SqL.of e4, by rw [List.length_map, List.length_append]; omega, fun p5 c hp5 hcl => ?_⟩
    have hcl2 : c ≤ 20 := by
      rw [List.length_map, List.length_append] at hcl
      omega
    have g5 := g4.trans (gro_mut (o := SetO w p5 (fun j => decide (j ∈ (ks0 ++ ks1).map fun (n : Nat) => (n : Int))) c) g4.bh hp5)
    have e5 : (upd H4 p5 (SetO w p5 (fun j => decide (j ∈ (ks0 ++ ks1).map fun (n : Nat) => (n : Int))) c)) p5 = some (SetO w p5 (fun j => decide (j ∈ (ks0 ++ ks1).map fun (n : Nat) => (n : Int))) c) := upd_same
    have e15 : (upd H4 p5 (SetO w p5 (fun j => decide (j ∈ (ks0 ++ ks1).map fun (n : Nat) => (n : Int))) c)) Lf = some (.lst []) := by rw [upd_ne (ne_of_none e14 hp5)]; exact e14
    generalize upd H4 p5 (SetO w p5 (fun j => decide (j ∈ (ks0 ++ ks1).map fun (n : Nat) => (n : Int))) c) = H5 at g5 e5 e15
    walk_at "dn"
    refine ⟨p5, _, c, rfl, e5, by omega, fun ns p6 pw hm hlen hp6 => ?_⟩
    have ens := ints_sorted (l := ks0 ++ ks1) pw (fun k => by rw [hm k]; exact decide_eq_true_iff) (fun y hy => (List.mem_append.mp hy).elim (a5 y) (b5 y))
    have eitems : sortN (ks0 ++ ks1) = (List.range 10).filter fun q => (f0 q).isSome || (f1 q).isSome := by
      unfold sortN
      refine List.filter_congr fun q _ => ?_
      have h0 := a4 q
      have h1 := b4 q
      by_cases z0 : q ∈ ks0 <;> by_cases z1 : q ∈ ks1
      · simp [z0, h0.mp z0]
      · simp [z0, h0.mp z0]
      · simp [z1, h1.mp z1]
      · have y0 : (f0 q).isSome = false := by cases h : (f0 q).isSome with
          | false => rfl
          | true => exact absurd (h0.mpr h) z0
        have y1 : (f1 q).isSome = false := by cases h : (f1 q).isSome with
          | false => rfl
          | true => exact absurd (h1.mpr h) z1
        simp [z0, z1, y0, y1]
    rw [eitems] at ens
    rw [ens, vN_ints]
    generalize hits : ((List.range 10).filter fun q => (f0 q).isSome || (f1 q).isSome) = its
    have itl : its.length ≤ 10 := by
      rw [← hits]
      exact Nat.le_trans (List.length_filter_le _ _) (by rw [List.length_range]; exact Nat.le_refl _)
    have g6 := gro_new (o := .lst (vN its)) g5.bh hp6
    have ex6 := Ex.new (o := .lst (vN its)) (g5.bh.back hp6)
    have d6 : D (upd B p6 (.lst (vN its))) (.ref p6) (dL its) := .lst upd_same (DA.nats _)
    have e16 := g6.hh _ _ e15
    have bL6 := g6.fr Lf _ e15 trivial bLf
    have g06 := g5.trans g6
    generalize upd B p6 (.lst (vN its)) = B6 at g6 ex6 d6 bL6 g06
    generalize upd H5 p6 (.lst (vN its)) = H6 at g6 e16 g06
    refine loopL (F := FA) its (fun (n : Nat) => .int (n : Int)) g06.bh d6 ⟨fun i σ' B' H' => ∃ (fs : List V) (o3 o4 o5 : Option V), σ' = [some (.ref x), some (.ref ko), some (.ref Lf), o3, o4, o5] ∧ Gro B H B' H' ∧ B' Lf = none ∧ H' Lf = some (.lst fs) ∧ DA B' fs ((((its.take i).filter fun q => !decide ((f0 q).map (·.1) = (f1 q).map (·.1))).map fun q => (q, (f0 q).map (·.1), (f1 q).map (·.1))).map dDiff) ∧ fs.length ≤ i,
      ⟨[], _, _, _, rfl, g06, bL6, e16, .nil, Nat.le_refl _⟩, fun i y σ' B' H' hi gB hy p => ?_, fun σ' B' H' gB p => ?_⟩
    · obtain ⟨fs, o3, o4, o5, rfl, g', bL', hL', dfs, lfs⟩ := p
      obtain ⟨q, hq, hd⟩ := hy
      cases hd
      have kd0' := kd0.grow g' fun z => z
      have kd1' := kd1.grow g' fun z => z
      with_reducible refine w_gname ?_
      with_reducible refine w_seq ?_
      with_reducible refine w_asg ?_
      refine r_old (fun Q h => w_var rfl h) rfl g'.bh kd0' ?_
      with_reducible refine w_gname ?_
      with_reducible refine w_seq ?_
      with_reducible refine w_asg ?_
      refine r_old (fun Q h => w_fld (w_var rfl ⟨x, C, dx, _, .ref ka, rfl, g'.hh _ _ hx, kc.cls, kc.n4, by rfl, h⟩)) rfl g'.bh kd1' ?_
      walk_at "dn"
      refine ⟨vO_scal _ _, ?_⟩
      walk_at "dn"
      rw [vO_eq]
      have st : ∀ b : Bool, b = (!decide ((f0 q).map (·.1) = (f1 q).map (·.1))) → (((its.take (i + 1)).filter fun q => !decide ((f0 q).map (·.1) = (f1 q).map (·.1))).map fun q => (q, (f0 q).map (·.1), (f1 q).map (·.1))) = (((its.take i).filter fun q => !decide ((f0 q).map (·.1) = (f1 q).map (·.1))).map fun q => (q, (f0 q).map (·.1), (f1 q).map (·.1))) ++ (if b = true then [(q, (f0 q).map (·.1), (f1 q).map (·.1))] else []) := fun b hb => by
        rw [hb]
        exact take_succ_filter _ _ _ hq
      refine ite2 (fun c => ?_) (fun c => ?_)
      · walk_at "dn"
        refine ⟨tyV_lst hL', ?_⟩
        walk_at "dn"
        refine r_tup3 g'.bh (.int _) (vO_d _) (vO_d _) fun p7 B7 H7 g7 _ d7 => ?_
        walk_at "dn"
        have hL7 := g7.hh _ _ hL'
        have bL7 := g7.fr Lf _ hL' trivial bL'
        refine r_append hL7 (by omega) ?_
        walk_at "dn"
        refine ⟨B7, (gB.trans (Gro.of g7)).trans (gof_set (F := FA) g7.bh trivial bL7), fs ++ [.ref p7], _, _, _, rfl, gro_set (g'.trans g7) hLf bL7, bL7, upd_same, ?_, by rw [List.length_append, List.length_singleton]; omega⟩
        rw [st true c.symm, if_pos rfl, List.map_append]
        exact (dfs.up g7.bb).app (.one d7)
      · walk_at "dn"
        refine ⟨B', gB, fs, _, _, _, rfl, g', bL', hL', ?_, by omega⟩
        rw [st false (by simpa using c), if_neg (by decide), List.append_nil]
        exact dfs
    · obtain ⟨fs, o3, o4, o5, rfl, g', bL', hL', dfs, lfs⟩ := p
      rw [List.take_length] at dfs
      walk_at "dn"
      refine k _ _ _ (gro_know g' hLf bL' hL') (.lst upd_same ?_)
      unfold diffF
      rw [hits]
      exact dfs.up (Ex.new bL')
end
end KPR
set_option Elab.async false
set_option linter.all false
set_option maxRecDepth 100000
set_option maxHeartbeats 2000000
/-! W15: Keeper: begin, find_all, put_post, take_post. -/
namespace KPR
open PySem L2
local macro_rules | `(tactic| walk_at "dn") => `(tactic| repeat (first
  | (with_reducible refine w_seq ?_) | (with_reducible refine w_asg ?_) | (with_reducible refine w_drop ?_) | (with_reducible refine w_ret ?_) | (with_reducible refine w_ifs ?_)
  | ((with_reducible refine' w_var ?hv ?_); (case hv => exact rfl)) | (with_reducible refine w_c ?_) | (with_reducible refine w_op ?_) | (with_reducible refine w_un ?_) | (with_reducible refine w_cb ?_)
  | (with_reducible refine w_nil ?_) | (with_reducible refine w_cons ?_) | (with_reducible refine w_gname ?_) | (with_reducible refine w_test ?_) | (with_reducible refine w_b ?_) | (with_reducible refine w_exbl ?_)
  | (with_reducible refine w_and ?_) | (with_reducible refine w_or ?_) | (with_reducible refine w_not ?_) | (with_reducible refine w_if ?_) | (with_reducible refine w_andV ?_) | (with_reducible refine w_orV ?_) | (with_reducible refine w_notV ?_)
  | (with_reducible refine w_tup ?_) | (with_reducible refine w_lst ?_) | (with_reducible refine w_dnewK ?_) | (with_reducible refine w_dnewT ?_) | (with_reducible refine w_din ?_) | (with_reducible refine w_dnin ?_) | (with_reducible refine w_dget ?_) | (with_reducible refine w_dget2 ?_)
  | (with_reducible refine w_fld ?_) | (with_reducible refine w_cal ?_) | (with_reducible refine w_met ?_) | (with_reducible refine w_mak ?_) | (with_reducible refine w_bm ?_) | (with_reducible refine w_bm0 ?_) | (with_reducible refine w_sl ?_)
  | (with_reducible refine w_nopart ?_) | (with_reducible refine w_part ?_) | (with_reducible refine w_sfld ?_) | (with_reducible refine w_dput ?_) | ((with_reducible refine' w_aug ?hv ?_); (case hv => exact rfl)) | (with_reducible refine w_iT ?_) | (with_reducible refine w_iF ?_)
  | (with_reducible refine w_ii0 ?_) | (with_reducible refine w_neg ?_) | (with_reducible refine w_ip ?_) | (with_reducible refine w_yes ?_) | (with_reducible refine w_for ?_) | (with_reducible refine w_ilist ?_) | (with_reducible refine w_itup ?_) | (with_reducible refine w_irng1 ?_) | (with_reducible refine w_irng2 ?_) | (with_reducible refine w_ienum ?_) | (with_reducible refine w_ienumT ?_)
  | (with_reducible refine w_ckw ?_) | (with_reducible refine w_gd ?_) | (with_reducible refine w_chain ?_) | (with_reducible refine w_next ?_)))

section
variable {P : Program} {w : World} {K : PySem.W.Frag} {mg : Str → Option Value} {base : Heap} {C Cf : Addr}
theorem Kp.kw0 {B H : Hp} {n : Nat} {x wa ka pa : Addr} {vp vs : V} {k : KS} {pq : List V} {past : List KS} {os : List (Addr × Addr)} (h : Kp C B H n x wa ka pa vp vs k pq past os) (w : WOk n k.W) : KW0 C B H n x wa ka pa vp vs k.W := ⟨h.ins, h.wd, w⟩
def sp_K_begin (C : Addr) : Sp := fun vs H Q _ => ∃ (x wa ka pa : Addr) (vp vseen : V) (B : Hp) (n : Nat) (k : KS) (pq : List V) (past : List KS) (os : List (Addr × Addr)), vs = [.ref x] ∧ Ex B H ∧ Kp C B H n x wa ka pa vp vseen k pq past os ∧ WOk n k.W ∧ past.length ≤ 1000 ∧
  ∀ B' H' vs' v o, Gof (fun a => a = x ∨ a = pa) B H B' H' → H o.1 = none → H o.2 = none → Kp C B' H' n x wa ka pa vp vs' k (pq ++ [v]) (past ++ [k]) (os ++ [o]) → Q .non H'
theorem ok_K_begin (R : RawM K C "begin" "Keeper.begin" s_K_begin ["self"]) (kc : KpC K C) (T : TB mg) (c_K_state : MethT P w K mg base C "state" 1 ["self"] (sp_K_state C)) : MethT P w K mg base C "begin" 2 ["self"] (sp_K_begin C) := by
  refine R.ok kc.cls fun f fd F => F.ok sc_K_begin (fun vs H Q E h => ?_) (fun cdv A outer s H vs Q E hr h => ?_)
  · obtain ⟨_, _, _, _, _, _, _, _, _, _, _, _, rfl, _⟩ := h
    rfl
  · obtain ⟨x, wa, ka, pa, vp, vseen, B, n, ks, pq, past, os, rfl, e, kp, wok, hpl, k⟩ := h
    refine ⟨_, (pss_cons (ps_expr (k_bm (K := K) PySem.F.plainAttrs_list PySem.F.slot_list_append PySem.F.type_list_append mt_append (k_fld (K := K) (pv 0)) (pa_cons (k_meth0 c_K_state hr (pv 0)) pa_nil)))
  (pss_one (k_sfld (K := K) (pv 0) (pe_lst pa_nil) rfl))), ?_⟩
    obtain ⟨dx, hx⟩ := kp.ins
    have ne := ownNe kp.nd
    have pvl := kp.pl.len.1
    walk_at "dn"
    refine ⟨x, C, dx, _, .ref pa, rfl, hx, kc.cls, kc.n5, by rfl, tyV_lst kp.pt, ?_⟩
    walk_at "dn"
    refine ⟨x, dx, _, rfl, hx, by rfl, ?_⟩
    walk_at "dn"
    refine ⟨x, wa, ka, pa, vp, vseen, B, n, ks.W, ks.ps, fK ks, rfl, e, kp.kw0 wok, kp.pd, kp.kd, fun t wi ki vpi B1 H1 g1 h1 h2 hne b1 b2 ht wd kd dp => ?_⟩
    walk_at "dn"
    have kp1 := kp.grow g1
    refine r_append kp1.pt (by omega) ?_
    walk_at "dn"
    have g2 := (Gro.of g1 : Gof (fun a => a = x ∨ a = pa) B H B1 H1).trans (gof_set (F := fun a => a = x ∨ a = pa) (o := .lst (pq ++ [.ref t])) g1.bh (.inr rfl) kp1.unp)
    obtain ⟨dx1, hx1⟩ := kp1.ins
    have hx2 : (upd H1 pa (.lst (pq ++ [.ref t]))) x = some (.ins C dx1 (flds n wa vp ka pa vseen)) := by rw [upd_ne ne.xp]; exact hx1
    refine r_lst (xs := []) g2.bh .nil (by show 0 ≤ 100000; decide) fun z B3 H3 g3 _ _ => ?_
    walk_at "dn"
    have hx3 := g3.hh _ _ hx2
    refine ⟨x, C, dx1, _, rfl, hx3, kc.cls, kc.n6, by show 6 < 1000; decide, ?_⟩
    have bx3 := g3.fr x _ hx2 trivial kp1.unx
    have g4 := (g2.trans (Gro.of g3)).trans (gof_set (F := fun a => a = x ∨ a = pa) (o := .ins C dx1 (flds n wa vp ka pa (.ref z))) g3.bh (.inl rfl) bx3)
    show tNext _ _ (upd H3 x (.ins C dx1 (flds n wa vp ka pa (.ref z))))
    walk_at "dn"
    have gp : Gof (fun a => a = x ∨ a = pa) B1 H1 B3 (upd H3 x (.ins C dx1 (flds n wa vp ka pa (.ref z)))) := ((gof_set (F := fun a => a = x ∨ a = pa) (o := .lst (pq ++ [.ref t])) g1.bh (.inr rfl) kp1.unp).trans (Gro.of g3)).trans (gof_set (F := fun a => a = x ∨ a = pa) g3.bh (.inl rfl) bx3)
    have n1 := kp.notin h1
    have n2 := kp.notin h2
    have m1 : wi ≠ x ∧ wi ≠ pa := ⟨fun z => n1 (mem_own.mpr (.inl z)), fun z => n1 (mem_own.mpr (.inr (.inr (.inr (.inl z)))))⟩
    have m2 : ki ≠ x ∧ ki ≠ pa := ⟨fun z => n2 (mem_own.mpr (.inl z)), fun z => n2 (mem_own.mpr (.inr (.inr (.inr (.inl z)))))⟩
    refine k _ _ (.ref z) (.ref t) (wi, ki) g4 h1 h2 ⟨⟨dx1, upd_same⟩, kp1.wd.grow gp (fun y => ?_), kp1.kd.grow gp (fun y => ?_), kp1.pd.up gp.bb, ?_, (PastL.grow kp1.pl gp fun o ho => ?_).snoc ⟨t, vpi, rfl, gp.bb _ _ ht, wd.grow gp (fun y => ?_), kd.grow gp (fun y => ?_), dp.up gp.bb⟩, own_more kp.nd n1 n2 hne, fun a ha => ?_⟩
    · rcases y with y | y
      · exact ne.xw y.symm
      · exact ne.wp y
    · rcases y with y | y
      · exact ne.xk y.symm
      · exact ne.kp y
    · rw [upd_ne (Ne.symm ne.xp)]
      exact g3.hh _ _ upd_same
    · obtain ⟨⟨q1, _, _, q2⟩, ⟨q3, _, _, q4⟩⟩ := ne.os o ho
      exact ⟨fun y => y.elim q1 q2, fun y => y.elim q3 q4⟩
    · exact y.elim m1.1 m1.2
    · exact y.elim m2.1 m2.2
    · rw [own_snoc] at ha
      rcases List.mem_append.mp ha with y | y
      · obtain ⟨u, u1, u2⟩ := kp1.al a y
        exact gp.fr a u u1 u2 (kp1.un a y)
      · rcases (show a = wi ∨ a = ki by simpa using y) with y | y
        · obtain ⟨c, c1, _⟩ := wd
          rw [y]
          exact gp.fr wi _ c1 trivial b1
        · obtain ⟨kk, kks, c1, _⟩ := kd
          rw [y]
          exact gp.fr ki _ c1 trivial b2
def sp_K_find_all (C : Addr) : Sp := fun vs H Q _ => ∃ (x wa ka pa : Addr) (vp vseen vl : V) (B : Hp) (n : Nat) (k : KS) (pq : List V) (past : List KS) (os : List (Addr × Addr)) (l : List Nat), vs = [.ref x, vl] ∧ Ex B H ∧ Kp C B H n x wa ka pa vp vseen k pq (past ++ [k]) os ∧ WOk n k.W ∧ D B vl (dL l) ∧ l.length ≤ 1000 ∧ (∀ q ∈ l, q < n) ∧
  ∀ v B' H' ka' vs', Gof (fun a => a = x) B H B' H' → H ka' = none → Kp C B' H' n x wa ka' pa vl vs' ⟨k.W, l⟩ pq (past ++ [k]) os → Has ⟨k.W, l⟩ → D B' v (.list ((diffK k ⟨k.W, l⟩).map dDiff)) → Q v H'
theorem ok_K_find_all (R : RawM K C "find_all" "Keeper.find_all" s_K_find_all ["self", "posts"]) (kc : KpC K C) (T : TB mg) (c_K_find : MethT P w K mg base C "find" 6 ["self", "posts"] (sp_K_find C)) (c_K_otherwise_than : MethT P w K mg base C "otherwise_than" 1 ["self", "kept"] (sp_K_otherwise_than C)) : MethT P w K mg base C "find_all" 7 ["self", "posts"] (sp_K_find_all C) := by
  refine R.ok kc.cls fun f fd F => F.ok sc_K_find_all (fun vs H Q E h => ?_) (fun cdv A outer s H vs Q E hr h => ?_)
  · obtain ⟨_, _, _, _, _, _, _, _, _, _, _, _, _, _, rfl, _⟩ := h
    rfl
  · obtain ⟨x, wa, ka, pa, vp, vseen, vl, B, n, ks, pq, past, os, l, rfl, e, kp, wok, dl, hll, hlt, k⟩ := h
    refine ⟨_, (pss_cons (k_sfld (K := K) (pv 0) (pv 1) rfl)
  (pss_cons (k_sfld (K := K) (pv 0) pe_dnewK rfl)
  (pss_cons (k_sfld (K := K) (pv 0) (pe_callTy (k_list (K := K)) (by rfl) T.z_list (by decide +kernel) (pa_cons (pv 1) pa_nil)) rfl)
  (pss_cons (ps_expr (k_meth c_K_find hr (pv 0) (pa_cons (pv 1) pa_nil)))
  (pss_one (ps_ret (k_meth c_K_otherwise_than hr (pv 0) (pa_cons (pe_ix (k_ixT (K := K)) (pe_ix (k_ixL (K := K)) (k_fld (K := K) (pv 0)) (pe_un un_neg pe_int) (fun _ _ => rfl)) pe_int (fun _ _ => rfl)) pa_nil)))))))), ?_⟩
    obtain ⟨dx, hx⟩ := kp.ins
    have ne := ownNe kp.nd
    walk_at "dn"
    refine ⟨x, C, dx, _, rfl, hx, kc.cls, kc.n3, by show 6 < 1000; decide, ?_⟩
    have g1 := gof_set (F := fun a => a = x) (o := .ins C dx (flds n wa vl ka pa vseen)) e rfl kp.unx
    have hx1 : (upd H x (.ins C dx (flds n wa vl ka pa vseen))) x = some (.ins C dx (flds n wa vl ka pa vseen)) := upd_same
    show tSeq _ _ _ _ (upd H x (.ins C dx (flds n wa vl ka pa vseen)))
    generalize upd H x (.ins C dx (flds n wa vl ka pa vseen)) = H1 at g1 hx1
    walk_at "dn"
    refine r_newM g1.bh fun ka' H2 hka g2 e2 b2 => ?_
    walk_at "dn"
    have hx2 := g2.hh _ _ hx1
    have bx2 : B x = none := kp.unx
    refine ⟨x, C, dx, _, rfl, hx2, kc.cls, kc.n4, by show 6 < 1000; decide, ?_⟩
    have g3 := (g1.trans (Gro.of g2)).trans (gof_set (F := fun a => a = x) (o := .ins C dx (flds n wa vl ka' pa vseen)) g2.bh rfl bx2)
    have hka0 : H ka' = none := g1.back hka
    have nka := kp.notin hka0
    have nxk : x ≠ ka' := fun z => nka (mem_own.mpr (.inl z.symm))
    have nwk : wa ≠ ka' := fun z => nka (mem_own.mpr (.inr (.inl z.symm)))
    have npk : pa ≠ ka' := fun z => nka (mem_own.mpr (.inr (.inr (.inr (.inl z.symm)))))
    have hx3 : (upd H2 x (.ins C dx (flds n wa vl ka' pa vseen))) x = some (.ins C dx (flds n wa vl ka' pa vseen)) := upd_same
    have hk3 : (upd H2 x (.ins C dx (flds n wa vl ka' pa vseen))) ka' = some (.dK []) := by rw [upd_ne (Ne.symm nxk), e2, upd_same]
    show tSeq _ _ _ _ (upd H2 x (.ins C dx (flds n wa vl ka' pa vseen)))
    generalize upd H2 x (.ins C dx (flds n wa vl ka' pa vseen)) = H3 at g3 hx3 hk3
    walk_at "dn"
    refine r_listL g3.bh dl fun z B4 H4 g4 d4 => ?_
    walk_at "dn"
    have hx4 := g4.hh _ _ hx3
    have bx4 := g4.fr x _ hx3 trivial bx2
    refine ⟨x, C, dx, _, rfl, hx4, kc.cls, kc.n6, by show 6 < 1000; decide, ?_⟩
    have g5 := (g3.trans (Gro.of g4)).trans (gof_set (F := fun a => a = x) (o := .ins C dx (flds n wa vl ka' pa (.ref z))) g4.bh rfl bx4)
    have hx5 : (upd H4 x (.ins C dx (flds n wa vl ka' pa (.ref z)))) x = some (.ins C dx (flds n wa vl ka' pa (.ref z))) := upd_same
    have hk5 : (upd H4 x (.ins C dx (flds n wa vl ka' pa (.ref z)))) ka' = some (.dK []) := by rw [upd_ne (Ne.symm nxk)]; exact g4.hh _ _ hk3
    have bk5 : B4 ka' = none := g4.fr ka' _ hk3 trivial b2
    show tSeq _ _ _ _ (upd H4 x (.ins C dx (flds n wa vl ka' pa (.ref z))))
    generalize upd H4 x (.ins C dx (flds n wa vl ka' pa (.ref z))) = H5 at g5 hx5 hk5
    have wd5 := kp.wd.grow g5 (Ne.symm ne.xw)
    have kd5 : KDm B4 H5 ka' fun _ => none := ⟨[], [], hk5, rfl, List.nodup_nil, (fun q => by simp), (fun q hq => nomatch hq), fun q v S hq => nomatch hq⟩
    walk_at "dn"
    refine ⟨x, dx, _, rfl, hx5, by rfl, ?_⟩
    walk_at "dn"
    refine ⟨x, wa, ka', pa, vl, .ref z, vl, B4, n, ⟨ks.W, l⟩, l, fun _ => none, rfl, g5.bh, ⟨⟨dx, hx5⟩, wd5, wok⟩, dl.up g5.bb, hll, dl.up g5.bb, hlt, kd5, bk5, nxk, nwk, fun B6 H6 f' g6 b6 kd6 hout hin => ?_⟩
    have ef : f' = fK ⟨ks.W, l⟩ := by
      funext q
      unfold fK
      by_cases hq : q ∈ l
      · rw [if_pos hq]; exact (hin q hq).1
      · rw [if_neg hq]; exact hout q hq
    rw [ef] at kd6
    have gA : Gof (fun a => a = x) B H B6 H6 := g5.trans g6 fun y hy => .inr (by rw [hy]; exact hka0)
    have hx6 := g6.kp _ _ hx5 nxk
    have kpA : Kp C B6 H6 n x wa ka' pa vl (.ref z) ⟨ks.W, l⟩ pq (past ++ [ks]) os := by
      refine ⟨⟨dx, hx6⟩, wd5.grow g6 nwk, kd6, dl.up gA.bb, g6.kp _ _ (g5.kp _ _ kp.pt (Ne.symm ne.xp)) npk, PastL.grow kp.pl gA fun o ho => ?_, own_ka kp.nd nka, fun a ha => ?_⟩
      · obtain ⟨⟨q1, _⟩, ⟨q3, _⟩⟩ := ne.os o ho
        exact ⟨q1, q3⟩
      · by_cases hak : a = ka'
        · rw [hak]; exact b6
        · have ha2 : a ∈ ownK x wa ka pa os := by
            rcases mem_own.mp ha with y | y | y | y | y
            · exact mem_own.mpr (.inl y)
            · exact mem_own.mpr (.inr (.inl y))
            · exact absurd y hak
            · exact mem_own.mpr (.inr (.inr (.inr (.inl y))))
            · exact mem_own.mpr (.inr (.inr (.inr (.inr y))))
          obtain ⟨u, u1, u2⟩ := kp.al a ha2
          exact gA.fr a u u1 u2 (kp.un a ha2)
    walk_at "dn"
    refine ⟨x, dx, _, rfl, hx6, by rfl, ?_⟩
    walk_at "dn"
    refine ⟨x, C, dx, _, .ref pa, rfl, hx6, kc.cls, kc.n5, by rfl, ?_⟩
    walk_at "dn"
    obtain ⟨vs0, v, os0, o, epv, eos, pl0, pa0⟩ := kpA.pl.last rfl
    obtain ⟨t, vpt, rfl, ht, wdt, kdt, dpt⟩ := pa0
    refine ⟨pa, pq, _, .ref t, rfl, rfl, SqL.of kpA.pt, by rw [epv]; exact atI_last _ _, ?_⟩
    walk_at "dn"
    refine ⟨t, _, _, .ref o.2, rfl, rfl, SqT.of (gA.bh _ _ ht), atI_nat rfl, ?_⟩
    walk_at "dn"
    refine ⟨x, wa, ka', pa, o.2, vl, .ref z, B6, n, dx, fK ks, fK ⟨ks.W, l⟩, rfl, gA.bh, hx6, kdt, kd6, fun v B7 H7 g7 d7 => ?_⟩
    rw [diffF_K] at d7
    exact k v B7 H7 ka' (.ref z) (gA.trans (Gro.of g7)) hka0 (kpA.grow g7) (fun q hq => (hin q hq).2) d7
end
end KPR
set_option Elab.async false
set_option linter.all false
set_option maxRecDepth 100000
set_option maxHeartbeats 2000000
/-! W16: Keeper: put_post, take_post, undo. -/
namespace KPR
open PySem L2
local macro_rules | `(tactic| walk_at "dn") => `(tactic| repeat (first
  | (with_reducible refine w_seq ?_) | (with_reducible refine w_asg ?_) | (with_reducible refine w_drop ?_) | (with_reducible refine w_ret ?_) | (with_reducible refine w_ifs ?_)
  | ((with_reducible refine' w_var ?hv ?_); (case hv => exact rfl)) | (with_reducible refine w_c ?_) | (with_reducible refine w_op ?_) | (with_reducible refine w_un ?_) | (with_reducible refine w_cb ?_)
  | (with_reducible refine w_nil ?_) | (with_reducible refine w_cons ?_) | (with_reducible refine w_gname ?_) | (with_reducible refine w_test ?_) | (with_reducible refine w_b ?_) | (with_reducible refine w_exbl ?_)
  | (with_reducible refine w_and ?_) | (with_reducible refine w_or ?_) | (with_reducible refine w_not ?_) | (with_reducible refine w_if ?_) | (with_reducible refine w_andV ?_) | (with_reducible refine w_orV ?_) | (with_reducible refine w_notV ?_)
  | (with_reducible refine w_tup ?_) | (with_reducible refine w_lst ?_) | (with_reducible refine w_dnewK ?_) | (with_reducible refine w_dnewT ?_) | (with_reducible refine w_din ?_) | (with_reducible refine w_dnin ?_) | (with_reducible refine w_dget ?_) | (with_reducible refine w_dget2 ?_)
  | (with_reducible refine w_fld ?_) | (with_reducible refine w_cal ?_) | (with_reducible refine w_met ?_) | (with_reducible refine w_mak ?_) | (with_reducible refine w_bm ?_) | (with_reducible refine w_bm0 ?_) | (with_reducible refine w_sl ?_)
  | (with_reducible refine w_nopart ?_) | (with_reducible refine w_part ?_) | (with_reducible refine w_sfld ?_) | (with_reducible refine w_dput ?_) | ((with_reducible refine' w_aug ?hv ?_); (case hv => exact rfl)) | (with_reducible refine w_iT ?_) | (with_reducible refine w_iF ?_)
  | (with_reducible refine w_ii0 ?_) | (with_reducible refine w_neg ?_) | (with_reducible refine w_ip ?_) | (with_reducible refine w_yes ?_) | (with_reducible refine w_for ?_) | (with_reducible refine w_ilist ?_) | (with_reducible refine w_itup ?_) | (with_reducible refine w_irng1 ?_) | (with_reducible refine w_irng2 ?_) | (with_reducible refine w_ienum ?_) | (with_reducible refine w_ienumT ?_)
  | (with_reducible refine w_ckw ?_) | (with_reducible refine w_gd ?_) | (with_reducible refine w_chain ?_) | (with_reducible refine w_next ?_)))

theorem put_seen {n : Nat} {wa ka pa : Addr} {vp vs v : V} : putF "seen" v (flds n wa vp ka pa vs) = flds n wa vp ka pa v := rfl
/-- a keeper at x that owns own -/
def KpE (C : Addr) (B H : Hp) (n : Nat) (x : Addr) (k : KS) (past : List KS) (own : List Addr) : Prop := ∃ wa ka pa vp vs pq os, own = ownK x wa ka pa os ∧ Kp C B H n x wa ka pa vp vs k pq past os
theorem KpE.grow {C : Addr} {B H B' H' : Hp} {n : Nat} {x : Addr} {k : KS} {past : List KS} {own : List Addr} {F : Addr → Prop} (h : KpE C B H n x k past own) (g : Gof F B H B' H') (hf : ∀ a ∈ own, ¬ F a) : KpE C B' H' n x k past own := by
  obtain ⟨wa, ka, pa, vp, vs, pq, os, rfl, kp⟩ := h
  exact ⟨wa, ka, pa, vp, vs, pq, os, rfl, kp.frame g hf⟩
theorem KpE.al {C : Addr} {B H : Hp} {n : Nat} {x : Addr} {k : KS} {past : List KS} {own : List Addr} (h : KpE C B H n x k past own) : (∀ a ∈ own, ∃ u, H a = some u ∧ nT u) ∧ (∀ a ∈ own, B a = none) ∧ x ∈ own := by
  obtain ⟨wa, ka, pa, vp, vs, pq, os, rfl, kp⟩ := h
  exact ⟨kp.al, kp.un, mem_own.mpr (.inl rfl)⟩
theorem own_back {x wa ka pa : Addr} {os : List (Addr × Addr)} {o : Addr × Addr} (nd : (ownK x wa ka pa (os ++ [o])).Nodup) : (ownK x o.1 o.2 pa os).Nodup := by
  rw [own_snoc] at nd
  unfold ownK at nd ⊢
  have s : (x :: pa :: ((os.flatMap fun o => [o.1, o.2]) ++ [o.1, o.2])).Sublist ((x :: wa :: ka :: pa :: os.flatMap fun o => [o.1, o.2]) ++ [o.1, o.2]) := by
    show List.Sublist _ (x :: wa :: ka :: pa :: ((os.flatMap fun o => [o.1, o.2]) ++ [o.1, o.2]))
    exact .cons₂ _ (.cons _ (.cons _ (List.Sublist.refl _)))
  have n2 := nd.sublist s
  refine (List.Perm.nodup_iff ?_).mp n2
  refine List.Perm.cons x ?_
  have p1 : (pa :: ((os.flatMap fun o => [o.1, o.2]) ++ [o.1, o.2])).Perm (pa :: ([o.1, o.2] ++ os.flatMap fun o => [o.1, o.2])) := List.Perm.cons pa List.perm_append_comm
  exact p1.trans ((List.Perm.swap o.1 pa _).trans (List.Perm.cons o.1 (List.Perm.swap o.2 pa _)))
section
variable {P : Program} {w : World} {K : PySem.W.Frag} {mg : Str → Option Value} {base : Heap} {C Cf : Addr}
theorem r_catL {B H : Hp} {a b : V} {Q : VK} {d1 d2 : List PyData} (e : Ex B H) (h1 : D B a (.list d1)) (h2 : D B b (.list d2)) (hl : d1.length + d2.length ≤ 100000) (k : ∀ p B' H', Gro B H B' H' → D B' (.ref p) (.list (d1 ++ d2)) → Q (.ref p) H') : rCat a b H Q := by
  obtain ⟨p, xs, rfl, a1, a2⟩ := h1.lst_inv
  obtain ⟨q, ys, rfl, b1, b2⟩ := h2.lst_inv
  have l1 := a2.len
  have l2 := b2.len
  exact ⟨p, q, xs, ys, rfl, rfl, e _ _ a1, e _ _ b1, szl (by omega), fun r hr => k r _ _ (gro_new e hr) (.lst upd_same ((a2.app b2).up (Ex.new (e.back hr))))⟩
/-- what an operation of the keeper at x must leave -/
def After (C : Addr) (B H : Hp) (n : Nat) (x : Addr) (own : List Addr) (k' : KS) (past' : List KS) (d : PyData) (Q : VK) : Prop :=
  ∀ v B' H' own', Gof (fun a => a ∈ own) B H B' H' → (∀ a ∈ own', a ∈ own ∨ H a = none) → KpE C B' H' n x k' past' own' → Has k' → D B' v d → Q v H'
def sp_K_put_post (C : Addr) : Sp := fun vs H Q _ => ∃ (x : Addr) (B : Hp) (n : Nat) (k : KS) (past : List KS) (own : List Addr) (p : Nat), vs = [.ref x, .int (p : Int)] ∧ Ex B H ∧ KpE C B H n x k past own ∧ KOk n k ∧ past.length ≤ 1000 ∧ p < n ∧ p ∉ k.ps ∧
  After C B H n x own ⟨k.W, sortN (k.ps ++ [p])⟩ (past ++ [k]) (.list ((diffK k ⟨k.W, sortN (k.ps ++ [p])⟩).map dDiff)) Q
theorem ok_K_put_post (R : RawM K C "put_post" "Keeper.put_post" s_K_put_post ["self", "place"]) (kc : KpC K C) (T : TB mg) (c_K_look_place : MethT P w K mg base C "look_place" 1 ["self", "place"] (sp_K_look_place C)) (c_K_begin : MethT P w K mg base C "begin" 2 ["self"] (sp_K_begin C)) (c_K_find_all : MethT P w K mg base C "find_all" 7 ["self", "posts"] (sp_K_find_all C)) : MethT P w K mg base C "put_post" 8 ["self", "place"] (sp_K_put_post C) := by
  refine R.ok kc.cls fun f fd F => F.ok sc_K_put_post (fun vs H Q E h => ?_) (fun cdv A outer s H vs Q E hr h => ?_)
  · obtain ⟨_, _, _, _, _, _, _, rfl, _⟩ := h
    rfl
  · obtain ⟨x, B, n, ks, past, own, p, rfl, e, ⟨wa, ka, pa, vp, vseen, pq, os, rfl, kp⟩, ok, hpl, hp, hnp, k⟩ := h
    refine ⟨_, (pss_cons (ps_expr (k_meth c_K_look_place hr (pv 0) (pa_cons (pv 1) pa_nil)))
  (pss_cons (ps_if (pt_cmpR (k_in (K := K)) (pv 1) (k_fld (K := K) (pv 0)) (by with_unfolding_all rfl)) (pss_one ps_never) pss_nil)
  (pss_cons (ps_expr (k_meth0 c_K_begin hr (pv 0)))
  (pss_one (ps_ret (k_meth c_K_find_all hr (pv 0) (pa_cons (pe_callB (k_sortI (K := K)) (by rfl) T.z_sorted (by decide +kernel) (pa_cons (pe_op op_cat (k_fld (K := K) (pv 0)) (pe_lst (pa_cons (pv 1) pa_nil))) pa_nil)) pa_nil))))))), ?_⟩
    obtain ⟨dx, hx⟩ := kp.ins
    have hn := ok.w.n10
    have hl := ok.len
    walk_at "dn"
    refine ⟨x, dx, _, rfl, hx, by rfl, ?_⟩
    walk_at "dn"
    refine ⟨x, wa, ka, pa, vp, vseen, n, dx, p, rfl, hx, hp, ?_⟩
    walk_at "dn"
    refine ⟨x, C, dx, _, vp, rfl, hx, kc.cls, kc.n3, by rfl, ?_⟩
    refine r_in e kp.pd ?_
    rw [decide_eq_false hnp]
    walk_at "dn"
    refine ⟨x, dx, _, rfl, hx, by rfl, ?_⟩
    walk_at "dn"
    refine ⟨x, wa, ka, pa, vp, vseen, B, n, ks, pq, past, os, rfl, e, kp, ok.w, hpl, fun B1 H1 vs1 v1 o g1 ho1 ho2 kp1 => ?_⟩
    obtain ⟨dx1, hx1⟩ := kp1.ins
    walk_at "dn"
    refine ⟨x, dx1, _, rfl, hx1, by rfl, ?_⟩
    walk_at "dn"
    refine ⟨x, C, dx1, _, vp, rfl, hx1, kc.cls, kc.n3, by rfl, ?_⟩
    walk_at "dn"
    refine r_lst1 g1.bh (.int _) fun p2 B2 H2 g2 _ d2 => ?_
    refine r_catL g2.bh (kp1.pd.up g2.bb) d2 (by unfold dN; rw [List.length_map]; show _ + 1 ≤ _; omega) fun p3 B3 H3 g3 d3 => ?_
    have e3 : dN ks.ps ++ [PyData.int (p : Int)] = dN (ks.ps ++ [p]) := by unfold dN; rw [List.map_append]; rfl
    rw [e3] at d3
    walk_at "dn"
    have nd : (ks.ps ++ [p]).Nodup := List.nodup_append.mpr ⟨pw_nodup ok.pw, by simp, fun a ha b hb => by
      rw [List.mem_singleton.mp hb]
      exact fun z => hnp (by rw [← z]; exact ha)⟩
    have ltp : ∀ q ∈ ks.ps ++ [p], q < n := fun q hq => by
      rcases List.mem_append.mp hq with z | z
      · exact ok.lt q z
      · rw [List.mem_singleton.mp z]; exact hp
    refine r_sortI g3.bh d3 nd (fun q hq => by have := ltp q hq; omega) fun p4 B4 H4 g4 d4 => ?_
    walk_at "dn"
    have g24 := (g2.trans g3).trans g4
    have kp4 := kp1.grow g24
    refine ⟨x, wa, ka, pa, vp, vs1, .ref p4, B4, n, ks, _, past, os ++ [o], sortN (ks.ps ++ [p]), rfl, g24.bh, kp4, ok.w, d4, Nat.le_trans (sortN_len _) (by decide), fun q hq => ltp q (mem_sortN.mp hq).2, fun v B5 H5 ka' vs' g5 hka kp5 has d5 => ?_⟩
    have gown : Gof (fun a => a ∈ ownK x wa ka pa os) B H B1 H1 := g1.mono fun a ha => by
      rcases ha with y | y
      · exact mem_own.mpr (.inl y)
      · exact mem_own.mpr (.inr (.inr (.inr (.inl y))))
    refine k v B5 H5 _ ((gown.trans (Gro.of g24)).trans g5 fun a ha => .inl (by rw [ha]; exact mem_own.mpr (.inl rfl))) (fun a ha => ?_) ⟨wa, ka', pa, .ref p4, vs', _, os ++ [o], rfl, kp5⟩ has d5
    have gb : ∀ a, H4 a = none → H a = none := fun a h => (gown.trans (Gro.of g24)).back h
    rcases mem_own.mp ha with y | y | y | y | ⟨o', ho', y⟩
    · exact .inl (mem_own.mpr (.inl y))
    · exact .inl (mem_own.mpr (.inr (.inl y)))
    · exact .inr (by rw [y]; exact gb _ hka)
    · exact .inl (mem_own.mpr (.inr (.inr (.inr (.inl y)))))
    · rcases List.mem_append.mp ho' with z | z
      · exact .inl (mem_own.mpr (.inr (.inr (.inr (.inr ⟨o', z, y⟩)))))
      · rw [List.mem_singleton.mp z] at y
        exact .inr (y.elim (fun y => by rw [y]; exact ho1) fun y => by rw [y]; exact ho2)
def sp_K_take_post (C : Addr) : Sp := fun vs H Q _ => ∃ (x : Addr) (B : Hp) (n : Nat) (k : KS) (past : List KS) (own : List Addr) (p : Nat), vs = [.ref x, .int (p : Int)] ∧ Ex B H ∧ KpE C B H n x k past own ∧ KOk n k ∧ past.length ≤ 1000 ∧ p < n ∧ p ∈ k.ps ∧ k.ps.length ≠ 2 ∧
  After C B H n x own ⟨k.W, othersOf k.ps p⟩ (past ++ [k]) (.list ((diffK k ⟨k.W, othersOf k.ps p⟩).map dDiff)) Q
theorem ok_K_take_post (R : RawM K C "take_post" "Keeper.take_post" s_K_take_post ["self", "place"]) (kc : KpC K C) (T : TB mg) (c_K_look_place : MethT P w K mg base C "look_place" 1 ["self", "place"] (sp_K_look_place C)) (c_K_begin : MethT P w K mg base C "begin" 2 ["self"] (sp_K_begin C)) (c_K_find_all : MethT P w K mg base C "find_all" 7 ["self", "posts"] (sp_K_find_all C)) : MethT P w K mg base C "take_post" 8 ["self", "place"] (sp_K_take_post C) := by
  refine R.ok kc.cls fun f fd F => F.ok sc_K_take_post (fun vs H Q E h => ?_) (fun cdv A outer s H vs Q E hr h => ?_)
  · obtain ⟨_, _, _, _, _, _, _, rfl, _⟩ := h
    rfl
  · obtain ⟨x, B, n, ks, past, own, p, rfl, e, ⟨wa, ka, pa, vp, vseen, pq, os, rfl, kp⟩, ok, hpl, hp, hnp, h2, k⟩ := h
    refine ⟨_, (pss_cons (ps_expr (k_meth c_K_look_place hr (pv 0) (pa_cons (pv 1) pa_nil)))
  (pss_cons (ps_if (PW.pt (pw_or (pt_cmpR (k_notIn (K := K)) (pv 1) (k_fld (K := K) (pv 0)) (by with_unfolding_all rfl)) (pw_or1 (pt_cmpR op_eq (pe_callB (k_len (K := K)) (by rfl) T.z_len (by decide +kernel) (pa_cons (k_fld (K := K) (pv 0)) pa_nil)) pe_int (nomark _))))) (pss_one ps_never) pss_nil)
  (pss_cons (ps_expr (k_meth0 c_K_begin hr (pv 0)))
  (pss_one (ps_ret (k_meth c_K_find_all hr (pv 0) (pa_cons (pe_lc (own := [("post", 2)]) (g := (gName 2)) (by rfl) sc_K_take_post.nd (k_ilist (K := K) (k_fld (K := K) (pv 0))) (blkOk_by (N := nm_K_take_post) (sc := defScope s_K_take_post) (by decide +kernel)) (fun _ _ _ _ _ => (pg_name (i := 2) sc_K_take_post.nd rfl (by first | exact Or.inl rfl | exact Or.inr rfl))) (fun _ _ _ _ _ => (pts_one (pt_cmpR op_ne (pv 2) (pv 1) (nomark _)))) (fun _ _ _ _ _ => (pv 2))) pa_nil))))))), ?_⟩
    obtain ⟨dx, hx⟩ := kp.ins
    have hn := ok.w.n10
    have hl := ok.len
    walk_at "dn"
    refine ⟨x, dx, _, rfl, hx, by rfl, ?_⟩
    walk_at "dn"
    refine ⟨x, wa, ka, pa, vp, vseen, n, dx, p, rfl, hx, hp, ?_⟩
    walk_at "dn"
    refine ⟨x, C, dx, _, vp, rfl, hx, kc.cls, kc.n3, by rfl, ?_⟩
    refine r_notIn e kp.pd ?_
    rw [decide_eq_true hnp]
    show ∃ k, V.bl false = V.bl k ∧ _
    walk_at "dn"
    refine ⟨x, C, dx, _, vp, rfl, hx, kc.cls, kc.n3, by rfl, ?_⟩
    walk_at "dn"
    refine r_lenL e kp.pd ?_
    walk_at "dn"
    refine ⟨rfl, ?_⟩
    walk_at "dn"
    have l2 : (dN ks.ps).length = ks.ps.length := by unfold dN; rw [List.length_map]
    rw [int_eq, l2, decide_eq_false (show ¬ ((ks.ps.length : Int) = 2) by omega)]
    walk_at "dn"
    refine ⟨x, dx, _, rfl, hx, by rfl, ?_⟩
    walk_at "dn"
    refine ⟨x, wa, ka, pa, vp, vseen, B, n, ks, pq, past, os, rfl, e, kp, ok.w, hpl, fun B1 H1 vs1 v1 o g1 ho1 ho2 kp1 => ?_⟩
    obtain ⟨dx1, hx1⟩ := kp1.ins
    walk_at "dn"
    refine ⟨x, dx1, _, rfl, hx1, by rfl, ?_⟩
    walk_at "dn"
    refine r_lcL (B := B1) (enc := fun (n : Nat) => .int (n : Int)) (items := ks.ps) (p := fun y => !decide (y = p)) (f := fun (n : Nat) => .int (n : Int)) (fun R r => ?_) (by omega) (fun i it y B3 H3 hi g3 hy Y N hY hN => ?_) fun D0 B4 H4 g24 d4 => ?_
    · walk_at "dn"
      exact ⟨x, C, dx1, _, vp, rfl, hx1, kc.cls, kc.n3, by rfl, r _ _ _ (Gof.refl g1.bh) kp1.pd⟩
    · cases hy
      refine ⟨rfl, ?_⟩
      walk_at "dn"
      refine ⟨rfl, ?_⟩
      walk_at "dn"
      rw [nat_eq]
      refine ite2 (fun c => ?_) (fun c => ?_)
      · walk_at "dn"
        exact hY c _ _ _ (Gof.refl g3.bh) (.int _)
      · exact hN (by simpa using c) _ _ (Gof.refl g3.bh)
    walk_at "dn"
    have kp4 := kp1.grow g24
    refine ⟨x, wa, ka, pa, vp, vs1, .ref D0, B4, n, ks, _, past, os ++ [o], othersOf ks.ps p, rfl, g24.bh, kp4, ok.w, d4, Nat.le_trans (List.length_filter_le _ _) (by omega), fun q hq => ok.lt q (List.mem_filter.mp hq).1, fun v B5 H5 ka' vs' g5 hka kp5 has d5 => ?_⟩
    have gown : Gof (fun a => a ∈ ownK x wa ka pa os) B H B1 H1 := g1.mono fun a ha => by
      rcases ha with y | y
      · exact mem_own.mpr (.inl y)
      · exact mem_own.mpr (.inr (.inr (.inr (.inl y))))
    refine k v B5 H5 _ ((gown.trans (Gro.of g24)).trans g5 fun a ha => .inl (by rw [ha]; exact mem_own.mpr (.inl rfl))) (fun a ha => ?_) ⟨wa, ka', pa, .ref D0, vs', _, os ++ [o], rfl, kp5⟩ has d5
    have gb : ∀ a, H4 a = none → H a = none := fun a h => (gown.trans (Gro.of g24)).back h
    rcases mem_own.mp ha with y | y | y | y | ⟨o', ho', y⟩
    · exact .inl (mem_own.mpr (.inl y))
    · exact .inl (mem_own.mpr (.inr (.inl y)))
    · exact .inr (by rw [y]; exact gb _ hka)
    · exact .inl (mem_own.mpr (.inr (.inr (.inr (.inl y)))))
    · rcases List.mem_append.mp ho' with z | z
      · exact .inl (mem_own.mpr (.inr (.inr (.inr (.inr ⟨o', z, y⟩)))))
      · rw [List.mem_singleton.mp z] at y
        exact .inr (y.elim (fun y => by rw [y]; exact ho1) fun y => by rw [y]; exact ho2)
def sp_K_undo (C : Addr) : Sp := fun vs H Q _ => ∃ (x : Addr) (B : Hp) (n : Nat) (k : KS) (past : List KS) (own : List Addr), vs = [.ref x] ∧ Ex B H ∧ KpE C B H n x k past own ∧
  ((past = [] ∧ Q .non H) ∨ ∃ past0 k0, past = past0 ++ [k0] ∧ ∀ v B' H' own', Gof (fun a => a ∈ own) B H B' H' → (∀ a ∈ own', a ∈ own) → KpE C B' H' n x k0 past0 own' → D B' v (.list ((diffK k k0).map dDiff)) → Q v H')
theorem ok_K_undo (R : RawM K C "undo" "Keeper.undo" s_K_undo ["self"]) (kc : KpC K C) (T : TB mg) (c_K_otherwise_than : MethT P w K mg base C "otherwise_than" 1 ["self", "kept"] (sp_K_otherwise_than C)) : MethT P w K mg base C "undo" 2 ["self"] (sp_K_undo C) := by
  refine R.ok kc.cls fun f fd F => F.ok sc_K_undo (fun vs H Q E h => ?_) (fun cdv A outer s H vs Q E hr h => ?_)
  · obtain ⟨_, _, _, _, _, _, rfl, _⟩ := h
    rfl
  · obtain ⟨x, B, n, ks, past, own, rfl, e, ⟨wa, ka, pa, vp, vseen, pq, os, rfl, kp⟩, k⟩ := h
    refine ⟨_, (pss_cons (ps_if (pt_cmpR op_eq (pe_callB (k_len (K := K)) (by rfl) T.z_len (by decide +kernel) (pa_cons (k_fld (K := K) (pv 0)) pa_nil)) pe_int (nomark _)) (pss_one (ps_ret pe_non)) pss_nil)
  (pss_cons (ps_set (i := 1) sc_K_undo.nd rfl (by first | exact Or.inl rfl | exact Or.inr rfl) (k_fld (K := K) (pv 0)))
  (pss_cons (ps_asg (k_bm0 (K := K) PySem.F.plainAttrs_list PySem.F.slot_list_pop PySem.F.type_list_pop mt_pop (k_fld (K := K) (pv 0))) (k_gtup (K := K) (by rfl) (pgs_cons (k_gfld (K := K) (pv 0)) (pgs_cons (k_gfld (K := K) (pv 0)) (pgs_cons (k_gfld (K := K) (pv 0)) pgs_nil)))))
  (pss_cons (k_sfld (K := K) (pv 0) (pe_lst pa_nil) rfl)
  (pss_one (ps_ret (k_meth c_K_otherwise_than hr (pv 0) (pa_cons (pv 1) pa_nil)))))))), ?_⟩
    obtain ⟨dx, hx⟩ := kp.ins
    have ne := ownNe kp.nd
    have pll := kp.pl.len.1
    walk_at "dn"
    refine ⟨x, C, dx, _, .ref pa, rfl, hx, kc.cls, kc.n5, by rfl, ?_⟩
    walk_at "dn"
    refine ⟨pa, pq, rfl, .inl (SqL.of kp.pt), ?_⟩
    walk_at "dn"
    refine ⟨rfl, ?_⟩
    walk_at "dn"
    rw [int_eq]
    rcases k with ⟨rfl, k⟩ | ⟨past0, k0, rfl, k⟩
    · rw [decide_eq_true (show ((pq.length : Int) = 0) by rw [pll]; rfl)]
      walk_at "dn"
      exact k
    · rw [decide_eq_false (show ¬ ((pq.length : Int) = 0) by rw [pll, List.length_append, List.length_singleton]; omega)]
      walk_at "dn"
      refine ⟨x, C, dx, _, .ref ka, rfl, hx, kc.cls, kc.n4, by rfl, ?_⟩
      walk_at "dn"
      refine ⟨x, C, dx, _, .ref pa, rfl, hx, kc.cls, kc.n5, by rfl, tyV_lst kp.pt, ?_⟩
      obtain ⟨pq0, v, os0, o, rfl, rfl, pl0, pa0⟩ := kp.pl.last rfl
      obtain ⟨t, vpt, rfl, ht, wdt, kdt, dpt⟩ := pa0
      refine ⟨pa, _, .ref t, rfl, rfl, kp.pt, by simp, ?_⟩
      rw [List.dropLast_concat]
      have g1 := gof_set (F := fun a => a = x ∨ a = pa) (o := .lst pq0) e (.inr rfl) kp.unp
      have hx1 : (upd H pa (.lst pq0)) x = some (.ins C dx (flds n wa vp ka pa vseen)) := by rw [upd_ne ne.xp]; exact hx
      have hp1 : (upd H pa (.lst pq0)) pa = some (.lst pq0) := upd_same
      generalize upd H pa (.lst pq0) = H1 at g1 hx1 hp1
      refine ⟨t, _, rfl, SqT.of (g1.bh _ _ ht), rfl, .ref o.1, _, rfl, ?_⟩
      refine w_var rfl ⟨x, C, dx, _, rfl, hx1, kc.cls, kc.n2, by show 6 < 1000; decide, ?_⟩
      refine ⟨vpt, _, rfl, w_var rfl ⟨x, C, dx, _, rfl, upd_same, kc.cls, kc.n3, by show 6 < 1000; decide, ?_⟩⟩
      refine ⟨.ref o.2, _, rfl, w_var rfl ⟨x, C, dx, _, rfl, upd_same, kc.cls, kc.n4, by show 6 < 1000; decide, ?_⟩⟩
      refine ⟨rfl, ?_⟩
      rw [upd_upd, upd_upd]
      have g2 := g1.trans (gof_set (F := fun a => a = x ∨ a = pa) (o := .ins C dx (flds n o.1 vpt o.2 pa vseen)) g1.bh (.inl rfl) kp.unx)
      have hx2 : (upd H1 x (.ins C dx (flds n o.1 vpt o.2 pa vseen))) x = some (.ins C dx (flds n o.1 vpt o.2 pa vseen)) := upd_same
      have hp2 : (upd H1 x (.ins C dx (flds n o.1 vpt o.2 pa vseen))) pa = some (.lst pq0) := by rw [upd_ne (Ne.symm ne.xp)]; exact hp1
      show tSeq _ _ _ _ (upd H1 x (.ins C dx (flds n o.1 vpt o.2 pa vseen)))
      generalize upd H1 x (.ins C dx (flds n o.1 vpt o.2 pa vseen)) = H2 at g2 hx2 hp2
      walk_at "dn"
      refine r_lst (xs := []) g2.bh .nil (by show 0 ≤ 100000; decide) fun z B3 H3 g3 _ _ => ?_
      walk_at "dn"
      have hx3 := g3.hh _ _ hx2
      have bx3 := g3.fr x _ hx2 trivial kp.unx
      refine ⟨x, C, dx, _, rfl, hx3, kc.cls, kc.n6, by show 6 < 1000; decide, ?_⟩
      have g4 := (g2.trans (Gro.of g3)).trans (gof_set (F := fun a => a = x ∨ a = pa) (o := .ins C dx (flds n o.1 vpt o.2 pa (.ref z))) g3.bh (.inl rfl) bx3)
      have hx4 : (upd H3 x (.ins C dx (flds n o.1 vpt o.2 pa (.ref z)))) x = some (.ins C dx (flds n o.1 vpt o.2 pa (.ref z))) := upd_same
      have hp4 : (upd H3 x (.ins C dx (flds n o.1 vpt o.2 pa (.ref z)))) pa = some (.lst pq0) := by rw [upd_ne (Ne.symm ne.xp)]; exact g3.hh _ _ hp2
      rw [put_seen]
      generalize upd H3 x (.ins C dx (flds n o.1 vpt o.2 pa (.ref z))) = H4 at g4 hx4 hp4
      obtain ⟨⟨a1, _, _, a2⟩, ⟨a3, _, _, a4⟩⟩ := ne.os o (List.mem_append_right _ (by simp))
      have kd0 := kdt.grow g4 (fun y => y.elim a3 a4)
      have kp4 : Kp C B3 H4 n x o.1 o.2 pa vpt (.ref z) k0 pq0 past0 os0 := by
        refine ⟨⟨dx, hx4⟩, wdt.grow g4 (fun y => y.elim a1 a2), kd0, dpt.up g4.bb, hp4, PastL.grow pl0 g4 fun o' ho' => ?_, own_back kp.nd, fun a ha => ?_⟩
        · obtain ⟨⟨q1, _, _, q2⟩, ⟨q3, _, _, q4⟩⟩ := ne.os o' (List.mem_append_left _ ho')
          exact ⟨fun y => y.elim q1 q2, fun y => y.elim q3 q4⟩
        · have ha2 : a ∈ ownK x wa ka pa (os0 ++ [o]) := by
            rcases mem_own.mp ha with y | y | y | y | ⟨o', ho', y⟩
            · exact mem_own.mpr (.inl y)
            · exact mem_own.mpr (.inr (.inr (.inr (.inr ⟨o, by simp, .inl y⟩))))
            · exact mem_own.mpr (.inr (.inr (.inr (.inr ⟨o, by simp, .inr y⟩))))
            · exact mem_own.mpr (.inr (.inr (.inr (.inl y))))
            · exact mem_own.mpr (.inr (.inr (.inr (.inr ⟨o', List.mem_append_left _ ho', y⟩))))
          obtain ⟨u, u1, u2⟩ := kp.al a ha2
          exact g4.fr a u u1 u2 (kp.un a ha2)
      have kdold := kp.kd.grow g4 (fun y => y.elim (fun y => ne.xk y.symm) ne.kp)
      walk_at "dn"
      refine ⟨x, dx, _, rfl, hx4, by rfl, ?_⟩
      walk_at "dn"
      refine ⟨x, o.1, o.2, pa, ka, vpt, .ref z, B3, n, dx, fK ks, fK k0, rfl, g4.bh, hx4, kdold, kd0, fun v B5 H5 g5 d5 => ?_⟩
      rw [diffF_K] at d5
      have gown : Gof (fun a => a ∈ ownK x wa ka pa (os0 ++ [o])) B H B3 H4 := g4.mono fun a ha => by
        rcases ha with y | y
        · exact mem_own.mpr (.inl y)
        · exact mem_own.mpr (.inr (.inr (.inr (.inl y))))
      refine k v B5 H5 _ (gown.trans (Gro.of g5)) (fun a ha => ?_) ⟨o.1, o.2, pa, vpt, .ref z, pq0, os0, rfl, kp4.grow g5⟩ d5
      rcases mem_own.mp ha with y | y | y | y | ⟨o', ho', y⟩
      · exact mem_own.mpr (.inl y)
      · exact mem_own.mpr (.inr (.inr (.inr (.inr ⟨o, by simp, .inl y⟩))))
      · exact mem_own.mpr (.inr (.inr (.inr (.inr ⟨o, by simp, .inr y⟩))))
      · exact mem_own.mpr (.inr (.inr (.inr (.inl y))))
      · exact mem_own.mpr (.inr (.inr (.inr (.inr ⟨o', List.mem_append_left _ ho', y⟩))))
end
end KPR
set_option Elab.async false
set_option linter.all false
set_option maxRecDepth 100000
set_option maxHeartbeats 4000000
/-! W17: Keeper: weigh. -/
namespace KPR
open PySem L2
local macro_rules | `(tactic| walk_at "dn") => `(tactic| repeat (first
  | (with_reducible refine w_seq ?_) | (with_reducible refine w_asg ?_) | (with_reducible refine w_drop ?_) | (with_reducible refine w_ret ?_) | (with_reducible refine w_ifs ?_)
  | ((with_reducible refine' w_var ?hv ?_); (case hv => exact rfl)) | (with_reducible refine w_c ?_) | (with_reducible refine w_op ?_) | (with_reducible refine w_un ?_) | (with_reducible refine w_cb ?_)
  | (with_reducible refine w_nil ?_) | (with_reducible refine w_cons ?_) | (with_reducible refine w_gname ?_) | (with_reducible refine w_test ?_) | (with_reducible refine w_b ?_) | (with_reducible refine w_exbl ?_)
  | (with_reducible refine w_and ?_) | (with_reducible refine w_or ?_) | (with_reducible refine w_not ?_) | (with_reducible refine w_if ?_) | (with_reducible refine w_andV ?_) | (with_reducible refine w_orV ?_) | (with_reducible refine w_notV ?_)
  | (with_reducible refine w_tup ?_) | (with_reducible refine w_lst ?_) | (with_reducible refine w_dnewK ?_) | (with_reducible refine w_dnewT ?_) | (with_reducible refine w_din ?_) | (with_reducible refine w_dnin ?_) | (with_reducible refine w_dget ?_) | (with_reducible refine w_dget2 ?_)
  | (with_reducible refine w_fld ?_) | (with_reducible refine w_cal ?_) | (with_reducible refine w_met ?_) | (with_reducible refine w_mak ?_) | (with_reducible refine w_bm ?_) | (with_reducible refine w_bm0 ?_) | (with_reducible refine w_sl ?_)
  | (with_reducible refine w_nopart ?_) | (with_reducible refine w_part ?_) | (with_reducible refine w_sfld ?_) | (with_reducible refine w_dput ?_) | ((with_reducible refine' w_aug ?hv ?_); (case hv => exact rfl)) | (with_reducible refine w_iT ?_) | (with_reducible refine w_iF ?_)
  | (with_reducible refine w_ii0 ?_) | (with_reducible refine w_neg ?_) | (with_reducible refine w_ip ?_) | (with_reducible refine w_yes ?_) | (with_reducible refine w_for ?_) | (with_reducible refine w_ilist ?_) | (with_reducible refine w_itup ?_) | (with_reducible refine w_irng1 ?_) | (with_reducible refine w_irng2 ?_) | (with_reducible refine w_ienum ?_) | (with_reducible refine w_ienumT ?_)
  | (with_reducible refine w_ckw ?_) | (with_reducible refine w_gd ?_) | (with_reducible refine w_chain ?_) | (with_reducible refine w_next ?_)))

section
variable {P : Program} {w : World} {K : PySem.W.Frag} {mg : Str → Option Value} {base : Heap} {C Cf : Addr}
def sp_K_weigh (C : Addr) : Sp := fun vs H Q _ => ∃ (x : Addr) (B : Hp) (n : Nat) (k : KS) (past : List KS) (own : List Addr) (a b : Nat) (wt : Int), vs = [.ref x, .int (a : Int), .int (b : Int), .int wt] ∧ Ex B H ∧ KpE C B H n x k past own ∧ KOk n k ∧ Has k ∧ past.length ≤ 1000 ∧ a < b ∧ b < n ∧ 0 ≤ wt ∧
  After C B H n x own ⟨wput k.W (a, b) wt, k.ps⟩ (past ++ [k]) (.list ((diffK k ⟨wput k.W (a, b) wt, k.ps⟩).map dDiff)) Q
theorem own_begun {x wa ka pa : Addr} {os : List (Addr × Addr)} {o : Addr × Addr} {H : Hp} (h1 : H o.1 = none) (h2 : H o.2 = none) : ∀ a ∈ ownK x wa ka pa (os ++ [o]), a ∈ ownK x wa ka pa os ∨ H a = none := fun a ha => by
  rw [own_snoc] at ha
  rcases List.mem_append.mp ha with y | y
  · exact .inl y
  · rcases (show a = o.1 ∨ a = o.2 by simpa using y) with y | y
    · exact .inr (by rw [y]; exact h1)
    · exact .inr (by rw [y]; exact h2)
theorem ok_K_weigh (R : RawM K C "weigh" "Keeper.weigh" s_K_weigh ["self", "a", "b", "weight"]) (kc : KpC K C) (T : TB mg) (c_K_look_place : MethT P w K mg base C "look_place" 1 ["self", "place"] (sp_K_look_place C)) (c_K_begin : MethT P w K mg base C "begin" 2 ["self"] (sp_K_begin C)) (c_K_has_one_end : MethT P w K mg base C "has_one_end" 1 ["self", "post", "a", "b"] (sp_K_has_one_end C))
    (c_K_find : MethT P w K mg base C "find" 6 ["self", "posts"] (sp_K_find C)) (c_K_otherwise_than : MethT P w K mg base C "otherwise_than" 1 ["self", "kept"] (sp_K_otherwise_than C)) : MethT P w K mg base C "weigh" 7 ["self", "a", "b", "weight"] (sp_K_weigh C) := by
  refine R.ok kc.cls fun f fd F => F.ok sc_K_weigh (fun vs H Q E h => ?_) (fun cdv A outer s H vs Q E hr h => ?_)
  · obtain ⟨_, _, _, _, _, _, _, _, _, rfl, _⟩ := h
    rfl
  · obtain ⟨x, B, n, ks, past, own, a, b, wt, rfl, e, ⟨wa, ka, pa, vp, vseen, pq, os, rfl, kp⟩, ok, has, hpl, hab, hb, hwt, k⟩ := h
    refine ⟨_, (pss_cons (ps_expr (k_meth c_K_look_place hr (pv 0) (pa_cons (pv 1) pa_nil)))
  (pss_cons (ps_expr (k_meth c_K_look_place hr (pv 0) (pa_cons (pv 2) pa_nil)))
  (pss_cons (ps_expr (k_meth0 c_K_begin hr (pv 0)))
  (pss_cons (ps_set (i := 4) sc_K_weigh.nd rfl (by first | exact Or.inl rfl | exact Or.inr rfl) (pe_op op_sub (pv 3) (pe_dget2 (hu_of hr) (k_fld (K := K) (pv 0)) (pe_tup (pa_cons (pv 1) (pa_cons (pv 2) pa_nil))) pe_int ⟨rfl, rfl, rfl, rfl⟩)))
  (pss_cons (ps_if (pt_cmpR op_eq (pv 4) pe_int (nomark _)) (pss_one (ps_ret (pe_lst pa_nil))) pss_nil)
  (pss_cons (ps_dput (hu_of hr) (k_fld (K := K) (pv 0)) (pe_tup (pa_cons (pv 1) (pa_cons (pv 2) pa_nil))) (pv 3) rfl)
  (pss_cons (ps_if (pt_cmpR op_eq (pv 3) pe_int (nomark _)) (pss_one (ps_expr (k_bm (K := K) PySem.F.plainAttrs_dict PySem.F.slot_dict_pop PySem.F.type_dict_pop (k_popT (hu_of hr)) (k_fld (K := K) (pv 0)) (pa_cons (pe_tup (pa_cons (pv 1) (pa_cons (pv 2) pa_nil))) pa_nil)))) pss_nil)
  (pss_cons (k_sfld (K := K) (pv 0) (pe_lc (own := [("post", 5)]) (g := (gName 5)) (by rfl) sc_K_weigh.nd (k_ilist (K := K) (k_fld (K := K) (pv 0))) (blkOk_by (N := nm_K_weigh) (sc := defScope s_K_weigh) (by decide +kernel)) (fun _ _ _ _ _ => (pg_name (i := 5) sc_K_weigh.nd rfl (by first | exact Or.inl rfl | exact Or.inr rfl))) (fun _ _ _ _ _ => (pts_one (pt_cmpR op_eq (k_meth c_K_has_one_end hr (pv 0) (pa_cons (pv 5) (pa_cons (pv 1) (pa_cons (pv 2) pa_nil)))) (pe_cmpR op_gt (pv 4) pe_int (nomark _)) (nomark _)))) (fun _ _ _ _ _ => (pv 5))) rfl)
  (pss_cons (ps_for PassesOwn.never rfl (k_ilist (K := K) (k_fld (K := K) (pv 0))) (pg_name (i := 5) sc_K_weigh.nd rfl (by first | exact Or.inl rfl | exact Or.inr rfl)) (pss_one (ps_if (PW.pt (pw_and (pt_cmpR op_lt (pv 4) pe_int (nomark _)) (pw_and1 (pt_cmpR (k_notIn (K := K)) (pv 5) (k_fld (K := K) (pv 0)) (by with_unfolding_all rfl))))) (pss_cons (ps_asg (pe_dget (hu_of hr) (k_fld (K := K) (pv 0)) (pv 5) (fun _ _ => rfl)) (k_gtup (K := K) (by rfl) (pgs_cons (pg_name (i := 6) sc_K_weigh.nd rfl (by first | exact Or.inl rfl | exact Or.inr rfl)) (pgs_cons (pg_name (i := 7) sc_K_weigh.nd rfl (by first | exact Or.inl rfl | exact Or.inr rfl)) pgs_nil))))
  (pss_one (ps_dput (hu_of hr) (k_fld (K := K) (pv 0)) (pv 5) (pe_tup (pa_cons (pe_op op_add (pv 6) (pv 4)) (pa_cons (pv 7) pa_nil))) rfl))) pss_nil)))
  (pss_cons (ps_expr (k_meth c_K_find hr (pv 0) (pa_cons (k_fld (K := K) (pv 0)) pa_nil)))
  (pss_one (ps_ret (k_meth c_K_otherwise_than hr (pv 0) (pa_cons (pe_ix (k_ixT (K := K)) (pe_ix (k_ixL (K := K)) (k_fld (K := K) (pv 0)) (pe_un un_neg pe_int) (fun _ _ => rfl)) pe_int (fun _ _ => rfl)) pa_nil)))))))))))))), ?_⟩
    obtain ⟨dx, hx⟩ := kp.ins
    have hn := ok.w.n10
    have hl := ok.len
    have ne := ownNe kp.nd
    have hpa : ((a, b) : Pr) ∈ allP := allP_mem.mpr ⟨by show a < 10; omega, by show b < 10; omega⟩
    walk_at "dn"
    refine ⟨x, dx, _, rfl, hx, by rfl, ?_⟩
    walk_at "dn"
    refine ⟨x, wa, ka, pa, vp, vseen, n, dx, a, rfl, hx, by omega, ?_⟩
    walk_at "dn"
    refine ⟨x, dx, _, rfl, hx, by rfl, ?_⟩
    walk_at "dn"
    refine ⟨x, wa, ka, pa, vp, vseen, n, dx, b, rfl, hx, hb, ?_⟩
    walk_at "dn"
    refine ⟨x, dx, _, rfl, hx, by rfl, ?_⟩
    walk_at "dn"
    refine ⟨x, wa, ka, pa, vp, vseen, B, n, ks, pq, past, os, rfl, e, kp, ok.w, hpl, fun B1 H1 vs1 v1 o g1 ho1 ho2 kp1 => ?_⟩
    have ownb := own_begun (x := x) (wa := wa) (ka := ka) (pa := pa) (os := os) ho1 ho2
    have gown1 : Gof (fun a => a ∈ ownK x wa ka pa os) B H B1 H1 := g1.mono fun a ha => by
      rcases ha with y | y
      · exact mem_own.mpr (.inl y)
      · exact mem_own.mpr (.inr (.inr (.inr (.inl y))))
    have kg1 := kp1.g
    obtain ⟨dx1, hx1⟩ := kg1.ins
    obtain ⟨c, hc, nd, mem⟩ := kg1.wd
    walk_at "dn"
    refine ⟨x, C, dx1, _, .ref wa, rfl, hx1, kc.cls, kc.n2, by rfl, wa, rfl, .inr ⟨_, .inl hc⟩, ?_⟩
    walk_at "dn"
    refine r_tup2 g1.bh (.int _) (.int _) fun p2 B2 H2 g2 hp2 d2 => ?_
    walk_at "dn"
    have kg2 := kg1.grow g2
    have hc2 := g2.hh _ _ hc
    have og : (valV (kvW c ks.W) (kP (a, b))).getD (.int 0) = .int (ks.W (a, b)) := by
      rw [kvW_get nd]
      by_cases hin : ((a, b) : Pr) ∈ c
      · rw [if_pos hin]; rfl
      · rw [if_neg hin]
        have : ks.W (a, b) = 0 := by
          rcases Classical.em (ks.W (a, b) = 0) with z | z
          · exact z
          · exact absurd ((mem _).mpr z) hin
        rw [this]; rfl
    refine ⟨valV (kvW c ks.W) (kP (a, b)), DGet.t (k := kP (a, b)) hc2 (g2.bh _ _ (pair_at (p := (a, b)) d2)), ?_⟩
    rw [og]
    walk_at "dn"
    refine ⟨rfl, ?_⟩
    walk_at "dn"
    rw [int_eq]
    refine ite2 (fun cc => ?_) (fun cc => ?_)
    · have h0 : wt - ks.W (a, b) = 0 := by simpa using cc
      have ew : wt = ks.W (a, b) := by omega
      have ek : (⟨wput ks.W (a, b) wt, ks.ps⟩ : KS) = ks := by rw [ew, wput_same]
      rw [ek, diff_self] at k
      walk_at "dn"
      refine r_lst (xs := []) g2.bh .nil (by show 0 ≤ 100000; decide) fun z B3 H3 g3 _ d3 => ?_
      exact k _ B3 H3 _ ((gown1.trans (Gro.of g2)).trans (Gro.of g3)) (fun a ha => ownb a ha) ⟨wa, ka, pa, vp, vs1, _, os ++ [o], rfl, (kp1.grow g2).grow g3⟩ has d3
    · have hm : wt - ks.W (a, b) ≠ 0 := by simpa using cc
      obtain ⟨dx2, hx2⟩ := kg2.ins
      walk_at "dn"
      refine ⟨x, C, dx2, _, .ref wa, rfl, hx2, kc.cls, kc.n2, by rfl, ?_⟩
      walk_at "dn"
      refine r_tup2 g2.bh (.int _) (.int _) fun p3 B3 H3 g3 _ d3 => ?_
      have g13 := g2.trans g3
      have kg3 := kg2.grow g3
      have hc3 := g3.hh _ _ hc2
      have cl : c.length ≤ 45 := by
        have := pr_nodup_len c (supp ks.W) nd fun p hp => (mem_supp ok.w).mpr ((mem p).mp hp)
        have := supp_len ok.w
        omega
      refine r_putT (p := (a, b)) hc3 (g3.bh _ _ (pair_at (p := (a, b)) d3)) (by unfold kvW; rw [List.length_map]; omega) ?_
      rw [kvW_put]
      have gw4 := gof_set (F := fun a => a = wa) (o := .dT (kvW (cadd c (a, b)) (wput ks.W (a, b) wt))) g3.bh rfl kg3.unw
      have e4 : (upd H3 wa (.dT (kvW (cadd c (a, b)) (wput ks.W (a, b) wt)))) wa = some (.dT (kvW (cadd c (a, b)) (wput ks.W (a, b) wt))) := upd_same
      have wok := wput_ok ok.w (p := (a, b)) hab hb hwt
      have hx4 : (upd H3 wa (.dT (kvW (cadd c (a, b)) (wput ks.W (a, b) wt)))) x = some (.ins C dx2 (flds n wa vp ka pa vs1)) := by rw [upd_ne ne.xw]; exact g3.hh _ _ hx2
      have g03 := (gown1.trans (Gro.of g2)).trans (Gro.of g3)
      have mem' : ∀ q, q ≠ (a, b) → (q ∈ cadd c (a, b) ↔ wput ks.W (a, b) wt q ≠ 0) := fun q hq => by
        rw [mem_cadd]
        unfold wput
        rw [if_neg hq, ← mem q]
        exact ⟨fun z => z.elim id fun z => absurd z hq, Or.inl⟩
      generalize upd H3 wa (.dT (kvW (cadd c (a, b)) (wput ks.W (a, b) wt))) = H4 at gw4 e4 hx4
      walk_at "dn"
      refine ⟨rfl, ?_⟩
      walk_at "dn"
      rw [int_eq]
      refine ite2 (fun cz => ?_) (fun cz => ?_)
      · have hz : wt = 0 := by simpa using cz
        walk_at "dn"
        refine ⟨x, C, dx2, _, .ref wa, rfl, hx4, kc.cls, kc.n2, by rfl, .inr (.inr (.inl ⟨rfl, .inr ⟨_, e4⟩⟩)), ?_⟩
        walk_at "dn"
        refine r_tup2 gw4.bh (.int _) (.int _) fun p5 B5 H5 g5 _ d5 => ?_
        walk_at "dn"
        have e5 := g5.hh _ _ e4
        have bw5 : B5 wa = none := g5.fr wa _ e4 trivial kg3.unw
        refine ⟨wa, _, kP (a, b), p5, .int (wput ks.W (a, b) wt (a, b)), rfl, rfl, e5, g5.bh _ _ (pair_at (p := (a, b)) d5), by rw [kvW_get (cadd_nd nd), if_pos (mem_cadd.mpr (.inr rfl))], ?_⟩
        rw [kvW_drop]
        have gw5 := (gw4.trans (Gro.of g5)).trans (gof_set (F := fun a => a = wa) (o := .dT (kvW ((cadd c (a, b)).filter fun q => !decide (q = (a, b))) (wput ks.W (a, b) wt))) g5.bh rfl bw5)
        have kg5 := kg3.setW2 gw5 bw5 (W' := wput ks.W (a, b) wt) ⟨_, upd_same, (cadd_nd nd).filter _, fun q => by
          by_cases hq : q = (a, b)
          · subst hq
            have : wput ks.W (a, b) wt (a, b) = 0 := by unfold wput; rw [if_pos rfl, hz]
            simp [this]
          · rw [← mem' q hq, List.mem_filter]
            simp [hq]⟩
        have g05 : Gof (fun a => a ∈ ownK x wa ka pa os) B H _ _ := g03.trans gw5 fun a ha => .inl (by rw [ha]; exact mem_own.mpr (.inr (.inl rfl)))
        generalize upd H5 wa (.dT (kvW ((cadd c (a, b)).filter fun q => !decide (q = (a, b))) (wput ks.W (a, b) wt))) = H5' at kg5 g05
        walk_at "dn"
        obtain ⟨dx5, hx5⟩ := kg5.ins
        refine r_lcL (B := B5) (enc := fun (n : Nat) => .int (n : Int)) (items := ks.ps) (p := fun q => sep (sideK ks q) a b == decide (0 < wt - ks.W (a, b))) (f := fun (n : Nat) => .int (n : Int)) (fun R r => ?_) (by omega) (fun i it y B6 H6 hi g6 hy Y N hY hN => ?_) fun Ls B6 H6 g6 d6 => ?_
        · walk_at "dn"
          exact ⟨x, C, dx5, _, vp, rfl, hx5, kc.cls, kc.n3, by rfl, r _ _ _ (Gof.refl g05.bh) kg5.pd⟩
        · cases hy
          refine ⟨rfl, ?_⟩
          have hitm := List.mem_of_getElem? hi
          walk_at "dn"
          refine ⟨x, dx5, _, rfl, g6.hh _ _ hx5, by rfl, ?_⟩
          walk_at "dn"
          refine ⟨x, wa, ka, pa, vp, vs1, B6, n, dx5, it, a, b, fK ks, valK ks it, sideK ks it, rfl, g6.bh, g6.hh _ _ hx5, (kg5.grow g6).kd, by unfold fK; rw [if_pos hitm], ?_⟩
          walk_at "dn"
          refine ⟨rfl, ?_⟩
          walk_at "dn"
          rw [bl_eq]
          refine ite2 (fun c => ?_) (fun c => ?_)
          · walk_at "dn"
            exact hY c _ _ _ (Gof.refl g6.bh) (.int _)
          · exact hN (by simpa using c) _ _ (Gof.refl g6.bh)
        have d6 : D B6 (.ref Ls) (dL (seenW ks a b (wt - ks.W (a, b)))) := d6
        have kg6 := kg5.grow g6
        walk_at "dn"
        refine ⟨x, C, dx5, _, rfl, g6.hh _ _ hx5, kc.cls, kc.n6, by show 6 < 1000; decide, ?_⟩
        rw [put_seen]
        have kg7 := kg6.setS g6.bh (dx := dx5) (vs' := .ref Ls)
        have g07 := (g05.trans (Gro.of g6)).trans (gof_set (F := fun a => a ∈ ownK x wa ka pa os) (o := .ins C dx5 (flds n wa vp ka pa (.ref Ls))) g6.bh (mem_own.mpr (.inl rfl)) kg6.unx)
        have hx7 : (upd H6 x (.ins C dx5 (flds n wa vp ka pa (.ref Ls)))) x = some (.ins C dx5 (flds n wa vp ka pa (.ref Ls))) := upd_same
        generalize upd H6 x (.ins C dx5 (flds n wa vp ka pa (.ref Ls))) = H7 at kg7 g07 hx7
        walk_at "dn"
        refine ⟨x, C, dx5, _, vp, rfl, hx7, kc.cls, kc.n3, by rfl, ?_⟩
        have k0 : ∀ q, fK ks q = keptW ks a b (wt - ks.W (a, b)) (ks.ps.take 0) q := fun q => by
          unfold keptW
          rw [if_neg (fun z => by simp at z)]
        refine loopL (F := fun a => a = ka) ks.ps (fun (n : Nat) => .int (n : Int)) g07.bh kg7.pd ⟨fun i σ' B' H' => ∃ (o5 o6 o7 : Option V), σ' = [some (.ref x), some (.int (a : Int)), some (.int (b : Int)), some (.int wt), some (.int (wt - ks.W (a, b))), o5, o6, o7] ∧ B' ka = none ∧ KDm B' H' ka (keptW ks a b (wt - ks.W (a, b)) (ks.ps.take i)),
          ⟨_, _, _, rfl, kg7.unk, (funext k0 : fK ks = _) ▸ kg7.kd⟩, fun i y σ' B' H' hi gB hy p => ?_, fun σ' B' H' gB p => ?_⟩
        · obtain ⟨o5, o6, o7, rfl, bk, kd⟩ := p
          obtain ⟨q, hq, hd⟩ := hy
          cases hd
          have hqm := List.mem_of_getElem? hq
          have kg8 := kg7.setK gB bk kd
          have hx8 := gB.kp _ _ hx7 ne.xk
          have hnt : q ∉ ks.ps.take i := fun z => by
            obtain ⟨j, hj⟩ := List.mem_iff_getElem?.mp z
            rw [List.getElem?_take] at hj
            split at hj
            · rename_i hji
              obtain ⟨l1, e1⟩ := List.getElem?_eq_some_iff.mp hj
              obtain ⟨l2, e2⟩ := List.getElem?_eq_some_iff.mp hq
              have := (List.getElem_inj (pw_nodup ok.pw)).mp (e1.trans e2.symm)
              omega
            · cases hj
          have tk : ks.ps.take (i + 1) = ks.ps.take i ++ [q] := by rw [List.take_add_one, hq]; rfl
          have same : ¬ (wt - ks.W (a, b) < 0 ∧ q ∉ seenW ks a b (wt - ks.W (a, b))) → keptW ks a b (wt - ks.W (a, b)) (ks.ps.take (i + 1)) = keptW ks a b (wt - ks.W (a, b)) (ks.ps.take i) := fun hno => by
            funext q'
            unfold keptW
            rw [tk]
            by_cases e1 : q' = q
            · subst e1
              rw [if_neg (fun z => hno ⟨z.1, z.2.1⟩), if_neg (fun z => hno ⟨z.1, z.2.1⟩)]
            · have hiff : q' ∈ ks.ps.take i ++ [q] ↔ q' ∈ ks.ps.take i := by simp [e1]
              simp only [hiff]
          walk_at "dn"
          refine ite2 (fun c1 => ?_) (fun c1 => ?_)
          · have hneg : wt - ks.W (a, b) < 0 := by simpa using c1
            walk_at "dn"
            refine ⟨x, C, dx5, _, .ref Ls, rfl, hx8, kc.cls, kc.n6, by rfl, ?_⟩
            refine r_notIn gB.bh ((d6.up (Ex.refl _)).up gB.bb) ?_
            walk_at "dn"
            refine ite2 (fun c2 => ?_) (fun c2 => ?_)
            · have hns : q ∉ seenW ks a b (wt - ks.W (a, b)) := by simpa using c2
              have hfq : keptW ks a b (wt - ks.W (a, b)) (ks.ps.take i) q = some (valK ks q, sideK ks q) := by
                unfold keptW
                rw [if_neg (fun z => hnt z.2.2)]
                unfold fK
                rw [if_pos hqm]
              obtain ⟨kk, hk1, _, hk3⟩ := kd.val q
              obtain ⟨u, u1, u2⟩ := hk3 _ _ hfq
              walk_at "dn"
              refine ⟨x, C, dx5, _, .ref ka, rfl, hx8, kc.cls, kc.n4, by rfl, ?_⟩
              walk_at "dn"
              refine ⟨ka, u, rfl, by rw [← u1]; exact DGet.k (k := kN q) hk1, ?_⟩
              refine g_tup2 gB.bh u2 fun v6 v7 h6 h7 => ?_
              cases h6
              walk_at "dn"
              refine r_tup2 gB.bh (.int _) h7 fun p9 B9 H9 g9 _ d9 => ?_
              walk_at "dn"
              refine ⟨x, C, dx5, _, .ref ka, rfl, g9.hh _ _ hx8, kc.cls, kc.n4, by rfl, ?_⟩
              walk_at "dn"
              obtain ⟨kk2, hk4, hk5, hk6⟩ := (kd.grow g9 fun z => z).put (q := q) (by have := ok.lt q hqm; omega) d9
              have bk9 : B9 ka = none := g9.fr ka _ hk1 trivial bk
              refine r_putK hk4 (by omega) ?_
              walk_at "dn"
              have ef : fput (keptW ks a b (wt - ks.W (a, b)) (ks.ps.take i)) q (valK ks q + (wt - ks.W (a, b)), sideK ks q) = keptW ks a b (wt - ks.W (a, b)) (ks.ps.take (i + 1)) := by
                funext q'
                unfold fput keptW
                rw [tk]
                by_cases e1 : q' = q
                · subst e1
                  rw [if_pos rfl, if_pos ⟨hneg, hns, by simp⟩]
                · have hiff : q' ∈ ks.ps.take i ++ [q] ↔ q' ∈ ks.ps.take i := by simp [e1]
                  rw [if_neg e1]
                  simp only [hiff]
              rw [ef] at hk6
              exact ⟨B9, (gB.trans (Gro.of g9)).trans (gof_set (F := fun a => a = ka) g9.bh rfl bk9), _, _, _, rfl, bk9, hk6⟩
            · have hs : ¬ (wt - ks.W (a, b) < 0 ∧ q ∉ seenW ks a b (wt - ks.W (a, b))) := fun z => by
                have : q ∈ seenW ks a b (wt - ks.W (a, b)) := by simpa using c2
                exact z.2 this
              walk_at "dn"
              exact ⟨B', gB, _, _, _, rfl, bk, by rw [same hs]; exact kd⟩
          · have hs : ¬ (wt - ks.W (a, b) < 0 ∧ q ∉ seenW ks a b (wt - ks.W (a, b))) := fun z => by
              have : ¬ wt - ks.W (a, b) < 0 := by simpa using c1
              exact this z.1
            walk_at "dn"
            exact ⟨B', gB, _, _, _, rfl, bk, by rw [same hs]; exact kd⟩
        · obtain ⟨o5, o6, o7, rfl, bk, kd⟩ := p
          rw [List.take_length] at kd
          have kg8 := kg7.setK gB bk kd
          have g08 : Gof (fun a => a ∈ ownK x wa ka pa os) B H B' H' := g07.trans gB fun a ha => .inl (by rw [ha]; exact mem_own.mpr (.inr (.inr (.inl rfl))))
          have hx8 := gB.kp _ _ hx7 ne.xk
          have d8 := d6.up gB.bb
          walk_at "dn"
          refine ⟨x, dx5, _, rfl, hx8, by rfl, ?_⟩
          walk_at "dn"
          refine ⟨x, C, dx5, _, .ref Ls, rfl, hx8, kc.cls, kc.n6, by rfl, ?_⟩
          walk_at "dn"
          refine ⟨x, wa, ka, pa, vp, .ref Ls, .ref Ls, B', n, ⟨wput ks.W (a, b) wt, ks.ps⟩, seenW ks a b (wt - ks.W (a, b)), _, rfl, g08.bh, ⟨⟨dx5, hx8⟩, kg8.wd, wok⟩, kg8.pd, by show ks.ps.length ≤ 1000; omega, d8, fun q hq => ok.lt q (List.mem_filter.mp hq).1, kd, bk, ne.xk, ne.wk, fun B9 H9 f' g9 b9 kd9 hout hin => ?_⟩
          obtain ⟨ef, has'⟩ := weigh_kept ok has hab hb hm hout hin
          have kg9 := kg8.setK g9 b9 kd9
          have kp9 : Kp C B9 H9 n x wa ka pa vp (.ref Ls) ⟨wput ks.W (a, b) wt, ks.ps⟩ (pq ++ [v1]) (past ++ [ks]) (os ++ [o]) := Kg.p (k := ⟨wput ks.W (a, b) wt, ks.ps⟩) kg9 ef
          have g09 : Gof (fun a => a ∈ ownK x wa ka pa os) B H B9 H9 := g08.trans g9 fun a ha => .inl (by rw [ha]; exact mem_own.mpr (.inr (.inr (.inl rfl))))
          have hx9 := g9.kp _ _ hx8 ne.xk
          walk_at "dn"
          refine ⟨x, dx5, _, rfl, hx9, by rfl, ?_⟩
          walk_at "dn"
          refine ⟨x, C, dx5, _, .ref pa, rfl, hx9, kc.cls, kc.n5, by rfl, ?_⟩
          walk_at "dn"
          obtain ⟨vs0, v, os0, o2, epv, eos, pl0, pa0⟩ := kp9.pl.last rfl
          obtain ⟨t, vpt, rfl, ht, wdt, kdt, dpt⟩ := pa0
          refine ⟨pa, _, _, .ref t, rfl, rfl, SqL.of kp9.pt, by rw [epv]; exact atI_last _ _, ?_⟩
          walk_at "dn"
          refine ⟨t, _, _, .ref o2.2, rfl, rfl, SqT.of (g09.bh _ _ ht), atI_nat rfl, ?_⟩
          walk_at "dn"
          refine ⟨x, wa, ka, pa, o2.2, vp, .ref Ls, B9, n, dx5, fK ks, fK ⟨wput ks.W (a, b) wt, ks.ps⟩, rfl, g09.bh, hx9, kdt, kp9.kd, fun v B10 H10 g10 d10 => ?_⟩
          rw [diffF_K] at d10
          exact k v B10 H10 _ (g09.trans (Gro.of g10)) ownb ⟨wa, ka, pa, vp, .ref Ls, _, os ++ [o], rfl, kp9.grow g10⟩ has' d10
      · have hz : wt ≠ 0 := by simpa using cz
        have kg5 := kg3.setW2 gw4 kg3.unw (W' := wput ks.W (a, b) wt) ⟨_, e4, cadd_nd nd, fun q => by
          by_cases hq : q = (a, b)
          · subst hq
            have : wput ks.W (a, b) wt (a, b) = wt := by unfold wput; rw [if_pos rfl]
            rw [this]
            exact ⟨fun _ => hz, fun _ => mem_cadd.mpr (.inr rfl)⟩
          · exact mem' q hq⟩
        have g05 : Gof (fun a => a ∈ ownK x wa ka pa os) B H B3 H4 := g03.trans gw4 fun a ha => .inl (by rw [ha]; exact mem_own.mpr (.inr (.inl rfl)))
        walk_at "dn"
        obtain ⟨dx5, hx5⟩ := kg5.ins
        refine r_lcL (B := B3) (enc := fun (n : Nat) => .int (n : Int)) (items := ks.ps) (p := fun q => sep (sideK ks q) a b == decide (0 < wt - ks.W (a, b))) (f := fun (n : Nat) => .int (n : Int)) (fun R r => ?_) (by omega) (fun i it y B6 H6 hi g6 hy Y N hY hN => ?_) fun Ls B6 H6 g6 d6 => ?_
        · walk_at "dn"
          exact ⟨x, C, dx5, _, vp, rfl, hx5, kc.cls, kc.n3, by rfl, r _ _ _ (Gof.refl g05.bh) kg5.pd⟩
        · cases hy
          refine ⟨rfl, ?_⟩
          have hitm := List.mem_of_getElem? hi
          walk_at "dn"
          refine ⟨x, dx5, _, rfl, g6.hh _ _ hx5, by rfl, ?_⟩
          walk_at "dn"
          refine ⟨x, wa, ka, pa, vp, vs1, B6, n, dx5, it, a, b, fK ks, valK ks it, sideK ks it, rfl, g6.bh, g6.hh _ _ hx5, (kg5.grow g6).kd, by unfold fK; rw [if_pos hitm], ?_⟩
          walk_at "dn"
          refine ⟨rfl, ?_⟩
          walk_at "dn"
          rw [bl_eq]
          refine ite2 (fun c => ?_) (fun c => ?_)
          · walk_at "dn"
            exact hY c _ _ _ (Gof.refl g6.bh) (.int _)
          · exact hN (by simpa using c) _ _ (Gof.refl g6.bh)
        have d6 : D B6 (.ref Ls) (dL (seenW ks a b (wt - ks.W (a, b)))) := d6
        have kg6 := kg5.grow g6
        walk_at "dn"
        refine ⟨x, C, dx5, _, rfl, g6.hh _ _ hx5, kc.cls, kc.n6, by show 6 < 1000; decide, ?_⟩
        rw [put_seen]
        have kg7 := kg6.setS g6.bh (dx := dx5) (vs' := .ref Ls)
        have g07 := (g05.trans (Gro.of g6)).trans (gof_set (F := fun a => a ∈ ownK x wa ka pa os) (o := .ins C dx5 (flds n wa vp ka pa (.ref Ls))) g6.bh (mem_own.mpr (.inl rfl)) kg6.unx)
        have hx7 : (upd H6 x (.ins C dx5 (flds n wa vp ka pa (.ref Ls)))) x = some (.ins C dx5 (flds n wa vp ka pa (.ref Ls))) := upd_same
        generalize upd H6 x (.ins C dx5 (flds n wa vp ka pa (.ref Ls))) = H7 at kg7 g07 hx7
        walk_at "dn"
        refine ⟨x, C, dx5, _, vp, rfl, hx7, kc.cls, kc.n3, by rfl, ?_⟩
        have k0 : ∀ q, fK ks q = keptW ks a b (wt - ks.W (a, b)) (ks.ps.take 0) q := fun q => by
          unfold keptW
          rw [if_neg (fun z => by simp at z)]
        refine loopL (F := fun a => a = ka) ks.ps (fun (n : Nat) => .int (n : Int)) g07.bh kg7.pd ⟨fun i σ' B' H' => ∃ (o5 o6 o7 : Option V), σ' = [some (.ref x), some (.int (a : Int)), some (.int (b : Int)), some (.int wt), some (.int (wt - ks.W (a, b))), o5, o6, o7] ∧ B' ka = none ∧ KDm B' H' ka (keptW ks a b (wt - ks.W (a, b)) (ks.ps.take i)),
          ⟨_, _, _, rfl, kg7.unk, (funext k0 : fK ks = _) ▸ kg7.kd⟩, fun i y σ' B' H' hi gB hy p => ?_, fun σ' B' H' gB p => ?_⟩
        · obtain ⟨o5, o6, o7, rfl, bk, kd⟩ := p
          obtain ⟨q, hq, hd⟩ := hy
          cases hd
          have hqm := List.mem_of_getElem? hq
          have kg8 := kg7.setK gB bk kd
          have hx8 := gB.kp _ _ hx7 ne.xk
          have hnt : q ∉ ks.ps.take i := fun z => by
            obtain ⟨j, hj⟩ := List.mem_iff_getElem?.mp z
            rw [List.getElem?_take] at hj
            split at hj
            · rename_i hji
              obtain ⟨l1, e1⟩ := List.getElem?_eq_some_iff.mp hj
              obtain ⟨l2, e2⟩ := List.getElem?_eq_some_iff.mp hq
              have := (List.getElem_inj (pw_nodup ok.pw)).mp (e1.trans e2.symm)
              omega
            · cases hj
          have tk : ks.ps.take (i + 1) = ks.ps.take i ++ [q] := by rw [List.take_add_one, hq]; rfl
          have same : ¬ (wt - ks.W (a, b) < 0 ∧ q ∉ seenW ks a b (wt - ks.W (a, b))) → keptW ks a b (wt - ks.W (a, b)) (ks.ps.take (i + 1)) = keptW ks a b (wt - ks.W (a, b)) (ks.ps.take i) := fun hno => by
            funext q'
            unfold keptW
            rw [tk]
            by_cases e1 : q' = q
            · subst e1
              rw [if_neg (fun z => hno ⟨z.1, z.2.1⟩), if_neg (fun z => hno ⟨z.1, z.2.1⟩)]
            · have hiff : q' ∈ ks.ps.take i ++ [q] ↔ q' ∈ ks.ps.take i := by simp [e1]
              simp only [hiff]
          walk_at "dn"
          refine ite2 (fun c1 => ?_) (fun c1 => ?_)
          · have hneg : wt - ks.W (a, b) < 0 := by simpa using c1
            walk_at "dn"
            refine ⟨x, C, dx5, _, .ref Ls, rfl, hx8, kc.cls, kc.n6, by rfl, ?_⟩
            refine r_notIn gB.bh ((d6.up (Ex.refl _)).up gB.bb) ?_
            walk_at "dn"
            refine ite2 (fun c2 => ?_) (fun c2 => ?_)
            · have hns : q ∉ seenW ks a b (wt - ks.W (a, b)) := by simpa using c2
              have hfq : keptW ks a b (wt - ks.W (a, b)) (ks.ps.take i) q = some (valK ks q, sideK ks q) := by
                unfold keptW
                rw [if_neg (fun z => hnt z.2.2)]
                unfold fK
                rw [if_pos hqm]
              obtain ⟨kk, hk1, _, hk3⟩ := kd.val q
              obtain ⟨u, u1, u2⟩ := hk3 _ _ hfq
              walk_at "dn"
              refine ⟨x, C, dx5, _, .ref ka, rfl, hx8, kc.cls, kc.n4, by rfl, ?_⟩
              walk_at "dn"
              refine ⟨ka, u, rfl, by rw [← u1]; exact DGet.k (k := kN q) hk1, ?_⟩
              refine g_tup2 gB.bh u2 fun v6 v7 h6 h7 => ?_
              cases h6
              walk_at "dn"
              refine r_tup2 gB.bh (.int _) h7 fun p9 B9 H9 g9 _ d9 => ?_
              walk_at "dn"
              refine ⟨x, C, dx5, _, .ref ka, rfl, g9.hh _ _ hx8, kc.cls, kc.n4, by rfl, ?_⟩
              walk_at "dn"
              obtain ⟨kk2, hk4, hk5, hk6⟩ := (kd.grow g9 fun z => z).put (q := q) (by have := ok.lt q hqm; omega) d9
              have bk9 : B9 ka = none := g9.fr ka _ hk1 trivial bk
              refine r_putK hk4 (by omega) ?_
              walk_at "dn"
              have ef : fput (keptW ks a b (wt - ks.W (a, b)) (ks.ps.take i)) q (valK ks q + (wt - ks.W (a, b)), sideK ks q) = keptW ks a b (wt - ks.W (a, b)) (ks.ps.take (i + 1)) := by
                funext q'
                unfold fput keptW
                rw [tk]
                by_cases e1 : q' = q
                · subst e1
                  rw [if_pos rfl, if_pos ⟨hneg, hns, by simp⟩]
                · have hiff : q' ∈ ks.ps.take i ++ [q] ↔ q' ∈ ks.ps.take i := by simp [e1]
                  rw [if_neg e1]
                  simp only [hiff]
              rw [ef] at hk6
              exact ⟨B9, (gB.trans (Gro.of g9)).trans (gof_set (F := fun a => a = ka) g9.bh rfl bk9), _, _, _, rfl, bk9, hk6⟩
            · have hs : ¬ (wt - ks.W (a, b) < 0 ∧ q ∉ seenW ks a b (wt - ks.W (a, b))) := fun z => by
                have : q ∈ seenW ks a b (wt - ks.W (a, b)) := by simpa using c2
                exact z.2 this
              walk_at "dn"
              exact ⟨B', gB, _, _, _, rfl, bk, by rw [same hs]; exact kd⟩
          · have hs : ¬ (wt - ks.W (a, b) < 0 ∧ q ∉ seenW ks a b (wt - ks.W (a, b))) := fun z => by
              have : ¬ wt - ks.W (a, b) < 0 := by simpa using c1
              exact this z.1
            walk_at "dn"
            exact ⟨B', gB, _, _, _, rfl, bk, by rw [same hs]; exact kd⟩
        · obtain ⟨o5, o6, o7, rfl, bk, kd⟩ := p
          rw [List.take_length] at kd
          have kg8 := kg7.setK gB bk kd
          have g08 : Gof (fun a => a ∈ ownK x wa ka pa os) B H B' H' := g07.trans gB fun a ha => .inl (by rw [ha]; exact mem_own.mpr (.inr (.inr (.inl rfl))))
          have hx8 := gB.kp _ _ hx7 ne.xk
          have d8 := d6.up gB.bb
          walk_at "dn"
          refine ⟨x, dx5, _, rfl, hx8, by rfl, ?_⟩
          walk_at "dn"
          refine ⟨x, C, dx5, _, .ref Ls, rfl, hx8, kc.cls, kc.n6, by rfl, ?_⟩
          walk_at "dn"
          refine ⟨x, wa, ka, pa, vp, .ref Ls, .ref Ls, B', n, ⟨wput ks.W (a, b) wt, ks.ps⟩, seenW ks a b (wt - ks.W (a, b)), _, rfl, g08.bh, ⟨⟨dx5, hx8⟩, kg8.wd, wok⟩, kg8.pd, by show ks.ps.length ≤ 1000; omega, d8, fun q hq => ok.lt q (List.mem_filter.mp hq).1, kd, bk, ne.xk, ne.wk, fun B9 H9 f' g9 b9 kd9 hout hin => ?_⟩
          obtain ⟨ef, has'⟩ := weigh_kept ok has hab hb hm hout hin
          have kg9 := kg8.setK g9 b9 kd9
          have kp9 : Kp C B9 H9 n x wa ka pa vp (.ref Ls) ⟨wput ks.W (a, b) wt, ks.ps⟩ (pq ++ [v1]) (past ++ [ks]) (os ++ [o]) := Kg.p (k := ⟨wput ks.W (a, b) wt, ks.ps⟩) kg9 ef
          have g09 : Gof (fun a => a ∈ ownK x wa ka pa os) B H B9 H9 := g08.trans g9 fun a ha => .inl (by rw [ha]; exact mem_own.mpr (.inr (.inr (.inl rfl))))
          have hx9 := g9.kp _ _ hx8 ne.xk
          walk_at "dn"
          refine ⟨x, dx5, _, rfl, hx9, by rfl, ?_⟩
          walk_at "dn"
          refine ⟨x, C, dx5, _, .ref pa, rfl, hx9, kc.cls, kc.n5, by rfl, ?_⟩
          walk_at "dn"
          obtain ⟨vs0, v, os0, o2, epv, eos, pl0, pa0⟩ := kp9.pl.last rfl
          obtain ⟨t, vpt, rfl, ht, wdt, kdt, dpt⟩ := pa0
          refine ⟨pa, _, _, .ref t, rfl, rfl, SqL.of kp9.pt, by rw [epv]; exact atI_last _ _, ?_⟩
          walk_at "dn"
          refine ⟨t, _, _, .ref o2.2, rfl, rfl, SqT.of (g09.bh _ _ ht), atI_nat rfl, ?_⟩
          walk_at "dn"
          refine ⟨x, wa, ka, pa, o2.2, vp, .ref Ls, B9, n, dx5, fK ks, fK ⟨wput ks.W (a, b) wt, ks.ps⟩, rfl, g09.bh, hx9, kdt, kp9.kd, fun v B10 H10 g10 d10 => ?_⟩
          rw [diffF_K] at d10
          exact k v B10 H10 _ (g09.trans (Gro.of g10)) ownb ⟨wa, ka, pa, vp, .ref Ls, _, os ++ [o], rfl, kp9.grow g10⟩ has' d10
end
end KPR
set_option Elab.async false
set_option linter.all false
set_option maxRecDepth 100000
set_option maxHeartbeats 2000000
/-! W18: Keeper.__init__. -/
namespace KPR
open PySem L2
local macro_rules | `(tactic| walk_at "dn") => `(tactic| repeat (first
  | (with_reducible refine w_seq ?_) | (with_reducible refine w_asg ?_) | (with_reducible refine w_drop ?_) | (with_reducible refine w_ret ?_) | (with_reducible refine w_ifs ?_)
  | ((with_reducible refine' w_var ?hv ?_); (case hv => exact rfl)) | (with_reducible refine w_c ?_) | (with_reducible refine w_op ?_) | (with_reducible refine w_un ?_) | (with_reducible refine w_cb ?_)
  | (with_reducible refine w_nil ?_) | (with_reducible refine w_cons ?_) | (with_reducible refine w_gname ?_) | (with_reducible refine w_test ?_) | (with_reducible refine w_b ?_) | (with_reducible refine w_exbl ?_)
  | (with_reducible refine w_and ?_) | (with_reducible refine w_or ?_) | (with_reducible refine w_not ?_) | (with_reducible refine w_if ?_) | (with_reducible refine w_andV ?_) | (with_reducible refine w_orV ?_) | (with_reducible refine w_notV ?_)
  | (with_reducible refine w_tup ?_) | (with_reducible refine w_lst ?_) | (with_reducible refine w_dnewK ?_) | (with_reducible refine w_dnewT ?_) | (with_reducible refine w_din ?_) | (with_reducible refine w_dnin ?_) | (with_reducible refine w_dget ?_) | (with_reducible refine w_dget2 ?_)
  | (with_reducible refine w_fld ?_) | (with_reducible refine w_cal ?_) | (with_reducible refine w_met ?_) | (with_reducible refine w_mak ?_) | (with_reducible refine w_bm ?_) | (with_reducible refine w_bm0 ?_) | (with_reducible refine w_sl ?_)
  | (with_reducible refine w_nopart ?_) | (with_reducible refine w_part ?_) | (with_reducible refine w_sfld ?_) | (with_reducible refine w_dput ?_) | ((with_reducible refine' w_aug ?hv ?_); (case hv => exact rfl)) | (with_reducible refine w_iT ?_) | (with_reducible refine w_iF ?_)
  | (with_reducible refine w_ii0 ?_) | (with_reducible refine w_neg ?_) | (with_reducible refine w_ip ?_) | (with_reducible refine w_yes ?_) | (with_reducible refine w_for ?_) | (with_reducible refine w_ilist ?_) | (with_reducible refine w_itup ?_) | (with_reducible refine w_irng1 ?_) | (with_reducible refine w_irng2 ?_) | (with_reducible refine w_ienum ?_) | (with_reducible refine w_ienumT ?_)
  | (with_reducible refine w_ckw ?_) | (with_reducible refine w_gd ?_) | (with_reducible refine w_chain ?_) | (with_reducible refine w_next ?_)))

section
variable {P : Program} {w : World} {K : PySem.W.Frag} {mg : Str → Option Value} {base : Heap} {C Cf : Addr}
def sp_K_init (C : Addr) : Sp := fun vs H Q _ => ∃ (x : Addr) (vw vpo : V) (dx : Addr) (B : Hp) (n : Nat) (k : KS), vs = [.ref x, vw, vpo] ∧ Ex B H ∧ H x = some (.ins C dx []) ∧ B x = none ∧ D B vw (dWeb n (tiesOf k.W)) ∧ D B vpo (dL k.ps) ∧ KOk n k ∧
  ∀ B' H' own', Gof (fun a => a = x) B H B' H' → (∀ a ∈ own', a = x ∨ H a = none) → KpE C B' H' n x k [] own' → Has k → Q .non H'
theorem ok_K_init (R : RawI K mg C "Keeper" "Keeper.__init__" s_K_init ["self", "web", "posts"]) (kc : KpC K C) (T : TB mg) (c_K_find : MethT P w K mg base C "find" 6 ["self", "posts"] (sp_K_find C)) : MakeT P w K mg base C "Keeper" 7 ["self", "web", "posts"] (sp_K_init C) := by
  refine R.ok fun f fd F => F.ok sc_K_init (fun vs H Q E h => ?_) (fun cdv A outer s H vs Q E hr h => ?_)
  · obtain ⟨_, _, _, _, _, _, _, rfl, _⟩ := h
    rfl
  · obtain ⟨x, vw, vpo, dx, B, n, ks, rfl, e, hx, bx, hw, hp, ok, k⟩ := h
    refine ⟨_, (pss_cons (k_sfld (K := K) (pv 0) (pe_ix (k_ixT (K := K)) (pv 1) pe_int (fun _ _ => rfl)) rfl)
  (pss_cons (k_sfld (K := K) (pv 0) (pe_callTy (k_dictT rfl hr.units) (by rfl) T.z_dict (by decide +kernel) (pa_cons (pe_lc (own := [("a", 3), ("b", 4), ("weight", 5)]) (g := (gTup K 3 (gCons (gName 3) (gCons (gName 4) (gCons (gName 5) gNil))))) (by rfl) sc_K_init.nd (k_itup (K := K) (pe_ix (k_ixT (K := K)) (pv 1) pe_int (fun _ _ => rfl))) (blkOk_by (N := nm_K_init) (sc := defScope s_K_init) (by decide +kernel)) (fun _ _ _ _ _ => (k_gtup (K := K) (by rfl) (pgs_cons (pg_name (i := 3) sc_K_init.nd rfl (by first | exact Or.inl rfl | exact Or.inr rfl)) (pgs_cons (pg_name (i := 4) sc_K_init.nd rfl (by first | exact Or.inl rfl | exact Or.inr rfl)) (pgs_cons (pg_name (i := 5) sc_K_init.nd rfl (by first | exact Or.inl rfl | exact Or.inr rfl)) pgs_nil))))) (fun _ _ _ _ _ => pts_nil) (fun _ _ _ _ _ => (pe_tup (pa_cons (pe_tup (pa_cons (pv 3) (pa_cons (pv 4) pa_nil))) (pa_cons (pv 5) pa_nil))))) pa_nil)) rfl)
  (pss_cons (k_sfld (K := K) (pv 0) (pe_callTy (k_list (K := K)) (by rfl) T.z_list (by decide +kernel) (pa_cons (pv 2) pa_nil)) rfl)
  (pss_cons (k_sfld (K := K) (pv 0) pe_dnewK rfl)
  (pss_cons (k_sfld (K := K) (pv 0) (pe_lst pa_nil) rfl)
  (pss_cons (k_sfld (K := K) (pv 0) (pe_lst pa_nil) rfl)
  (pss_one (ps_expr (k_meth c_K_find hr (pv 0) (pa_cons (k_fld (K := K) (pv 0)) pa_nil)))))))))), ?_⟩
    have hn := ok.w.n10
    have hl := ok.len
    have htl : (tiesOf ks.W).length ≤ 45 := (tiesOf_wf ok.w).len
    walk_at "dn"
    refine r_ixT (i := 0) e hw rfl fun vn hvn => ?_
    cases hvn
    walk_at "dn"
    refine ⟨x, C, dx, _, rfl, hx, kc.cls, kc.n1, by decide, ?_⟩
    have g1 := gof_set (F := fun a => a = x) (o := .ins C dx [("many", .int (n : Int))]) e rfl bx
    have hx1 : (upd H x (.ins C dx [("many", .int (n : Int))])) x = some (.ins C dx [("many", .int (n : Int))]) := upd_same
    show tSeq _ _ _ _ (upd H x (.ins C dx [("many", .int (n : Int))]))
    generalize upd H x (.ins C dx [("many", .int (n : Int))]) = H1 at g1 hx1
    walk_at "dn"
    refine r_lcT (B := B) (enc := dTie) (items := tiesOf ks.W) (p := fun _ => true) (f := fun t => .tuple [dPair (prOf t), .int t.2.2]) (gv_ixT rfl g1.bh hw rfl) (by omega) (fun i it y B3 H3 hi g3 hy Y N hY hN => ?_) fun D0 B2 H2 g2 d2 => ?_
    · refine g_tup3 g3.bh hy fun a b wt ha hb hwt => ⟨rfl, ?_⟩
      cases ha
      cases hb
      walk_at "dn"
      refine r_tup2 g3.bh (.int _) (.int _) fun p B4 H4 g4 _ d4 => ?_
      walk_at "dn"
      exact r_tup2 g4.bh d4 (hwt.up g4.bb) fun p5 B5 H5 g5 _ d5 => hY rfl _ _ _ (g4.trans g5) d5
    rw [filter_yes] at d2
    walk_at "dn"
    refine r_dictT (items := tiesOf ks.W) (kf := prOf) (vf := fun t => .int t.2.2) (dv := fun t => .int t.2.2) (fun _ _ _ h => h.int_inv) g2.bh d2 fun wa hwa => ?_
    have ekv : ((tiesOf ks.W).map fun t => (kP (prOf t), V.int t.2.2)).foldl (fun acc kv => putK acc kv.1 kv.2) [] = kvW (supp ks.W) ks.W := by
      rw [kv_fold (by rw [prOf_ties]; exact supp_nd _)]
      unfold kvW tiesOf
      rw [List.map_map]
      rfl
    rw [ekv]
    have g3 := (g1.trans (Gro.of g2)).trans (Gro.of (gro_mut (o := .dT (kvW (supp ks.W) ks.W)) g2.bh hwa))
    have hx2 := g2.hh _ _ hx1
    have bx2 := g2.fr x _ hx1 trivial bx
    have hx3 : (upd H2 wa (.dT (kvW (supp ks.W) ks.W))) x = some (.ins C dx [("many", .int (n : Int))]) := by rw [upd_ne (ne_of_none hx2 hwa)]; exact hx2
    have ew3 : (upd H2 wa (.dT (kvW (supp ks.W) ks.W))) wa = some (.dT (kvW (supp ks.W) ks.W)) := upd_same
    have bw2 : B2 wa = none := g2.bh.back hwa
    have hwa0 : H wa = none := (g1.trans (Gro.of g2)).back hwa
    have nxw : x ≠ wa := ne_of_none hx2 hwa
    generalize upd H2 wa (.dT (kvW (supp ks.W) ks.W)) = H3 at g3 hx3 ew3
    walk_at "dn"
    refine ⟨x, C, dx, _, rfl, hx3, kc.cls, kc.n2, by show 1 < 1000; decide, ?_⟩
    have g4 := g3.trans (gof_set (F := fun a => a = x) (o := .ins C dx [("many", .int (n : Int)), ("weights", .ref wa)]) g3.bh rfl bx2)
    have hx4 : (upd H3 x (.ins C dx [("many", .int (n : Int)), ("weights", .ref wa)])) x = some (.ins C dx [("many", .int (n : Int)), ("weights", .ref wa)]) := upd_same
    have ew4 : (upd H3 x (.ins C dx [("many", .int (n : Int)), ("weights", .ref wa)])) wa = some (.dT (kvW (supp ks.W) ks.W)) := by rw [upd_ne (Ne.symm nxw)]; exact ew3
    show tSeq _ _ _ _ (upd H3 x (.ins C dx [("many", .int (n : Int)), ("weights", .ref wa)]))
    generalize upd H3 x (.ins C dx [("many", .int (n : Int)), ("weights", .ref wa)]) = H4 at g4 hx4 ew4
    walk_at "dn"
    refine r_listL g4.bh (hp.up g4.bb) fun vpp B5 H5 g5 d5 => ?_
    walk_at "dn"
    have hx5 := g5.hh _ _ hx4
    have bx5 := g5.fr x _ hx4 trivial bx2
    refine ⟨x, C, dx, _, rfl, hx5, kc.cls, kc.n3, by show 2 < 1000; decide, ?_⟩
    have g6 := (g4.trans (Gro.of g5)).trans (gof_set (F := fun a => a = x) (o := .ins C dx [("many", .int (n : Int)), ("weights", .ref wa), ("posts", .ref vpp)]) g5.bh rfl bx5)
    have hx6 : (upd H5 x (.ins C dx [("many", .int (n : Int)), ("weights", .ref wa), ("posts", .ref vpp)])) x = some (.ins C dx [("many", .int (n : Int)), ("weights", .ref wa), ("posts", .ref vpp)]) := upd_same
    have ew6 : (upd H5 x (.ins C dx [("many", .int (n : Int)), ("weights", .ref wa), ("posts", .ref vpp)])) wa = some (.dT (kvW (supp ks.W) ks.W)) := by rw [upd_ne (Ne.symm nxw)]; exact g5.hh _ _ ew4
    have bw5 := g5.fr wa _ ew4 trivial bw2
    show tSeq _ _ _ _ (upd H5 x (.ins C dx [("many", .int (n : Int)), ("weights", .ref wa), ("posts", .ref vpp)]))
    generalize upd H5 x (.ins C dx [("many", .int (n : Int)), ("weights", .ref wa), ("posts", .ref vpp)]) = H6 at g6 hx6 ew6
    walk_at "dn"
    refine r_newM g6.bh fun ka H7 hka g7 e7 b7 => ?_
    walk_at "dn"
    have hx7 := g7.hh _ _ hx6
    have ek7 : H7 ka = some (.dK []) := by rw [e7, upd_same]
    have nxk : x ≠ ka := ne_of_none hx6 hka
    have nwk : wa ≠ ka := ne_of_none ew6 hka
    refine ⟨x, C, dx, _, rfl, hx7, kc.cls, kc.n4, by show 3 < 1000; decide, ?_⟩
    have g8 := (g6.trans (Gro.of g7)).trans (gof_set (F := fun a => a = x) (o := .ins C dx [("many", .int (n : Int)), ("weights", .ref wa), ("posts", .ref vpp), ("kept", .ref ka)]) g7.bh rfl bx5)
    have hx8 : (upd H7 x (.ins C dx [("many", .int (n : Int)), ("weights", .ref wa), ("posts", .ref vpp), ("kept", .ref ka)])) x = some (.ins C dx [("many", .int (n : Int)), ("weights", .ref wa), ("posts", .ref vpp), ("kept", .ref ka)]) := upd_same
    have ew8 : (upd H7 x (.ins C dx [("many", .int (n : Int)), ("weights", .ref wa), ("posts", .ref vpp), ("kept", .ref ka)])) wa = some (.dT (kvW (supp ks.W) ks.W)) := by rw [upd_ne (Ne.symm nxw)]; exact g7.hh _ _ ew6
    have ek8 : (upd H7 x (.ins C dx [("many", .int (n : Int)), ("weights", .ref wa), ("posts", .ref vpp), ("kept", .ref ka)])) ka = some (.dK []) := by rw [upd_ne (Ne.symm nxk)]; exact ek7
    have hka0 : H ka = none := g6.back hka
    show tSeq _ _ _ _ (upd H7 x (.ins C dx [("many", .int (n : Int)), ("weights", .ref wa), ("posts", .ref vpp), ("kept", .ref ka)]))
    generalize upd H7 x (.ins C dx [("many", .int (n : Int)), ("weights", .ref wa), ("posts", .ref vpp), ("kept", .ref ka)]) = H8 at g8 hx8 ew8 ek8
    walk_at "dn"
    refine r_lstM g8.bh (by show 0 ≤ 100000; decide) fun pa H9 hpa g9 e9 b9 => ?_
    walk_at "dn"
    have hx9 := g9.hh _ _ hx8
    have nxp : x ≠ pa := ne_of_none hx8 hpa
    have nwp : wa ≠ pa := ne_of_none ew8 hpa
    have nkp : ka ≠ pa := ne_of_none ek8 hpa
    refine ⟨x, C, dx, _, rfl, hx9, kc.cls, kc.n5, by show 4 < 1000; decide, ?_⟩
    have g10 := (g8.trans (Gro.of g9)).trans (gof_set (F := fun a => a = x) (o := .ins C dx [("many", .int (n : Int)), ("weights", .ref wa), ("posts", .ref vpp), ("kept", .ref ka), ("past", .ref pa)]) g9.bh rfl bx5)
    have hx10 : (upd H9 x (.ins C dx [("many", .int (n : Int)), ("weights", .ref wa), ("posts", .ref vpp), ("kept", .ref ka), ("past", .ref pa)])) x = some (.ins C dx [("many", .int (n : Int)), ("weights", .ref wa), ("posts", .ref vpp), ("kept", .ref ka), ("past", .ref pa)]) := upd_same
    have ew10 : (upd H9 x (.ins C dx [("many", .int (n : Int)), ("weights", .ref wa), ("posts", .ref vpp), ("kept", .ref ka), ("past", .ref pa)])) wa = some (.dT (kvW (supp ks.W) ks.W)) := by rw [upd_ne (Ne.symm nxw)]; exact g9.hh _ _ ew8
    have ek10 : (upd H9 x (.ins C dx [("many", .int (n : Int)), ("weights", .ref wa), ("posts", .ref vpp), ("kept", .ref ka), ("past", .ref pa)])) ka = some (.dK []) := by rw [upd_ne (Ne.symm nxk)]; exact g9.hh _ _ ek8
    have ep10 : (upd H9 x (.ins C dx [("many", .int (n : Int)), ("weights", .ref wa), ("posts", .ref vpp), ("kept", .ref ka), ("past", .ref pa)])) pa = some (.lst []) := by rw [upd_ne (Ne.symm nxp)]; exact e9
    have hpa0 : H pa = none := g8.back hpa
    show tSeq _ _ _ _ (upd H9 x (.ins C dx [("many", .int (n : Int)), ("weights", .ref wa), ("posts", .ref vpp), ("kept", .ref ka), ("past", .ref pa)]))
    generalize upd H9 x (.ins C dx [("many", .int (n : Int)), ("weights", .ref wa), ("posts", .ref vpp), ("kept", .ref ka), ("past", .ref pa)]) = H10 at g10 hx10 ew10 ek10 ep10
    walk_at "dn"
    refine r_lst (xs := []) g10.bh .nil (by show 0 ≤ 100000; decide) fun sn B11 H11 g11 _ _ => ?_
    walk_at "dn"
    have hx11 := g11.hh _ _ hx10
    have bx11 := g11.fr x _ hx10 trivial bx5
    refine ⟨x, C, dx, _, rfl, hx11, kc.cls, kc.n6, by show 5 < 1000; decide, ?_⟩
    have g12 := (g10.trans (Gro.of g11)).trans (gof_set (F := fun a => a = x) (o := .ins C dx (flds n wa (.ref vpp) ka pa (.ref sn))) g11.bh rfl bx11)
    have hx12 : (upd H11 x (.ins C dx (flds n wa (.ref vpp) ka pa (.ref sn)))) x = some (.ins C dx (flds n wa (.ref vpp) ka pa (.ref sn))) := upd_same
    have ew12 : (upd H11 x (.ins C dx (flds n wa (.ref vpp) ka pa (.ref sn)))) wa = some (.dT (kvW (supp ks.W) ks.W)) := by rw [upd_ne (Ne.symm nxw)]; exact g11.hh _ _ ew10
    have ek12 : (upd H11 x (.ins C dx (flds n wa (.ref vpp) ka pa (.ref sn)))) ka = some (.dK []) := by rw [upd_ne (Ne.symm nxk)]; exact g11.hh _ _ ek10
    have ep12 : (upd H11 x (.ins C dx (flds n wa (.ref vpp) ka pa (.ref sn)))) pa = some (.lst []) := by rw [upd_ne (Ne.symm nxp)]; exact g11.hh _ _ ep10
    have bw11 := g11.fr wa _ ew10 trivial bw5
    have bk11 := g11.fr ka _ ek10 trivial b7
    have bp11 := g11.fr pa _ ep10 trivial b9
    have epf : putF "seen" (V.ref sn) [("many", .int (n : Int)), ("weights", .ref wa), ("posts", .ref vpp), ("kept", .ref ka), ("past", .ref pa)] = flds n wa (.ref vpp) ka pa (.ref sn) := rfl
    rw [epf]
    generalize upd H11 x (.ins C dx (flds n wa (.ref vpp) ka pa (.ref sn))) = H12 at g12 hx12 ew12 ek12 ep12
    have d12 : D B11 (.ref vpp) (dL ks.ps) := (show D B5 (.ref vpp) (dL ks.ps) from d5).up g11.bb
    have kg : Kg C B11 H12 n x wa ka pa (.ref vpp) (.ref sn) ks.W ks.ps (fun _ => none) [] [] [] := by
      refine ⟨⟨dx, hx12⟩, ⟨supp ks.W, ew12, supp_nd _, fun p => mem_supp ok.w⟩, ⟨[], [], ek12, rfl, List.nodup_nil, (fun q => by simp), (fun q hq => nomatch hq), fun q v S hq => nomatch hq⟩, d12, ep12, .nil, ?_, fun a ha => ?_⟩
      · unfold ownK
        simp [nxw, nxk, nxp, nwk, nwp, nkp]
      · rcases mem_own.mp ha with y | y | y | y | ⟨o, ho, _⟩
        · rw [y]; exact bx11
        · rw [y]; exact bw11
        · rw [y]; exact bk11
        · rw [y]; exact bp11
        · exact nomatch ho
    walk_at "dn"
    refine ⟨x, dx, _, rfl, hx12, by rfl, ?_⟩
    walk_at "dn"
    refine ⟨x, C, dx, _, .ref vpp, rfl, hx12, kc.cls, kc.n3, by rfl, ?_⟩
    walk_at "dn"
    refine ⟨x, wa, ka, pa, .ref vpp, .ref sn, .ref vpp, B11, n, ks, ks.ps, fun _ => none, rfl, g12.bh, ⟨⟨dx, hx12⟩, kg.wd, ok.w⟩, d12, by omega, d12, ok.lt, kg.kd, kg.unk, nxk, nwk, fun B13 H13 f' g13 b13 kd13 hout hin => ?_⟩
    have ef : f' = fK ks := by
      funext q
      unfold fK
      by_cases hq : q ∈ ks.ps
      · rw [if_pos hq]; exact (hin q hq).1
      · rw [if_neg hq]; exact hout q hq
    have kp := Kg.p (k := ks) (kg.setK g13 b13 kd13) ef
    walk_at "dn"
    refine k B13 H13 _ (g12.trans g13 fun a ha => .inr (by rw [ha]; exact hka0)) (fun a ha => ?_) ⟨wa, ka, pa, .ref vpp, .ref sn, [], [], rfl, kp⟩ fun q hq => (hin q hq).2
    rcases mem_own.mp ha with y | y | y | y | ⟨o, ho, _⟩
    · exact .inl y
    · exact .inr (by rw [y]; exact hwa0)
    · exact .inr (by rw [y]; exact hka0)
    · exact .inr (by rw [y]; exact hpa0)
    · exact nomatch ho
end
end KPR
set_option Elab.async false
set_option linter.all false
set_option maxRecDepth 100000
/-! KP: boxes of draws; the law's small built-ins. -/
namespace KPR
open PySem L2
section
variable {X : Cx}
def rMax2 : List V → Hp → VK → Prop := fun xs H Q => ∃ i j : Int, xs = [.int i, .int j] ∧ Q (.int (if j > i then j else i)) H
theorem k_max2 (hc : X.calm = true) : CallR X (.builtin "max") rMax2 := call_max2 hc
def rMin2 : List V → Hp → VK → Prop := fun xs H Q => ∃ i j : Int, xs = [.int i, .int j] ∧ Q (.int (if j < i then j else i)) H
theorem k_min2 (hc : X.calm = true) : CallR X (.builtin "min") rMin2 := call_min2 hc
def rInt1 : List V → Hp → VK → Prop := fun xs H Q => (∃ i : Int, xs = [.int i] ∧ Q (.int i) H) ∨ ∃ k : Bool, xs = [.bl k] ∧ Q (.int (if k then 1 else 0)) H
theorem k_int1 : CallR X (.type "int") rInt1 := call_int1
end
section
variable {K : PySem.W.Frag} {H : Hp} {σ : St} {Q : VK} {D0 : Ends}
theorem w_max2 {i j : Int} (h : Q (.int (if j > i then j else i)) H) : rMax2 [.int i, .int j] H Q := ⟨i, j, rfl, h⟩
theorem w_min2 {i j : Int} (h : Q (.int (if j < i then j else i)) H) : rMin2 [.int i, .int j] H Q := ⟨i, j, rfl, h⟩
theorem w_int1 {k : Bool} (h : Q (.int (if k then 1 else 0)) H) : rInt1 [.bl k] H Q := .inr ⟨k, rfl, h⟩
theorem w_gsub {to ti : TE} {t : TSet} {v : V} {R : St → Hp → Prop} (h : to σ H fun o H1 => ti σ H1 fun i H2 => t o i v H2 fun H3 => R σ H3) : gSub to ti t v σ H R := h
theorem w_par {i j : Nat} {ta : TA} (h : ta σ H fun vs H1 => ∃ v w, vs = [v, w] ∧ D0.nx ((σ.set i (some v)).set j (some w)) H1) : tPar i j ta D0 σ H := h
theorem w_mod {i j : Int} (hj : j ≠ 0) (h : Q (.int (i.fmod j)) H) : rI (fun _ j => j ≠ 0) (fun i j => .int (i.fmod j)) (.int i) (.int j) H Q := ⟨i, j, rfl, rfl, hj, h⟩
theorem w_fdv {i j : Int} (hj : CDivN i j) (h : Q (.int (i.fdiv j)) H) : rI CDivN (fun i j => .int (i.fdiv j)) (.int i) (.int j) H Q := ⟨i, j, rfl, rfl, hj, h⟩
theorem w_mul {i j : Int} (hj : CMul i j) (h : Q (.int (i * j)) H) : rI CMul (fun i j => .int (i * j)) (.int i) (.int j) H Q := ⟨i, j, rfl, rfl, hj, h⟩
theorem w_pow {i j : Int} (hj : CPow i j) (h : Q (.int (i ^ j.toNat)) H) : rI CPow (fun i j => .int (i ^ j.toNat)) (.int i) (.int j) H Q := ⟨i, j, rfl, rfl, hj, h⟩
theorem r_setLm {a : Addr} {xs : List V} {j : Nat} {v : V} {R : Hp → Prop} (h : H a = some (.lst xs)) (hj : j < xs.length) (k : R (upd H a (.lst (xs.set j v)))) : rSetL (.ref a) (.int (j : Int)) v H R := by
  refine ⟨a, xs, (j : Int), j, rfl, rfl, h, ?_, k⟩
  unfold ixN
  rw [if_pos (by omega), if_pos (by omega), Int.toNat_natCast]
end
theorem b01 (b : Bool) : -(2 ^ 64) < (if b = true then 1 else 0 : Int) ∧ (if b = true then 1 else 0 : Int) < 2 ^ 64 := by cases b <;> decide
theorem fmod_nat (x : Int) {m : Nat} (h : 0 < m) : ∃ r : Nat, x.fmod (m : Int) = (r : Int) ∧ r < m := by
  have h1 : 0 ≤ x.fmod (m : Int) := Int.fmod_nonneg_of_pos x (by omega)
  have h2 : x.fmod (m : Int) < (m : Int) := Int.fmod_lt_of_pos x (by omega)
  exact ⟨(x.fmod (m : Int)).toNat, by omega, by omega⟩
/-- a box at ba, from which at most c draws were made -/
structure Bx (B H : Hp) (ba : Addr) (c : Nat) : Prop where
  at_ : ∃ b0 b1 b2 : Int, H ba = some (.lst [.int b0, .int b1, .int b2]) ∧ 0 ≤ b2 ∧ b2 ≤ (c : Int)
  un : B ba = none
section
variable {B H B' H' : Hp} {ba : Addr} {c d : Nat} {F : Addr → Prop}
theorem Bx.more (b : Bx B H ba c) (h : c ≤ d) : Bx B H ba d := let ⟨b0, b1, b2, x, y, z⟩ := b.at_; ⟨⟨b0, b1, b2, x, y, by omega⟩, b.un⟩
theorem Bx.grow (b : Bx B H ba c) (g : Gof F B H B' H') (hf : ¬ F ba) : Bx B' H' ba c := by
  obtain ⟨b0, b1, b2, x, y, z⟩ := b.at_
  exact ⟨⟨b0, b1, b2, g.kp _ _ x hf, y, z⟩, g.fr ba _ x trivial b.un⟩
end
end KPR
set_option Elab.async false
set_option linter.all false
set_option maxRecDepth 100000
/-! KQ2: comprehensions over a range that a draw gives; lengths of sorted lists. -/
namespace KPR
open PySem L2
section
variable {K : PySem.W.Frag} {B H : Hp} {σ : St} {Q : VK} {g : TG} {tt : TT} {te : TE} {vs : List Nat} {ta : TA}
def LcW (J : It) (g : TG) (tt : TT) (te : TE) (vs : List Nat) (σ : St) (Q : VK) (H1 : Hp) : Prop := ∀ D, H1 D = none → ∃ W : Nat → Nat → Hp → Prop, (∃ m, W 0 m (upd H1 D (.lst []))) ∧ ∀ i m H, W i m H →
  (J.stop i H ∧ Q (.ref D) H) ∨ (J.go i H ∧ ∃ Nx : Hp → Prop, (∀ H', Nx H' → ∃ m', m' < m ∧ W (i + 1) m' H') ∧ ∀ x H', J.yld i H x H' → g x (wipe σ vs) H' fun σ2 H2 => wipe σ2 vs = wipe σ vs ∧ tt σ2 H2 fun b H3 =>
    if b = true then te σ2 H3 fun y H4 => ∃ acc, H4 D = some (.lst acc) ∧ acc.length < sizeLine ∧ Nx (upd H4 D (.lst (acc ++ [y]))) else Nx H3)
theorem w_lcr1 (h : ta σ H fun us H1 => ∃ j : Int, us = [.int j] ∧ -(2 ^ 62) ≤ j ∧ j < 2 ^ 62 ∧ LcW (Itr 0 j.toNat) g tt te vs σ Q H1) : tLc (iRng1 ta) g tt te vs σ H Q := h
theorem lcR_at {F : Addr → Prop} {n : Nat} (P : Addr → Nat → List V → Hp → Hp → Prop) (e : Ex B H) (hz : n ≤ 1000)
    (start : ∀ Dl, H Dl = none → P Dl 0 [] B (upd H Dl (.lst [])))
    (turn : ∀ Dl (i : Nat) acc B' H', i < n → H Dl = none → Gof F B H B' H' → B' Dl = none → H' Dl = some (.lst acc) → acc.length ≤ i → P Dl i acc B' H' → LcTurnG F B H (P Dl) g tt te vs σ Dl i acc H' (.int (i : Int)))
    (k : ∀ Dl acc B' H', H Dl = none → Gof F B H B' H' → B' Dl = none → H' Dl = some (.lst acc) → P Dl n acc B' H' → Q (.ref Dl) H') : ∃ j : Int, [V.int (n : Int)] = [.int j] ∧ -(2 ^ 62) ≤ j ∧ j < 2 ^ 62 ∧ LcW (Itr 0 j.toNat) g tt te vs σ Q H := by
  refine ⟨(n : Int), rfl, by omega, by omega, fun Dl hD => ?_⟩
  rw [Int.toNat_natCast]
  refine lc_range (LcAtG F B H (P Dl) Dl) ⟨[], B, (gro_mut e hD).of, e.back hD, upd_same, Nat.le_refl _, start Dl hD⟩ (fun i H' hi at' => ?_) (fun H' ⟨acc, B', g', b', e', _, p'⟩ => k Dl acc B' H' hD g' b' e' p')
  obtain ⟨acc, B', g', b', e', la, p'⟩ := at'
  rw [Int.zero_add]
  exact lcTurnG hD la (by omega) (turn Dl i acc B' H' hi hD g' b' e' la p')
end
theorem erase_map {α β : Type} (f : α → β) : ∀ (l : List α) (i : Nat), (l.map f).eraseIdx i = (l.eraseIdx i).map f
  | [], _ => rfl
  | _ :: _, 0 => rfl
  | a :: l, i + 1 => by
    show f a :: (l.map f).eraseIdx i = f a :: (l.eraseIdx i).map f
    rw [erase_map f l i]
theorem erase_perm {α : Type} : ∀ {l : List α} {i : Nat} (h : i < l.length), (l[i] :: l.eraseIdx i).Perm l
  | a :: l, 0, _ => List.Perm.refl _
  | a :: l, i + 1, h => by
    have hi : i < l.length := by simpa using h
    have ih := erase_perm (l := l) (i := i) hi
    show (l[i] :: a :: l.eraseIdx i).Perm (a :: l)
    exact (List.Perm.swap a _ _).trans (List.Perm.cons a ih)
theorem sortN_same {l : List Nat} (nd : l.Nodup) (lt : ∀ x ∈ l, x < 10) : (sortN l).length = l.length := by
  have h1 := L2.nat_nodup_len (sortN l) l (pw_nodup (sortN_pw l)) fun x hx => (mem_sortN.mp hx).2
  have h2 := L2.nat_nodup_len l (sortN l) nd fun x hx => mem_sortN.mpr ⟨lt x hx, hx⟩
  omega
end KPR
set_option Elab.async false
set_option linter.all false
set_option maxRecDepth 100000
set_option maxHeartbeats 2000000
/-! W19: the law's draws. -/
namespace KPR
open PySem L2
local macro_rules | `(tactic| walk_at "dn") => `(tactic| repeat (first
  | (with_reducible refine w_seq ?_) | (with_reducible refine w_asg ?_) | (with_reducible refine w_drop ?_) | (with_reducible refine w_ret ?_) | (with_reducible refine w_ifs ?_)
  | ((with_reducible refine' w_var ?hv ?_); (case hv => exact rfl)) | (with_reducible refine w_c ?_) | (with_reducible refine w_op ?_) | (with_reducible refine w_un ?_) | (with_reducible refine w_cb ?_)
  | (with_reducible refine w_nil ?_) | (with_reducible refine w_cons ?_) | (with_reducible refine w_gname ?_) | (with_reducible refine w_test ?_) | (with_reducible refine w_b ?_) | (with_reducible refine w_exbl ?_)
  | (with_reducible refine w_and ?_) | (with_reducible refine w_or ?_) | (with_reducible refine w_not ?_) | (with_reducible refine w_if ?_) | (with_reducible refine w_andV ?_) | (with_reducible refine w_orV ?_) | (with_reducible refine w_notV ?_)
  | (with_reducible refine w_tup ?_) | (with_reducible refine w_lst ?_) | (with_reducible refine w_dnewK ?_) | (with_reducible refine w_dnewT ?_) | (with_reducible refine w_din ?_) | (with_reducible refine w_dnin ?_) | (with_reducible refine w_dget ?_) | (with_reducible refine w_dget2 ?_)
  | (with_reducible refine w_fld ?_) | (with_reducible refine w_cal ?_) | (with_reducible refine w_met ?_) | (with_reducible refine w_mak ?_) | (with_reducible refine w_bm ?_) | (with_reducible refine w_bm0 ?_) | (with_reducible refine w_sl ?_)
  | (with_reducible refine w_nopart ?_) | (with_reducible refine w_part ?_) | (with_reducible refine w_sfld ?_) | (with_reducible refine w_dput ?_) | ((with_reducible refine' w_aug ?hv ?_); (case hv => exact rfl)) | (with_reducible refine w_iT ?_) | (with_reducible refine w_iF ?_)
  | (with_reducible refine w_ii0 ?_) | (with_reducible refine w_neg ?_) | (with_reducible refine w_ip ?_) | (with_reducible refine w_yes ?_) | (with_reducible refine w_for ?_) | (with_reducible refine w_ilist ?_) | (with_reducible refine w_itup ?_) | (with_reducible refine w_irng1 ?_) | (with_reducible refine w_irng2 ?_) | (with_reducible refine w_ienum ?_) | (with_reducible refine w_ienumT ?_)
  | (with_reducible refine w_ckw ?_) | (with_reducible refine w_gd ?_) | (with_reducible refine w_chain ?_) | (with_reducible refine w_max2 ?_) | (with_reducible refine w_min2 ?_) | (with_reducible refine w_int1 ?_) | (with_reducible refine w_gsub ?_) | (with_reducible refine w_par ?_) | (with_reducible refine w_next ?_)))

section
variable {P : Program} {w : World} {K : PySem.W.Frag} {mg : Str → Option Value} {base : Heap} {C Cf : Addr}
def sp_l_cell_at (K : PySem.W.Frag) : Sp := fun vs H Q _ => ∃ (a : Addr) (ns : List Int) (k : Nat), vs = [.ref a, .int (k : Int)] ∧ SqL K H a (ns.map V.int) ∧ ∀ c : Int, Q (.int c) H
theorem ok_l_cell_at (R : Raw K mg "_law_cell_at" "_law_cell_at" s_l_cell_at ["_law_script", "_law_k"]) (T : TB mg) : DefT P w K mg base "_law_cell_at" 1 ["_law_script", "_law_k"] (sp_l_cell_at K) := by
  refine R.ok fun f fd F => F.ok sc_l_cell_at (fun vs H Q E h => ?_) (fun cdv A outer s H vs Q E hr h => ?_)
  · obtain ⟨_, _, _, rfl, _⟩ := h
    rfl
  · obtain ⟨a, ns, k, rfl, d, q⟩ := h
    refine ⟨_, (pss_cons (ps_if (pt_cmpR op_lt (pv 1) (pe_callB (k_len (K := K)) (by rfl) T.z_len (by decide +kernel) (pa_cons (pv 0) pa_nil)) (nomark _)) (pss_one (ps_ret (pe_ix (k_ixL (K := K)) (pv 0) (pv 1) (fun _ _ => rfl)))) pss_nil)
  (pss_one (ps_ret pe_int))), ?_⟩
    walk_at "dn"
    refine ⟨a, _, rfl, .inl d, ?_⟩
    walk_at "dn"
    rw [List.length_map]
    refine ite2 (fun c => ?_) (fun c => ?_)
    · have hk : k < ns.length := by
        have : (k : Int) < (ns.length : Int) := by simpa using c
        omega
      walk_at "dn"
      exact ⟨a, _, _, _, rfl, rfl, d, atI_nat (by rw [List.getElem?_map, List.getElem?_eq_getElem hk]; rfl), q _⟩
    · walk_at "dn"
      exact q 0
def sp_l_box (K : PySem.W.Frag) : Sp := fun vs H Q _ => ∃ (a : Addr) (B : Hp) (ns : List Int) (k : Nat), vs = [.ref a, .int (k : Int)] ∧ Ex B H ∧ SqL K H a (ns.map V.int) ∧ k ≤ 10 ∧ ∀ ba H', H ba = none → Gro B H B H' → Bx B H' ba 0 → Q (.ref ba) H'
theorem ok_l_box (R : Raw K mg "_law_box" "_law_box" s_l_box ["_law_script", "_law_k"]) (T : TB mg) (c_l_cell_at : DefT P w K mg base "_law_cell_at" 1 ["_law_script", "_law_k"] (sp_l_cell_at K)) : DefT P w K mg base "_law_box" 2 ["_law_script", "_law_k"] (sp_l_box K) := by
  refine R.ok fun f fd F => F.ok sc_l_box (fun vs H Q E h => ?_) (fun cdv A outer s H vs Q E hr h => ?_)
  · obtain ⟨_, _, _, _, rfl, _⟩ := h
    rfl
  · obtain ⟨a, B, ns, k, rfl, e, d, hk, q⟩ := h
    refine ⟨_, (pss_cons (ps_set (i := 2) sc_l_box.nd rfl (by first | exact Or.inl rfl | exact Or.inr rfl) (k_call c_l_cell_at hr (pa_cons (pv 0) (pa_cons (pv 1) pa_nil))))
  (pss_one (ps_ret (pe_lst (pa_cons (pe_op op_mul (pe_callB k_abs (by rfl) T.z_abs (by decide +kernel) (pa_cons (pv 2) pa_nil)) (pe_callTy k_int1 (by rfl) T.z_int (by decide +kernel) (pa_cons (pe_cmpR op_ge (pe_callB k_abs (by rfl) T.z_abs (by decide +kernel) (pa_cons (pv 2) pa_nil)) (pe_op op_pow pe_int pe_int) (nomark _)) pa_nil))) (pa_cons (pe_op op_add (pe_op op_add (pe_op op_modN (pv 2) pe_int) (pe_op op_mul pe_int (pv 1))) pe_int) (pa_cons pe_int pa_nil))))))), ?_⟩
    walk_at "dn"
    refine ⟨a, ns, k, rfl, d, fun c => ?_⟩
    walk_at "dn"
    refine ⟨c, rfl, ?_⟩
    walk_at "dn"
    refine ⟨c, rfl, ?_⟩
    walk_at "dn"
    refine w_pow ⟨by decide, by decide, by decide⟩ ?_
    walk_at "dn"
    refine w_mul (.inr (b01 _)) ?_
    walk_at "dn"
    refine w_mod (by decide) ?_
    walk_at "dn"
    refine w_mul (.inl ⟨by decide, by decide⟩) ?_
    walk_at "dn"
    exact r_lstM e (by show 3 ≤ 100000; decide) fun p H' hp g e' b => q p H' hp g ⟨⟨_, _, 0, e', by omega, by omega⟩, b⟩
def sp_l_take : Sp := fun vs H Q _ => ∃ (ba : Addr) (m : Nat) (B : Hp) (c : Nat), vs = [.ref ba, .int (m : Int)] ∧ Ex B H ∧ Bx B H ba c ∧ 0 < m ∧ m < 1073741824 ∧ c ≤ 1000000 ∧ ∀ (r : Nat) H', r < m → Gof (fun a => a = ba) B H B H' → Bx B H' ba (c + 1) → Q (.int (r : Int)) H'
theorem ok_l_take (R : Raw K mg "_law_take" "_law_take" s_l_take ["_law_box_here", "_law_many"]) (T : TB mg) : DefT P w K mg base "_law_take" 1 ["_law_box_here", "_law_many"] sp_l_take := by
  refine R.ok fun f fd F => F.ok sc_l_take (fun vs H Q E h => ?_) (fun cdv A outer s H vs Q E hr h => ?_)
  · obtain ⟨_, _, _, _, rfl, _⟩ := h
    rfl
  · obtain ⟨ba, m, B, c, rfl, e, bx, hm, hm2, hc, q⟩ := h
    refine ⟨_, (pss_cons (ps_if (pt_cmpR op_gt (pe_ix (k_ixL (K := K)) (pv 0) pe_int (fun _ _ => rfl)) pe_int (nomark _)) (pss_cons (ps_set (i := 2) sc_l_take.nd rfl (by first | exact Or.inl rfl | exact Or.inr rfl) (pe_op op_modN (pe_ix (k_ixL (K := K)) (pv 0) pe_int (fun _ _ => rfl)) (pv 1)))
  (pss_cons (ps_asg (pe_op op_fdivN (pe_ix (k_ixL (K := K)) (pv 0) pe_int (fun _ _ => rfl)) (pv 1)) (pg_sub (pv 0) pe_int set_list))
  (pss_one (ps_ret (pv 2))))) pss_nil)
  (pss_cons (ps_asg (pe_op op_add (pe_ix (k_ixL (K := K)) (pv 0) pe_int (fun _ _ => rfl)) pe_int) (pg_sub (pv 0) pe_int set_list))
  (pss_cons (ps_set (i := 3) sc_l_take.nd rfl (by first | exact Or.inl rfl | exact Or.inr rfl) (pe_op op_modN (pe_op op_mul (pe_op op_add (pe_ix (k_ixL (K := K)) (pv 0) pe_int (fun _ _ => rfl)) (pe_op op_mul pe_int (pe_ix (k_ixL (K := K)) (pv 0) pe_int (fun _ _ => rfl)))) (pe_op op_add pe_int (pe_ix (k_ixL (K := K)) (pv 0) pe_int (fun _ _ => rfl)))) pe_int))
  (pss_cons (ps_set (i := 4) sc_l_take.nd rfl (by first | exact Or.inl rfl | exact Or.inr rfl) (pe_op op_modN (pe_op op_mul (pe_op op_add (pv 3) (pe_ix (k_ixL (K := K)) (pv 0) pe_int (fun _ _ => rfl))) (pe_op op_add (pe_op op_modN (pv 3) pe_int) pe_int)) pe_int))
  (pss_one (ps_ret (pe_op op_modN (pe_op op_fdivN (pe_op op_modN (pe_op op_add (pe_op op_mul (pv 4) pe_int) (pv 3)) pe_int) pe_int) (pv 1)))))))), ?_⟩
    obtain ⟨b0, b1, b2, hb, h20, h2c⟩ := bx.at_
    have m0 : (m : Int) ≠ 0 := by omega
    walk_at "dn"
    refine r_ixLm (i := 0) hb rfl ?_
    walk_at "dn"
    refine ite2 (fun cc => ?_) (fun cc => ?_)
    · walk_at "dn"
      refine r_ixLm (i := 0) hb rfl ?_
      walk_at "dn"
      refine w_mod m0 ?_
      walk_at "dn"
      refine r_ixLm (i := 0) hb rfl ?_
      walk_at "dn"
      refine w_fdv ⟨m0, by omega⟩ ?_
      walk_at "dn"
      refine r_setLm (j := 0) hb (by show 0 < 3; decide) ?_
      walk_at "dn"
      obtain ⟨r, er, hr'⟩ := fmod_nat b0 hm
      rw [er]
      exact q r _ hr' (gof_set (F := fun a => a = ba) e rfl bx.un) ⟨⟨b0.fdiv m, b1, b2, upd_same, h20, by omega⟩, bx.un⟩
    · walk_at "dn"
      refine r_ixLm (i := 2) hb rfl ?_
      walk_at "dn"
      refine r_setLm (j := 2) hb (by show 2 < 3; decide) ?_
      have g1 := gof_set (F := fun a => a = ba) (o := .lst [.int b0, .int b1, .int (b2 + 1)]) e rfl bx.un
      have hb1 : (upd H ba (.lst [.int b0, .int b1, .int (b2 + 1)])) ba = some (.lst [.int b0, .int b1, .int (b2 + 1)]) := upd_same
      show tSeq _ _ _ _ (upd H ba (.lst [.int b0, .int b1, .int (b2 + 1)]))
      generalize upd H ba (.lst [.int b0, .int b1, .int (b2 + 1)]) = H1 at g1 hb1
      walk_at "dn"
      refine r_ixLm (i := 1) hb1 rfl ?_
      walk_at "dn"
      refine r_ixLm (i := 2) hb1 rfl ?_
      refine w_mul (.inl ⟨by decide, by decide⟩) ?_
      walk_at "dn"
      refine r_ixLm (i := 2) hb1 rfl ?_
      walk_at "dn"
      refine w_mul (.inr ⟨by omega, by omega⟩) ?_
      walk_at "dn"
      refine w_mod (by decide) ?_
      generalize ((b1 + 48271 * (b2 + 1)) * (39373 + (b2 + 1))).fmod 2147483647 = once
      walk_at "dn"
      refine r_ixLm (i := 2) hb1 rfl ?_
      walk_at "dn"
      refine w_mod (by decide) ?_
      walk_at "dn"
      obtain ⟨r1, er1, hr1⟩ := fmod_nat once (m := 40009) (by decide)
      have er1 : once.fmod 40009 = (r1 : Int) := er1
      refine w_mul (.inr ⟨by omega, by omega⟩) ?_
      walk_at "dn"
      refine w_mod (by decide) ?_
      generalize ((once + (b2 + 1)) * (once.fmod 40009 + 7)).fmod 2147483629 = twice
      walk_at "dn"
      refine w_mul (.inr ⟨by decide, by decide⟩) ?_
      walk_at "dn"
      refine w_mod (by decide) ?_
      walk_at "dn"
      refine w_fdv ⟨by decide, by decide⟩ ?_
      walk_at "dn"
      refine w_mod m0 ?_
      obtain ⟨r, er, hr'⟩ := fmod_nat (((twice * 48271 + once).fmod 2147483587).fdiv 64) hm
      rw [er]
      exact q r _ hr' g1 ⟨⟨b0, b1, b2 + 1, hb1, by omega, by omega⟩, bx.un⟩
def sp_l_weight : Sp := fun vs H Q _ => ∃ (ba : Addr) (hv : Nat) (B : Hp) (c : Nat), vs = [.ref ba, .int (hv : Int)] ∧ Ex B H ∧ Bx B H ba c ∧ hv < 4 ∧ c + 2 ≤ 1000000 ∧ ∀ (r : Int) H', 0 < r → Gof (fun a => a = ba) B H B H' → Bx B H' ba (c + 2) → Q (.int r) H'
theorem ok_l_weight (R : Raw K mg "_law_weight" "_law_weight" s_l_weight ["_law_box_here", "_law_heavy"]) (T : TB mg) (c_l_take : DefT P w K mg base "_law_take" 1 ["_law_box_here", "_law_many"] sp_l_take) : DefT P w K mg base "_law_weight" 2 ["_law_box_here", "_law_heavy"] sp_l_weight := by
  refine R.ok fun f fd F => F.ok sc_l_weight (fun vs H Q E h => ?_) (fun cdv A outer s H vs Q E hr h => ?_)
  · obtain ⟨_, _, _, _, rfl, _⟩ := h
    rfl
  · obtain ⟨ba, hv, B, c, rfl, e, bx, hhv, hc, q⟩ := h
    refine ⟨_, (pss_one (ps_ret (pe_op op_add pe_int (k_call c_l_take hr (pa_cons (pv 0) (pa_cons (pe_ix (k_ixL (K := K)) (pe_lst (pa_cons pe_int (pa_cons pe_int (pa_cons pe_int (pa_cons (pe_ix (k_ixL (K := K)) (pe_lst (pa_cons pe_int (pa_cons pe_int (pa_cons (pe_op op_pow pe_int pe_int) pa_nil)))) (k_call c_l_take hr (pa_cons (pv 0) (pa_cons pe_int pa_nil))) (fun _ _ => rfl)) pa_nil))))) (pv 1) (fun _ _ => rfl)) pa_nil)))))), ?_⟩
    have hba : ∀ {H' : Hp} {c : Nat}, Bx B H' ba c → B ba = none := fun b => b.un
    walk_at "dn"
    refine w_pow ⟨by decide, by decide, by decide⟩ ?_
    walk_at "dn"
    refine r_lstM e (by show 3 ≤ 100000; decide) fun L1 H1 hL1 g1 e1 b1 => ?_
    walk_at "dn"
    have nba : ba ≠ L1 := fun z => by
      obtain ⟨_, _, _, hb, _⟩ := bx.at_
      rw [z, hL1] at hb
      cases hb
    refine ⟨ba, 3, B, c, rfl, g1.bh, bx.grow g1 (fun z => z), by decide, by decide, by omega, fun r H2 hr2 g2 bx2 => ?_⟩
    have e2 := g2.kp _ _ e1 (Ne.symm nba)
    obtain ⟨m2, hm2, hp2, hl2⟩ : ∃ m2 : Nat, ([V.int 10, V.int 100, V.int ((10 : Int) ^ (9 : Int).toNat)] : List V)[r]? = some (V.int (m2 : Int)) ∧ 0 < m2 ∧ m2 < 1073741824 := by
      match r, hr2 with
      | 0, _ => exact ⟨10, rfl, by decide, by decide⟩
      | 1, _ => exact ⟨100, rfl, by decide, by decide⟩
      | 2, _ => exact ⟨1000000000, rfl, by decide, by decide⟩
    refine r_ixLm (i := r) e2 hm2 ?_
    walk_at "dn"
    refine r_lstM g2.bh (by show 4 ≤ 100000; decide) fun L3 H3 hL3 g3 e3 b3 => ?_
    walk_at "dn"
    obtain ⟨m3, hm3, hp3, hl3⟩ : ∃ m3 : Nat, ([V.int 1, V.int 3, V.int 9, V.int (m2 : Int)] : List V)[hv]? = some (V.int (m3 : Int)) ∧ 0 < m3 ∧ m3 < 1073741824 := by
      match hv, hhv with
      | 0, _ => exact ⟨1, rfl, by decide, by decide⟩
      | 1, _ => exact ⟨3, rfl, by decide, by decide⟩
      | 2, _ => exact ⟨9, rfl, by decide, by decide⟩
      | 3, _ => exact ⟨m2, rfl, hp2, hl2⟩
    refine r_ixLm (i := hv) e3 hm3 ?_
    walk_at "dn"
    refine ⟨ba, m3, B, c + 1, rfl, g3.bh, bx2.grow g3 (fun z => z), hp3, hl3, by omega, fun r4 H4 hr4 g4 bx4 => ?_⟩
    walk_at "dn"
    exact q _ _ (by omega) (((Gro.of g1 : Gof (fun a => a = ba) B H B H1).trans g2).trans ((Gro.of g3 : Gof (fun a => a = ba) B H2 B H3).trans g4)) bx4
end
end KPR
set_option Elab.async false
set_option linter.all false
set_option maxRecDepth 100000
set_option maxHeartbeats 2000000
/-! W20: the law's posts, webs, pairs. -/
namespace KPR
open PySem L2
local macro_rules | `(tactic| walk_at "dn") => `(tactic| repeat (first
  | (with_reducible refine w_seq ?_) | (with_reducible refine w_asg ?_) | (with_reducible refine w_drop ?_) | (with_reducible refine w_ret ?_) | (with_reducible refine w_ifs ?_)
  | ((with_reducible refine' w_var ?hv ?_); (case hv => exact rfl)) | (with_reducible refine w_c ?_) | (with_reducible refine w_op ?_) | (with_reducible refine w_un ?_) | (with_reducible refine w_cb ?_)
  | (with_reducible refine w_nil ?_) | (with_reducible refine w_cons ?_) | (with_reducible refine w_gname ?_) | (with_reducible refine w_test ?_) | (with_reducible refine w_b ?_) | (with_reducible refine w_exbl ?_)
  | (with_reducible refine w_and ?_) | (with_reducible refine w_or ?_) | (with_reducible refine w_not ?_) | (with_reducible refine w_if ?_) | (with_reducible refine w_andV ?_) | (with_reducible refine w_orV ?_) | (with_reducible refine w_notV ?_)
  | (with_reducible refine w_tup ?_) | (with_reducible refine w_lst ?_) | (with_reducible refine w_dnewK ?_) | (with_reducible refine w_dnewT ?_) | (with_reducible refine w_din ?_) | (with_reducible refine w_dnin ?_) | (with_reducible refine w_dget ?_) | (with_reducible refine w_dget2 ?_)
  | (with_reducible refine w_fld ?_) | (with_reducible refine w_cal ?_) | (with_reducible refine w_met ?_) | (with_reducible refine w_mak ?_) | (with_reducible refine w_bm ?_) | (with_reducible refine w_bm0 ?_) | (with_reducible refine w_sl ?_)
  | (with_reducible refine w_nopart ?_) | (with_reducible refine w_part ?_) | (with_reducible refine w_sfld ?_) | (with_reducible refine w_dput ?_) | ((with_reducible refine' w_aug ?hv ?_); (case hv => exact rfl)) | (with_reducible refine w_iT ?_) | (with_reducible refine w_iF ?_)
  | (with_reducible refine w_ii0 ?_) | (with_reducible refine w_neg ?_) | (with_reducible refine w_ip ?_) | (with_reducible refine w_yes ?_) | (with_reducible refine w_for ?_) | (with_reducible refine w_ilist ?_) | (with_reducible refine w_itup ?_) | (with_reducible refine w_irng1 ?_) | (with_reducible refine w_irng2 ?_) | (with_reducible refine w_ienum ?_) | (with_reducible refine w_ienumT ?_)
  | (with_reducible refine w_ckw ?_) | (with_reducible refine w_gd ?_) | (with_reducible refine w_chain ?_) | (with_reducible refine w_max2 ?_) | (with_reducible refine w_min2 ?_) | (with_reducible refine w_int1 ?_) | (with_reducible refine w_gsub ?_) | (with_reducible refine w_par ?_) | (with_reducible refine w_lcr1 ?_) | (with_reducible refine w_next ?_)))

section
variable {P : Program} {w : World} {K : PySem.W.Frag} {mg : Str → Option Value} {base : Heap} {C Cf : Addr}
theorem rgV_nat (n : Nat) : rgV 0 (n : Int) = vN (List.range n) := by
  unfold rgV vN
  rw [show ((n : Int) - 0).toNat = n by omega]
  refine List.map_congr_left fun i _ => ?_
  show V.int (0 + (i : Int)) = V.int (i : Int)
  congr 1
  omega
def sp_l_posts : Sp := fun vs H Q _ => ∃ (ba : Addr) (n most : Nat) (B : Hp) (c : Nat), vs = [.ref ba, .int (n : Int), .int (most : Int)] ∧ Ex B H ∧ Bx B H ba c ∧ 2 ≤ n ∧ n ≤ 10 ∧ 2 ≤ most ∧ most ≤ 10 ∧ c + 20 ≤ 1000000 ∧
  ∀ v ps B' H', Gof (fun a => a = ba) B H B' H' → Bx B' H' ba (c + 20) → D B' v (dL ps) → ps.Pairwise (· < ·) → (∀ q ∈ ps, q < n) → 2 ≤ ps.length → Q v H'
theorem ok_l_posts (R : Raw K mg "_law_posts" "_law_posts" s_l_posts ["_law_box_here", "_law_many", "_law_most"]) (T : TB mg) (c_l_take : DefT P w K mg base "_law_take" 1 ["_law_box_here", "_law_many"] sp_l_take) : DefT P w K mg base "_law_posts" 2 ["_law_box_here", "_law_many", "_law_most"] sp_l_posts := by
  refine R.ok fun f fd F => F.ok sc_l_posts (fun vs H Q E h => ?_) (fun cdv A outer s H vs Q E hr h => ?_)
  · obtain ⟨_, _, _, _, _, rfl, _⟩ := h
    rfl
  · obtain ⟨ba, n, most, B, c, rfl, e, bx, hn2, hn, hm2, hm, hc, q⟩ := h
    refine ⟨_, (pss_cons (ps_set (i := 3) sc_l_posts.nd rfl (by first | exact Or.inl rfl | exact Or.inr rfl) (pe_listRg rfl (by rfl) T.z_list (prg_1 (by rfl) T.z_range (pv 1))))
  (pss_cons (ps_setLc (i := 4) (own := [("_law_turn", 5)]) (g := (gName 5)) (by rfl) sc_l_posts.nd rfl rfl (sw_true rfl rfl rfl (by decide +kernel)) (pi_range1 (by rfl) T.z_range (pa_cons (pe_callB (k_min2 rfl) (by rfl) T.z_min (by decide +kernel) (pa_cons (pv 1) (pa_cons (pe_op op_add pe_int (k_call c_l_take hr (pa_cons (pv 0) (pa_cons (pe_op op_sub (pv 2) pe_int) pa_nil)))) pa_nil))) pa_nil)) (blkOk_by (N := nm_l_posts) (sc := defScope s_l_posts) (by decide +kernel)) (fun _ _ _ _ _ => (pg_name (i := 5) sc_l_posts.nd rfl (by first | exact Or.inl rfl | exact Or.inr rfl))) (fun _ _ _ _ _ => pts_nil) (fun _ _ _ _ _ => (k_bm (K := K) PySem.F.plainAttrs_list PySem.F.slot_list_pop PySem.F.type_list_pop mt_popAt (pv 3) (pa_cons (k_call c_l_take hr (pa_cons (pv 0) (pa_cons (pe_callB (k_len (K := K)) (by rfl) T.z_len (by decide +kernel) (pa_cons (pv 3) pa_nil)) pa_nil))) pa_nil))))
  (pss_one (ps_ret (pe_callB (k_sortI (K := K)) (by rfl) T.z_sorted (by decide +kernel) (pa_cons (pv 4) pa_nil)))))), ?_⟩
    walk_at "dn"
    refine ⟨_, rfl, (n : Int), rfl, RgOk.of_le (by omega) (by omega) (by omega) (by omega), fun S hS => ?_⟩
    rw [rgV_nat]
    have g1 := gro_mut (o := .lst (vN (List.range n))) e hS
    have e1 : (upd H S (.lst (vN (List.range n)))) S = some (.lst (vN (List.range n))) := upd_same
    have bS : B S = none := e.back hS
    have nbs : ba ≠ S := fun z => by
      obtain ⟨_, _, _, hb, _⟩ := bx.at_
      rw [z, hS] at hb
      cases hb
    generalize upd H S (.lst (vN (List.range n))) = H1 at g1 e1
    walk_at "dn"
    rw [show ((most : Int) - 1) = ((most - 1 : Nat) : Int) by omega]
    refine ⟨ba, most - 1, B, c, rfl, g1.bh, bx.grow g1 (fun z => z), by omega, by omega, by omega, fun r H2 hr2 g2 bx2 => ?_⟩
    walk_at "dn"
    obtain ⟨m, em, hm2', hmn⟩ : ∃ m : Nat, (if (2 + (r : Int)) < (n : Int) then (2 + (r : Int)) else (n : Int)) = (m : Int) ∧ 2 ≤ m ∧ m ≤ n := by
      by_cases z : (2 + (r : Int)) < (n : Int)
      · rw [if_pos z]; exact ⟨2 + r, by omega, by omega, by omega⟩
      · rw [if_neg z]; exact ⟨n, rfl, hn2, Nat.le_refl _⟩
    rw [em]
    have e2 := g2.kp _ _ e1 (Ne.symm nbs)
    have bS2 := bS
    refine lcR_at (F := fun a => a = ba ∨ a = S) (B := B) (fun Dl i acc B' H' => ∃ got rest : List Nat, acc = vN got ∧ H' S = some (.lst (vN rest)) ∧ (got ++ rest).Perm (List.range n) ∧ got.length = i ∧ Bx B' H' ba (c + 1 + i) ∧ B' S = none) g2.bh (by omega) (fun Dl hD => ?_) (fun Dl i acc B' H' hi hD g' bD eD la p => ?_) (fun Dl acc B' H' hD g' bD eD p => ?_)
    · refine ⟨[], List.range n, rfl, by rw [upd_ne (ne_of_none e2 hD)]; exact e2, List.Perm.refl _, rfl, bx2.grow (gro_mut g2.bh hD) (fun z => z), bS⟩
    · obtain ⟨got, rest, rfl, hS', perm, hgl, bx', bS'⟩ := p
      have hrl : rest.length = n - i := by
        have := perm.length_eq
        rw [List.length_append, List.length_range] at this
        omega
      have hvr : (vN rest).length = rest.length := by unfold vN; rw [List.length_map]
      intro Y N hY hN
      refine ⟨rfl, ?_⟩
      walk_at "dn"
      refine ⟨tyV_lst hS', ?_⟩
      walk_at "dn"
      refine ⟨S, _, rfl, .inl (SqL.of hS'), ?_⟩
      rw [hvr]
      walk_at "dn"
      refine ⟨ba, rest.length, B', c + 1 + i, rfl, g'.bh, bx', by omega, by omega, by omega, fun r4 H4 hr4 g4 bx4 => ?_⟩
      walk_at "dn"
      have hS4 := g4.kp _ _ hS' (Ne.symm nbs)
      have eD4 := g4.kp _ _ eD (fun z => by
        obtain ⟨_, _, _, hb, _⟩ := bx2.at_
        rw [← z, hD] at hb
        cases hb)
      have hsi : seqIndex? (r4 : Int) (vN rest).length = some r4 := by
        rw [hvr]
        exact seqIndex_of (by omega) (by omega)
      refine ⟨S, vN rest, (r4 : Int), r4, V.int ((rest[r4]'hr4 : Nat) : Int), rfl, rfl, hS4, by omega, by omega, hsi, by unfold vN; rw [List.getElem?_map, List.getElem?_eq_getElem hr4]; rfl, ?_⟩
      have hDS : Dl ≠ S := fun z => by rw [z, e2] at hD; cases hD
      have g5 := (g'.trans (g4.mono fun a ha => (.inl ha : a = ba ∨ a = S))).trans (gof_set (F := fun a => a = ba ∨ a = S) (o := .lst ((vN rest).eraseIdx r4)) g4.bh (.inr rfl) bS')
      refine hY _ B' _ g5 bD (by rw [upd_ne hDS]; exact eD4) ⟨got ++ [rest[r4]], rest.eraseIdx r4, by unfold vN; rw [List.map_append]; rfl, ?_, ?_, by rw [List.length_append, List.length_singleton, hgl], ?_, bS'⟩
      · rw [upd_ne (Ne.symm hDS), upd_same]
        unfold vN
        rw [erase_map]
      · have p1 := erase_perm hr4
        rw [List.append_assoc]
        exact (List.Perm.append_left got p1).trans perm
      · have gx : Gof (fun a => a = S ∨ a = Dl) B' H4 B' (upd (upd H4 S (.lst ((vN rest).eraseIdx r4))) Dl (.lst (vN got ++ [V.int ((rest[r4]'hr4 : Nat) : Int)]))) := (gof_set (F := fun a => a = S ∨ a = Dl) g4.bh (.inl rfl) bS').trans (gof_set (F := fun a => a = S ∨ a = Dl) (g4.bh.mut bS') (.inr rfl) bD)
        refine (bx4.grow gx ?_).more (by omega)
        rintro (z | z)
        · exact nbs z
        · obtain ⟨_, _, _, hb, _⟩ := bx2.at_
          rw [z, hD] at hb
          cases hb
    · obtain ⟨got, rest, rfl, hS', perm, hgl, bx', bS'⟩ := p
      have nd : got.Nodup := (List.nodup_append.mp (perm.nodup_iff.mpr List.nodup_range)).1
      have ltg : ∀ y ∈ got, y < n := fun y hy => List.mem_range.mp (perm.mem_iff.mp (List.mem_append_left _ hy))
      have g02 : Gof (fun a => a = ba) B H B H2 := (Gro.of g1 : Gof (fun a => a = ba) B H B H1).trans g2
      have g03 : Gof (fun a => a = ba) B H B' H' := g02.trans g' fun a ha => ha.elim (fun z => .inl z) fun z => .inr (by rw [z]; exact hS)
      have g4 := gro_know g03 (g02.back hD) bD eD
      have ndb : ba ≠ Dl := fun z => by
        obtain ⟨_, _, _, hb, _⟩ := bx2.at_
        rw [z, hD] at hb
        cases hb
      walk_at "dn"
      refine r_sortI g4.bh (.lst upd_same (DA.nats got)) nd (fun y hy => by have := ltg y hy; omega) fun p B5 H5 g5 d5 => ?_
      have bx4 : Bx (upd B' Dl (.lst (vN got))) H' ba (c + 1 + m) := ⟨bx'.at_, by rw [upd_ne ndb]; exact bx'.un⟩
      refine q _ (sortN got) B5 H5 (g4.trans (Gro.of g5)) ((bx4.grow g5 (fun z => z)).more (by omega)) d5 (sortN_pw _) (fun y hy => ltg y (mem_sortN.mp hy).2) ?_
      rw [sortN_same nd (fun y hy => by have := ltg y hy; omega), hgl]
      exact hm2'
/-- a dict of weights under way -/
structure WDb (H : Hp) (n : Nat) (Dt : Addr) (W : Wt) : Prop where
  wd : WD H Dt W
  ok : WOk n W
theorem WDb.put {B H : Hp} {n : Nat} {Dt q : Addr} {W : Wt} (h : WDb H n Dt W) {a b : Nat} {x : Int} (hab : a < b) (hb : b < n) (hx : 0 < x) (hq : H q = some (.tup ((kP (a, b)).map kV))) {R : Hp → Prop} (k : ∀ o, nT o → WDb (upd H Dt o) n Dt (wput W (a, b) x) → R (upd H Dt o)) : ∃ a' H4, V.ref Dt = .ref a' ∧ DPut H a' (.ref q) (.int x) H4 ∧ R H4 := by
  obtain ⟨c, hc, nd, mem⟩ := h.wd
  have cl : c.length ≤ 45 := by
    have := pr_nodup_len c (supp W) nd fun p hp => (mem_supp h.ok).mpr ((mem p).mp hp)
    have := supp_len h.ok
    omega
  refine r_putT (p := (a, b)) hc hq (by unfold kvW; rw [List.length_map]; omega) ?_
  rw [kvW_put]
  refine k _ trivial ⟨⟨_, upd_same, cadd_nd nd, fun p => ?_⟩, wput_ok h.ok (p := (a, b)) hab hb (by omega)⟩
  rw [mem_cadd]
  unfold wput
  by_cases e : p = (a, b)
  · rw [if_pos e]
    exact ⟨fun _ => by omega, fun _ => .inr e⟩
  · rw [if_neg e, ← mem p]
    exact ⟨fun z => z.elim id fun z => absurd z e, Or.inl⟩
theorem WDb.grow {B H B' H' : Hp} {n : Nat} {Dt : Addr} {W : Wt} {F : Addr → Prop} (h : WDb H n Dt W) (g : Gof F B H B' H') (hf : ¬ F Dt) : WDb H' n Dt W := ⟨h.wd.grow g hf, h.ok⟩
def sp_l_web : Sp := fun vs H Q _ => ∃ (ba : Addr) (n : Nat) (B : Hp) (c : Nat), vs = [.ref ba, .int (n : Int)] ∧ Ex B H ∧ Bx B H ba c ∧ 2 ≤ n ∧ n ≤ 10 ∧ c + 200 ≤ 1000000 ∧
  ∀ v W B' H', Gof (fun a => a = ba) B H B' H' → Bx B' H' ba (c + 200) → WOk n W → D B' v (dWeb n (tiesOf W)) → Q v H'
theorem ok_l_web (R : Raw K mg "_law_web" "_law_web" s_l_web ["_law_box_here", "_law_many"]) (T : TB mg) (c_l_take : DefT P w K mg base "_law_take" 1 ["_law_box_here", "_law_many"] sp_l_take) (c_l_weight : DefT P w K mg base "_law_weight" 2 ["_law_box_here", "_law_heavy"] sp_l_weight) : DefT P w K mg base "_law_web" 3 ["_law_box_here", "_law_many"] sp_l_web := by
  refine R.ok fun f fd F => F.ok sc_l_web (fun vs H Q E h => ?_) (fun cdv A outer s H vs Q E hr h => ?_)
  · obtain ⟨_, _, _, _, rfl, _⟩ := h
    rfl
  · obtain ⟨ba, n, B, c, rfl, e, bx, hn2, hn, hc, q⟩ := h
    refine ⟨_, (pss_cons (ps_set (i := 2) sc_l_web.nd rfl (by first | exact Or.inl rfl | exact Or.inr rfl) (k_call c_l_take hr (pa_cons (pv 0) (pa_cons pe_int pa_nil))))
  (pss_cons (ps_set (i := 3) sc_l_web.nd rfl (by first | exact Or.inl rfl | exact Or.inr rfl) pe_dnewT)
  (pss_cons (ps_for PassesOwn.never rfl (pi_range2 (by rfl) T.z_range (pa_cons pe_int (pa_cons (pv 1) pa_nil))) (pg_name (i := 4) sc_l_web.nd rfl (by first | exact Or.inl rfl | exact Or.inr rfl)) (pss_one (ps_if (pt_cmpR op_gt (k_call c_l_take hr (pa_cons (pv 0) (pa_cons pe_int pa_nil))) pe_int (nomark _)) (pss_one (ps_dput (hu_of hr) (pv 3) (pe_tup (pa_cons (k_call c_l_take hr (pa_cons (pv 0) (pa_cons (pv 4) pa_nil))) (pa_cons (pv 4) pa_nil))) (k_call c_l_weight hr (pa_cons (pv 0) (pa_cons (pv 2) pa_nil))) rfl)) pss_nil)))
  (pss_cons (ps_for PassesOwn.never rfl (pi_range1 (by rfl) T.z_range (pa_cons (pe_callB (k_min2 rfl) (by rfl) T.z_min (by decide +kernel) (pa_cons (k_call c_l_take hr (pa_cons (pv 0) (pa_cons (pe_op op_add (pe_op op_mul pe_int (pv 1)) pe_int) pa_nil))) (pa_cons (pe_op op_sub pe_int (pv 1)) pa_nil))) pa_nil)) (pg_name (i := 5) sc_l_web.nd rfl (by first | exact Or.inl rfl | exact Or.inr rfl)) (pss_cons (ps_par (i := 6) (j := 7) (by rfl) sc_l_web.nd rfl rfl (by decide) rfl rfl (pa_cons (k_call c_l_take hr (pa_cons (pv 0) (pa_cons (pv 1) pa_nil))) (pa_cons (k_call c_l_take hr (pa_cons (pv 0) (pa_cons (pv 1) pa_nil))) pa_nil)) (by rfl))
  (pss_one (ps_if (pt_cmpR op_ne (pv 6) (pv 7) (nomark _)) (pss_one (ps_dput (hu_of hr) (pv 3) (pe_tup (pa_cons (pe_callB (k_min2 rfl) (by rfl) T.z_min (by decide +kernel) (pa_cons (pv 6) (pa_cons (pv 7) pa_nil))) (pa_cons (pe_callB (k_max2 rfl) (by rfl) T.z_max (by decide +kernel) (pa_cons (pv 6) (pa_cons (pv 7) pa_nil))) pa_nil))) (k_call c_l_weight hr (pa_cons (pv 0) (pa_cons (pv 2) pa_nil))) rfl)) pss_nil))))
  (pss_one (ps_ret (pe_tup (pa_cons (pv 1) (pa_cons (pe_callTy (k_tuple (K := K)) (by rfl) T.z_tuple (by decide +kernel) (pa_cons (pe_lc (own := [("_law_pair_here", 8)]) (g := (gName 8)) (by rfl) sc_l_web.nd (k_ilist (K := K) (pe_callB (k_sortDT rfl) (by rfl) T.z_sorted (by decide +kernel) (pa_cons (pv 3) pa_nil))) (blkOk_by (N := nm_l_web) (sc := defScope s_l_web) (by decide +kernel)) (fun _ _ _ _ _ => (pg_name (i := 8) sc_l_web.nd rfl (by first | exact Or.inl rfl | exact Or.inr rfl))) (fun _ _ _ _ _ => pts_nil) (fun _ _ _ _ _ => (pe_op (k_catT (K := K)) (pv 8) (pe_tup (pa_cons (pe_dget (hu_of hr) (pv 3) (pv 8) (fun _ _ => rfl)) pa_nil))))) pa_nil)) pa_nil))))))))), ?_⟩
    walk_at "dn"
    refine ⟨ba, 4, B, c, rfl, e, bx, by decide, by decide, by omega, fun hv H1 hhv g1 bx1 => ?_⟩
    walk_at "dn"
    refine r_newM g1.bh fun Dt H2 hDt g2 e2 bDt => ?_
    walk_at "dn"
    have hDt0 : H Dt = none := g1.back hDt
    have nbd : ba ≠ Dt := fun z => by
      obtain ⟨_, _, _, hb, _⟩ := bx1.at_
      rw [z, hDt] at hb
      cases hb
    have bx2 := bx1.grow g2 (fun z => z)
    have w2 : WDb H2 n Dt fun _ => 0 := ⟨⟨[], by rw [e2, upd_same]; rfl, List.nodup_nil, fun p => by simp⟩, ⟨hn, fun p hp => absurd rfl hp⟩⟩
    have g12 := g1.trans (Gro.of g2)
    refine loopR2 (F := fun a => a = ba ∨ a = Dt) 1 n (by omega) (by omega) g12.bh ⟨fun i σ' B' H' => B' Dt = none ∧ (∃ W, WDb H' n Dt W) ∧ Bx B' H' ba (c + 1 + 4 * i) ∧ ∃ o4 o5 o6 o7 o8, σ' = [some (.ref ba), some (.int (n : Int)), some (.int (hv : Int)), some (.ref Dt), o4, o5, o6, o7, o8], ⟨bDt, ⟨_, w2⟩, bx2, _, _, _, _, _, rfl⟩, fun i x σ' B' H' hi gB hx p => ?_, fun σ' B' H' gB p => ?_⟩
    · obtain ⟨bD, ⟨W, wd⟩, bx', o4, o5, o6, o7, o8, rfl⟩ := p
      obtain rfl : x = .int ((1 + i : Nat) : Int) := hx
      walk_at "dn"
      refine ⟨ba, 9, B', c + 1 + 4 * i, rfl, gB.bh, bx', by decide, by decide, by omega, fun r3 H3 hr3 g3 bx3 => ?_⟩
      have w3 := wd.grow g3 (Ne.symm nbd)
      have gB3 := gB.trans (g3.mono fun a ha => (.inl ha : a = ba ∨ a = Dt))
      walk_at "dn"
      refine ite2 (fun cc => ?_) (fun cc => ?_)
      · walk_at "dn"
        refine ⟨ba, hv, B', _, rfl, g3.bh, bx3, hhv, by omega, fun r4 H4 hr4 g4 bx4 => ?_⟩
        walk_at "dn"
        refine ⟨ba, 1 + i, B', _, rfl, g4.bh, bx4, by omega, by omega, by omega, fun r5 H5 hr5 g5 bx5 => ?_⟩
        walk_at "dn"
        refine r_tup2 g5.bh (.int _) (.int _) fun p6 B6 H6 g6 _ d6 => ?_
        have w5 := (w3.grow g4 (Ne.symm nbd)).grow g5 (Ne.symm nbd)
        have w6 := w5.grow g6 (fun z => z)
        have bD6 : B6 Dt = none := by
          obtain ⟨⟨cc', hcc, _⟩, _⟩ := w5
          exact g6.fr Dt _ hcc trivial bD
        have gB6 := ((gB3.trans (g4.mono fun a ha => (.inl ha : a = ba ∨ a = Dt))).trans (g5.mono fun a ha => (.inl ha : a = ba ∨ a = Dt))).trans (Gro.of g6)
        refine w6.put (B := B6) (a := r5) (b := 1 + i) hr5 (by omega) hr4 (g6.bh _ _ (pair_at (p := (r5, 1 + i)) d6)) fun o ho w7 => ?_
        walk_at "dn"
        have g7 := gof_set (F := fun a => a = ba ∨ a = Dt) (o := o) g6.bh (.inr rfl) bD6 ho
        refine ⟨B6, gB6.trans g7, bD6, ⟨_, w7⟩, (((bx5.grow g6 (fun z => z)).grow (gof_set (F := fun a => a = Dt) (o := o) g6.bh rfl bD6 ho) nbd)).more (by omega), _, _, _, _, _, rfl⟩
      · walk_at "dn"
        exact ⟨B', gB3, bD, ⟨W, w3⟩, bx3.more (by omega), _, _, _, _, _, rfl⟩
    · obtain ⟨bD, ⟨W, wd⟩, bx', o4, o5, o6, o7, o8, rfl⟩ := p
      walk_at "dn"
      refine w_mul (.inl ⟨by decide, by decide⟩) ?_
      walk_at "dn"
      rw [show (2 * (n : Int) + 1) = ((2 * n + 1 : Nat) : Int) by omega]
      refine ⟨ba, 2 * n + 1, B', _, rfl, gB.bh, bx', by omega, by omega, by omega, fun r3 H3 hr3 g3 bx3 => ?_⟩
      have w3 := wd.grow g3 (Ne.symm nbd)
      have gB3 := gB.trans (g3.mono fun a ha => (.inl ha : a = ba ∨ a = Dt))
      walk_at "dn"
      obtain ⟨m, em, hmn⟩ : ∃ m : Nat, (if (91 - (n : Int)) < (r3 : Int) then (91 - (n : Int)) else (r3 : Int)) = (m : Int) ∧ m ≤ 20 := by
        by_cases z : (91 - (n : Int)) < (r3 : Int)
        · omega
        · rw [if_neg z]; exact ⟨r3, rfl, by omega⟩
      rw [em]
      have bx3' : Bx B' H3 ba (c + 42) := bx3.more (by omega)
      refine loopR (F := fun a => a = ba ∨ a = Dt) m (by omega) g3.bh ⟨fun i σ' B'' H'' => B'' Dt = none ∧ (∃ W, WDb H'' n Dt W) ∧ Bx B'' H'' ba (c + 42 + 4 * i) ∧ ∃ o4 o5 o6 o7 o8, σ' = [some (.ref ba), some (.int (n : Int)), some (.int (hv : Int)), some (.ref Dt), o4, o5, o6, o7, o8], ⟨bD, ⟨_, w3⟩, bx3', _, _, _, _, _, rfl⟩, fun i x σ' B'' H'' hi gC hx p => ?_, fun σ' B'' H'' gC p => ?_⟩
      · obtain ⟨bD, ⟨W, wd⟩, bx', o4, o5, o6, o7, o8, rfl⟩ := p
        obtain rfl : x = .int ((0 + i : Nat) : Int) := hx
        walk_at "dn"
        refine ⟨ba, n, B'', _, rfl, gC.bh, bx', by omega, by omega, by omega, fun one H4 hone g4 bx4 => ?_⟩
        walk_at "dn"
        refine ⟨ba, n, B'', _, rfl, g4.bh, bx4, by omega, by omega, by omega, fun oth H5 hoth g5 bx5 => ?_⟩
        walk_at "dn"
        refine ⟨.int (one : Int), .int (oth : Int), rfl, ?_⟩
        walk_at "dn"
        refine ⟨rfl, ?_⟩
        walk_at "dn"
        rw [nat_eq]
        have w5 := (wd.grow g4 (Ne.symm nbd)).grow g5 (Ne.symm nbd)
        have gC5 := (gC.trans (g4.mono fun a ha => (.inl ha : a = ba ∨ a = Dt))).trans (g5.mono fun a ha => (.inl ha : a = ba ∨ a = Dt))
        refine ite2 (fun cc => ?_) (fun cc => ?_)
        · have hne : one ≠ oth := by simpa using cc
          walk_at "dn"
          refine ⟨ba, hv, B'', _, rfl, g5.bh, bx5, hhv, by omega, fun r6 H6 hr6 g6 bx6 => ?_⟩
          walk_at "dn"
          have w6 := w5.grow g6 (Ne.symm nbd)
          obtain ⟨lo, hi', elo, ehi, hlh, hhn⟩ : ∃ lo hi' : Nat, (if (oth : Int) < (one : Int) then (oth : Int) else (one : Int)) = (lo : Int) ∧ (if (oth : Int) > (one : Int) then (oth : Int) else (one : Int)) = (hi' : Int) ∧ lo < hi' ∧ hi' < n := by
            by_cases z : (oth : Int) < (one : Int)
            · rw [if_pos z, if_neg (by omega)]; exact ⟨oth, one, rfl, rfl, by omega, hone⟩
            · rw [if_neg z, if_pos (by omega)]; exact ⟨one, oth, rfl, rfl, by omega, hoth⟩
          rw [elo, ehi]
          refine r_tup2 g6.bh (.int _) (.int _) fun p7 B7 H7 g7 _ d7 => ?_
          have w7 := w6.grow g7 (fun z => z)
          have bD7 : B7 Dt = none := by
            obtain ⟨⟨cc', hcc, _⟩, _⟩ := w6
            exact g7.fr Dt _ hcc trivial bD
          have gC7 := (gC5.trans (g6.mono fun a ha => (.inl ha : a = ba ∨ a = Dt))).trans (Gro.of g7)
          refine w7.put (B := B7) (a := lo) (b := hi') hlh hhn hr6 (g7.bh _ _ (pair_at (p := (lo, hi')) d7)) fun o ho w8 => ?_
          walk_at "dn"
          have g8 := gof_set (F := fun a => a = ba ∨ a = Dt) (o := o) g7.bh (.inr rfl) bD7 ho
          exact ⟨B7, gC7.trans g8, bD7, ⟨_, w8⟩, (((bx6.grow g7 (fun z => z)).grow (gof_set (F := fun a => a = Dt) (o := o) g7.bh rfl bD7 ho) nbd)).more (by omega), _, _, _, _, _, rfl⟩
        · walk_at "dn"
          exact ⟨B'', gC5, bD, ⟨W, w5⟩, bx5.more (by omega), _, _, _, _, _, rfl⟩
      · obtain ⟨bD, ⟨W, wd⟩, bx', o4, o5, o6, o7, o8, rfl⟩ := p
        obtain ⟨cs, hcs, nd, mem⟩ := wd.wd
        have clt : ∀ p ∈ cs, p.1 < 10 ∧ p.2 < 10 := fun p hp => by
          have := wd.ok.ok p ((mem p).mp hp)
          omega
        have cl : cs.length ≤ 45 := by
          have := pr_nodup_len cs (supp W) nd fun p hp => (mem_supp wd.ok).mpr ((mem p).mp hp)
          have := supp_len wd.ok
          omega
        have es : sortPr cs = supp W := supp_sort wd.ok mem
        have gAll : Gof (fun a => a = ba) B H B'' H'' := g12.trans (gB3.trans gC) fun a ha => ha.elim (fun z => .inl z) fun z => .inr (by rw [z]; exact hDt0)
        walk_at "dn"
        refine r_lcL (B := B'') (enc := dPair) (items := supp W) (p := fun _ => true) (f := fun p => dTie (mkT W p)) (fun R r => ?_) (by have := supp_len wd.ok; omega) (fun i it y B1 H1 hi g1 hy Y N hY _ => ?_) fun D0 B4 H4 g4 d4 => ?_
        · walk_at "dn"
          refine r_sortDT gC.bh hcs (kvW_keys cs W) nd (by omega) clt fun q B1 H1 g1 d1 => ?_
          rw [es] at d1
          exact r _ _ _ g1 d1
        · refine ⟨rfl, ?_⟩
          walk_at "dn"
          obtain ⟨q', xs, rfl, _, _⟩ := hy.tup_inv
          have hin : it ∈ cs := (mem it).mpr ((mem_supp wd.ok).mp (List.mem_of_getElem? hi))
          refine ⟨Dt, .int (W it), rfl, ?_, ?_⟩
          · have := DGet.t (k := kP it) (g1.hh _ _ hcs) (g1.bh _ _ (pair_at hy))
            rwa [kvW_get nd, if_pos hin] at this
          walk_at "dn"
          refine r_tup1 g1.bh (.int _) fun p2 B2 H2 g2 _ d2 => ?_
          exact r_catT g2.bh (hy.up g2.bb) d2 (by simp) (by simp) (by show 3 ≤ 100000; decide) fun p3 B3 H3 g3 d3 => hY rfl _ _ _ (g2.trans g3) d3
        rw [filter_yes] at d4
        walk_at "dn"
        refine r_tupleL g4.bh d4 fun q' B5 H5 g5 d5 => ?_
        walk_at "dn"
        refine r_tup2 g5.bh (.int _) d5 fun p B6 H6 g6 _ d6 => ?_
        have g46 := (g4.trans g5).trans g6
        refine q _ W B6 H6 (gAll.trans (Gro.of g46)) ((bx'.grow g46 (fun z => z)).more (by omega)) wd.ok ?_
        have et : (tiesOf W).map dTie = (supp W).map fun p => dTie (mkT W p) := by unfold tiesOf; rw [List.map_map]; rfl
        unfold dWeb
        rw [et]
        exact d6
def sp_l_pair : Sp := fun vs H Q _ => ∃ (ba : Addr) (B : Hp) (c : Nat), vs = [.ref ba] ∧ Ex B H ∧ Bx B H ba c ∧ c + 300 ≤ 1000000 ∧
  ∀ v n k B' H', Gof (fun a => a = ba) B H B' H' → Bx B' H' ba (c + 300) → KOk n k → D B' v (.tuple [dWeb n (tiesOf k.W), dL k.ps]) → Q v H'
theorem ok_l_pair (R : Raw K mg "_law_pair" "_law_pair" s_l_pair ["_law_box_here"]) (T : TB mg) (c_l_take : DefT P w K mg base "_law_take" 1 ["_law_box_here", "_law_many"] sp_l_take) (c_l_web : DefT P w K mg base "_law_web" 3 ["_law_box_here", "_law_many"] sp_l_web) (c_l_posts : DefT P w K mg base "_law_posts" 2 ["_law_box_here", "_law_many", "_law_most"] sp_l_posts) : DefT P w K mg base "_law_pair" 4 ["_law_box_here"] sp_l_pair := by
  refine R.ok fun f fd F => F.ok sc_l_pair (fun vs H Q E h => ?_) (fun cdv A outer s H vs Q E hr h => ?_)
  · obtain ⟨_, _, _, rfl, _⟩ := h
    rfl
  · obtain ⟨ba, B, c, rfl, e, bx, hc, q⟩ := h
    refine ⟨_, (pss_cons (ps_set (i := 1) sc_l_pair.nd rfl (by first | exact Or.inl rfl | exact Or.inr rfl) (k_call c_l_web hr (pa_cons (pv 0) (pa_cons (pe_ix (k_ixL (K := K)) (pe_lst (pa_cons (pe_op op_add pe_int (k_call c_l_take hr (pa_cons (pv 0) (pa_cons pe_int pa_nil)))) (pa_cons (pe_op op_add pe_int (k_call c_l_take hr (pa_cons (pv 0) (pa_cons pe_int pa_nil)))) pa_nil))) (pe_callTy k_int1 (by rfl) T.z_int (by decide +kernel) (pa_cons (pe_cmpR op_eq (k_call c_l_take hr (pa_cons (pv 0) (pa_cons pe_int pa_nil))) pe_int (nomark _)) pa_nil)) (fun _ _ => rfl)) pa_nil))))
  (pss_one (ps_ret (pe_tup (pa_cons (pv 1) (pa_cons (k_call c_l_posts hr (pa_cons (pv 0) (pa_cons (pe_ix (k_ixT (K := K)) (pv 1) pe_int (fun _ _ => rfl)) (pa_cons (pe_ix (k_ixL (K := K)) (pe_lst (pa_cons pe_int (pa_cons pe_int pa_nil))) (pe_callTy k_int1 (by rfl) T.z_int (by decide +kernel) (pa_cons (pe_cmpR op_gt (pe_ix (k_ixT (K := K)) (pv 1) pe_int (fun _ _ => rfl)) pe_int (nomark _)) pa_nil)) (fun _ _ => rfl)) pa_nil)))) pa_nil)))))), ?_⟩
    walk_at "dn"
    refine ⟨ba, 5, B, c, rfl, e, bx, by decide, by decide, by omega, fun r1 H1 hr1 g1 bx1 => ?_⟩
    walk_at "dn"
    refine ⟨ba, 3, B, _, rfl, g1.bh, bx1, by decide, by decide, by omega, fun r2 H2 hr2 g2 bx2 => ?_⟩
    walk_at "dn"
    refine r_lst (ds := [.int (2 + (r1 : Int)), .int (8 + (r2 : Int))]) g2.bh (.two (.int _) (.int _)) (by show 2 ≤ 100000; decide) fun L B3 H3 g3 _ d3 => ?_
    walk_at "dn"
    refine ⟨ba, 8, B3, _, rfl, g3.bh, bx2.grow g3 (fun z => z), by decide, by decide, by omega, fun r4 H4 hr4 g4 bx4 => ?_⟩
    walk_at "dn"
    refine ⟨rfl, ?_⟩
    walk_at "dn"
    obtain ⟨n, hn2, hn10, hpick⟩ : ∃ n : Nat, 2 ≤ n ∧ n ≤ 10 ∧ ∃ j : Nat, (if decide (V.int (r4 : Int) = V.int 0) = true then 1 else 0 : Int) = (j : Int) ∧ ([PyData.int (2 + (r1 : Int)), PyData.int (8 + (r2 : Int))] : List PyData)[j]? = some (.int (n : Int)) := by
      by_cases z : decide (V.int (r4 : Int) = V.int 0) = true
      · rw [if_pos z]
        exact ⟨8 + r2, by omega, by omega, 1, rfl, rfl⟩
      · rw [if_neg z]
        exact ⟨2 + r1, by omega, by omega, 0, rfl, rfl⟩
    obtain ⟨j, ej, hj⟩ := hpick
    rw [ej]
    refine r_ixL (i := j) g4.bh (d3.up (Ex.refl _)) hj fun vn hvn => ?_
    cases hvn
    walk_at "dn"
    refine ⟨ba, n, B3, _, rfl, g4.bh, bx4, hn2, hn10, by omega, fun vw W B5 H5 g5 bx5 wok d5 => ?_⟩
    have gA : Gof (fun a => a = ba) B H B5 H5 := (((g1.trans g2).trans (Gro.of g3)).trans g4).trans g5
    walk_at "dn"
    refine r_ixT (i := 0) gA.bh d5 rfl fun vn hvn => ?_
    cases hvn
    walk_at "dn"
    refine r_lst (ds := [.int 4, .int 3]) gA.bh (.two (.int _) (.int _)) (by show 2 ≤ 100000; decide) fun L6 B6 H6 g6 _ d6 => ?_
    walk_at "dn"
    refine r_ixT (i := 0) g6.bh (d5.up g6.bb) rfl fun vn hvn => ?_
    cases hvn
    walk_at "dn"
    obtain ⟨j2, m, ej2, hj2, hm2, hm10⟩ : ∃ j2 m : Nat, (if decide ((7 : Int) < (n : Int)) = true then 1 else 0 : Int) = (j2 : Int) ∧ ([PyData.int 4, PyData.int 3] : List PyData)[j2]? = some (.int (m : Int)) ∧ 2 ≤ m ∧ m ≤ 10 := by
      by_cases z : decide ((7 : Int) < (n : Int)) = true
      · rw [if_pos z]; exact ⟨1, 3, rfl, rfl, by decide, by decide⟩
      · rw [if_neg z]; exact ⟨0, 4, rfl, rfl, by decide, by decide⟩
    rw [ej2]
    refine r_ixL (i := j2) g6.bh d6 hj2 fun vm hvm => ?_
    cases hvm
    walk_at "dn"
    refine ⟨ba, n, m, B6, _, rfl, g6.bh, bx5.grow g6 (fun z => z), hn2, hn10, hm2, hm10, by omega, fun vp ps B7 H7 g7 bx7 d7 pw lt two => ?_⟩
    walk_at "dn"
    refine r_tup2 g7.bh ((d5.up g6.bb).up g7.bb) d7 fun p B8 H8 g8 _ d8 => ?_
    exact q _ n ⟨W, ps⟩ B8 H8 (((gA.trans (Gro.of g6)).trans g7).trans (Gro.of g8)) ((bx7.grow g8 (fun z => z)).more (by omega)) ⟨wok, pw, lt, two⟩ d8
end
end KPR
set_option Elab.async false
set_option linter.all false
set_option maxRecDepth 100000
/-! KS: the law's world, deeds. -/
namespace KPR
open PySem L2
inductive Dd
  | undo
  | put (p : Nat)
  | take (p : Nat)
  | weigh (a b : Nat) (w : Int)
def dDd : Dd → PyData
  | .undo => .tuple [.str "undo"]
  | .put p => .tuple [.str "put", .int (p : Int)]
  | .take p => .tuple [.str "take", .int (p : Int)]
  | .weigh a b w => .tuple [.str "weigh", .int (a : Int), .int (b : Int), .int w]
def stepK (k : KS) (past : List KS) : Dd → KS × List KS
  | .undo => match past.getLast? with
    | some k0 => (k0, past.dropLast)
    | none => (k, past)
  | .put p => (⟨k.W, sortN (k.ps ++ [p])⟩, past ++ [k])
  | .take p => (⟨k.W, othersOf k.ps p⟩, past ++ [k])
  | .weigh a b w => (⟨wput k.W (a, b) w, k.ps⟩, past ++ [k])
def Valid (n : Nat) (k : KS) : Dd → Prop
  | .undo => True
  | .put p => p < n ∧ p ∉ k.ps
  | .take p => p < n ∧ p ∈ k.ps ∧ k.ps.length ≠ 2
  | .weigh a b w => a < b ∧ b < n ∧ 0 ≤ w
def wkv (n : Nat) (wt wp pa : Addr) : List (L2.Key × V) := [(Sum.inr "many", .int (n : Int)), (Sum.inr "ties", .ref wt), (Sum.inr "posts", .ref wp), (Sum.inr "past", .ref pa)]
theorem wkv_many {n : Nat} {wt wp pa : Addr} : valV (wkv n wt wp pa) (Sum.inr "many") = some (.int (n : Int)) := by rfl
theorem wkv_ties {n : Nat} {wt wp pa : Addr} : valV (wkv n wt wp pa) (Sum.inr "ties") = some (.ref wt) := by rfl
theorem wkv_posts {n : Nat} {wt wp pa : Addr} : valV (wkv n wt wp pa) (Sum.inr "posts") = some (.ref wp) := by rfl
theorem wkv_past {n : Nat} {wt wp pa : Addr} : valV (wkv n wt wp pa) (Sum.inr "past") = some (.ref pa) := by rfl
theorem wkv_putT {n : Nat} {wt wt' wp pa : Addr} : putK (wkv n wt wp pa) (Sum.inr "ties") (.ref wt') = wkv n wt' wp pa := by rfl
theorem wkv_putP {n : Nat} {wt wp wp' pa : Addr} : putK (wkv n wt wp pa) (Sum.inr "posts") (.ref wp') = wkv n wt wp' pa := by rfl
theorem wkv_merge {n : Nat} {wt wp pa : Addr} : mergeK [] (wkv n wt wp pa) = wkv n wt wp pa := by rfl
def WPastAt (B H : Hp) (v : V) (k : KS) (o : Addr × Addr) : Prop := ∃ t, v = .ref t ∧ B t = some (.tup [.ref o.1, .ref o.2]) ∧ WD H o.1 k.W ∧ H o.2 = some (.lst (vN k.ps))
inductive WPast (B H : Hp) : List V → List KS → List (Addr × Addr) → Prop
  | nil : WPast B H [] [] []
  | cons {v : V} {vs : List V} {k : KS} {ks : List KS} {o : Addr × Addr} {os : List (Addr × Addr)} : WPastAt B H v k o → WPast B H vs ks os → WPast B H (v :: vs) (k :: ks) (o :: os)
structure Wd (B H : Hp) (n : Nat) (wd wt wp pa : Addr) (k : KS) (pq : List V) (past : List KS) (os : List (Addr × Addr)) : Prop where
  ins : H wd = some (.dK (wkv n wt wp pa))
  tw : WD H wt k.W
  ps : H wp = some (.lst (vN k.ps))
  pt : H pa = some (.lst pq)
  pl : WPast B H pq past os
  nd : (ownK wd wt wp pa os).Nodup
  un : ∀ a ∈ ownK wd wt wp pa os, B a = none
section
variable {B H B' H' : Hp} {F : Addr → Prop} {n : Nat} {x wt wp pa : Addr} {k : KS} {pq : List V} {past : List KS} {os : List (Addr × Addr)}
theorem WPastAt.grow {v : V} {o : Addr × Addr} (h : WPastAt B H v k o) (g : Gof F B H B' H') (h1 : ¬ F o.1) (h2 : ¬ F o.2) : WPastAt B' H' v k o :=
  let ⟨t, a, b, c, d⟩ := h; ⟨t, a, g.bb _ _ b, c.grow g h1, g.kp _ _ d h2⟩
theorem WPast.grow {vs : List V} {ks : List KS} (h : WPast B H vs ks os) (g : Gof F B H B' H') (hf : ∀ o ∈ os, ¬ F o.1 ∧ ¬ F o.2) : WPast B' H' vs ks os := by
  induction h with
  | nil => exact .nil
  | cons h1 _ ih => exact .cons (h1.grow g (hf _ List.mem_cons_self).1 (hf _ List.mem_cons_self).2) (ih fun o ho => hf o (List.mem_cons_of_mem _ ho))
theorem WPast.len {vs : List V} {ks : List KS} (h : WPast B H vs ks os) : vs.length = ks.length ∧ os.length = ks.length := by
  induction h with
  | nil => exact ⟨rfl, rfl⟩
  | cons _ _ ih => exact ⟨by rw [List.length_cons, List.length_cons, ih.1], by rw [List.length_cons, List.length_cons, ih.2]⟩
theorem WPast.al {vs : List V} {ks : List KS} (h : WPast B H vs ks os) : ∀ o ∈ os, (∃ u, H o.1 = some u ∧ nT u) ∧ ∃ u, H o.2 = some u ∧ nT u := by
  induction h with
  | nil => exact fun o ho => nomatch ho
  | cons h1 _ ih =>
    intro o ho
    rcases List.mem_cons.mp ho with e | e
    · obtain ⟨t, _, _, ⟨c, c1, _⟩, d1⟩ := h1
      rw [e]
      exact ⟨⟨_, c1, trivial⟩, _, d1, trivial⟩
    · exact ih o e
theorem WPast.snoc {vs : List V} {ks : List KS} {v : V} {o : Addr × Addr} (h : WPast B H vs ks os) (h1 : WPastAt B H v k o) : WPast B H (vs ++ [v]) (ks ++ [k]) (os ++ [o]) := by
  induction h with
  | nil => exact .cons h1 .nil
  | cons h2 _ ih => exact .cons h2 ih
theorem WPast.last {vs : List V} {ks ks0 : List KS} (h : WPast B H vs ks os) (e : ks = ks0 ++ [k]) : ∃ vs0 v os0 o, vs = vs0 ++ [v] ∧ os = os0 ++ [o] ∧ WPast B H vs0 ks0 os0 ∧ WPastAt B H v k o := by
  induction h generalizing ks0 with
  | nil => simp at e
  | @cons v vs k' ks o os h1 h2 ih =>
    cases ks0 with
    | nil =>
      have e : k' :: ks = [k] := e
      cases e
      cases h2
      exact ⟨[], v, [], o, rfl, rfl, .nil, h1⟩
    | cons a ks0 =>
      rw [List.cons_append] at e
      injection e with e1 e2
      subst e1
      obtain ⟨vs0, w, os0, o', q1, q2, q3, q4⟩ := ih e2
      exact ⟨v :: vs0, w, o :: os0, o', by rw [q1]; rfl, by rw [q2]; rfl, .cons h1 q3, q4⟩
theorem Wd.al (h : Wd B H n x wt wp pa k pq past os) : ∀ a ∈ ownK x wt wp pa os, ∃ u, H a = some u ∧ nT u := fun a ha => by
  rcases mem_own.mp ha with e | e | e | e | ⟨o, ho, e | e⟩
  · exact e ▸ ⟨_, h.ins, trivial⟩
  · obtain ⟨c, q, _⟩ := h.tw
    exact e ▸ ⟨_, q, trivial⟩
  · exact e ▸ ⟨_, h.ps, trivial⟩
  · exact e ▸ ⟨_, h.pt, trivial⟩
  · exact e ▸ (h.pl.al o ho).1
  · exact e ▸ (h.pl.al o ho).2
theorem Wd.frame (h : Wd B H n x wt wp pa k pq past os) (g : Gof F B H B' H') (hf : ∀ a ∈ ownK x wt wp pa os, ¬ F a) : Wd B' H' n x wt wp pa k pq past os := by
  refine ⟨g.kp _ _ h.ins (hf _ (mem_own.mpr (.inl rfl))), h.tw.grow g (hf _ (mem_own.mpr (.inr (.inl rfl)))), g.kp _ _ h.ps (hf _ (mem_own.mpr (.inr (.inr (.inl rfl))))), g.kp _ _ h.pt (hf _ (mem_own.mpr (.inr (.inr (.inr (.inl rfl)))))),
    h.pl.grow g fun o ho => ⟨hf _ (mem_own.mpr (.inr (.inr (.inr (.inr ⟨o, ho, .inl rfl⟩))))), hf _ (mem_own.mpr (.inr (.inr (.inr (.inr ⟨o, ho, .inr rfl⟩)))))⟩, h.nd, fun a ha => ?_⟩
  obtain ⟨u, h1, h2⟩ := h.al a ha
  exact g.fr a u h1 h2 (h.un a ha)
theorem Wd.grow (h : Wd B H n x wt wp pa k pq past os) (g : Gro B H B' H') : Wd B' H' n x wt wp pa k pq past os := h.frame g fun _ _ z => z
theorem Wd.notin (h : Wd B H n x wt wp pa k pq past os) {a : Addr} (ha : H a = none) : a ∉ ownK x wt wp pa os := fun z => by
  obtain ⟨u, h1, _⟩ := h.al a z
  rw [ha] at h1
  cases h1
end
/-- a world at wd that owns own -/
def WdE (B H : Hp) (n : Nat) (wd : Addr) (k : KS) (past : List KS) (own : List Addr) : Prop := ∃ wt wp pa pq os, own = ownK wd wt wp pa os ∧ Wd B H n wd wt wp pa k pq past os
theorem WdE.grow {B H B' H' : Hp} {n : Nat} {x : Addr} {k : KS} {past : List KS} {own : List Addr} {F : Addr → Prop} (h : WdE B H n x k past own) (g : Gof F B H B' H') (hf : ∀ a ∈ own, ¬ F a) : WdE B' H' n x k past own := by
  obtain ⟨wt, wp, pa, pq, os, rfl, w⟩ := h
  exact ⟨wt, wp, pa, pq, os, rfl, w.frame g hf⟩
theorem WdE.al {B H : Hp} {n : Nat} {x : Addr} {k : KS} {past : List KS} {own : List Addr} (h : WdE B H n x k past own) : (∀ a ∈ own, ∃ u, H a = some u ∧ nT u) ∧ (∀ a ∈ own, B a = none) ∧ x ∈ own := by
  obtain ⟨wt, wp, pa, pq, os, rfl, w⟩ := h
  exact ⟨w.al, w.un, mem_own.mpr (.inl rfl)⟩
section
variable {K : PySem.W.Frag} {B H : Hp} {σ : St} {Q : VK} {x y v : V}
theorem w_pcons {tk tv : TE} {r : List (TE × TE)} {G : List (V × V) → Hp → Prop} (h : tk σ H fun x H1 => tv σ H1 fun y H2 => tPairs r σ H2 fun ps H3 => G ((x, y) :: ps) H3) : tPairs ((tk, tv) :: r) σ H G := h
theorem w_pnil {G : List (V × V) → Hp → Prop} (h : G [] H) : tPairs [] σ H G := h
theorem r_wget {wd : Addr} {kvs : List (L2.Key × V)} {s : Str} {u : V} (h : H wd = some (.dK kvs)) (hv : valV kvs (Sum.inr s) = some u) {R : V → Prop} (k : R u) : ∃ a v, V.ref wd = .ref a ∧ DGet H a (.str s) (some v) ∧ R v := ⟨wd, u, rfl, by rw [← hv]; exact DGet.k (k := Sum.inr s) h, k⟩
theorem r_wput {wd : Addr} {kvs : List (L2.Key × V)} {s : Str} {u : V} (h : H wd = some (.dK kvs)) (hl : kvs.length < 100) {R : Hp → Prop} (k : R (upd H wd (.dK (putK kvs (Sum.inr s) u)))) : ∃ a H4, V.ref wd = .ref a ∧ DPut H a (.str s) u H4 ∧ R H4 := ⟨wd, _, rfl, .inl ⟨kvs, Sum.inr s, h, rfl, slt (by omega), rfl⟩, k⟩
theorem r_inM {a : Addr} {n : Nat} {l : List Nat} (h : H a = some (.lst (vN l))) (k : Q (.bl (decide (n ∈ l))) H) : rIn K false (.int (n : Int)) (.ref a) H Q := by
  refine ⟨a, _, rfl, .inl (SqL.of h), rfl, vN_flat l, ?_⟩
  rw [inV_nat]
  exact k
theorem r_notInM {a : Addr} {n : Nat} {l : List Nat} (h : H a = some (.lst (vN l))) (k : Q (.bl (!decide (n ∈ l))) H) : rIn K true (.int (n : Int)) (.ref a) H Q := by
  refine ⟨a, _, rfl, .inl (SqL.of h), rfl, vN_flat l, ?_⟩
  rw [inV_nat]
  exact k
theorem r_slT_13 {d0 d1 d2 d3 : PyData} (e : Ex B H) (h : D B x (.tuple [d0, d1, d2, d3])) (k : ∀ p B' H', Gro B H B' H' → D B' (.ref p) (.tuple [d1, d2]) → Q (.ref p) H') : rSlT K x (some 1) (some 3) H Q := by
  obtain ⟨a, xs, rfl, h1, h2⟩ := h.tup_inv
  cases h2 with
  | cons a0 h2 =>
    obtain ⟨y, z, u, rfl, a1, a2, a3⟩ := h2.three_inv
    exact ⟨a, _, rfl, SqT.of (e _ _ h1), by show ¬ ((1 : Nat) = 0 ∧ 3 = 4); decide, fun p hp => k p _ _ (gro_new e hp) (.tup upd_same (.two (a1.up (Ex.new (e.back hp))) (a2.up (Ex.new (e.back hp)))))⟩
theorem r_slT_1 {d0 d1 : PyData} (e : Ex B H) (h : D B x (.tuple [d0, d1])) (k : ∀ p B' H', Gro B H B' H' → D B' (.ref p) (.tuple [d1]) → Q (.ref p) H') : rSlT K x (some 1) none H Q := by
  obtain ⟨a, xs, rfl, h1, h2⟩ := h.tup_inv
  obtain ⟨y, z, rfl, a1, a2⟩ := h2.two_inv
  exact ⟨a, _, rfl, SqT.of (e _ _ h1), by show ¬ ((1 : Nat) = 0 ∧ 2 = 2); decide, fun p hp => k p _ _ (gro_new e hp) (.tup upd_same (.one (a2.up (Ex.new (e.back hp)))))⟩
theorem others_erase {l : List Nat} (nd : l.Nodup) {j p : Nat} (h : l[j]? = some p) : l.eraseIdx j = othersOf l p := by
  unfold othersOf
  induction l generalizing j with
  | nil => simp at h
  | cons a l ih =>
    obtain ⟨n1, n2⟩ := List.nodup_cons.mp nd
    cases j with
    | zero =>
      have : a = p := by simpa using h
      subst this
      rw [List.filter_cons_of_neg (by simp)]
      show l = _
      refine (List.filter_eq_self.mpr fun y hy => ?_).symm
      have : y ≠ a := fun z => n1 (z ▸ hy)
      simp [this]
    | succ j =>
      have h : l[j]? = some p := by simpa using h
      have : a ≠ p := fun z => n1 (z ▸ List.mem_of_getElem? h)
      rw [List.filter_cons_of_pos (by simp [this])]
      show a :: l.eraseIdx j = _
      rw [ih n2 h]
end
end KPR
set_option Elab.async false
set_option linter.all false
set_option maxRecDepth 100000
set_option maxHeartbeats 4000000
/-! W21: the law's world. -/
namespace KPR
open PySem L2
local macro_rules | `(tactic| walk_at "dn") => `(tactic| repeat (first
  | (with_reducible refine w_seq ?_) | (with_reducible refine w_asg ?_) | (with_reducible refine w_drop ?_) | (with_reducible refine w_ret ?_) | (with_reducible refine w_ifs ?_)
  | ((with_reducible refine' w_var ?hv ?_); (case hv => exact rfl)) | (with_reducible refine w_c ?_) | (with_reducible refine w_op ?_) | (with_reducible refine w_un ?_) | (with_reducible refine w_cb ?_)
  | (with_reducible refine w_nil ?_) | (with_reducible refine w_cons ?_) | (with_reducible refine w_gname ?_) | (with_reducible refine w_test ?_) | (with_reducible refine w_b ?_) | (with_reducible refine w_exbl ?_)
  | (with_reducible refine w_and ?_) | (with_reducible refine w_or ?_) | (with_reducible refine w_not ?_) | (with_reducible refine w_if ?_) | (with_reducible refine w_andV ?_) | (with_reducible refine w_orV ?_) | (with_reducible refine w_notV ?_)
  | (with_reducible refine w_tup ?_) | (with_reducible refine w_lst ?_) | (with_reducible refine w_dnewK ?_) | (with_reducible refine w_dnewT ?_) | (with_reducible refine w_din ?_) | (with_reducible refine w_dnin ?_) | (with_reducible refine w_dget ?_) | (with_reducible refine w_dget2 ?_)
  | (with_reducible refine w_fld ?_) | (with_reducible refine w_cal ?_) | (with_reducible refine w_met ?_) | (with_reducible refine w_mak ?_) | (with_reducible refine w_bm ?_) | (with_reducible refine w_bm0 ?_) | (with_reducible refine w_sl ?_)
  | (with_reducible refine w_nopart ?_) | (with_reducible refine w_part ?_) | (with_reducible refine w_sfld ?_) | (with_reducible refine w_dput ?_) | ((with_reducible refine' w_aug ?hv ?_); (case hv => exact rfl)) | (with_reducible refine w_iT ?_) | (with_reducible refine w_iF ?_)
  | (with_reducible refine w_ii0 ?_) | (with_reducible refine w_neg ?_) | (with_reducible refine w_ip ?_) | (with_reducible refine w_yes ?_) | (with_reducible refine w_for ?_) | (with_reducible refine w_ilist ?_) | (with_reducible refine w_itup ?_) | (with_reducible refine w_irng1 ?_) | (with_reducible refine w_irng2 ?_) | (with_reducible refine w_ienum ?_) | (with_reducible refine w_ienumT ?_)
  | (with_reducible refine w_ckw ?_) | (with_reducible refine w_gd ?_) | (with_reducible refine w_chain ?_) | (with_reducible refine w_max2 ?_) | (with_reducible refine w_min2 ?_) | (with_reducible refine w_int1 ?_) | (with_reducible refine w_gsub ?_) | (with_reducible refine w_par ?_) | (with_reducible refine w_lcr1 ?_) | (with_reducible refine w_pcons ?_) | (with_reducible refine w_pnil ?_) | (with_reducible refine w_next ?_)))

section
variable {P : Program} {w : World} {K : PySem.W.Frag} {mg : Str → Option Value} {base : Heap} {C Cf : Addr}
def sp_l_world : Sp := fun vs H Q _ => ∃ (vw vpo : V) (B : Hp) (n : Nat) (k : KS), vs = [vw, vpo] ∧ Ex B H ∧ D B vw (dWeb n (tiesOf k.W)) ∧ D B vpo (dL k.ps) ∧ KOk n k ∧
  ∀ wd own B' H', Gro B H B' H' → (∀ a ∈ own, H a = none) → WdE B' H' n wd k [] own → Q (.ref wd) H'
theorem ok_l_world (R : Raw K mg "_law_world" "_law_world" s_l_world ["_law_web_here", "_law_posts_here"]) (T : TB mg) : DefT P w K mg base "_law_world" 1 ["_law_web_here", "_law_posts_here"] sp_l_world := by
  refine R.ok fun f fd F => F.ok sc_l_world (fun vs H Q E h => ?_) (fun cdv A outer s H vs Q E hr h => ?_)
  · obtain ⟨_, _, _, _, _, rfl, _⟩ := h
    rfl
  · obtain ⟨vw, vpo, B, n, ks, rfl, e, hw, hp, ok, k⟩ := h
    refine ⟨_, (pss_cons (ps_set (i := 2) sc_l_world.nd rfl (by first | exact Or.inl rfl | exact Or.inr rfl) (pe_callTy (k_dictT rfl hr.units) (by rfl) T.z_dict (by decide +kernel) (pa_cons (pe_lc (own := [("_law_a", 3), ("_law_b", 4), ("_law_weight_here", 5)]) (g := (gTup K 3 (gCons (gName 3) (gCons (gName 4) (gCons (gName 5) gNil))))) (by rfl) sc_l_world.nd (k_itup (K := K) (pe_ix (k_ixT (K := K)) (pv 0) pe_int (fun _ _ => rfl))) (blkOk_by (N := nm_l_world) (sc := defScope s_l_world) (by decide +kernel)) (fun _ _ _ _ _ => (k_gtup (K := K) (by rfl) (pgs_cons (pg_name (i := 3) sc_l_world.nd rfl (by first | exact Or.inl rfl | exact Or.inr rfl)) (pgs_cons (pg_name (i := 4) sc_l_world.nd rfl (by first | exact Or.inl rfl | exact Or.inr rfl)) (pgs_cons (pg_name (i := 5) sc_l_world.nd rfl (by first | exact Or.inl rfl | exact Or.inr rfl)) pgs_nil))))) (fun _ _ _ _ _ => pts_nil) (fun _ _ _ _ _ => (pe_tup (pa_cons (pe_tup (pa_cons (pv 3) (pa_cons (pv 4) pa_nil))) (pa_cons (pv 5) pa_nil))))) pa_nil)))
  (pss_one (ps_ret (pe_disp (pps_cons pe_str (pe_ix (k_ixT (K := K)) (pv 0) pe_int (fun _ _ => rfl)) (pps_cons pe_str (pv 2) (pps_cons pe_str (pe_callTy (k_list (K := K)) (by rfl) T.z_list (by decide +kernel) (pa_cons (pv 1) pa_nil)) (pps_cons pe_str (pe_lst pa_nil) pps_nil)))) (by rfl) (by rfl) (fun z => by cases z) (by decide))))), ?_⟩
    have htl : (tiesOf ks.W).length ≤ 45 := (tiesOf_wf ok.w).len
    walk_at "dn"
    refine r_lcT (B := B) (enc := dTie) (items := tiesOf ks.W) (p := fun _ => true) (f := fun t => .tuple [dPair (prOf t), .int t.2.2]) (gv_ixT rfl e hw rfl) (by omega) (fun i it y B3 H3 hi g3 hy Y N hY hN => ?_) fun D0 B2 H2 g2 d2 => ?_
    · refine g_tup3 g3.bh hy fun a b wt ha hb hwt => ⟨rfl, ?_⟩
      cases ha
      cases hb
      walk_at "dn"
      refine r_tup2 g3.bh (.int _) (.int _) fun p B4 H4 g4 _ d4 => ?_
      walk_at "dn"
      exact r_tup2 g4.bh d4 (hwt.up g4.bb) fun p5 B5 H5 g5 _ d5 => hY rfl _ _ _ (g4.trans g5) d5
    rw [filter_yes] at d2
    walk_at "dn"
    refine r_dictT (items := tiesOf ks.W) (kf := prOf) (vf := fun t => .int t.2.2) (dv := fun t => .int t.2.2) (fun _ _ _ h => h.int_inv) g2.bh d2 fun wt hwt => ?_
    have ekv : ((tiesOf ks.W).map fun t => (kP (prOf t), V.int t.2.2)).foldl (fun acc kv => putK acc kv.1 kv.2) [] = kvW (supp ks.W) ks.W := by
      rw [kv_fold (by rw [prOf_ties]; exact supp_nd _)]
      unfold kvW tiesOf
      rw [List.map_map]
      rfl
    rw [ekv]
    have g3 := g2.trans (gro_mut (o := .dT (kvW (supp ks.W) ks.W)) g2.bh hwt)
    have e3 : (upd H2 wt (.dT (kvW (supp ks.W) ks.W))) wt = some (.dT (kvW (supp ks.W) ks.W)) := upd_same
    have b3 : B2 wt = none := g2.bh.back hwt
    have hwt0 : H wt = none := g2.back hwt
    generalize upd H2 wt (.dT (kvW (supp ks.W) ks.W)) = H3 at g3 e3
    walk_at "dn"
    intro wd hwd
    have g4 := g3.trans (gro_mut (o := .dK []) g3.bh hwd)
    have e4 := (Ex.new (o := .dK []) hwd) _ _ e3
    have ed4 : (upd H3 wd (.dK [])) wd = some (.dK []) := upd_same
    have bd4 : B2 wd = none := g3.bh.back hwd
    have hwd0 : H wd = none := g3.back hwd
    have n1 : wd ≠ wt := fun z => by rw [z, e3] at hwd; cases hwd
    generalize upd H3 wd (.dK []) = H4 at g4 e4 ed4
    walk_at "dn"
    refine r_ixT (i := 0) g4.bh (hw.up g4.bb) rfl fun vn hvn => ?_
    cases hvn
    walk_at "dn"
    obtain ⟨ap, xs, rfl, hp1, hp2⟩ := hp.lst_inv
    have exs := hp2.nats_inv
    subst exs
    refine ⟨ap, _, rfl, .inl (SqL.of (g4.bh _ _ (g4.bb _ _ hp1))), fun wp hwp => ?_⟩
    have g5 := g4.trans (gro_mut (o := .lst (vN ks.ps)) g4.bh hwp)
    have e5 := (Ex.new (o := .lst (vN ks.ps)) hwp) _ _ e4
    have ed5 := (Ex.new (o := .lst (vN ks.ps)) hwp) _ _ ed4
    have ep5 : (upd H4 wp (.lst (vN ks.ps))) wp = some (.lst (vN ks.ps)) := upd_same
    have bp5 : B2 wp = none := g4.bh.back hwp
    have hwp0 : H wp = none := g4.back hwp
    have n2 : wt ≠ wp := fun z => by rw [← z, e4] at hwp; cases hwp
    have n3 : wd ≠ wp := fun z => by rw [← z, ed4] at hwp; cases hwp
    generalize upd H4 wp (.lst (vN ks.ps)) = H5 at g5 e5 ed5 ep5
    walk_at "dn"
    refine r_lstM g5.bh (by show 0 ≤ 100000; decide) fun pa H6 hpa g6 e6 bpa => ?_
    have n4 : wt ≠ pa := fun z => by rw [← z, e5] at hpa; cases hpa
    have n5 : wd ≠ pa := fun z => by rw [← z, ed5] at hpa; cases hpa
    have n6 : wp ≠ pa := fun z => by rw [← z, ep5] at hpa; cases hpa
    have g06 := g5.trans g6
    have ed6 := g6.hh _ _ ed5
    walk_at "dn"
    refine ⟨ed6, wkv n wt wp pa, rfl, by show 4 ≤ 15; decide, ?_⟩
    rw [wkv_merge]
    walk_at "dn"
    have g7 := gro_set (o := .dK (wkv n wt wp pa)) g06 hwd0 bd4
    refine k wd (ownK wd wt wp pa []) _ _ g7 (fun a ha => ?_) ⟨wt, wp, pa, [], [], rfl, upd_same, ⟨supp ks.W, by rw [upd_ne (Ne.symm n1)]; exact g6.hh _ _ e5, supp_nd _, fun p => mem_supp ok.w⟩, by rw [upd_ne (Ne.symm n3)]; exact g6.hh _ _ ep5, by rw [upd_ne (Ne.symm n5)]; exact e6, .nil, ?_, fun a ha => ?_⟩
    · rcases mem_own.mp ha with y | y | y | y | ⟨o, ho, _⟩
      · rw [y]; exact hwd0
      · rw [y]; exact hwt0
      · rw [y]; exact hwp0
      · rw [y]; exact g5.back hpa
      · exact nomatch ho
    · unfold ownK
      simp [n1, n2, n3, n4, n5, n6]
    · rcases mem_own.mp ha with y | y | y | y | ⟨o, ho, _⟩
      · rw [y]; exact bd4
      · rw [y]; exact b3
      · rw [y]; exact bp5
      · rw [y]; exact bpa
      · exact nomatch ho
def sp_l_done : Sp := fun vs H Q _ => ∃ (wd : Addr) (vd : V) (B : Hp) (n : Nat) (k : KS) (past : List KS) (own : List Addr) (d : Dd), vs = [.ref wd, vd] ∧ Ex B H ∧ WdE B H n wd k past own ∧ KOk n k ∧ D B vd (dDd d) ∧ Valid n k d ∧ past.length ≤ 1000 ∧
  ∀ v B' H' own', Gof (fun a => a ∈ own) B H B' H' → (∀ a ∈ own', a ∈ own ∨ H a = none) → WdE B' H' n wd (stepK k past d).1 (stepK k past d).2 own' → Q v H'
end
end KPR
set_option Elab.async false
set_option linter.all false
set_option maxRecDepth 100000
/-! KT: changes of a world. -/
namespace KPR
open PySem L2
theorem str_eq (a : Str) : decide (V.str a = V.str a) = true := decide_eq_true rfl
theorem str_ne {a b : Str} (h : a ≠ b) : decide (V.str a = V.str b) = false := decide_eq_false fun z => h (V.str.inj z)
section
variable {B H B' H' : Hp} {F : Addr → Prop} {n : Nat} {x wt wp pa : Addr} {k : KS} {pq : List V} {past : List KS} {os : List (Addr × Addr)}
theorem Wd.unx (h : Wd B H n x wt wp pa k pq past os) : B x = none := h.un x (mem_own.mpr (.inl rfl))
theorem Wd.unt (h : Wd B H n x wt wp pa k pq past os) : B wt = none := h.un wt (mem_own.mpr (.inr (.inl rfl)))
theorem Wd.unp (h : Wd B H n x wt wp pa k pq past os) : B wp = none := h.un wp (mem_own.mpr (.inr (.inr (.inl rfl))))
theorem Wd.una (h : Wd B H n x wt wp pa k pq past os) : B pa = none := h.un pa (mem_own.mpr (.inr (.inr (.inr (.inl rfl)))))
/-- a state is put into the past -/
theorem Wd.began (h : Wd B H n x wt wp pa k pq past os) (e : Ex B H) {t ti pi : Addr} (ht : B t = some (.tup [.ref ti, .ref pi])) (h1 : ti ∉ ownK x wt wp pa os) (h2 : pi ∉ ownK x wt wp pa os) (hne : ti ≠ pi) (b1 : B ti = none) (b2 : B pi = none) (w1 : WD H ti k.W) (w2 : H pi = some (.lst (vN k.ps))) :
    Wd B (upd H pa (.lst (pq ++ [.ref t]))) n x wt wp pa k (pq ++ [.ref t]) (past ++ [k]) (os ++ [(ti, pi)]) := by
  have ne := ownNe h.nd
  have g := gof_set (F := fun a => a = pa) (o := .lst (pq ++ [.ref t])) e rfl h.una
  have m1 : ti ≠ pa := fun z => h1 (mem_own.mpr (.inr (.inr (.inr (.inl z)))))
  have m2 : pi ≠ pa := fun z => h2 (mem_own.mpr (.inr (.inr (.inr (.inl z)))))
  refine ⟨g.kp _ _ h.ins ne.xp, h.tw.grow g ne.wp, g.kp _ _ h.ps ne.kp, upd_same, (h.pl.grow g fun o ho => let ⟨⟨_, _, _, a⟩, ⟨_, _, _, b⟩⟩ := ne.os o ho; ⟨a, b⟩).snoc ⟨t, rfl, ht, w1.grow g m1, g.kp _ _ w2 m2⟩, own_more h.nd h1 h2 hne, fun a ha => ?_⟩
  rw [own_snoc] at ha
  rcases List.mem_append.mp ha with y | y
  · exact h.un a y
  · rcases (show a = ti ∨ a = pi by simpa using y) with y | y
    · rw [y]; exact b1
    · rw [y]; exact b2
/-- the posts' list written -/
theorem Wd.setP (h : Wd B H n x wt wp pa k pq past os) (e : Ex B H) {l : List Nat} : Wd B (upd H wp (.lst (vN l))) n x wt wp pa ⟨k.W, l⟩ pq past os := by
  have ne := ownNe h.nd
  have g := gof_set (F := fun a => a = wp) (o := .lst (vN l)) e rfl h.unp
  exact ⟨g.kp _ _ h.ins ne.xk, h.tw.grow g ne.wk, upd_same, g.kp _ _ h.pt (Ne.symm ne.kp), h.pl.grow g fun o ho => let ⟨⟨_, _, a, _⟩, ⟨_, _, b, _⟩⟩ := ne.os o ho; ⟨a, b⟩, h.nd, h.un⟩
/-- another posts' list -/
theorem Wd.newP (h : Wd B H n x wt wp pa k pq past os) (e : Ex B H) {l : List Nat} {wp' : Addr} (hp : H wp' = some (.lst (vN l))) (hn : wp' ∉ ownK x wt wp pa os) (hb : B wp' = none) : Wd B (upd H x (.dK (wkv n wt wp' pa))) n x wt wp' pa ⟨k.W, l⟩ pq past os := by
  have ne := ownNe h.nd
  have g := gof_set (F := fun a => a = x) (o := .dK (wkv n wt wp' pa)) e rfl h.unx
  have m1 : wp' ≠ x := fun z => hn (mem_own.mpr (.inl z))
  refine ⟨upd_same, h.tw.grow g (Ne.symm ne.xw), g.kp _ _ hp m1, g.kp _ _ h.pt (Ne.symm ne.xp), h.pl.grow g fun o ho => let ⟨⟨a, _⟩, ⟨b, _⟩⟩ := ne.os o ho; ⟨a, b⟩, own_ka h.nd hn, fun a ha => ?_⟩
  by_cases z : a = wp'
  · rw [z]; exact hb
  · refine h.un a ?_
    rcases mem_own.mp ha with y | y | y | y | y
    · exact mem_own.mpr (.inl y)
    · exact mem_own.mpr (.inr (.inl y))
    · exact absurd y z
    · exact mem_own.mpr (.inr (.inr (.inr (.inl y))))
    · exact mem_own.mpr (.inr (.inr (.inr (.inr y))))
theorem Wd.setW2 (h : Wd B H n x wt wp pa k pq past os) {W' : Wt} (g : Gof (fun a => a = wt) B H B' H') (bw : B' wt = none) (w : WD H' wt W') : Wd B' H' n x wt wp pa ⟨W', k.ps⟩ pq past os := by
  have ne := ownNe h.nd
  refine ⟨g.kp _ _ h.ins ne.xw, w, g.kp _ _ h.ps (Ne.symm ne.wk), g.kp _ _ h.pt (Ne.symm ne.wp), h.pl.grow g fun o ho => let ⟨⟨_, a, _⟩, ⟨_, b, _⟩⟩ := ne.os o ho; ⟨a, b⟩, h.nd, fun a ha => ?_⟩
  obtain ⟨u, h1, h2⟩ := h.al a ha
  exact g.fr a u h1 h2 (h.un a ha)
/-- back to the last state of the past -/
theorem Wd.back {o : Addr × Addr} {t : Addr} {k0 : KS} {past0 : List KS} {pq0 : List V} {os0 : List (Addr × Addr)} (h : Wd B H n x wt wp pa k (pq0 ++ [.ref t]) (past0 ++ [k0]) (os0 ++ [o])) (e : Ex B H) (pl0 : WPast B H pq0 past0 os0) (w1 : WD H o.1 k0.W) (w2 : H o.2 = some (.lst (vN k0.ps))) :
    Wd B (upd (upd H pa (.lst pq0)) x (.dK (wkv n o.1 o.2 pa))) n x o.1 o.2 pa k0 pq0 past0 os0 := by
  have ne := ownNe h.nd
  have g := (gof_set (F := fun a => a = x ∨ a = pa) (o := .lst pq0) e (.inr rfl) h.una).trans (gof_set (F := fun a => a = x ∨ a = pa) (o := .dK (wkv n o.1 o.2 pa)) (e.mut h.una) (.inl rfl) h.unx)
  obtain ⟨⟨a1, _, _, a2⟩, ⟨a3, _, _, a4⟩⟩ := ne.os o (List.mem_append_right _ (by simp))
  refine ⟨upd_same, w1.grow g (fun y => y.elim a1 a2), g.kp _ _ w2 (fun y => y.elim a3 a4), by rw [upd_ne (Ne.symm ne.xp), upd_same], pl0.grow g fun o' ho' => ?_, own_back h.nd, fun a ha => ?_⟩
  · obtain ⟨⟨q1, _, _, q2⟩, ⟨q3, _, _, q4⟩⟩ := ne.os o' (List.mem_append_left _ ho')
    exact ⟨fun y => y.elim q1 q2, fun y => y.elim q3 q4⟩
  · refine h.un a ?_
    rcases mem_own.mp ha with y | y | y | y | ⟨o', ho', y⟩
    · exact mem_own.mpr (.inl y)
    · exact mem_own.mpr (.inr (.inr (.inr (.inr ⟨o, by simp, .inl y⟩))))
    · exact mem_own.mpr (.inr (.inr (.inr (.inr ⟨o, by simp, .inr y⟩))))
    · exact mem_own.mpr (.inr (.inr (.inr (.inl y))))
    · exact mem_own.mpr (.inr (.inr (.inr (.inr ⟨o', List.mem_append_left _ ho', y⟩))))
end
section
variable {K : PySem.W.Frag} {B H : Hp} {σ : St} {Q : VK} {x y v : V}
theorem r_wsetD {wd : Addr} {kvs : List (L2.Key × V)} {s : Str} {u : V} (h : H wd = some (.dK kvs)) (hl : kvs.length < 100) {R : Hp → Prop} (k : R (upd H wd (.dK (putK kvs (Sum.inr s) u)))) : rSetD (.ref wd) (.str s) u H R := ⟨wd, _, rfl, .inl ⟨kvs, Sum.inr s, h, rfl, slt (by omega), rfl⟩, k⟩
theorem r_sortIm {l : List Nat} (e : Ex B H) (h : D B x (dL l)) (nd : l.Nodup) (lt : ∀ x ∈ l, x < 10) (k : ∀ p H', H p = none → Gro B H B H' → B p = none → H' p = some (.lst (vN (sortN l))) → Q (.ref p) H') : rSorted K [x] H Q := by
  obtain ⟨a, xs, rfl, h1, h2⟩ := h.lst_inv
  have := h2.nats_inv
  subst this
  refine ⟨a, l.map fun (n : Nat) => (n : Int), rfl, by rw [vN_ints]; exact SqL.of (e _ _ h1), by rw [List.length_map]; have := pigeon l 10 nd lt; omega, fun ys p hp hs hn => ?_⟩
  rw [sort_nats hp hs nd lt, vN_ints]
  exact k p _ hn (gro_mut e hn) (e.back hn) upd_same
theorem r_remove {a : Addr} {l : List Nat} {p : Nat} (h : H a = some (.lst (vN l))) (nd : l.Nodup) (hp : p ∈ l) (k : Q .non (upd H a (.lst (vN (othersOf l p))))) : rRemI (.ref a) [.int (p : Int)] H Q := by
  obtain ⟨j, hj⟩ := List.mem_iff_getElem?.mp hp
  refine ⟨a, l.map fun (n : Nat) => (n : Int), (p : Int), j, rfl, rfl, by rw [vN_ints]; exact h, by rw [List.getElem?_map, hj]; rfl, fun m hm z => ?_, ?_⟩
  · rw [List.getElem?_map] at z
    cases hq : l[m]? with
    | none => rw [hq] at z; cases z
    | some q =>
      rw [hq] at z
      have z : (q : Int) = (p : Int) := Option.some.inj z
      have e : q = p := by omega
      subst e
      obtain ⟨l1, e1⟩ := List.getElem?_eq_some_iff.mp hq
      obtain ⟨l2, e2⟩ := List.getElem?_eq_some_iff.mp hj
      have := (List.getElem_inj nd).mp (e1.trans e2.symm)
      omega
  · rw [erase_map, vN_ints, others_erase nd hj]
    exact k
end
end KPR
set_option Elab.async false
set_option linter.all false
set_option maxRecDepth 100000
set_option maxHeartbeats 4000000
/-! W21b: what is done to the law's world. -/
namespace KPR
open PySem L2
local macro_rules | `(tactic| walk_at "dn") => `(tactic| repeat (first
  | (with_reducible refine w_seq ?_) | (with_reducible refine w_asg ?_) | (with_reducible refine w_drop ?_) | (with_reducible refine w_ret ?_) | (with_reducible refine w_ifs ?_)
  | ((with_reducible refine' w_var ?hv ?_); (case hv => exact rfl)) | (with_reducible refine w_c ?_) | (with_reducible refine w_op ?_) | (with_reducible refine w_un ?_) | (with_reducible refine w_cb ?_)
  | (with_reducible refine w_nil ?_) | (with_reducible refine w_cons ?_) | (with_reducible refine w_gname ?_) | (with_reducible refine w_test ?_) | (with_reducible refine w_b ?_) | (with_reducible refine w_exbl ?_)
  | (with_reducible refine w_and ?_) | (with_reducible refine w_or ?_) | (with_reducible refine w_not ?_) | (with_reducible refine w_if ?_) | (with_reducible refine w_andV ?_) | (with_reducible refine w_orV ?_) | (with_reducible refine w_notV ?_)
  | (with_reducible refine w_tup ?_) | (with_reducible refine w_lst ?_) | (with_reducible refine w_dnewK ?_) | (with_reducible refine w_dnewT ?_) | (with_reducible refine w_din ?_) | (with_reducible refine w_dnin ?_) | (with_reducible refine w_dget ?_) | (with_reducible refine w_dget2 ?_)
  | (with_reducible refine w_fld ?_) | (with_reducible refine w_cal ?_) | (with_reducible refine w_met ?_) | (with_reducible refine w_mak ?_) | (with_reducible refine w_bm ?_) | (with_reducible refine w_bm0 ?_) | (with_reducible refine w_sl ?_)
  | (with_reducible refine w_nopart ?_) | (with_reducible refine w_part ?_) | (with_reducible refine w_sfld ?_) | (with_reducible refine w_dput ?_) | ((with_reducible refine' w_aug ?hv ?_); (case hv => exact rfl)) | (with_reducible refine w_iT ?_) | (with_reducible refine w_iF ?_)
  | (with_reducible refine w_ii0 ?_) | (with_reducible refine w_neg ?_) | (with_reducible refine w_ip ?_) | (with_reducible refine w_yes ?_) | (with_reducible refine w_for ?_) | (with_reducible refine w_ilist ?_) | (with_reducible refine w_itup ?_) | (with_reducible refine w_irng1 ?_) | (with_reducible refine w_irng2 ?_) | (with_reducible refine w_ienum ?_) | (with_reducible refine w_ienumT ?_)
  | (with_reducible refine w_ckw ?_) | (with_reducible refine w_gd ?_) | (with_reducible refine w_chain ?_) | (with_reducible refine w_max2 ?_) | (with_reducible refine w_min2 ?_) | (with_reducible refine w_int1 ?_) | (with_reducible refine w_gsub ?_) | (with_reducible refine w_par ?_) | (with_reducible refine w_lcr1 ?_) | (with_reducible refine w_pcons ?_) | (with_reducible refine w_pnil ?_) | (with_reducible refine w_next ?_)))

section
variable {P : Program} {w : World} {K : PySem.W.Frag} {mg : Str → Option Value} {base : Heap} {C Cf : Addr}
theorem wd_left {x wt wp pa : Addr} {os : List (Addr × Addr)} {o : Addr × Addr} {H : Hp} (h1 : H o.1 = none) (h2 : H o.2 = none) : ∀ a ∈ ownK x wt wp pa (os ++ [o]), a ∈ ownK x wt wp pa os ∨ H a = none := own_begun h1 h2
theorem ok_l_done (R : Raw K mg "_law_done" "_law_done" s_l_done ["_law_world_here", "_law_deed_here"]) (T : TB mg) : DefT P w K mg base "_law_done" 1 ["_law_world_here", "_law_deed_here"] sp_l_done := by
  refine R.ok fun f fd F => F.ok sc_l_done (fun vs H Q E h => ?_) (fun cdv A outer s H vs Q E hr h => ?_)
  · obtain ⟨_, _, _, _, _, _, _, _, rfl, _⟩ := h
    rfl
  · obtain ⟨wd, vd, B, n, ks, past, own, d, rfl, e, ⟨wt, wp, pa, pq, os, rfl, kw⟩, ok, hd, hval, hpl, k⟩ := h
    refine ⟨_, (pss_cons (ps_if (pt_cmpR op_eq (pe_ix (k_ixT (K := K)) (pv 1) pe_int (fun _ _ => rfl)) pe_str (nomark _)) (pss_cons (ps_if (pt_cmpR (k_neL hr.units) (pe_dget (hu_of hr) (pv 0) pe_str (fun _ _ => rfl)) (pe_lst pa_nil) (nomark _)) (pss_one (ps_asg (k_bm0 (K := K) PySem.F.plainAttrs_list PySem.F.slot_list_pop PySem.F.type_list_pop mt_pop (pe_dget (hu_of hr) (pv 0) pe_str (fun _ _ => rfl))) (k_gtup (K := K) (by rfl) (pgs_cons (pg_sub (pv 0) pe_str (set_dict (hu_of hr))) (pgs_cons (pg_sub (pv 0) pe_str (set_dict (hu_of hr))) pgs_nil))))) pss_nil)
  (pss_one (ps_ret pe_str))) pss_nil)
  (pss_cons (ps_set (i := 2) sc_l_done.nd rfl (by first | exact Or.inl rfl | exact Or.inr rfl) (pe_ifExp (pt_cmpR op_eq (pe_ix (k_ixT (K := K)) (pv 1) pe_int (fun _ _ => rfl)) pe_str (nomark _)) (pe_slice (k_slT (K := K)) (pv 1) (po_some pe_int) (po_some pe_int)) (pe_slice (k_slT (K := K)) (pv 1) (po_some pe_int) po_none)))
  (pss_cons (ps_if (pt_not (pt_val (pe_callB (k_all (K := K) rfl) (by rfl) T.z_all (by decide +kernel) (pa_cons (pe_lc (own := [("_law_place", 3)]) (g := (gName 3)) (by rfl) sc_l_done.nd (k_itup (K := K) (pv 2)) (blkOk_by (N := nm_l_done) (sc := defScope s_l_done) (by decide +kernel)) (fun _ _ _ _ _ => (pg_name (i := 3) sc_l_done.nd rfl (by first | exact Or.inl rfl | exact Or.inr rfl))) (fun _ _ _ _ _ => pts_nil) (fun _ _ _ _ _ => (pe_chain op_le op_lt pe_int (pv 3) (pe_dget (hu_of hr) (pv 0) pe_str (fun _ _ => rfl))))) pa_nil)))) (pss_one (ps_ret pe_str)) pss_nil)
  (pss_cons (ps_set (i := 4) sc_l_done.nd rfl (by first | exact Or.inl rfl | exact Or.inr rfl) (pe_cmpR (k_in (K := K)) (pe_ix (k_ixT (K := K)) (pv 1) pe_int (fun _ _ => rfl)) (pe_dget (hu_of hr) (pv 0) pe_str (fun _ _ => rfl)) (by with_unfolding_all rfl)))
  (pss_cons (ps_if (PW.pt (pw_or (PW.pt (pw_and (pt_cmpR op_eq (pe_ix (k_ixT (K := K)) (pv 1) pe_int (fun _ _ => rfl)) pe_str (nomark _)) (pw_and1 (pt_val (pv 4))))) (pw_or1 (PW.pt (pw_and (pt_cmpR op_eq (pe_ix (k_ixT (K := K)) (pv 1) pe_int (fun _ _ => rfl)) pe_str (nomark _)) (pw_and1 (PW.pt (pw_or (pt_not (pt_val (pv 4))) (pw_or1 (pt_cmpR op_eq (pe_callB (k_len (K := K)) (by rfl) T.z_len (by decide +kernel) (pa_cons (pe_dget (hu_of hr) (pv 0) pe_str (fun _ _ => rfl)) pa_nil)) pe_int (nomark _))))))))))) (pss_one (ps_ret pe_str)) pss_nil)
  (pss_cons (ps_expr (k_bm (K := K) PySem.F.plainAttrs_list PySem.F.slot_list_append PySem.F.type_list_append mt_append (pe_dget (hu_of hr) (pv 0) pe_str (fun _ _ => rfl)) (pa_cons (pe_tup (pa_cons (pe_callTy (k_copyT hr.units) (by rfl) T.z_dict (by decide +kernel) (pa_cons (pe_dget (hu_of hr) (pv 0) pe_str (fun _ _ => rfl)) pa_nil)) (pa_cons (pe_callTy (k_list (K := K)) (by rfl) T.z_list (by decide +kernel) (pa_cons (pe_dget (hu_of hr) (pv 0) pe_str (fun _ _ => rfl)) pa_nil)) pa_nil))) pa_nil)))
  (pss_cons (ps_if (pt_cmpR op_eq (pe_ix (k_ixT (K := K)) (pv 1) pe_int (fun _ _ => rfl)) pe_str (nomark _)) (pss_one (ps_dput (hu_of hr) (pv 0) pe_str (pe_callB (k_sortI (K := K)) (by rfl) T.z_sorted (by decide +kernel) (pa_cons (pe_op op_cat (pe_dget (hu_of hr) (pv 0) pe_str (fun _ _ => rfl)) (pe_lst (pa_cons (pe_ix (k_ixT (K := K)) (pv 1) pe_int (fun _ _ => rfl)) pa_nil))) pa_nil)) rfl)) (pss_one (ps_if (pt_cmpR op_eq (pe_ix (k_ixT (K := K)) (pv 1) pe_int (fun _ _ => rfl)) pe_str (nomark _)) (pss_one (ps_expr (k_bm (K := K) PySem.F.plainAttrs_list PySem.F.slot_list_remove PySem.F.type_list_remove mt_remove (pe_dget (hu_of hr) (pv 0) pe_str (fun _ _ => rfl)) (pa_cons (pe_ix (k_ixT (K := K)) (pv 1) pe_int (fun _ _ => rfl)) pa_nil)))) (pss_cons (ps_dput (hu_of hr) (pe_dget (hu_of hr) (pv 0) pe_str (fun _ _ => rfl)) (pe_slice (k_slT (K := K)) (pv 1) (po_some pe_int) (po_some pe_int)) (pe_ix (k_ixT (K := K)) (pv 1) pe_int (fun _ _ => rfl)) rfl)
  (pss_one (ps_if (pt_cmpR op_eq (pe_ix (k_ixT (K := K)) (pv 1) pe_int (fun _ _ => rfl)) pe_int (nomark _)) (pss_one (ps_expr (k_bm (K := K) PySem.F.plainAttrs_dict PySem.F.slot_dict_pop PySem.F.type_dict_pop (k_popT (hu_of hr)) (pe_dget (hu_of hr) (pv 0) pe_str (fun _ _ => rfl)) (pa_cons (pe_slice (k_slT (K := K)) (pv 1) (po_some pe_int) (po_some pe_int)) pa_nil)))) pss_nil))))))
  (pss_one (ps_ret pe_str))))))))), ?_⟩
    have hn := ok.w.n10
    have hl := ok.len
    have ne := ownNe kw.nd
    have pll := kw.pl.len.1
    cases d with
    | undo =>
      walk_at "dn"
      refine r_ixT (i := 0) e hd rfl fun v hv => ?_
      cases hv
      walk_at "dn"
      refine ⟨rfl, ?_⟩
      walk_at "dn"
      rw [str_eq]
      walk_at "dn"
      refine r_wget kw.ins wkv_past ?_
      walk_at "dn"
      refine r_lstM e (by show 0 ≤ 100000; decide) fun z H1 hz g1 e1 bz => ?_
      refine ⟨pa, z, pq, rfl, rfl, g1.hh _ _ kw.pt, e1, ?_⟩
      have kw1 := kw.grow g1
      rcases List.eq_nil_or_concat past with hpast | ⟨past0, k0, hpast⟩
      · subst hpast
        have epq : pq = [] := List.length_eq_zero_iff.mp pll
        subst epq
        rw [show (!([] : List V).isEmpty) = false from rfl]
        walk_at "dn"
        exact k _ B H1 _ (Gro.of g1) (fun a ha => .inl ha) ⟨wt, wp, pa, [], os, rfl, kw1⟩
      · have hpast : past = past0 ++ [k0] := by rw [hpast, List.concat_eq_append]
        subst hpast
        obtain ⟨pq0, v, os0, o, rfl, rfl, pl0, pa0⟩ := kw1.pl.last rfl
        obtain ⟨t, rfl, ht, w1, w2⟩ := pa0
        rw [show (!(pq0 ++ [V.ref t]).isEmpty) = true by simp]
        walk_at "dn"
        refine r_wget kw1.ins wkv_past ⟨tyV_lst kw1.pt, ?_⟩
        refine ⟨pa, _, .ref t, rfl, rfl, kw1.pt, by simp, ?_⟩
        rw [List.dropLast_concat]
        have hw2 : (upd H1 pa (.lst pq0)) wd = some (.dK (wkv n wt wp pa)) := by rw [upd_ne ne.xp]; exact kw1.ins
        refine ⟨t, _, rfl, SqT.of ((g1.bh.mut kw1.una) _ _ ht), rfl, .ref o.1, _, rfl, ?_⟩
        refine w_gsub (w_var rfl ?_)
        refine r_wsetD hw2 (by show 4 < 100; decide) ?_
        rw [wkv_putT]
        refine ⟨.ref o.2, [], rfl, w_gsub (w_var rfl ?_)⟩
        refine r_wsetD (upd_same) (by show 4 < 100; decide) ?_
        rw [wkv_putP, upd_upd]
        refine ⟨rfl, ?_⟩
        have kw3 := kw1.back g1.bh pl0 w1 w2
        have g3 := ((Gro.of g1 : Gof (fun a => a ∈ ownK wd wt wp pa (os0 ++ [o])) B H B H1).trans (gof_set (F := fun a => a ∈ ownK wd wt wp pa (os0 ++ [o])) (o := .lst pq0) g1.bh (mem_own.mpr (.inr (.inr (.inr (.inl rfl))))) kw1.una)).trans (gof_set (F := fun a => a ∈ ownK wd wt wp pa (os0 ++ [o])) (o := .dK (wkv n o.1 o.2 pa)) (g1.bh.mut kw1.una) (mem_own.mpr (.inl rfl)) kw1.unx)
        walk_at "dn"
        refine k _ B _ _ g3 (fun a ha => .inl ?_) ⟨o.1, o.2, pa, pq0, os0, rfl, ?_⟩
        · rcases mem_own.mp ha with y | y | y | y | ⟨o', ho', y⟩
          · exact mem_own.mpr (.inl y)
          · exact mem_own.mpr (.inr (.inr (.inr (.inr ⟨o, by simp, .inl y⟩))))
          · exact mem_own.mpr (.inr (.inr (.inr (.inr ⟨o, by simp, .inr y⟩))))
          · exact mem_own.mpr (.inr (.inr (.inr (.inl y))))
          · exact mem_own.mpr (.inr (.inr (.inr (.inr ⟨o', List.mem_append_left _ ho', y⟩))))
        · have es : stepK ks (past0 ++ [k0]) .undo = (k0, past0) := by
            unfold stepK
            rw [List.getLast?_concat, List.dropLast_concat]
          rw [es]
          exact kw3
    | put p =>
      walk_at "dn"
      refine r_ixT (i := 0) e hd rfl fun v hv => ?_
      cases hv
      walk_at "dn"
      refine ⟨rfl, ?_⟩
      walk_at "dn"
      rw [str_ne (by decide : ("put" : Str) ≠ "undo")]
      walk_at "dn"
      refine r_ixT (i := 0) e hd rfl fun v hv => ?_
      cases hv
      walk_at "dn"
      refine ⟨rfl, ?_⟩
      walk_at "dn"
      rw [str_ne (by decide : ("put" : Str) ≠ "weigh")]
      walk_at "dn"
      refine r_slT_1 e hd fun pl B1 H1 g1 dpl => ?_
      have kw1 := kw.grow g1
      walk_at "dn"
      refine r_lcT (B := B1) (enc := fun (q : Nat) => .int (q : Int)) (items := [p]) (p := fun _ => true) (f := fun _ => .bool true) (gv_var rfl g1.bh dpl) (by show 1 ≤ 1000; decide) (fun i it y B2 H2 hi g2 hy Y N hY _ => ?_) fun D0 B2 H2 g2 d2 => ?_
      · have hit : it < n := by
          have h1 := List.mem_of_getElem? hi
          rw [List.mem_singleton.mp h1]
          exact hval.1
        cases hy
        refine ⟨rfl, ?_⟩
        walk_at "dn"
        rw [decide_eq_true (show (0 : Int) ≤ (it : Int) by omega)]
        walk_at "dn"
        refine r_wget (g2.hh _ _ kw1.ins) wkv_many ?_
        walk_at "dn"
        rw [decide_eq_true (show (it : Int) < (n : Int) by omega)]
        exact hY rfl _ _ _ (Gof.refl g2.bh) (.bl true)
      rw [filter_yes] at d2
      have d2 : D B2 (.ref D0) (.list (([p].map fun _ => true).map PyData.bool)) := d2
      walk_at "dn"
      refine r_all g2.bh d2 ?_
      rw [show (([p].map fun (_ : Nat) => true).all id) = true by rfl]
      have kw2 := kw1.grow g2
      have g12 := g1.trans g2
      have hd2 := hd.up g12.bb
      walk_at "dn"
      show if (!true) = true then _ else _
      rw [Bool.not_true]
      walk_at "dn"
      refine r_ixT (i := 1) g2.bh hd2 rfl fun v hv => ?_
      cases hv
      walk_at "dn"
      refine r_wget kw2.ins wkv_posts ?_
      refine r_inM kw2.ps ?_
      rw [decide_eq_false hval.2]
      walk_at "dn"
      refine r_ixT (i := 0) g2.bh hd2 rfl fun v hv => ?_
      cases hv
      walk_at "dn"
      refine ⟨rfl, ?_⟩
      walk_at "dn"
      rw [str_eq]
      walk_at "dn"
      refine r_ixT (i := 0) g2.bh hd2 rfl fun v hv => ?_
      cases hv
      walk_at "dn"
      refine ⟨rfl, ?_⟩
      walk_at "dn"
      rw [str_ne (by decide : ("put" : Str) ≠ "take")]
      walk_at "dn"
      refine r_wget kw2.ins wkv_past ⟨tyV_lst kw2.pt, ?_⟩
      walk_at "dn"
      refine r_wget kw2.ins wkv_ties ?_
      walk_at "dn"
      obtain ⟨c, hc, nd, mem⟩ := kw2.tw
      refine ⟨wt, kvW c ks.W, rfl, hc, hash_kvW nd fun p hp => allP_mem.mpr (by have := ok.w.ok p ((mem p).mp hp); omega), fun ti hti => ?_⟩
      have g3 := gro_mut (o := .dT (kvW c ks.W)) g2.bh hti
      have e3 : (upd H2 ti (.dT (kvW c ks.W))) ti = some (.dT (kvW c ks.W)) := upd_same
      have b3 : B2 ti = none := g2.bh.back hti
      generalize upd H2 ti (.dT (kvW c ks.W)) = H3 at g3 e3
      have kw3 := kw2.grow g3
      walk_at "dn"
      refine r_wget kw3.ins wkv_posts ?_
      walk_at "dn"
      refine ⟨wp, _, rfl, .inl (SqL.of kw3.ps), fun pi hpi => ?_⟩
      have g4 := gro_mut (o := .lst (vN ks.ps)) g3.bh hpi
      have e4 : (upd H3 pi (.lst (vN ks.ps))) pi = some (.lst (vN ks.ps)) := upd_same
      have b4 : B2 pi = none := g3.bh.back hpi
      have nti : ti ≠ pi := ne_of_none e3 hpi
      generalize upd H3 pi (.lst (vN ks.ps)) = H4 at g4 e4
      walk_at "dn"
      refine ⟨by show 2 ≤ sizeLine; exact szl (by decide), fun t ht => ?_⟩
      have g5 := gro_new (o := .tup [.ref ti, .ref pi]) g4.bh ht
      have e5 : (upd B2 t (.tup [.ref ti, .ref pi])) t = some (.tup [.ref ti, .ref pi]) := upd_same
      have e35 := g5.hh _ _ (g4.hh _ _ e3)
      have e45 := g5.hh _ _ e4
      have b35 := g5.fr ti _ (g4.hh _ _ e3) trivial b3
      have b45 := g5.fr pi _ e4 trivial b4
      generalize upd B2 t (.tup [.ref ti, .ref pi]) = B5 at g5 e5 b35 b45
      generalize upd H4 t (.tup [.ref ti, .ref pi]) = H5 at g5 e35 e45
      have kw5 := (kw3.grow g4).grow g5
      have g05 := ((g12.trans g3).trans g4).trans g5
      walk_at "dn"
      refine r_append kw5.pt (by omega) ?_
      have kw6 := kw5.began g5.bh e5 (kw2.notin hti) (kw3.notin hpi) nti b35 b45 ⟨c, e35, nd, mem⟩ e45
      have g06 := (Gro.of g05 : Gof (fun a => a ∈ ownK wd wt wp pa os) B H B5 H5).trans (gof_set (F := fun a => a ∈ ownK wd wt wp pa os) (o := .lst (pq ++ [.ref t])) g5.bh (mem_own.mpr (.inr (.inr (.inr (.inl rfl))))) kw5.una)
      have hti0 : H ti = none := g12.back hti
      have hpi0 : H pi = none := (g12.trans g3).back hpi
      generalize upd H5 pa (.lst (pq ++ [.ref t])) = H6 at kw6 g06
      have hd6 := hd.up g06.bb
      walk_at "dn"
      refine r_ixT (i := 0) g06.bh hd6 rfl fun v hv => ?_
      cases hv
      walk_at "dn"
      refine ⟨rfl, ?_⟩
      walk_at "dn"
      rw [str_eq]
      walk_at "dn"
      refine r_wget kw6.ins wkv_posts ?_
      walk_at "dn"
      refine r_ixT (i := 1) g06.bh hd6 rfl fun v hv => ?_
      cases hv
      walk_at "dn"
      refine r_lstM g06.bh (by show 1 ≤ 100000; decide) fun z H7 hz g7 e7 bz => ?_
      refine ⟨wp, z, _, _, rfl, rfl, g7.hh _ _ kw6.ps, e7, by unfold vN; rw [List.length_map]; exact szl (by show _ + 1 ≤ _; omega), fun r hr' => ?_⟩
      have er : vN ks.ps ++ [V.int (p : Int)] = vN (ks.ps ++ [p]) := by unfold vN; rw [List.map_append]; rfl
      rw [er]
      have g8 := gro_new (o := .lst (vN (ks.ps ++ [p]))) g7.bh hr'
      have d8 : D (upd B5 r (.lst (vN (ks.ps ++ [p])))) (.ref r) (dL (ks.ps ++ [p])) := .lst upd_same (DA.nats _)
      generalize upd B5 r (.lst (vN (ks.ps ++ [p]))) = B8 at g8 d8
      generalize upd H7 r (.lst (vN (ks.ps ++ [p]))) = H8 at g8
      have ndp : (ks.ps ++ [p]).Nodup := List.nodup_append.mpr ⟨pw_nodup ok.pw, by simp, fun a ha b hb => by
        rw [List.mem_singleton.mp hb]
        exact fun z => hval.2 (by rw [← z]; exact ha)⟩
      walk_at "dn"
      refine r_sortIm g8.bh d8 ndp (fun q hq => by
        rcases List.mem_append.mp hq with z | z
        · have := ok.lt q z; omega
        · rw [List.mem_singleton.mp z]; have := hval.1; omega) fun wp' H9 hwp' g9 b9 e9 => ?_
      have g79 := (g7.trans g8).trans g9
      have kw8 := (kw6.grow g7).grow g8
      have kw9 := kw8.grow g9
      walk_at "dn"
      refine r_wput kw9.ins (by show 4 < 100; decide) ?_
      rw [wkv_putP]
      walk_at "dn"
      have nin := kw8.notin hwp'
      have hwp0 : H wp' = none := ((g06.trans (Gro.of g7)).trans (Gro.of g8)).back hwp'
      have kw10 := kw9.newP g9.bh e9 nin b9
      have g10 := (g06.trans (Gro.of g79)).trans (gof_set (F := fun a => a ∈ ownK wd wt wp pa os) (o := .dK (wkv n wt wp' pa)) g9.bh (mem_own.mpr (.inl rfl)) kw9.unx)
      refine k _ _ _ _ g10 (fun a ha => ?_) ⟨wt, wp', pa, _, os ++ [(ti, pi)], rfl, kw10⟩
      rcases mem_own.mp ha with y | y | y | y | y
      · exact .inl (mem_own.mpr (.inl y))
      · exact .inl (mem_own.mpr (.inr (.inl y)))
      · exact .inr (by rw [y]; exact hwp0)
      · exact .inl (mem_own.mpr (.inr (.inr (.inr (.inl y)))))
      · exact wd_left (wp := wp) (o := (ti, pi)) hti0 hpi0 a (mem_own.mpr (.inr (.inr (.inr (.inr y)))))
    | take p =>
      walk_at "dn"
      refine r_ixT (i := 0) e hd rfl fun v hv => ?_
      cases hv
      walk_at "dn"
      refine ⟨rfl, ?_⟩
      walk_at "dn"
      rw [str_ne (by decide : ("take" : Str) ≠ "undo")]
      walk_at "dn"
      refine r_ixT (i := 0) e hd rfl fun v hv => ?_
      cases hv
      walk_at "dn"
      refine ⟨rfl, ?_⟩
      walk_at "dn"
      rw [str_ne (by decide : ("take" : Str) ≠ "weigh")]
      walk_at "dn"
      refine r_slT_1 e hd fun pl B1 H1 g1 dpl => ?_
      have kw1 := kw.grow g1
      walk_at "dn"
      refine r_lcT (B := B1) (enc := fun (q : Nat) => .int (q : Int)) (items := [p]) (p := fun _ => true) (f := fun _ => .bool true) (gv_var rfl g1.bh dpl) (by show 1 ≤ 1000; decide) (fun i it y B2 H2 hi g2 hy Y N hY _ => ?_) fun D0 B2 H2 g2 d2 => ?_
      · have hit : it < n := by
          have h1 := List.mem_of_getElem? hi
          rw [List.mem_singleton.mp h1]
          exact hval.1
        cases hy
        refine ⟨rfl, ?_⟩
        walk_at "dn"
        rw [decide_eq_true (show (0 : Int) ≤ (it : Int) by omega)]
        walk_at "dn"
        refine r_wget (g2.hh _ _ kw1.ins) wkv_many ?_
        walk_at "dn"
        rw [decide_eq_true (show (it : Int) < (n : Int) by omega)]
        exact hY rfl _ _ _ (Gof.refl g2.bh) (.bl true)
      rw [filter_yes] at d2
      have d2 : D B2 (.ref D0) (.list (([p].map fun _ => true).map PyData.bool)) := d2
      walk_at "dn"
      refine r_all g2.bh d2 ?_
      rw [show (([p].map fun (_ : Nat) => true).all id) = true by rfl]
      have kw2 := kw1.grow g2
      have g12 := g1.trans g2
      have hd2 := hd.up g12.bb
      walk_at "dn"
      show if (!true) = true then _ else _
      rw [Bool.not_true]
      walk_at "dn"
      refine r_ixT (i := 1) g2.bh hd2 rfl fun v hv => ?_
      cases hv
      walk_at "dn"
      refine r_wget kw2.ins wkv_posts ?_
      refine r_inM kw2.ps ?_
      rw [decide_eq_true hval.2.1]
      walk_at "dn"
      refine r_ixT (i := 0) g2.bh hd2 rfl fun v hv => ?_
      cases hv
      walk_at "dn"
      refine ⟨rfl, ?_⟩
      walk_at "dn"
      rw [str_ne (by decide : ("take" : Str) ≠ "put")]
      walk_at "dn"
      refine r_ixT (i := 0) g2.bh hd2 rfl fun v hv => ?_
      cases hv
      walk_at "dn"
      refine ⟨rfl, ?_⟩
      walk_at "dn"
      rw [str_eq]
      walk_at "dn"
      show if (!true) = true then _ else _
      rw [Bool.not_true]
      walk_at "dn"
      refine r_wget kw2.ins wkv_posts ?_
      walk_at "dn"
      refine ⟨wp, _, rfl, .inl (SqL.of kw2.ps), ?_⟩
      walk_at "dn"
      refine ⟨rfl, ?_⟩
      walk_at "dn"
      have l2 : (vN ks.ps).length = ks.ps.length := by unfold vN; rw [List.length_map]
      have hv2 := hval.2.2
      rw [int_eq, l2, decide_eq_false (show ¬ ((ks.ps.length : Int) = 2) by omega)]
      walk_at "dn"
      refine r_wget kw2.ins wkv_past ⟨tyV_lst kw2.pt, ?_⟩
      walk_at "dn"
      refine r_wget kw2.ins wkv_ties ?_
      walk_at "dn"
      obtain ⟨c, hc, nd, mem⟩ := kw2.tw
      refine ⟨wt, kvW c ks.W, rfl, hc, hash_kvW nd fun p hp => allP_mem.mpr (by have := ok.w.ok p ((mem p).mp hp); omega), fun ti hti => ?_⟩
      have g3 := gro_mut (o := .dT (kvW c ks.W)) g2.bh hti
      have e3 : (upd H2 ti (.dT (kvW c ks.W))) ti = some (.dT (kvW c ks.W)) := upd_same
      have b3 : B2 ti = none := g2.bh.back hti
      generalize upd H2 ti (.dT (kvW c ks.W)) = H3 at g3 e3
      have kw3 := kw2.grow g3
      walk_at "dn"
      refine r_wget kw3.ins wkv_posts ?_
      walk_at "dn"
      refine ⟨wp, _, rfl, .inl (SqL.of kw3.ps), fun pi hpi => ?_⟩
      have g4 := gro_mut (o := .lst (vN ks.ps)) g3.bh hpi
      have e4 : (upd H3 pi (.lst (vN ks.ps))) pi = some (.lst (vN ks.ps)) := upd_same
      have b4 : B2 pi = none := g3.bh.back hpi
      have nti : ti ≠ pi := ne_of_none e3 hpi
      generalize upd H3 pi (.lst (vN ks.ps)) = H4 at g4 e4
      walk_at "dn"
      refine ⟨by show 2 ≤ sizeLine; exact szl (by decide), fun t ht => ?_⟩
      have g5 := gro_new (o := .tup [.ref ti, .ref pi]) g4.bh ht
      have e5 : (upd B2 t (.tup [.ref ti, .ref pi])) t = some (.tup [.ref ti, .ref pi]) := upd_same
      have e35 := g5.hh _ _ (g4.hh _ _ e3)
      have e45 := g5.hh _ _ e4
      have b35 := g5.fr ti _ (g4.hh _ _ e3) trivial b3
      have b45 := g5.fr pi _ e4 trivial b4
      generalize upd B2 t (.tup [.ref ti, .ref pi]) = B5 at g5 e5 b35 b45
      generalize upd H4 t (.tup [.ref ti, .ref pi]) = H5 at g5 e35 e45
      have kw5 := (kw3.grow g4).grow g5
      have g05 := ((g12.trans g3).trans g4).trans g5
      walk_at "dn"
      refine r_append kw5.pt (by omega) ?_
      have kw6 := kw5.began g5.bh e5 (kw2.notin hti) (kw3.notin hpi) nti b35 b45 ⟨c, e35, nd, mem⟩ e45
      have g06 := (Gro.of g05 : Gof (fun a => a ∈ ownK wd wt wp pa os) B H B5 H5).trans (gof_set (F := fun a => a ∈ ownK wd wt wp pa os) (o := .lst (pq ++ [.ref t])) g5.bh (mem_own.mpr (.inr (.inr (.inr (.inl rfl))))) kw5.una)
      have hti0 : H ti = none := g12.back hti
      have hpi0 : H pi = none := (g12.trans g3).back hpi
      generalize upd H5 pa (.lst (pq ++ [.ref t])) = H6 at kw6 g06
      have hd6 := hd.up g06.bb
      walk_at "dn"
      refine r_ixT (i := 0) g06.bh hd6 rfl fun v hv => ?_
      cases hv
      walk_at "dn"
      refine ⟨rfl, ?_⟩
      walk_at "dn"
      rw [str_ne (by decide : ("take" : Str) ≠ "put")]
      walk_at "dn"
      refine r_ixT (i := 0) g06.bh hd6 rfl fun v hv => ?_
      cases hv
      walk_at "dn"
      refine ⟨rfl, ?_⟩
      walk_at "dn"
      rw [str_eq]
      walk_at "dn"
      refine r_wget kw6.ins wkv_posts ⟨tyV_lst kw6.ps, ?_⟩
      walk_at "dn"
      refine r_ixT (i := 1) g06.bh hd6 rfl fun v hv => ?_
      cases hv
      walk_at "dn"
      refine r_remove kw6.ps (pw_nodup ok.pw) hval.2.1 ?_
      walk_at "dn"
      have kw10 := kw6.setP g06.bh (l := othersOf ks.ps p)
      have g10 := g06.trans (gof_set (F := fun a => a ∈ ownK wd wt wp pa os) (o := .lst (vN (othersOf ks.ps p))) g06.bh (mem_own.mpr (.inr (.inr (.inl rfl)))) kw6.unp)
      exact k _ _ _ _ g10 (fun a ha => wd_left (o := (ti, pi)) hti0 hpi0 a ha) ⟨wt, wp, pa, _, os ++ [(ti, pi)], rfl, kw10⟩
    | weigh a b wv =>
      walk_at "dn"
      refine r_ixT (i := 0) e hd rfl fun v hv => ?_
      cases hv
      walk_at "dn"
      refine ⟨rfl, ?_⟩
      walk_at "dn"
      rw [str_ne (by decide : ("weigh" : Str) ≠ "undo")]
      walk_at "dn"
      refine r_ixT (i := 0) e hd rfl fun v hv => ?_
      cases hv
      walk_at "dn"
      refine ⟨rfl, ?_⟩
      walk_at "dn"
      rw [str_eq]
      walk_at "dn"
      refine r_slT_13 e hd fun pl B1 H1 g1 dpl => ?_
      have kw1 := kw.grow g1
      walk_at "dn"
      refine r_lcT (B := B1) (enc := fun (q : Nat) => .int (q : Int)) (items := [a, b]) (p := fun _ => true) (f := fun _ => .bool true) (gv_var rfl g1.bh dpl) (by show 2 ≤ 1000; decide) (fun i it y B2 H2 hi g2 hy Y N hY _ => ?_) fun D0 B2 H2 g2 d2 => ?_
      · have hit : it < n := by
          have h1 := List.mem_of_getElem? hi
          have h2 := hval.1
          have h3 := hval.2.1
          rcases (show it = a ∨ it = b by simpa using h1) with z | z <;> omega
        cases hy
        refine ⟨rfl, ?_⟩
        walk_at "dn"
        rw [decide_eq_true (show (0 : Int) ≤ (it : Int) by omega)]
        walk_at "dn"
        refine r_wget (g2.hh _ _ kw1.ins) wkv_many ?_
        walk_at "dn"
        rw [decide_eq_true (show (it : Int) < (n : Int) by omega)]
        exact hY rfl _ _ _ (Gof.refl g2.bh) (.bl true)
      rw [filter_yes] at d2
      have d2 : D B2 (.ref D0) (.list (([a, b].map fun _ => true).map PyData.bool)) := d2
      walk_at "dn"
      refine r_all g2.bh d2 ?_
      rw [show (([a, b].map fun (_ : Nat) => true).all id) = true by rfl]
      have kw2 := kw1.grow g2
      have g12 := g1.trans g2
      have hd2 := hd.up g12.bb
      walk_at "dn"
      show if (!true) = true then _ else _
      rw [Bool.not_true]
      walk_at "dn"
      refine r_ixT (i := 1) g2.bh hd2 rfl fun v hv => ?_
      cases hv
      walk_at "dn"
      refine r_wget kw2.ins wkv_posts ?_
      refine r_inM kw2.ps ?_
      walk_at "dn"
      refine r_ixT (i := 0) g2.bh hd2 rfl fun v hv => ?_
      cases hv
      walk_at "dn"
      refine ⟨rfl, ?_⟩
      walk_at "dn"
      rw [str_ne (by decide : ("weigh" : Str) ≠ "put")]
      walk_at "dn"
      refine r_ixT (i := 0) g2.bh hd2 rfl fun v hv => ?_
      cases hv
      walk_at "dn"
      refine ⟨rfl, ?_⟩
      walk_at "dn"
      rw [str_ne (by decide : ("weigh" : Str) ≠ "take")]
      walk_at "dn"
      refine r_wget kw2.ins wkv_past ⟨tyV_lst kw2.pt, ?_⟩
      walk_at "dn"
      refine r_wget kw2.ins wkv_ties ?_
      walk_at "dn"
      obtain ⟨c, hc, nd, mem⟩ := kw2.tw
      refine ⟨wt, kvW c ks.W, rfl, hc, hash_kvW nd fun p hp => allP_mem.mpr (by have := ok.w.ok p ((mem p).mp hp); omega), fun ti hti => ?_⟩
      have g3 := gro_mut (o := .dT (kvW c ks.W)) g2.bh hti
      have e3 : (upd H2 ti (.dT (kvW c ks.W))) ti = some (.dT (kvW c ks.W)) := upd_same
      have b3 : B2 ti = none := g2.bh.back hti
      generalize upd H2 ti (.dT (kvW c ks.W)) = H3 at g3 e3
      have kw3 := kw2.grow g3
      walk_at "dn"
      refine r_wget kw3.ins wkv_posts ?_
      walk_at "dn"
      refine ⟨wp, _, rfl, .inl (SqL.of kw3.ps), fun pi hpi => ?_⟩
      have g4 := gro_mut (o := .lst (vN ks.ps)) g3.bh hpi
      have e4 : (upd H3 pi (.lst (vN ks.ps))) pi = some (.lst (vN ks.ps)) := upd_same
      have b4 : B2 pi = none := g3.bh.back hpi
      have nti : ti ≠ pi := ne_of_none e3 hpi
      generalize upd H3 pi (.lst (vN ks.ps)) = H4 at g4 e4
      walk_at "dn"
      refine ⟨by show 2 ≤ sizeLine; exact szl (by decide), fun t ht => ?_⟩
      have g5 := gro_new (o := .tup [.ref ti, .ref pi]) g4.bh ht
      have e5 : (upd B2 t (.tup [.ref ti, .ref pi])) t = some (.tup [.ref ti, .ref pi]) := upd_same
      have e35 := g5.hh _ _ (g4.hh _ _ e3)
      have e45 := g5.hh _ _ e4
      have b35 := g5.fr ti _ (g4.hh _ _ e3) trivial b3
      have b45 := g5.fr pi _ e4 trivial b4
      generalize upd B2 t (.tup [.ref ti, .ref pi]) = B5 at g5 e5 b35 b45
      generalize upd H4 t (.tup [.ref ti, .ref pi]) = H5 at g5 e35 e45
      have kw5 := (kw3.grow g4).grow g5
      have g05 := ((g12.trans g3).trans g4).trans g5
      walk_at "dn"
      refine r_append kw5.pt (by omega) ?_
      have kw6 := kw5.began g5.bh e5 (kw2.notin hti) (kw3.notin hpi) nti b35 b45 ⟨c, e35, nd, mem⟩ e45
      have g06 := (Gro.of g05 : Gof (fun a => a ∈ ownK wd wt wp pa os) B H B5 H5).trans (gof_set (F := fun a => a ∈ ownK wd wt wp pa os) (o := .lst (pq ++ [.ref t])) g5.bh (mem_own.mpr (.inr (.inr (.inr (.inl rfl))))) kw5.una)
      have hti0 : H ti = none := g12.back hti
      have hpi0 : H pi = none := (g12.trans g3).back hpi
      generalize upd H5 pa (.lst (pq ++ [.ref t])) = H6 at kw6 g06
      have hd6 := hd.up g06.bb
      walk_at "dn"
      refine r_ixT (i := 0) g06.bh hd6 rfl fun v hv => ?_
      cases hv
      walk_at "dn"
      refine ⟨rfl, ?_⟩
      walk_at "dn"
      rw [str_ne (by decide : ("weigh" : Str) ≠ "put")]
      walk_at "dn"
      refine r_ixT (i := 0) g06.bh hd6 rfl fun v hv => ?_
      cases hv
      walk_at "dn"
      refine ⟨rfl, ?_⟩
      walk_at "dn"
      rw [str_ne (by decide : ("weigh" : Str) ≠ "take")]
      walk_at "dn"
      refine r_ixT (i := 3) g06.bh hd6 rfl fun v hv => ?_
      cases hv
      walk_at "dn"
      refine r_wget kw6.ins wkv_ties ?_
      walk_at "dn"
      refine r_slT_13 g06.bh hd6 fun p7 B7 H7 g7 d7 => ?_
      have kw7 := kw6.grow g7
      obtain ⟨c6, hc6, nd6, mem6⟩ := kw7.tw
      have cl : c6.length ≤ 45 := by
        have := pr_nodup_len c6 (supp ks.W) nd6 fun p hp => (mem_supp ok.w).mpr ((mem6 p).mp hp)
        have := supp_len ok.w
        omega
      refine r_putT (p := (a, b)) hc6 (g7.bh _ _ (pair_at (p := (a, b)) d7)) (by unfold kvW; rw [List.length_map]; omega) ?_
      rw [kvW_put]
      have wok := wput_ok ok.w (p := (a, b)) hval.1 hval.2.1 hval.2.2
      have gw8 := gof_set (F := fun a => a = wt) (o := .dT (kvW (cadd c6 (a, b)) (wput ks.W (a, b) wv))) g7.bh rfl kw7.unt
      have e8 : (upd H7 wt (.dT (kvW (cadd c6 (a, b)) (wput ks.W (a, b) wv)))) wt = some (.dT (kvW (cadd c6 (a, b)) (wput ks.W (a, b) wv))) := upd_same
      have mem' : ∀ q, q ≠ (a, b) → (q ∈ cadd c6 (a, b) ↔ wput ks.W (a, b) wv q ≠ 0) := fun q hq => by
        rw [mem_cadd]
        unfold wput
        rw [if_neg hq, ← mem6 q]
        exact ⟨fun z => z.elim id fun z => absurd z hq, Or.inl⟩
      have hw8 : (upd H7 wt (.dT (kvW (cadd c6 (a, b)) (wput ks.W (a, b) wv)))) wd = some (.dK (wkv n wt wp pa)) := by rw [upd_ne ne.xw]; exact kw7.ins
      generalize upd H7 wt (.dT (kvW (cadd c6 (a, b)) (wput ks.W (a, b) wv))) = H8 at gw8 e8 hw8
      have hd7 := hd6.up g7.bb
      walk_at "dn"
      refine r_ixT (i := 3) gw8.bh hd7 rfl fun v hv => ?_
      cases hv
      walk_at "dn"
      refine ⟨rfl, ?_⟩
      walk_at "dn"
      rw [int_eq]
      have g07 := g06.trans (Gro.of g7)
      refine ite2 (fun cz => ?_) (fun cz => ?_)
      · have hz : wv = 0 := by simpa using cz
        walk_at "dn"
        refine r_wget hw8 wkv_ties ⟨.inr (.inr (.inl ⟨rfl, .inr ⟨_, e8⟩⟩)), ?_⟩
        walk_at "dn"
        refine r_slT_13 gw8.bh hd7 fun p9 B9 H9 g9 d9 => ?_
        walk_at "dn"
        have e9 := g9.hh _ _ e8
        have bw9 : B9 wt = none := g9.fr wt _ e8 trivial kw7.unt
        refine ⟨wt, _, kP (a, b), p9, .int (wput ks.W (a, b) wv (a, b)), rfl, rfl, e9, g9.bh _ _ (pair_at (p := (a, b)) d9), by rw [kvW_get (cadd_nd nd6), if_pos (mem_cadd.mpr (.inr rfl))], ?_⟩
        rw [kvW_drop]
        walk_at "dn"
        have gw10 := (gw8.trans (Gro.of g9)).trans (gof_set (F := fun a => a = wt) (o := .dT (kvW ((cadd c6 (a, b)).filter fun q => !decide (q = (a, b))) (wput ks.W (a, b) wv))) g9.bh rfl bw9)
        have kw10 := kw7.setW2 gw10 bw9 (W' := wput ks.W (a, b) wv) ⟨_, upd_same, (cadd_nd nd6).filter _, fun q => by
          by_cases hq : q = (a, b)
          · subst hq
            have : wput ks.W (a, b) wv (a, b) = 0 := by unfold wput; rw [if_pos rfl, hz]
            simp [this]
          · rw [← mem' q hq, List.mem_filter]
            simp [hq]⟩
        exact k _ _ _ _ (g07.trans gw10 fun a ha => .inl (by rw [ha]; exact mem_own.mpr (.inr (.inl rfl)))) (fun a ha => wd_left (o := (ti, pi)) hti0 hpi0 a ha) ⟨wt, wp, pa, _, os ++ [(ti, pi)], rfl, kw10⟩
      · have hz : wv ≠ 0 := by simpa using cz
        walk_at "dn"
        have kw10 := kw7.setW2 gw8 kw7.unt (W' := wput ks.W (a, b) wv) ⟨_, e8, cadd_nd nd6, fun q => by
          by_cases hq : q = (a, b)
          · subst hq
            have : wput ks.W (a, b) wv (a, b) = wv := by unfold wput; rw [if_pos rfl]
            rw [this]
            exact ⟨fun _ => hz, fun _ => mem_cadd.mpr (.inr rfl)⟩
          · exact mem' q hq⟩
        exact k _ _ _ _ (g07.trans gw8 fun a ha => .inl (by rw [ha]; exact mem_own.mpr (.inr (.inl rfl)))) (fun a ha => wd_left (o := (ti, pi)) hti0 hpi0 a ha) ⟨wt, wp, pa, _, os ++ [(ti, pi)], rfl, kw10⟩
end
end KPR
set_option Elab.async false
set_option linter.all false
set_option maxRecDepth 100000
/-! KU: shapes of data, what a keeper tells, steps of a state. -/
namespace KPR
open PySem L2
/-- can be compared, at most m deep -/
structure Sh (m : Nat) (d : PyData) : Prop where
  lay : d.canLay0 = true
  dep : d.depth ≤ m
theorem Sh.ok {m : Nat} {d : PyData} (h : Sh m d) (hm : m ≤ 64) : SeqAt.shaped d = true := by
  unfold SeqAt.shaped
  rw [h.lay, decide_eq_true (Nat.le_trans h.dep hm)]
  rfl
theorem layAll : ∀ {ds : List PyData}, (∀ d ∈ ds, d.canLay0 = true) → PyData.canLayAll0 ds = true
  | [], _ => by simp [PyData.canLayAll0]
  | d :: ds, h => by
    rw [PyData.canLayAll0, h d List.mem_cons_self, layAll fun x hx => h x (List.mem_cons_of_mem _ hx)]
    rfl
theorem depAll {m : Nat} : ∀ {ds : List PyData}, (∀ d ∈ ds, d.depth ≤ m) → PyData.depthAll ds ≤ m
  | [], _ => by simp [PyData.depthAll]
  | d :: ds, h => by
    have h1 := h d List.mem_cons_self
    have h2 := depAll fun x hx => h x (List.mem_cons_of_mem _ hx)
    rw [PyData.depthAll]
    exact Nat.max_le.mpr ⟨h1, h2⟩
theorem Sh.list {m : Nat} {ds : List PyData} (h : ∀ d ∈ ds, Sh m d) : Sh (m + 1) (.list ds) := ⟨by rw [PyData.canLay0]; exact layAll fun d hd => (h d hd).lay, by
  rw [PyData.depth]
  exact Nat.succ_le_succ (depAll fun d hd => (h d hd).dep)⟩
theorem Sh.tup {m : Nat} {ds : List PyData} (h : ∀ d ∈ ds, Sh m d) : Sh (m + 1) (.tuple ds) := ⟨by rw [PyData.canLay0]; exact layAll fun d hd => (h d hd).lay, by
  rw [PyData.depth]
  exact Nat.succ_le_succ (depAll fun d hd => (h d hd).dep)⟩
theorem Sh.int {m : Nat} (i : Int) : Sh m (.int i) := ⟨by simp [PyData.canLay0], by simp [PyData.depth]⟩
theorem Sh.non {m : Nat} : Sh m .none := ⟨by simp [PyData.canLay0], by simp [PyData.depth]⟩
theorem Sh.more {m k : Nat} {d : PyData} (h : Sh m d) (hk : m ≤ k) : Sh k d := ⟨h.lay, Nat.le_trans h.dep hk⟩
theorem Sh.map {α : Type} {m : Nat} {f : α → PyData} {l : List α} (h : ∀ a ∈ l, Sh m (f a)) : ∀ d ∈ l.map f, Sh m d := fun d hd => by
  obtain ⟨a, ha, rfl⟩ := List.mem_map.mp hd
  exact h a ha
theorem sh_dL (l : List Nat) : Sh 1 (dL l) := Sh.list (Sh.map fun a _ => Sh.int _)
theorem sh_two {m : Nat} {a b : PyData} (h1 : Sh m a) (h2 : Sh m b) : ∀ d ∈ [a, b], Sh m d := fun d hd => by
  rcases (show d = a ∨ d = b by simpa using hd) with z | z <;> rw [z] <;> assumption
theorem sh_dPair (p : Pr) : Sh 1 (dPair p) := Sh.tup (sh_two (Sh.int _) (Sh.int _))
theorem sh_dPairs (c : List Pr) : Sh 2 (dPairs c) := Sh.list (Sh.map fun p _ => sh_dPair p)
theorem sh_dTie (t : Tie) : Sh 1 (dTie t) := Sh.tup fun d hd => by
  rcases (show d = _ ∨ d = _ ∨ d = _ by simpa [dTie] using hd) with z | z | z <;> rw [z] <;> exact Sh.int _
theorem sh_dWeb (n : Nat) (ts : List Tie) : Sh 3 (dWeb n ts) := Sh.tup (sh_two (Sh.int _) (Sh.tup (Sh.map fun t _ => sh_dTie t)))
theorem sh_dO {m : Nat} : ∀ o : Option Int, Sh m (dO o)
  | none => Sh.non
  | some v => Sh.int v
theorem sh_dDiff (x : Nat × Option Int × Option Int) : Sh 1 (dDiff x) := Sh.tup fun d hd => by
  rcases (show d = _ ∨ d = _ ∨ d = _ by simpa using hd) with z | z | z <;> rw [z]
  · exact Sh.int _
  · exact sh_dO _
  · exact sh_dO _
theorem sh_diff (l : List (Nat × Option Int × Option Int)) : Sh 2 (.list (l.map dDiff)) := Sh.list (Sh.map fun x _ => sh_dDiff x)
noncomputable def toldD (n : Nat) (k : KS) : PyData := .list [dWeb n (tiesOf k.W), dL k.ps, .list (k.ps.map fun q => .tuple [.int (valK k q), dL (sideK k q)]), .tuple [.int (cutW (tiesOf k.W) (cutK n k)), dPairs (cutK n k)]]
theorem sh_told (n : Nat) (k : KS) : Sh 5 (toldD n k) := Sh.list fun d hd => by
  rcases (show d = _ ∨ d = _ ∨ d = _ ∨ d = _ by simpa using hd) with z | z | z | z <;> rw [z]
  · exact (sh_dWeb _ _).more (by decide)
  · exact (sh_dL _).more (by decide)
  · exact (Sh.list (Sh.map fun q _ => Sh.tup (sh_two (Sh.int _) (sh_dL _)))).more (by decide)
  · exact (Sh.tup (sh_two (Sh.int _) (sh_dPairs _))).more (by decide)
theorem eqv_self {m : Nat} {d : PyData} (h : Sh m d) : PyData.eqv d d = true := SeqAt.eqv_refl d h.lay
/-- states of the past are sound -/
def PastOk (n : Nat) (past : List KS) : Prop := ∀ k ∈ past, KOk n k ∧ Has k
theorem PastOk.snoc {n : Nat} {past : List KS} {k : KS} (h : PastOk n past) (ok : KOk n k) (has : Has k) : PastOk n (past ++ [k]) := fun x hx => by
  rcases List.mem_append.mp hx with z | z
  · exact h x z
  · rw [List.mem_singleton.mp z]; exact ⟨ok, has⟩
theorem othersOf_len {l : List Nat} (nd : l.Nodup) {p : Nat} (hp : p ∈ l) : (othersOf l p).length + 1 = l.length := by
  obtain ⟨j, hj⟩ := List.mem_iff_getElem?.mp hp
  rw [← others_erase nd hj, List.length_eraseIdx_of_lt (List.getElem?_eq_some_iff.mp hj).1]
  have := (List.getElem?_eq_some_iff.mp hj).1
  omega
theorem step_ok {n : Nat} {k : KS} {past : List KS} {d : Dd} (ok : KOk n k) (po : PastOk n past) (hv : Valid n k d) : KOk n (stepK k past d).1 := by
  have hn := ok.w.n10
  cases d with
  | undo =>
    unfold stepK
    cases h : past.getLast? with
    | none => exact ok
    | some k0 => exact (po k0 (List.mem_of_getLast? h)).1
  | put p =>
    have nd : (k.ps ++ [p]).Nodup := List.nodup_append.mpr ⟨pw_nodup ok.pw, by simp, fun a ha b hb => by
      rw [List.mem_singleton.mp hb]
      exact fun z => hv.2 (by rw [← z]; exact ha)⟩
    have ltp : ∀ q ∈ k.ps ++ [p], q < n := fun q hq => by
      rcases List.mem_append.mp hq with z | z
      · exact ok.lt q z
      · rw [List.mem_singleton.mp z]; exact hv.1
    refine ⟨ok.w, sortN_pw _, fun q hq => ltp q (mem_sortN.mp hq).2, ?_⟩
    show 2 ≤ (sortN (k.ps ++ [p])).length
    rw [sortN_same nd fun q hq => by have := ltp q hq; omega, List.length_append]
    have := ok.two
    omega
  | take p =>
    refine ⟨ok.w, ok.pw.filter _, fun q hq => ok.lt q (List.mem_filter.mp hq).1, ?_⟩
    show 2 ≤ (othersOf k.ps p).length
    have := othersOf_len (pw_nodup ok.pw) hv.2.1
    have := ok.two
    have := hv.2.2
    omega
  | weigh a b w => exact ⟨wput_ok ok.w (p := (a, b)) hv.1 hv.2.1 hv.2.2, ok.pw, ok.lt, ok.two⟩
theorem step_past {n : Nat} {k : KS} {past : List KS} {d : Dd} (ok : KOk n k) (has : Has k) (po : PastOk n past) : PastOk n (stepK k past d).2 := by
  cases d with
  | undo =>
    unfold stepK
    cases h : past.getLast? with
    | none => exact po
    | some k0 => exact fun x hx => po x (List.dropLast_subset _ hx)
  | put p => exact po.snoc ok has
  | take p => exact po.snoc ok has
  | weigh a b w => exact po.snoc ok has
theorem step_len (k : KS) (past : List KS) (d : Dd) : (stepK k past d).2.length ≤ past.length + 1 := by
  cases d with
  | undo =>
    unfold stepK
    cases past.getLast? with
    | none => exact Nat.le_succ _
    | some k0 => show past.dropLast.length ≤ _; rw [List.length_dropLast]; omega
  | put p => show (past ++ [k]).length ≤ _; rw [List.length_append]; exact Nat.le_refl _
  | take p => show (past ++ [k]).length ≤ _; rw [List.length_append]; exact Nat.le_refl _
  | weigh a b w => show (past ++ [k]).length ≤ _; rw [List.length_append]; exact Nat.le_refl _
/-- the keeper's answer -/
noncomputable def ansD (k : KS) (past : List KS) (d : Dd) : PyData := match d, past with
  | .undo, [] => .none
  | d, past => .list ((diffK k (stepK k past d).1).map dDiff)
theorem sh_ans (k : KS) (past : List KS) (d : Dd) : Sh 2 (ansD k past d) := by
  unfold ansD
  split
  · exact Sh.non
  · exact sh_diff _
theorem fmod_natN (m n : Nat) : ((m : Nat) : Int).fmod (n : Int) = ((m % n : Nat) : Int) := by
  rw [Int.fmod_eq_emod_of_nonneg _ (by omega)]
  rfl
/-- a deed that the draws may give: it may take one of two posts -/
def DeedW (n : Nat) (k : KS) : Dd → Prop
  | .take p => p < n ∧ p ∈ k.ps
  | d => Valid n k d
end KPR
set_option Elab.async false
set_option linter.all false
set_option maxRecDepth 100000
set_option maxHeartbeats 4000000
/-! W22: the law's deeds; what a keeper tells. -/
namespace KPR
open PySem L2
local macro_rules | `(tactic| walk_at "dn") => `(tactic| repeat (first
  | (with_reducible refine w_seq ?_) | (with_reducible refine w_asg ?_) | (with_reducible refine w_drop ?_) | (with_reducible refine w_ret ?_) | (with_reducible refine w_ifs ?_)
  | ((with_reducible refine' w_var ?hv ?_); (case hv => exact rfl)) | (with_reducible refine w_c ?_) | (with_reducible refine w_op ?_) | (with_reducible refine w_un ?_) | (with_reducible refine w_cb ?_)
  | (with_reducible refine w_nil ?_) | (with_reducible refine w_cons ?_) | (with_reducible refine w_gname ?_) | (with_reducible refine w_test ?_) | (with_reducible refine w_b ?_) | (with_reducible refine w_exbl ?_)
  | (with_reducible refine w_and ?_) | (with_reducible refine w_or ?_) | (with_reducible refine w_not ?_) | (with_reducible refine w_if ?_) | (with_reducible refine w_andV ?_) | (with_reducible refine w_orV ?_) | (with_reducible refine w_notV ?_)
  | (with_reducible refine w_tup ?_) | (with_reducible refine w_lst ?_) | (with_reducible refine w_dnewK ?_) | (with_reducible refine w_dnewT ?_) | (with_reducible refine w_din ?_) | (with_reducible refine w_dnin ?_) | (with_reducible refine w_dget ?_) | (with_reducible refine w_dget2 ?_)
  | (with_reducible refine w_fld ?_) | (with_reducible refine w_cal ?_) | (with_reducible refine w_met ?_) | (with_reducible refine w_mak ?_) | (with_reducible refine w_bm ?_) | (with_reducible refine w_bm0 ?_) | (with_reducible refine w_sl ?_)
  | (with_reducible refine w_nopart ?_) | (with_reducible refine w_part ?_) | (with_reducible refine w_sfld ?_) | (with_reducible refine w_dput ?_) | ((with_reducible refine' w_aug ?hv ?_); (case hv => exact rfl)) | (with_reducible refine w_iT ?_) | (with_reducible refine w_iF ?_)
  | (with_reducible refine w_ii0 ?_) | (with_reducible refine w_neg ?_) | (with_reducible refine w_ip ?_) | (with_reducible refine w_yes ?_) | (with_reducible refine w_for ?_) | (with_reducible refine w_ilist ?_) | (with_reducible refine w_itup ?_) | (with_reducible refine w_irng1 ?_) | (with_reducible refine w_irng2 ?_) | (with_reducible refine w_ienum ?_) | (with_reducible refine w_ienumT ?_)
  | (with_reducible refine w_ckw ?_) | (with_reducible refine w_gd ?_) | (with_reducible refine w_chain ?_) | (with_reducible refine w_max2 ?_) | (with_reducible refine w_min2 ?_) | (with_reducible refine w_int1 ?_) | (with_reducible refine w_gsub ?_) | (with_reducible refine w_par ?_) | (with_reducible refine w_lcr1 ?_) | (with_reducible refine w_pcons ?_) | (with_reducible refine w_pnil ?_) | (with_reducible refine w_next ?_)))

section
variable {P : Program} {w : World} {K : PySem.W.Frag} {mg : Str → Option Value} {base : Heap} {C Cf : Addr}
def sp_l_weighed : Sp := fun vs H Q _ => ∃ (ba wd : Addr) (B : Hp) (c n : Nat) (k : KS) (past : List KS) (own : List Addr), vs = [.ref ba, .ref wd] ∧ Ex B H ∧ Bx B H ba c ∧ WdE B H n wd k past own ∧ KOk n k ∧ ba ∉ own ∧ c + 10 ≤ 1000000 ∧
  ∀ v a b wv B' H', Gof (fun a => a = ba) B H B' H' → Bx B' H' ba (c + 10) → Valid n k (.weigh a b wv) → D B' v (dDd (.weigh a b wv)) → Q v H'
theorem ok_l_weighed (R : Raw K mg "_law_weighed" "_law_weighed" s_l_weighed ["_law_box_here", "_law_world_here"]) (T : TB mg) (c_l_take : DefT P w K mg base "_law_take" 1 ["_law_box_here", "_law_many"] sp_l_take) : DefT P w K mg base "_law_weighed" 2 ["_law_box_here", "_law_world_here"] sp_l_weighed := by
  refine R.ok fun f fd F => F.ok sc_l_weighed (fun vs H Q E h => ?_) (fun cdv A outer s H vs Q E hr h => ?_)
  · obtain ⟨_, _, _, _, _, _, _, _, rfl, _⟩ := h
    rfl
  · obtain ⟨ba, wd, B, c, n, ks, past, own, rfl, e, bx, ⟨wt, wp, pa, pq, os, rfl, kw⟩, ok, hbo, hc, q⟩ := h
    refine ⟨_, (pss_cons (ps_set (i := 2) sc_l_weighed.nd rfl (by first | exact Or.inl rfl | exact Or.inr rfl) (pe_dget (hu_of hr) (pv 1) pe_str (fun _ _ => rfl)))
  (pss_cons (ps_set (i := 3) sc_l_weighed.nd rfl (by first | exact Or.inl rfl | exact Or.inr rfl) (k_call c_l_take hr (pa_cons (pv 0) (pa_cons (pv 2) pa_nil))))
  (pss_cons (ps_set (i := 4) sc_l_weighed.nd rfl (by first | exact Or.inl rfl | exact Or.inr rfl) (pe_op op_modN (pe_op op_add (pe_op op_add (pv 3) pe_int) (k_call c_l_take hr (pa_cons (pv 0) (pa_cons (pe_op op_sub (pv 2) pe_int) pa_nil)))) (pv 2)))
  (pss_cons (ps_set (i := 5) sc_l_weighed.nd rfl (by first | exact Or.inl rfl | exact Or.inr rfl) (pe_tup (pa_cons (pe_callB (k_min2 rfl) (by rfl) T.z_min (by decide +kernel) (pa_cons (pv 3) (pa_cons (pv 4) pa_nil))) (pa_cons (pe_callB (k_max2 rfl) (by rfl) T.z_max (by decide +kernel) (pa_cons (pv 3) (pa_cons (pv 4) pa_nil))) pa_nil))))
  (pss_cons (ps_set (i := 6) sc_l_weighed.nd rfl (by first | exact Or.inl rfl | exact Or.inr rfl) (pe_callB (k_sortDT rfl) (by rfl) T.z_sorted (by decide +kernel) (pa_cons (pe_dget (hu_of hr) (pv 1) pe_str (fun _ _ => rfl)) pa_nil)))
  (pss_cons (ps_if (PW.pt (pw_and (pt_cmpR (k_neD (K := K) hr.units) (pv 6) (pe_lst pa_nil) (nomark _)) (pw_and1 (PW.pt (pw_or (pt_cmpR op_gt (k_call c_l_take hr (pa_cons (pv 0) (pa_cons pe_int pa_nil))) pe_int (nomark _)) (pw_or1 (pt_cmpR op_gt (pe_callB (k_len (K := K)) (by rfl) T.z_len (by decide +kernel) (pa_cons (pv 6) pa_nil)) pe_int (nomark _)))))))) (pss_one (ps_set (i := 5) sc_l_weighed.nd rfl (by first | exact Or.inl rfl | exact Or.inr rfl) (pe_ix (k_ixL (K := K)) (pv 6) (k_call c_l_take hr (pa_cons (pv 0) (pa_cons (pe_callB (k_len (K := K)) (by rfl) T.z_len (by decide +kernel) (pa_cons (pv 6) pa_nil)) pa_nil))) (fun _ _ => rfl)))) pss_nil)
  (pss_cons (ps_set (i := 7) sc_l_weighed.nd rfl (by first | exact Or.inl rfl | exact Or.inr rfl) (pe_dget2 (hu_of hr) (pe_dget (hu_of hr) (pv 1) pe_str (fun _ _ => rfl)) (pv 5) pe_int ⟨rfl, rfl, rfl, rfl⟩))
  (pss_cons (ps_set (i := 8) sc_l_weighed.nd rfl (by first | exact Or.inl rfl | exact Or.inr rfl) (pe_lst (pa_cons (pe_op op_add (pe_op op_add (pv 7) pe_int) (k_call c_l_take hr (pa_cons (pv 0) (pa_cons pe_int pa_nil)))) (pa_cons (pe_callB (k_max2 rfl) (by rfl) T.z_max (by decide +kernel) (pa_cons pe_int (pa_cons (pe_op op_sub (pe_op op_sub (pv 7) pe_int) (k_call c_l_take hr (pa_cons (pv 0) (pa_cons pe_int pa_nil)))) pa_nil))) (pa_cons pe_int (pa_cons (pv 7) (pa_cons (pe_op op_add pe_int (k_call c_l_take hr (pa_cons (pv 0) (pa_cons pe_int pa_nil)))) pa_nil)))))))
  (pss_one (ps_ret (pe_op (k_catT (K := K)) (pe_op (k_catT (K := K)) (pe_tup (pa_cons pe_str pa_nil)) (pv 5)) (pe_tup (pa_cons (pe_callB (k_min2 rfl) (by rfl) T.z_min (by decide +kernel) (pa_cons (pe_op op_pow pe_int pe_int) (pa_cons (pe_ix (k_ixL (K := K)) (pv 8) (k_call c_l_take hr (pa_cons (pv 0) (pa_cons pe_int pa_nil))) (fun _ _ => rfl)) pa_nil))) pa_nil))))))))))))), ?_⟩
    have hn := ok.w.n10
    have hn2 : 2 ≤ n := by
      have h1 := ok.two
      have h2 := pigeon ks.ps n (pw_nodup ok.pw) ok.lt
      omega
    have nof : ∀ a ∈ ownK wd wt wp pa os, ¬ a = ba := fun a ha z => hbo (z ▸ ha)
    obtain ⟨cs, hcs, nd, mem⟩ := kw.tw
    have clt : ∀ p ∈ cs, p.1 < 10 ∧ p.2 < 10 := fun p hp => by
      have := ok.w.ok p ((mem p).mp hp)
      omega
    have cl : cs.length ≤ 45 := by
      have := pr_nodup_len cs (supp ks.W) nd fun p hp => (mem_supp ok.w).mpr ((mem p).mp hp)
      have := supp_len ok.w
      omega
    have es : sortPr cs = supp ks.W := supp_sort ok.w mem
    have getW : ∀ p : Pr, (valV (kvW cs ks.W) (kP p)).getD (.int 0) = .int (ks.W p) := fun p => by
      rw [kvW_get nd]
      by_cases hin : p ∈ cs
      · rw [if_pos hin]; rfl
      · rw [if_neg hin]
        have : ks.W p = 0 := by
          rcases Classical.em (ks.W p = 0) with z | z
          · exact z
          · exact absurd ((mem _).mpr z) hin
        rw [this]; rfl
    have W0 : ∀ p : Pr, 0 ≤ ks.W p := fun p => by
      rcases Classical.em (ks.W p = 0) with z | z
      · omega
      · have := ok.w.ok p z; omega
    walk_at "dn"
    refine r_wget kw.ins wkv_many ?_
    walk_at "dn"
    refine ⟨ba, n, B, c, rfl, e, bx, by omega, by omega, by omega, fun one H1 hone g1 bx1 => ?_⟩
    walk_at "dn"
    rw [show ((n : Int) - 1) = ((n - 1 : Nat) : Int) by omega]
    refine ⟨ba, n - 1, B, _, rfl, g1.bh, bx1, by omega, by omega, by omega, fun r2 H2 hr2 g2 bx2 => ?_⟩
    have kw2 := (kw.frame g1 nof).frame g2 nof
    have hcs2 := g2.kp _ _ (g1.kp _ _ hcs (nof _ (mem_own.mpr (.inr (.inl rfl))))) (nof _ (mem_own.mpr (.inr (.inl rfl))))
    walk_at "dn"
    refine w_mod (by omega) ?_
    rw [show ((one : Int) + 1 + (r2 : Int)) = ((one + 1 + r2 : Nat) : Int) by omega, fmod_natN]
    obtain ⟨oth, eoth⟩ : ∃ oth, oth = (one + 1 + r2) % n := ⟨_, rfl⟩
    have hoth : oth < n := by rw [eoth]; exact Nat.mod_lt _ (by omega)
    have hne : oth ≠ one := by
      rw [eoth]
      by_cases z : one + 1 + r2 < n
      · rw [Nat.mod_eq_of_lt z]; omega
      · rw [Nat.mod_eq_sub_mod (by omega), Nat.mod_eq_of_lt (by omega)]; omega
    rw [← eoth]
    walk_at "dn"
    obtain ⟨lo, hi', elo, ehi, hlh, hhn⟩ : ∃ lo hi' : Nat, (if (oth : Int) < (one : Int) then (oth : Int) else (one : Int)) = (lo : Int) ∧ (if (oth : Int) > (one : Int) then (oth : Int) else (one : Int)) = (hi' : Int) ∧ lo < hi' ∧ hi' < n := by
      by_cases z : (oth : Int) < (one : Int)
      · rw [if_pos z, if_neg (by omega)]; exact ⟨oth, one, rfl, rfl, by omega, hone⟩
      · rw [if_neg z, if_pos (by omega)]; exact ⟨one, oth, rfl, rfl, by omega, hoth⟩
    rw [elo, ehi]
    refine r_tup2 g2.bh (.int _) (.int _) fun p3 B3 H3 g3 _ d3 => ?_
    have kw3 := kw2.grow g3
    have hcs3 := g3.hh _ _ hcs2
    walk_at "dn"
    refine r_wget kw3.ins wkv_ties ?_
    walk_at "dn"
    refine r_sortDT g3.bh hcs3 (kvW_keys cs ks.W) nd (by omega) clt fun p4 B4 H4 g4 d4 => ?_
    rw [es] at d4
    have kw4 := kw3.grow g4
    have hcs4 := g4.hh _ _ hcs3
    have d34 := d3.up g4.bb
    have gA : Gof (fun a => a = ba) B H B4 H4 := ((g1.trans g2).trans (Gro.of g3)).trans (Gro.of g4)
    have bx4 := (bx2.grow g3 (fun z => z)).grow g4 (fun z => z)
    walk_at "dn"
    refine r_lst (ds := []) g4.bh .nil (by show 0 ≤ 100000; decide) fun p5 B5 H5 g5 _ d5 => ?_
    refine r_neD (d1 := dPairs (supp ks.W)) (d2 := .list []) g5.bh (d4.up g5.bb) d5 ((sh_dPairs _).ok (by decide)) ((Sh.list (m := 0) (ds := []) (fun d hd => nomatch hd)).ok (by decide)) ?_
    have kw5 := kw4.grow g5
    have hcs5 := g5.hh _ _ hcs4
    have gA5 := gA.trans (Gro.of g5)
    have bx5 := bx4.grow g5 (fun z => z)
    walk_at "dn"
    refine ite2 (fun cc => ?_) (fun cc => ?_)
    · have hs0 : 0 < (supp ks.W).length := by
        cases h : supp ks.W with
        | nil =>
          rw [h] at cc
          exact absurd cc (by decide)
        | cons _ _ => exact Nat.succ_pos _
      walk_at "dn"
      refine ⟨ba, 4, B5, _, rfl, gA5.bh, bx5, by decide, by decide, by omega, fun r6' H6' hr6' g6' bx6' => ?_⟩
      have kw6' := kw5.frame g6' nof
      have hcs6' := g6'.kp _ _ hcs5 (nof _ (mem_own.mpr (.inr (.inl rfl))))
      have gA6' := gA5.trans g6'
      have bxd := bx6'
      walk_at "dn"
      refine ite2 (fun c2 => ?_) (fun c2 => ?_)
      · walk_at "dn"
        walk_at "dn"
        refine r_lenL g6'.bh (d4.up g5.bb) ?_
        walk_at "dn"
        have lsup : ((supp ks.W).map dPair).length = (supp ks.W).length := by rw [List.length_map]
        rw [lsup]
        refine ⟨ba, (supp ks.W).length, B5, _, rfl, g6'.bh, bx6', hs0, by have := supp_len ok.w; omega, by omega, fun rj Hj hrj gj bxj => ?_⟩
        obtain ⟨pj, hpj⟩ : ∃ p, (supp ks.W)[rj]? = some p := ⟨_, List.getElem?_eq_getElem hrj⟩
        have hpo := ok.w.ok pj ((mem_supp ok.w).mp (List.mem_of_getElem? hpj))
        refine r_ixL (i := rj) gj.bh (d4.up g5.bb) (by rw [List.getElem?_map, hpj]; rfl) fun vj hvj => ?_
        obtain ⟨qj, xsj, rfl, _, _⟩ := hvj.tup_inv
        have kwj := kw6'.frame gj nof
        have hcsj := gj.kp _ _ hcs6' (nof _ (mem_own.mpr (.inr (.inl rfl))))
        walk_at "dn"
        refine r_wget (kwj).ins wkv_ties ?_
        walk_at "dn"
        refine ⟨wt, rfl, .inr ⟨_, .inl hcsj⟩, ?_⟩
        walk_at "dn"
        refine ⟨valV (kvW cs ks.W) (kP pj), DGet.t (k := kP pj) hcsj (gj.bh _ _ (pair_at hvj)), ?_⟩
        rw [getW]
        generalize hW : ks.W pj = ah
        have ah0 : 0 ≤ ah := by rw [← hW]; exact W0 _
        walk_at "dn"
        refine ⟨ba, 5, B5, _, rfl, (gj).bh, bxj, by decide, by decide, by omega, fun r6 H6 hr6 g6 bx6 => ?_⟩
        walk_at "dn"
        refine ⟨ba, 5, B5, _, rfl, g6.bh, bx6, by decide, by decide, by omega, fun r7 H7 hr7 g7 bx7 => ?_⟩
        walk_at "dn"
        refine ⟨ba, 9, B5, _, rfl, g7.bh, bx7, by decide, by decide, by omega, fun r8 H8 hr8 g8 bx8 => ?_⟩
        walk_at "dn"
        refine r_lst (ds := [.int _, .int _, .int _, .int _, .int _]) g8.bh (.cons (.int _) (.cons (.int _) (.three (.int _) (.int _) (.int _)))) (by show 5 ≤ 100000; decide) fun p9 B9 H9 g9 _ d9 => ?_
        walk_at "dn"
        refine r_tup1 g9.bh (.str _) fun p10 B10 H10 g10 _ d10 => ?_
        walk_at "dn"
        have dp10 := (hvj).up (g9.bb.trans g10.bb)
        refine r_catT g10.bh d10 dp10 (by simp) (by simp) (by show 3 ≤ 100000; decide) fun p11 B11 H11 g11 d11 => ?_
        walk_at "dn"
        refine w_pow ⟨by decide, by decide, by decide⟩ ?_
        walk_at "dn"
        have g911 := (g9.trans g10).trans g11
        refine ⟨ba, 5, B11, _, rfl, g11.bh, bx8.grow g911 (fun z => z), by decide, by decide, by omega, fun r12 H12 hr12 g12 bx12 => ?_⟩
        obtain ⟨wv, hwv, hwv0⟩ : ∃ wv : Int, ([PyData.int (ah + 1 + (r6 : Int)), PyData.int (if ah - 1 - (r7 : Int) > 0 then ah - 1 - (r7 : Int) else 0), PyData.int 0, PyData.int ah, PyData.int (1 + (r8 : Int))] : List PyData)[r12]? = some (.int wv) ∧ 0 ≤ wv := by
          match r12, hr12 with
          | 0, _ => exact ⟨_, rfl, by omega⟩
          | 1, _ => exact ⟨_, rfl, by split <;> omega⟩
          | 2, _ => exact ⟨_, rfl, by omega⟩
          | 3, _ => exact ⟨_, rfl, by omega⟩
          | 4, _ => exact ⟨_, rfl, by omega⟩
        refine r_ixL (i := r12) g12.bh (d9.up (g10.bb.trans g11.bb)) hwv fun vv hvv => ?_
        cases hvv
        walk_at "dn"
        refine r_tup1 g12.bh (.int _) fun p13 B13 H13 g13 _ d13 => ?_
        refine r_catT g13.bh (d11.up g13.bb) d13 (by simp) (by simp) (by show 4 ≤ 100000; decide) fun p14 B14 H14 g14 d14 => ?_
        have gF := (((((((gA6'.trans gj)).trans g6).trans g7).trans g8).trans (Gro.of g911)).trans g12).trans ((Gro.of g13 : Gof (fun a => a = ba) _ _ _ _).trans (Gro.of g14))
        refine q _ pj.1 pj.2 _ B14 H14 gF (((bx12.grow g13 (fun z => z)).grow g14 (fun z => z)).more (by omega)) ⟨hpo.1, hpo.2.1, ?_⟩ d14
        split
        · exact hwv0
        · decide
        
      · walk_at "dn"
        refine r_lenL g6'.bh (d4.up g5.bb) ?_
        walk_at "dn"
        rw [List.length_map, decide_eq_false (show ¬ (80 : Int) < ((supp ks.W).length : Int) by have := supp_len ok.w; omega)]
        walk_at "dn"
        refine r_wget (kw6').ins wkv_ties ?_
        walk_at "dn"
        refine ⟨wt, rfl, .inr ⟨_, .inl hcs6'⟩, ?_⟩
        walk_at "dn"
        refine ⟨valV (kvW cs ks.W) (kP (lo, hi')), DGet.t (k := kP (lo, hi')) hcs6' (g6'.bh _ _ (pair_at (p := (lo, hi')) (d34.up g5.bb))), ?_⟩
        rw [getW]
        generalize hW : ks.W (lo, hi') = ah
        have ah0 : 0 ≤ ah := by rw [← hW]; exact W0 _
        walk_at "dn"
        refine ⟨ba, 5, B5, _, rfl, (g6').bh, bx6', by decide, by decide, by omega, fun r6 H6 hr6 g6 bx6 => ?_⟩
        walk_at "dn"
        refine ⟨ba, 5, B5, _, rfl, g6.bh, bx6, by decide, by decide, by omega, fun r7 H7 hr7 g7 bx7 => ?_⟩
        walk_at "dn"
        refine ⟨ba, 9, B5, _, rfl, g7.bh, bx7, by decide, by decide, by omega, fun r8 H8 hr8 g8 bx8 => ?_⟩
        walk_at "dn"
        refine r_lst (ds := [.int _, .int _, .int _, .int _, .int _]) g8.bh (.cons (.int _) (.cons (.int _) (.three (.int _) (.int _) (.int _)))) (by show 5 ≤ 100000; decide) fun p9 B9 H9 g9 _ d9 => ?_
        walk_at "dn"
        refine r_tup1 g9.bh (.str _) fun p10 B10 H10 g10 _ d10 => ?_
        walk_at "dn"
        have dp10 := ((show D B5 _ (dPair (lo, hi')) from d34.up g5.bb)).up (g9.bb.trans g10.bb)
        refine r_catT g10.bh d10 dp10 (by simp) (by simp) (by show 3 ≤ 100000; decide) fun p11 B11 H11 g11 d11 => ?_
        walk_at "dn"
        refine w_pow ⟨by decide, by decide, by decide⟩ ?_
        walk_at "dn"
        have g911 := (g9.trans g10).trans g11
        refine ⟨ba, 5, B11, _, rfl, g11.bh, bx8.grow g911 (fun z => z), by decide, by decide, by omega, fun r12 H12 hr12 g12 bx12 => ?_⟩
        obtain ⟨wv, hwv, hwv0⟩ : ∃ wv : Int, ([PyData.int (ah + 1 + (r6 : Int)), PyData.int (if ah - 1 - (r7 : Int) > 0 then ah - 1 - (r7 : Int) else 0), PyData.int 0, PyData.int ah, PyData.int (1 + (r8 : Int))] : List PyData)[r12]? = some (.int wv) ∧ 0 ≤ wv := by
          match r12, hr12 with
          | 0, _ => exact ⟨_, rfl, by omega⟩
          | 1, _ => exact ⟨_, rfl, by split <;> omega⟩
          | 2, _ => exact ⟨_, rfl, by omega⟩
          | 3, _ => exact ⟨_, rfl, by omega⟩
          | 4, _ => exact ⟨_, rfl, by omega⟩
        refine r_ixL (i := r12) g12.bh (d9.up (g10.bb.trans g11.bb)) hwv fun vv hvv => ?_
        cases hvv
        walk_at "dn"
        refine r_tup1 g12.bh (.int _) fun p13 B13 H13 g13 _ d13 => ?_
        refine r_catT g13.bh (d11.up g13.bb) d13 (by simp) (by simp) (by show 4 ≤ 100000; decide) fun p14 B14 H14 g14 d14 => ?_
        have gF := ((((((gA6').trans g6).trans g7).trans g8).trans (Gro.of g911)).trans g12).trans ((Gro.of g13 : Gof (fun a => a = ba) _ _ _ _).trans (Gro.of g14))
        refine q _ lo hi' _ B14 H14 gF (((bx12.grow g13 (fun z => z)).grow g14 (fun z => z)).more (by omega)) ⟨hlh, hhn, ?_⟩ d14
        split
        · exact hwv0
        · decide
        
    · walk_at "dn"
      refine r_wget (kw5).ins wkv_ties ?_
      walk_at "dn"
      refine ⟨wt, rfl, .inr ⟨_, .inl hcs5⟩, ?_⟩
      walk_at "dn"
      refine ⟨valV (kvW cs ks.W) (kP (lo, hi')), DGet.t (k := kP (lo, hi')) hcs5 (gA5.bh _ _ (pair_at (p := (lo, hi')) (d34.up g5.bb))), ?_⟩
      rw [getW]
      generalize hW : ks.W (lo, hi') = ah
      have ah0 : 0 ≤ ah := by rw [← hW]; exact W0 _
      walk_at "dn"
      refine ⟨ba, 5, B5, _, rfl, (gA5).bh, bx5, by decide, by decide, by omega, fun r6 H6 hr6 g6 bx6 => ?_⟩
      walk_at "dn"
      refine ⟨ba, 5, B5, _, rfl, g6.bh, bx6, by decide, by decide, by omega, fun r7 H7 hr7 g7 bx7 => ?_⟩
      walk_at "dn"
      refine ⟨ba, 9, B5, _, rfl, g7.bh, bx7, by decide, by decide, by omega, fun r8 H8 hr8 g8 bx8 => ?_⟩
      walk_at "dn"
      refine r_lst (ds := [.int _, .int _, .int _, .int _, .int _]) g8.bh (.cons (.int _) (.cons (.int _) (.three (.int _) (.int _) (.int _)))) (by show 5 ≤ 100000; decide) fun p9 B9 H9 g9 _ d9 => ?_
      walk_at "dn"
      refine r_tup1 g9.bh (.str _) fun p10 B10 H10 g10 _ d10 => ?_
      walk_at "dn"
      have dp10 := ((show D B5 _ (dPair (lo, hi')) from d34.up g5.bb)).up (g9.bb.trans g10.bb)
      refine r_catT g10.bh d10 dp10 (by simp) (by simp) (by show 3 ≤ 100000; decide) fun p11 B11 H11 g11 d11 => ?_
      walk_at "dn"
      refine w_pow ⟨by decide, by decide, by decide⟩ ?_
      walk_at "dn"
      have g911 := (g9.trans g10).trans g11
      refine ⟨ba, 5, B11, _, rfl, g11.bh, bx8.grow g911 (fun z => z), by decide, by decide, by omega, fun r12 H12 hr12 g12 bx12 => ?_⟩
      obtain ⟨wv, hwv, hwv0⟩ : ∃ wv : Int, ([PyData.int (ah + 1 + (r6 : Int)), PyData.int (if ah - 1 - (r7 : Int) > 0 then ah - 1 - (r7 : Int) else 0), PyData.int 0, PyData.int ah, PyData.int (1 + (r8 : Int))] : List PyData)[r12]? = some (.int wv) ∧ 0 ≤ wv := by
        match r12, hr12 with
        | 0, _ => exact ⟨_, rfl, by omega⟩
        | 1, _ => exact ⟨_, rfl, by split <;> omega⟩
        | 2, _ => exact ⟨_, rfl, by omega⟩
        | 3, _ => exact ⟨_, rfl, by omega⟩
        | 4, _ => exact ⟨_, rfl, by omega⟩
      refine r_ixL (i := r12) g12.bh (d9.up (g10.bb.trans g11.bb)) hwv fun vv hvv => ?_
      cases hvv
      walk_at "dn"
      refine r_tup1 g12.bh (.int _) fun p13 B13 H13 g13 _ d13 => ?_
      refine r_catT g13.bh (d11.up g13.bb) d13 (by simp) (by simp) (by show 4 ≤ 100000; decide) fun p14 B14 H14 g14 d14 => ?_
      have gF := ((((((gA5).trans g6).trans g7).trans g8).trans (Gro.of g911)).trans g12).trans ((Gro.of g13 : Gof (fun a => a = ba) _ _ _ _).trans (Gro.of g14))
      refine q _ lo hi' _ B14 H14 gF (((bx12.grow g13 (fun z => z)).grow g14 (fun z => z)).more (by omega)) ⟨hlh, hhn, ?_⟩ d14
      split
      · exact hwv0
      · decide
      
end
end KPR
set_option Elab.async false
set_option linter.all false
set_option maxRecDepth 100000
set_option maxHeartbeats 4000000
/-! W23: the law's deeds, done by a keeper; what it tells. -/
namespace KPR
open PySem L2
local macro_rules | `(tactic| walk_at "dn") => `(tactic| repeat (first
  | (with_reducible refine w_seq ?_) | (with_reducible refine w_asg ?_) | (with_reducible refine w_drop ?_) | (with_reducible refine w_ret ?_) | (with_reducible refine w_ifs ?_)
  | ((with_reducible refine' w_var ?hv ?_); (case hv => exact rfl)) | (with_reducible refine w_c ?_) | (with_reducible refine w_op ?_) | (with_reducible refine w_un ?_) | (with_reducible refine w_cb ?_)
  | (with_reducible refine w_nil ?_) | (with_reducible refine w_cons ?_) | (with_reducible refine w_gname ?_) | (with_reducible refine w_test ?_) | (with_reducible refine w_b ?_) | (with_reducible refine w_exbl ?_)
  | (with_reducible refine w_and ?_) | (with_reducible refine w_or ?_) | (with_reducible refine w_not ?_) | (with_reducible refine w_if ?_) | (with_reducible refine w_andV ?_) | (with_reducible refine w_orV ?_) | (with_reducible refine w_notV ?_)
  | (with_reducible refine w_tup ?_) | (with_reducible refine w_lst ?_) | (with_reducible refine w_dnewK ?_) | (with_reducible refine w_dnewT ?_) | (with_reducible refine w_din ?_) | (with_reducible refine w_dnin ?_) | (with_reducible refine w_dget ?_) | (with_reducible refine w_dget2 ?_)
  | (with_reducible refine w_fld ?_) | (with_reducible refine w_cal ?_) | (with_reducible refine w_met ?_) | (with_reducible refine w_mak ?_) | (with_reducible refine w_bm ?_) | (with_reducible refine w_bm0 ?_) | (with_reducible refine w_sl ?_)
  | (with_reducible refine w_nopart ?_) | (with_reducible refine w_part ?_) | (with_reducible refine w_sfld ?_) | (with_reducible refine w_dput ?_) | ((with_reducible refine' w_aug ?hv ?_); (case hv => exact rfl)) | (with_reducible refine w_iT ?_) | (with_reducible refine w_iF ?_)
  | (with_reducible refine w_ii0 ?_) | (with_reducible refine w_neg ?_) | (with_reducible refine w_ip ?_) | (with_reducible refine w_yes ?_) | (with_reducible refine w_for ?_) | (with_reducible refine w_ilist ?_) | (with_reducible refine w_itup ?_) | (with_reducible refine w_irng1 ?_) | (with_reducible refine w_irng2 ?_) | (with_reducible refine w_ienum ?_) | (with_reducible refine w_ienumT ?_)
  | (with_reducible refine w_ckw ?_) | (with_reducible refine w_gd ?_) | (with_reducible refine w_chain ?_) | (with_reducible refine w_max2 ?_) | (with_reducible refine w_min2 ?_) | (with_reducible refine w_int1 ?_) | (with_reducible refine w_gsub ?_) | (with_reducible refine w_par ?_) | (with_reducible refine w_lcr1 ?_) | (with_reducible refine w_pcons ?_) | (with_reducible refine w_pnil ?_) | (with_reducible refine w_next ?_)))

section
variable {α : Type} {K : PySem.W.Frag} {B H : Hp} {σ : St} {Q : VK} {g : TG} {tt : TT} {te : TE} {vs : List Nat} {tl : TE} {p : α → Bool} {f : α → PyData}
theorem w_lcl (h : tl σ H fun x H1 => ∃ a, x = .ref a ∧ (∃ xs, SqL K H1 a xs) ∧ LcW (Itl K a) g tt te vs σ Q H1) : tLc (iList K tl) g tt te vs σ H Q := h
theorem lcL_at {enc : α → PyData} {items : List α} {src : V} (e : Ex B H) (hsrc : D B src (.list (items.map enc))) (hz : items.length ≤ 1000)
    (turn : ∀ (i : Nat) (it : α) x B' H', items[i]? = some it → Gro B H B' H' → D B' x (enc it) → LcTurn g tt te vs σ B' H' x (p it) (f it))
    (k : ∀ D0 B' H', Gro B H B' H' → D B' (.ref D0) (.list ((items.filter p).map f)) → Q (.ref D0) H') : ∃ a, src = .ref a ∧ (∃ xs, SqL K H a xs) ∧ LcW (Itl K a) g tt te vs σ Q H :=
  r_lcL (K := K) (tl := fun _ H Q => Q src H) (fun R r => r _ _ _ (Gof.refl e) hsrc) hz turn k
end
section
variable {P : Program} {w : World} {K : PySem.W.Frag} {mg : Str → Option Value} {base : Heap} {C Cf : Addr}
def sp_l_deed : Sp := fun vs H Q _ => ∃ (ba wd : Addr) (B : Hp) (c n : Nat) (k : KS) (past : List KS) (own : List Addr), vs = [.ref ba, .ref wd] ∧ Ex B H ∧ Bx B H ba c ∧ WdE B H n wd k past own ∧ KOk n k ∧ ba ∉ own ∧ c + 20 ≤ 1000000 ∧
  ∀ v d B' H', Gof (fun a => a = ba) B H B' H' → Bx B' H' ba (c + 20) → DeedW n k d → D B' v (dDd d) → Q v H'
theorem ok_l_deed (R : Raw K mg "_law_deed" "_law_deed" s_l_deed ["_law_box_here", "_law_world_here"]) (T : TB mg) (c_l_take : DefT P w K mg base "_law_take" 1 ["_law_box_here", "_law_many"] sp_l_take) (c_l_weighed : DefT P w K mg base "_law_weighed" 2 ["_law_box_here", "_law_world_here"] sp_l_weighed) : DefT P w K mg base "_law_deed" 3 ["_law_box_here", "_law_world_here"] sp_l_deed := by
  refine R.ok fun f fd F => F.ok sc_l_deed (fun vs H Q E h => ?_) (fun cdv A outer s H vs Q E hr h => ?_)
  · obtain ⟨_, _, _, _, _, _, _, _, rfl, _⟩ := h
    rfl
  · obtain ⟨ba, wd, B, c, n, ks, past, own, rfl, e, bx, ⟨wt, wp, pa, pq, os, rfl, kw⟩, ok, hbo, hc, q⟩ := h
    refine ⟨_, (pss_cons (ps_set (i := 2) sc_l_deed.nd rfl (by first | exact Or.inl rfl | exact Or.inr rfl) (k_call c_l_take hr (pa_cons (pv 0) (pa_cons pe_int pa_nil))))
  (pss_cons (ps_set (i := 3) sc_l_deed.nd rfl (by first | exact Or.inl rfl | exact Or.inr rfl) (k_call c_l_take hr (pa_cons (pv 0) (pa_cons (pe_dget (hu_of hr) (pv 1) pe_str (fun _ _ => rfl)) pa_nil))))
  (pss_cons (ps_if (PW.pt (pw_or (pt_cmpR op_eq (pv 2) pe_int (nomark _)) (pw_or1 (PW.pt (pw_and (pt_cmpR op_eq (pv 2) pe_int (nomark _)) (pw_and (pt_cmpR (k_notIn (K := K)) (pv 3) (pe_dget (hu_of hr) (pv 1) pe_str (fun _ _ => rfl)) (by with_unfolding_all rfl)) (pw_and1 (pt_cmpR op_gt (pe_callB (k_len (K := K)) (by rfl) T.z_len (by decide +kernel) (pa_cons (pe_dget (hu_of hr) (pv 1) pe_str (fun _ _ => rfl)) pa_nil)) pe_int (nomark _))))))))) (pss_one (ps_ret (pe_tup (pa_cons pe_str pa_nil)))) pss_nil)
  (pss_cons (ps_if (pt_cmpR op_eq (pv 2) pe_int (nomark _)) (pss_one (ps_ret (pe_tup (pa_cons (pe_ix (k_ixL (K := K)) (pe_lst (pa_cons pe_str (pa_cons pe_str pa_nil))) (pe_callTy k_int1 (by rfl) T.z_int (by decide +kernel) (pa_cons (pe_cmpR (k_in (K := K)) (pv 3) (pe_dget (hu_of hr) (pv 1) pe_str (fun _ _ => rfl)) (by with_unfolding_all rfl)) pa_nil)) (fun _ _ => rfl)) (pa_cons (pv 3) pa_nil))))) pss_nil)
  (pss_one (ps_ret (k_call c_l_weighed hr (pa_cons (pv 0) (pa_cons (pv 1) pa_nil))))))))), ?_⟩
    have hn := ok.w.n10
    have hn2 : 2 ≤ n := by
      have h1 := ok.two
      have h2 := pigeon ks.ps n (pw_nodup ok.pw) ok.lt
      omega
    have nof : ∀ a ∈ ownK wd wt wp pa os, ¬ a = ba := fun a ha z => hbo (z ▸ ha)
    walk_at "dn"
    refine ⟨ba, 8, B, c, rfl, e, bx, by decide, by decide, by omega, fun way H1 hway g1 bx1 => ?_⟩
    have kw1 := kw.frame g1 nof
    walk_at "dn"
    refine r_wget kw1.ins wkv_many ?_
    walk_at "dn"
    refine ⟨ba, n, B, _, rfl, g1.bh, bx1, by omega, by omega, by omega, fun pl H2 hpl g2 bx2 => ?_⟩
    have kw2 := kw1.frame g2 nof
    have g12 := g1.trans g2
    have rest : ∀ {G : VK}, way ≠ 0 → ¬ way = 1 → (∀ v H', Q v H' → G v H') → sp_l_weighed [.ref ba, .ref wd] H2 G E0 := fun {G} _ _ hG => ⟨ba, wd, B, _, n, ks, past, _, rfl, g2.bh, bx2, ⟨wt, wp, pa, pq, os, rfl, kw2⟩, ok, hbo, by omega, fun v a b wv B3 H3 g3 bx3 hv d3 => hG _ _ (q v (.weigh a b wv) B3 H3 (g12.trans g3) (bx3.more (by omega)) hv d3)⟩
    walk_at "dn"
    refine ⟨rfl, ?_⟩
    walk_at "dn"
    rw [show decide (V.int (way : Int) = V.int 0) = decide (way = 0) from nat_eq way 0]
    refine ite2 (fun cc => ?_) (fun cc => ?_)
    · walk_at "dn"
      exact r_tup1 g2.bh (.str _) fun p B3 H3 g3 _ d3 => q _ .undo B3 H3 (g12.trans (Gro.of g3)) ((bx2.grow g3 (fun z => z)).more (by omega)) trivial d3
    · have h0 : way ≠ 0 := by simpa using cc
      walk_at "dn"
      refine ⟨rfl, ?_⟩
      walk_at "dn"
      rw [show decide (V.int (way : Int) = V.int 1) = decide (way = 1) from nat_eq way 1]
      by_cases h1 : way = 1
      · rw [decide_eq_true h1]
        walk_at "dn"
        refine r_wget kw2.ins wkv_posts ?_
        refine r_notInM kw2.ps ?_
        walk_at "dn"
        by_cases hin : pl ∈ ks.ps
        · rw [decide_eq_true hin]
          show if (!true) = true then _ else _
          rw [Bool.not_true]
          walk_at "dn"
          refine ⟨rfl, ?_⟩
          walk_at "dn"
          rw [show decide (V.int (way : Int) = V.int 1) = decide (way = 1) from nat_eq way 1, decide_eq_true h1]
          walk_at "dn"
          refine r_lst (ds := [.str "put", .str "take"]) g2.bh (.two (.str _) (.str _)) (by show 2 ≤ 100000; decide) fun L B3 H3 g3 _ d3 => ?_
          have kw3 := kw2.grow g3
          walk_at "dn"
          refine r_wget kw3.ins wkv_posts ?_
          refine r_inM kw3.ps ?_
          rw [decide_eq_true hin]
          walk_at "dn"
          refine r_ixL (i := 1) g3.bh d3 rfl fun vk hvk => ?_
          cases hvk
          walk_at "dn"
          refine r_tup2 g3.bh (.str _) (.int _) fun p B4 H4 g4 _ d4 => ?_
          exact q _ (.take pl) B4 H4 ((g12.trans (Gro.of g3)).trans (Gro.of g4)) (((bx2.grow g3 (fun z => z)).grow g4 (fun z => z)).more (by omega)) ⟨hpl, hin⟩ d4
        · rw [decide_eq_false hin]
          show if (!false) = true then _ else _
          rw [Bool.not_false]
          walk_at "dn"
          refine r_wget kw2.ins wkv_posts ?_
          walk_at "dn"
          refine ⟨wp, _, rfl, .inl (SqL.of kw2.ps), ?_⟩
          walk_at "dn"
          refine ite2 (fun c3 => ?_) (fun c3 => ?_)
          · walk_at "dn"
            exact r_tup1 g2.bh (.str _) fun p B3 H3 g3 _ d3 => q _ .undo B3 H3 (g12.trans (Gro.of g3)) ((bx2.grow g3 (fun z => z)).more (by omega)) trivial d3
          · walk_at "dn"
            refine ⟨rfl, ?_⟩
            walk_at "dn"
            rw [show decide (V.int (way : Int) = V.int 1) = decide (way = 1) from nat_eq way 1, decide_eq_true h1]
            walk_at "dn"
            refine r_lst (ds := [.str "put", .str "take"]) g2.bh (.two (.str _) (.str _)) (by show 2 ≤ 100000; decide) fun L B3 H3 g3 _ d3 => ?_
            have kw3 := kw2.grow g3
            walk_at "dn"
            refine r_wget kw3.ins wkv_posts ?_
            refine r_inM kw3.ps ?_
            rw [decide_eq_false hin]
            walk_at "dn"
            refine r_ixL (i := 0) g3.bh d3 rfl fun vk hvk => ?_
            cases hvk
            walk_at "dn"
            refine r_tup2 g3.bh (.str _) (.int _) fun p B4 H4 g4 _ d4 => ?_
            exact q _ (.put pl) B4 H4 ((g12.trans (Gro.of g3)).trans (Gro.of g4)) (((bx2.grow g3 (fun z => z)).grow g4 (fun z => z)).more (by omega)) ⟨hpl, hin⟩ d4
      · rw [decide_eq_false h1]
        walk_at "dn"
        refine ⟨rfl, ?_⟩
        walk_at "dn"
        rw [show decide (V.int (way : Int) = V.int 1) = decide (way = 1) from nat_eq way 1, decide_eq_false h1]
        walk_at "dn"
        exact rest h0 h1 fun v H' h => h
def sp_l_fair : Sp := fun vs H Q _ => ∃ (ba wd : Addr) (B : Hp) (c n : Nat) (k : KS) (past : List KS) (own : List Addr), vs = [.ref ba, .ref wd] ∧ Ex B H ∧ Bx B H ba c ∧ WdE B H n wd k past own ∧ KOk n k ∧ ba ∉ own ∧ c + 30 ≤ 1000000 ∧
  ∀ v d B' H', Gof (fun a => a = ba) B H B' H' → Bx B' H' ba (c + 30) → Valid n k d → D B' v (dDd d) → Q v H'
theorem ok_l_fair (R : Raw K mg "_law_fair" "_law_fair" s_l_fair ["_law_box_here", "_law_world_here"]) (T : TB mg) (c_l_deed : DefT P w K mg base "_law_deed" 3 ["_law_box_here", "_law_world_here"] sp_l_deed) (c_l_weighed : DefT P w K mg base "_law_weighed" 2 ["_law_box_here", "_law_world_here"] sp_l_weighed) : DefT P w K mg base "_law_fair" 4 ["_law_box_here", "_law_world_here"] sp_l_fair := by
  refine R.ok fun f fd F => F.ok sc_l_fair (fun vs H Q E h => ?_) (fun cdv A outer s H vs Q E hr h => ?_)
  · obtain ⟨_, _, _, _, _, _, _, _, rfl, _⟩ := h
    rfl
  · obtain ⟨ba, wd, B, c, n, ks, past, own, rfl, e, bx, we, ok, hbo, hc, q⟩ := h
    refine ⟨_, (pss_cons (ps_set (i := 2) sc_l_fair.nd rfl (by first | exact Or.inl rfl | exact Or.inr rfl) (k_call c_l_deed hr (pa_cons (pv 0) (pa_cons (pv 1) pa_nil))))
  (pss_cons (ps_if (PW.pt (pw_and (pt_cmpR op_eq (pe_ix (k_ixT (K := K)) (pv 2) pe_int (fun _ _ => rfl)) pe_str (nomark _)) (pw_and1 (pt_cmpR op_eq (pe_callB (k_len (K := K)) (by rfl) T.z_len (by decide +kernel) (pa_cons (pe_dget (hu_of hr) (pv 1) pe_str (fun _ _ => rfl)) pa_nil)) pe_int (nomark _))))) (pss_one (ps_ret (k_call c_l_weighed hr (pa_cons (pv 0) (pa_cons (pv 1) pa_nil))))) pss_nil)
  (pss_one (ps_ret (pv 2))))), ?_⟩
    have nof : ∀ a ∈ own, ¬ a = ba := fun a ha z => hbo (z ▸ ha)
    walk_at "dn"
    refine ⟨ba, wd, B, c, n, ks, past, own, rfl, e, bx, we, ok, hbo, by omega, fun vd d B1 H1 g1 bx1 hd d1 => ?_⟩
    have we1 := we.grow g1 nof
    obtain ⟨wt, wp, pa, pq, os, eo, kw⟩ := we1
    walk_at "dn"
    cases d with
    | undo =>
      refine r_ixT (i := 0) g1.bh d1 rfl fun v hv => ?_
      cases hv
      walk_at "dn"
      refine ⟨rfl, ?_⟩
      walk_at "dn"
      rw [str_ne (by decide : ("undo" : Str) ≠ "take")]
      walk_at "dn"
      exact q vd .undo B1 H1 g1 (bx1.more (by omega)) trivial d1
    | put p =>
      refine r_ixT (i := 0) g1.bh d1 rfl fun v hv => ?_
      cases hv
      walk_at "dn"
      refine ⟨rfl, ?_⟩
      walk_at "dn"
      rw [str_ne (by decide : ("put" : Str) ≠ "take")]
      walk_at "dn"
      exact q vd (.put p) B1 H1 g1 (bx1.more (by omega)) hd d1
    | weigh a b wv =>
      refine r_ixT (i := 0) g1.bh d1 rfl fun v hv => ?_
      cases hv
      walk_at "dn"
      refine ⟨rfl, ?_⟩
      walk_at "dn"
      rw [str_ne (by decide : ("weigh" : Str) ≠ "take")]
      walk_at "dn"
      exact q vd (.weigh a b wv) B1 H1 g1 (bx1.more (by omega)) hd d1
    | take p =>
      refine r_ixT (i := 0) g1.bh d1 rfl fun v hv => ?_
      cases hv
      walk_at "dn"
      refine ⟨rfl, ?_⟩
      walk_at "dn"
      rw [str_eq]
      walk_at "dn"
      refine r_wget kw.ins wkv_posts ?_
      walk_at "dn"
      refine ⟨wp, _, rfl, .inl (SqL.of kw.ps), ?_⟩
      walk_at "dn"
      refine ⟨rfl, ?_⟩
      walk_at "dn"
      have l2 : (vN ks.ps).length = ks.ps.length := by unfold vN; rw [List.length_map]
      rw [int_eq, l2]
      refine ite2 (fun cc => ?_) (fun cc => ?_)
      · walk_at "dn"
        exact ⟨ba, wd, B1, _, n, ks, past, own, rfl, g1.bh, bx1, ⟨wt, wp, pa, pq, os, eo, kw⟩, ok, hbo, by omega, fun v a b wv B3 H3 g3 bx3 hv d3 => q v (.weigh a b wv) B3 H3 (g1.trans g3) (bx3.more (by omega)) hv d3⟩
      · have h2 : ks.ps.length ≠ 2 := fun z => cc (decide_eq_true (by omega))
        walk_at "dn"
        exact q vd (.take p) B1 H1 g1 (bx1.more (by omega)) ⟨hd.1, hd.2, h2⟩ d1
def sp_l_do (C : Addr) : Sp := fun vs H Q _ => ∃ (x : Addr) (vd : V) (B : Hp) (n : Nat) (k : KS) (past : List KS) (own : List Addr) (d : Dd), vs = [.ref x, vd] ∧ Ex B H ∧ KpE C B H n x k past own ∧ KOk n k ∧ Has k ∧ PastOk n past ∧ D B vd (dDd d) ∧ Valid n k d ∧ past.length ≤ 1000 ∧
  ∀ v B' H' own', Gof (fun a => a ∈ own) B H B' H' → (∀ a ∈ own', a ∈ own ∨ H a = none) → KpE C B' H' n x (stepK k past d).1 (stepK k past d).2 own' → Has (stepK k past d).1 → D B' v (ansD k past d) → Q v H'
theorem ok_l_do (R : Raw K mg "_law_do" "_law_do" s_l_do ["_law_keeper", "_law_deed_here"]) (T : TB mg) (c_K_weigh : MethT P w K mg base C "weigh" 7 ["self", "a", "b", "weight"] (sp_K_weigh C)) (c_K_put_post : MethT P w K mg base C "put_post" 8 ["self", "place"] (sp_K_put_post C)) (c_K_take_post : MethT P w K mg base C "take_post" 8 ["self", "place"] (sp_K_take_post C)) (c_K_undo : MethT P w K mg base C "undo" 2 ["self"] (sp_K_undo C)) :
    DefT P w K mg base "_law_do" 9 ["_law_keeper", "_law_deed_here"] (sp_l_do C) := by
  refine R.ok fun f fd F => F.ok sc_l_do (fun vs H Q E h => ?_) (fun cdv A outer s H vs Q E hr h => ?_)
  · obtain ⟨_, _, _, _, _, _, _, _, rfl, _⟩ := h
    rfl
  · obtain ⟨x, vd, B, n, ks, past, own, d, rfl, e, ke, ok, has, po, dd, hv, hpl, q⟩ := h
    refine ⟨_, (pss_cons (ps_if (pt_cmpR op_eq (pe_ix (k_ixT (K := K)) (pv 1) pe_int (fun _ _ => rfl)) pe_str (nomark _)) (pss_one (ps_ret (k_meth c_K_weigh hr (pv 0) (pa_cons (pe_ix (k_ixT (K := K)) (pv 1) pe_int (fun _ _ => rfl)) (pa_cons (pe_ix (k_ixT (K := K)) (pv 1) pe_int (fun _ _ => rfl)) (pa_cons (pe_ix (k_ixT (K := K)) (pv 1) pe_int (fun _ _ => rfl)) pa_nil)))))) pss_nil)
  (pss_cons (ps_if (pt_cmpR op_eq (pe_ix (k_ixT (K := K)) (pv 1) pe_int (fun _ _ => rfl)) pe_str (nomark _)) (pss_one (ps_ret (k_meth c_K_put_post hr (pv 0) (pa_cons (pe_ix (k_ixT (K := K)) (pv 1) pe_int (fun _ _ => rfl)) pa_nil)))) pss_nil)
  (pss_cons (ps_if (pt_cmpR op_eq (pe_ix (k_ixT (K := K)) (pv 1) pe_int (fun _ _ => rfl)) pe_str (nomark _)) (pss_one (ps_ret (k_meth c_K_take_post hr (pv 0) (pa_cons (pe_ix (k_ixT (K := K)) (pv 1) pe_int (fun _ _ => rfl)) pa_nil)))) pss_nil)
  (pss_one (ps_ret (k_meth0 c_K_undo hr (pv 0))))))), ?_⟩
    obtain ⟨wa, ka, pa, vp, vseen, pq, os, eo, kp⟩ := id ke
    obtain ⟨dx, hx⟩ := kp.ins
    walk_at "dn"
    cases d with
    | undo =>
      refine r_ixT (i := 0) e dd rfl fun v hv => ?_
      cases hv
      walk_at "dn"
      refine ⟨rfl, ?_⟩
      walk_at "dn"
      rw [str_ne (by decide : ("undo" : Str) ≠ "weigh")]
      walk_at "dn"
      refine r_ixT (i := 0) e dd rfl fun v hv => ?_
      cases hv
      walk_at "dn"
      refine ⟨rfl, ?_⟩
      walk_at "dn"
      rw [str_ne (by decide : ("undo" : Str) ≠ "put")]
      walk_at "dn"
      refine r_ixT (i := 0) e dd rfl fun v hv => ?_
      cases hv
      walk_at "dn"
      refine ⟨rfl, ?_⟩
      walk_at "dn"
      rw [str_ne (by decide : ("undo" : Str) ≠ "take")]
      walk_at "dn"
      refine ⟨x, dx, _, rfl, hx, by rfl, ?_⟩
      walk_at "dn"
      refine ⟨x, B, n, ks, past, own, rfl, e, ke, ?_⟩
      rcases List.eq_nil_or_concat past with hpast | ⟨past0, k0, hpast⟩
      · subst hpast
        exact .inl ⟨rfl, q .non B H own (Gof.refl e) (fun a ha => .inl ha) ke has .non⟩
      · have hpast : past = past0 ++ [k0] := by rw [hpast, List.concat_eq_append]
        subst hpast
        have es : stepK ks (past0 ++ [k0]) .undo = (k0, past0) := by
          unfold stepK
          rw [List.getLast?_concat, List.dropLast_concat]
        have ea : ansD ks (past0 ++ [k0]) .undo = .list ((diffK ks k0).map dDiff) := by
          unfold ansD
          cases past0 with
          | nil => rfl
          | cons z zs =>
            show PyData.list ((diffK ks (stepK ks (z :: zs ++ [k0]) .undo).1).map dDiff) = _
            rw [es]
        rw [es, ea] at q
        exact .inr ⟨past0, k0, rfl, fun v B' H' own' g ho ke' d' => q v B' H' own' g (fun a ha => .inl (ho a ha)) ke' (po k0 (by simp)).2 d'⟩
    | put p =>
      refine r_ixT (i := 0) e dd rfl fun v hv => ?_
      cases hv
      walk_at "dn"
      refine ⟨rfl, ?_⟩
      walk_at "dn"
      rw [str_ne (by decide : ("put" : Str) ≠ "weigh")]
      walk_at "dn"
      refine r_ixT (i := 0) e dd rfl fun v hv => ?_
      cases hv
      walk_at "dn"
      refine ⟨rfl, ?_⟩
      walk_at "dn"
      rw [str_eq]
      walk_at "dn"
      refine ⟨x, dx, _, rfl, hx, by rfl, ?_⟩
      walk_at "dn"
      refine r_ixT (i := 1) e dd rfl fun v hv => ?_
      cases hv
      walk_at "dn"
      exact ⟨x, B, n, ks, past, own, p, rfl, e, ke, ok, hpl, hv.1, hv.2, q⟩
    | take p =>
      refine r_ixT (i := 0) e dd rfl fun v hv => ?_
      cases hv
      walk_at "dn"
      refine ⟨rfl, ?_⟩
      walk_at "dn"
      rw [str_ne (by decide : ("take" : Str) ≠ "weigh")]
      walk_at "dn"
      refine r_ixT (i := 0) e dd rfl fun v hv => ?_
      cases hv
      walk_at "dn"
      refine ⟨rfl, ?_⟩
      walk_at "dn"
      rw [str_ne (by decide : ("take" : Str) ≠ "put")]
      walk_at "dn"
      refine r_ixT (i := 0) e dd rfl fun v hv => ?_
      cases hv
      walk_at "dn"
      refine ⟨rfl, ?_⟩
      walk_at "dn"
      rw [str_eq]
      walk_at "dn"
      refine ⟨x, dx, _, rfl, hx, by rfl, ?_⟩
      walk_at "dn"
      refine r_ixT (i := 1) e dd rfl fun v hv => ?_
      cases hv
      walk_at "dn"
      exact ⟨x, B, n, ks, past, own, p, rfl, e, ke, ok, hpl, hv.1, hv.2.1, hv.2.2, q⟩
    | weigh a b wv =>
      refine r_ixT (i := 0) e dd rfl fun v hv => ?_
      cases hv
      walk_at "dn"
      refine ⟨rfl, ?_⟩
      walk_at "dn"
      rw [str_eq]
      walk_at "dn"
      refine ⟨x, dx, _, rfl, hx, by rfl, ?_⟩
      walk_at "dn"
      refine r_ixT (i := 1) e dd rfl fun v hv => ?_
      cases hv
      walk_at "dn"
      refine r_ixT (i := 2) e dd rfl fun v hv => ?_
      cases hv
      walk_at "dn"
      refine r_ixT (i := 3) e dd rfl fun v hv => ?_
      cases hv
      walk_at "dn"
      exact ⟨x, B, n, ks, past, own, a, b, wv, rfl, e, ke, ok, has, hpl, hv.1, hv.2.1, hv.2.2, q⟩
def sp_l_told (C : Addr) : Sp := fun vs H Q _ => ∃ (x : Addr) (B : Hp) (n : Nat) (k : KS) (past : List KS) (own : List Addr), vs = [.ref x] ∧ Ex B H ∧ KpE C B H n x k past own ∧ KOk n k ∧ ∀ v B' H', Gro B H B' H' → D B' v (toldD n k) → Q v H'
theorem ok_l_told (R : Raw K mg "_law_told" "_law_told" s_l_told ["_law_keeper"]) (T : TB mg) (c_K_singles_now : MethT P w K mg base C "singles_now" 6 ["self"] (sp_K_singles_now C)) (c_K_web_now : MethT P w K mg base C "web_now" 1 ["self"] (sp_K_web_now C)) (c_K_posts_now : MethT P w K mg base C "posts_now" 1 ["self"] (sp_K_posts_now C)) (c_K_parting_now : MethT P w K mg base C "parting_now" 7 ["self"] (sp_K_parting_now C)) :
    DefT P w K mg base "_law_told" 8 ["_law_keeper"] (sp_l_told C) := by
  refine R.ok fun f fd F => F.ok sc_l_told (fun vs H Q E h => ?_) (fun cdv A outer s H vs Q E hr h => ?_)
  · obtain ⟨_, _, _, _, _, _, rfl, _⟩ := h
    rfl
  · obtain ⟨x, B, n, ks, past, own, rfl, e, ⟨wa, ka, pa, vp, vseen, pq, os, rfl, kp⟩, ok, k⟩ := h
    refine ⟨_, (pss_cons (ps_setLc (i := 1) (own := [("_law_value", 2), ("_law_amounts", 3), ("_law_side", 4)]) (g := (gTup K 3 (gCons (gName 2) (gCons (gName 3) (gCons (gName 4) gNil))))) (by rfl) sc_l_told.nd rfl rfl (sw_true rfl rfl rfl (by decide +kernel)) (k_ilist (K := K) (k_meth0 c_K_singles_now hr (pv 0))) (blkOk_by (N := nm_l_told) (sc := defScope s_l_told) (by decide +kernel)) (fun _ _ _ _ _ => (k_gtup (K := K) (by rfl) (pgs_cons (pg_name (i := 2) sc_l_told.nd rfl (by first | exact Or.inl rfl | exact Or.inr rfl)) (pgs_cons (pg_name (i := 3) sc_l_told.nd rfl (by first | exact Or.inl rfl | exact Or.inr rfl)) (pgs_cons (pg_name (i := 4) sc_l_told.nd rfl (by first | exact Or.inl rfl | exact Or.inr rfl)) pgs_nil))))) (fun _ _ _ _ _ => pts_nil) (fun _ _ _ _ _ => (pe_tup (pa_cons (pv 2) (pa_cons (pv 4) pa_nil)))))
  (pss_one (ps_ret (pe_lst (pa_cons (k_meth0 c_K_web_now hr (pv 0)) (pa_cons (k_meth0 c_K_posts_now hr (pv 0)) (pa_cons (pv 1) (pa_cons (k_meth0 c_K_parting_now hr (pv 0)) pa_nil)))))))), ?_⟩
    have hl := ok.len
    have ht := ok.two
    obtain ⟨dx, hx⟩ := kp.ins
    walk_at "dn"
    have cutsD : ∀ l : List Paper, l.length = ks.ps.length → (∀ (i q : Nat), ks.ps[i]? = some q → ∃ am : List Int, l[i]? = some (valK ks q, am, sideK ks q)) → (l.map fun p => PyData.tuple [.int p.1, dL p.2.2]) = ks.ps.map fun q => .tuple [.int (valK ks q), dL (sideK ks q)] := fun l hll hall => by
      apply List.ext_getElem?
      intro i
      rw [List.getElem?_map, List.getElem?_map]
      cases hq : ks.ps[i]? with
      | none => rw [List.getElem?_eq_none (by rw [hll]; exact List.getElem?_eq_none_iff.mp hq)]; rfl
      | some q =>
        obtain ⟨am, h1⟩ := hall i q hq
        rw [h1]
        rfl
    refine w_lcl ?_
    walk_at "dn"
    refine ⟨x, dx, _, rfl, hx, by rfl, ?_⟩
    refine ⟨x, wa, ka, pa, vp, vseen, B, n, ks, rfl, e, kp.kw0 ok.w, kp.pd, by omega, ok.lt, kp.kd, fun v1 B1 H1 l g1 hll hall d1 => ?_⟩
    refine lcL_at (B := B1) (enc := dPaper) (items := l) (p := fun _ => true) (f := fun p => .tuple [.int p.1, dL p.2.2]) g1.bh d1 (by omega) (fun i it y B2 H2 hi g2 hy Y N hY _ => ?_) fun D0 B2 H2 g2 d2 => ?_
    · refine g_tup3 g2.bh hy fun u1 u2 u3 w1 w2 w3 => ?_
      refine ⟨rfl, ?_⟩
      walk_at "dn"
      exact r_tup2 g2.bh w1 w3 fun p B3 H3 g3 _ d3 => hY rfl _ _ _ g3 d3
    rw [filter_yes, cutsD l hll hall] at d2
    have g12 := g1.trans g2
    have kp2 := (kp.g.grow g12).p rfl
    walk_at "dn"
    refine ⟨x, dx, _, rfl, g12.hh _ _ hx, by rfl, ?_⟩
    refine ⟨x, wa, ka, pa, vp, vseen, B2, n, ks.W, rfl, g12.bh, kp2.kw0 ok.w, fun v3 B3 H3 g3 d3 => ?_⟩
    have g13 := g12.trans g3
    walk_at "dn"
    refine ⟨x, dx, _, rfl, g13.hh _ _ hx, by rfl, ?_⟩
    refine ⟨x, wa, ka, pa, vp, vseen, B3, n, dx, ks.ps, rfl, g13.bh, g13.hh _ _ hx, kp.pd.up g13.bb, fun v4 B4 H4 g4 d4 => ?_⟩
    have g14 := g13.trans g4
    have kp4 := (kp.g.grow g14).p rfl
    walk_at "dn"
    refine ⟨x, dx, _, rfl, g14.hh _ _ hx, by rfl, ?_⟩
    refine ⟨x, wa, ka, pa, vp, vseen, B4, n, ks, rfl, g14.bh, kp4.kw0 ok.w, kp4.pd, by omega, by omega, ok.lt, fun v5 B5 H5 g5 d5 => ?_⟩
    walk_at "dn"
    refine r_lst (ds := [dWeb n (tiesOf ks.W), dL ks.ps, .list (ks.ps.map fun q => .tuple [.int (valK ks q), dL (sideK ks q)]), .tuple [.int (cutW (tiesOf ks.W) (cutK n ks)), dPairs (cutK n ks)]]) g5.bh ?_ (by show 4 ≤ 100000; decide) fun L B6 H6 g6 _ d6 => ?_
    · exact .cons (d3.up (g4.trans g5).bb) (.cons (d4.up g5.bb) (.cons (d2.up ((g3.trans g4).trans g5).bb) (.cons d5 .nil)))
    · exact k _ _ _ ((g14.trans g5).trans g6) d6
def sp_l_anew (C : Addr) : Sp := sp_l_told C
theorem ok_l_anew (R : Raw K mg "_law_anew" "_law_anew" s_l_anew ["_law_keeper"]) (T : TB mg) (c_l_told : DefT P w K mg base "_law_told" 8 ["_law_keeper"] (sp_l_told C)) (c_K_web_now : MethT P w K mg base C "web_now" 1 ["self"] (sp_K_web_now C)) (c_K_posts_now : MethT P w K mg base C "posts_now" 1 ["self"] (sp_K_posts_now C)) (c_K_init : MakeT P w K mg base C "Keeper" 7 ["self", "web", "posts"] (sp_K_init C)) :
    DefT P w K mg base "_law_anew" 9 ["_law_keeper"] (sp_l_anew C) := by
  refine R.ok fun f fd F => F.ok sc_l_anew (fun vs H Q E h => ?_) (fun cdv A outer s H vs Q E hr h => ?_)
  · obtain ⟨_, _, _, _, _, _, rfl, _⟩ := h
    rfl
  · obtain ⟨x, B, n, ks, past, own, rfl, e, ⟨wa, ka, pa, vp, vseen, pq, os, rfl, kp⟩, ok, k⟩ := h
    refine ⟨_, (pss_one (ps_ret (k_call c_l_told hr (pa_cons (k_make c_K_init hr (pa_cons (k_meth0 c_K_web_now hr (pv 0)) (pa_cons (k_meth0 c_K_posts_now hr (pv 0)) pa_nil))) pa_nil)))), ?_⟩
    obtain ⟨dx, hx⟩ := kp.ins
    walk_at "dn"
    refine ⟨x, dx, _, rfl, hx, by rfl, ?_⟩
    refine ⟨x, wa, ka, pa, vp, vseen, B, n, ks.W, rfl, e, kp.kw0 ok.w, fun v1 B1 H1 g1 d1 => ?_⟩
    walk_at "dn"
    refine ⟨x, dx, _, rfl, g1.hh _ _ hx, by rfl, ?_⟩
    refine ⟨x, wa, ka, pa, vp, vseen, B1, n, dx, ks.ps, rfl, g1.bh, g1.hh _ _ hx, kp.pd.up g1.bb, fun v2 B2 H2 g2 d2 => ?_⟩
    have g02 := g1.trans g2
    walk_at "dn"
    intro y dy hy hdy hne
    have g3 := g02.trans (gro_mut (o := .own y) g02.bh hdy)
    have hy1 : upd H2 dy (.own y) y = none := by rw [upd_ne (Ne.symm hne)]; exact hy
    have g4 := g3.trans (gro_mut (o := .ins C dy []) g3.bh hy1)
    refine ⟨y, v1, v2, dy, B2, n, ks, rfl, g4.bh, upd_same, g02.bh.back hy, d1.up g2.bb, d2, ok, fun B5 H5 own5 g5 ho ke5 has5 => ?_⟩
    have g6 : Gro B H B5 H5 := g4.trans g5 fun z hz => .inr (by rw [hz]; exact g02.back hy)
    refine ⟨rfl, ?_⟩
    walk_at "dn"
    exact ⟨y, B5, n, ks, [], own5, rfl, g6.bh, ke5, ok, fun v B' H' g d => k v B' H' (g6.trans g) d⟩
end
end KPR
set_option Elab.async false
set_option linter.all false
set_option maxRecDepth 100000
set_option maxHeartbeats 4000000
/-! W24: there and back. -/
namespace KPR
open PySem L2
local macro_rules | `(tactic| walk_at "dn") => `(tactic| repeat (first
  | (with_reducible refine w_seq ?_) | (with_reducible refine w_asg ?_) | (with_reducible refine w_drop ?_) | (with_reducible refine w_ret ?_) | (with_reducible refine w_ifs ?_)
  | ((with_reducible refine' w_var ?hv ?_); (case hv => exact rfl)) | (with_reducible refine w_c ?_) | (with_reducible refine w_op ?_) | (with_reducible refine w_un ?_) | (with_reducible refine w_cb ?_)
  | (with_reducible refine w_nil ?_) | (with_reducible refine w_cons ?_) | (with_reducible refine w_gname ?_) | (with_reducible refine w_test ?_) | (with_reducible refine w_b ?_) | (with_reducible refine w_exbl ?_)
  | (with_reducible refine w_and ?_) | (with_reducible refine w_or ?_) | (with_reducible refine w_not ?_) | (with_reducible refine w_if ?_) | (with_reducible refine w_andV ?_) | (with_reducible refine w_orV ?_) | (with_reducible refine w_notV ?_)
  | (with_reducible refine w_tup ?_) | (with_reducible refine w_lst ?_) | (with_reducible refine w_dnewK ?_) | (with_reducible refine w_dnewT ?_) | (with_reducible refine w_din ?_) | (with_reducible refine w_dnin ?_) | (with_reducible refine w_dget ?_) | (with_reducible refine w_dget2 ?_)
  | (with_reducible refine w_fld ?_) | (with_reducible refine w_cal ?_) | (with_reducible refine w_met ?_) | (with_reducible refine w_mak ?_) | (with_reducible refine w_bm ?_) | (with_reducible refine w_bm0 ?_) | (with_reducible refine w_sl ?_)
  | (with_reducible refine w_nopart ?_) | (with_reducible refine w_part ?_) | (with_reducible refine w_sfld ?_) | (with_reducible refine w_dput ?_) | ((with_reducible refine' w_aug ?hv ?_); (case hv => exact rfl)) | (with_reducible refine w_iT ?_) | (with_reducible refine w_iF ?_)
  | (with_reducible refine w_ii0 ?_) | (with_reducible refine w_neg ?_) | (with_reducible refine w_ip ?_) | (with_reducible refine w_yes ?_) | (with_reducible refine w_for ?_) | (with_reducible refine w_ilist ?_) | (with_reducible refine w_itup ?_) | (with_reducible refine w_irng1 ?_) | (with_reducible refine w_irng2 ?_) | (with_reducible refine w_ienum ?_) | (with_reducible refine w_ienumT ?_)
  | (with_reducible refine w_ckw ?_) | (with_reducible refine w_gd ?_) | (with_reducible refine w_chain ?_) | (with_reducible refine w_max2 ?_) | (with_reducible refine w_min2 ?_) | (with_reducible refine w_int1 ?_) | (with_reducible refine w_gsub ?_) | (with_reducible refine w_par ?_) | (with_reducible refine w_lcr1 ?_) | (with_reducible refine w_pcons ?_) | (with_reducible refine w_pnil ?_) | (with_reducible refine w_next ?_)))

theorem ties_at {n : Nat} {W : Wt} (w : WOk n W) {r : Nat} {t : Tie} (h : (tiesOf W)[r]? = some t) : t.2.2 = W (t.1, t.2.1) ∧ t.1 < t.2.1 ∧ t.2.1 < n ∧ 0 < t.2.2 := by
  have hm := List.mem_of_getElem? h
  unfold tiesOf at hm
  obtain ⟨p, hp, rfl⟩ := List.mem_map.mp hm
  have := w.ok p ((mem_supp w).mp hp)
  exact ⟨rfl, this.1, this.2.1, this.2.2⟩
theorem ties_len {n : Nat} {W : Wt} (w : WOk n W) : (tiesOf W).length ≤ 45 := by
  unfold tiesOf
  rw [List.length_map]
  exact supp_len w
theorem wput_back (W : Wt) (p : Pr) (x : Int) : wput (wput W p x) p (W p) = W := by
  funext q
  unfold wput
  by_cases h : q = p
  · rw [if_pos h, h]
  · rw [if_neg h, if_neg h]
theorem diff_len (a b : KS) : (diffK a b).length ≤ 10 := by
  unfold diffK
  rw [List.length_map]
  refine Nat.le_trans (List.length_filter_le _ _) ?_
  unfold sortN
  exact Nat.le_trans (List.length_filter_le _ _) (by rw [List.length_range]; exact Nat.le_refl _)
theorem lc_st {I : TI} {g : TG} {tt : TT} {te : TE} {vs : List Nat} {σ σ' : St} {H : Hp} {Q : VK} (h : σ = σ') (k : tLc I g tt te vs σ' H Q) : tLc I g tt te vs σ H Q := h ▸ k
section
variable {P : Program} {w : World} {K : PySem.W.Frag} {mg : Str → Option Value} {base : Heap} {C Cf : Addr}
def sp_l_there (C : Addr) : Sp := fun vs H Q _ => ∃ (ba x : Addr) (B : Hp) (c n : Nat) (k : KS) (past : List KS) (own : List Addr), vs = [.ref ba, .ref x] ∧ Ex B H ∧ Bx B H ba c ∧ KpE C B H n x k past own ∧ KOk n k ∧ Has k ∧ PastOk n past ∧ ba ∉ own ∧ past.length + 2 ≤ 1000 ∧ c + 5 ≤ 1000000 ∧
  ∀ B' H', Gof (fun a => a = ba ∨ a ∈ own) B H B' H' → Bx B' H' ba (c + 5) → Q (.bl true) H'
theorem ok_l_there_and_back (R : Raw K mg "_law_there_and_back" "_law_there_and_back" s_l_there_and_back ["_law_box_here", "_law_keeper"]) (T : TB mg) (c_l_take : DefT P w K mg base "_law_take" 1 ["_law_box_here", "_law_many"] sp_l_take) (c_l_told : DefT P w K mg base "_law_told" 8 ["_law_keeper"] (sp_l_told C)) (c_K_weigh : MethT P w K mg base C "weigh" 7 ["self", "a", "b", "weight"] (sp_K_weigh C)) :
    DefT P w K mg base "_law_there_and_back" 9 ["_law_box_here", "_law_keeper"] (sp_l_there C) := by
  refine R.ok fun f fd F => F.ok sc_l_there_and_back (fun vs H Q E h => ?_) (fun cdv A outer s H vs Q E hr h => ?_)
  · obtain ⟨_, _, _, _, _, _, _, _, rfl, _⟩ := h
    rfl
  · obtain ⟨ba, x, B, c, n, ks, past, own, rfl, e, bx, ke, ok, has, po, hbo, hpl, hc, q⟩ := h
    refine ⟨_, (pss_cons (ps_set (i := 2) sc_l_there_and_back.nd rfl (by first | exact Or.inl rfl | exact Or.inr rfl) (k_call c_l_told hr (pa_cons (pv 1) pa_nil)))
  (pss_cons (ps_set (i := 3) sc_l_there_and_back.nd rfl (by first | exact Or.inl rfl | exact Or.inr rfl) (pe_ix (k_ixT (K := K)) (pe_ix (k_ixL (K := K)) (pv 2) pe_int (fun _ _ => rfl)) pe_int (fun _ _ => rfl)))
  (pss_cons (ps_if (pt_cmpR (k_eqD (K := K) hr.units) (pv 3) (pe_tup pa_nil) (nomark _)) (pss_one (ps_ret pe_bl)) pss_nil)
  (pss_cons (ps_asg (pe_ix (k_ixT (K := K)) (pv 3) (k_call c_l_take hr (pa_cons (pv 0) (pa_cons (pe_callB (k_len (K := K)) (by rfl) T.z_len (by decide +kernel) (pa_cons (pv 3) pa_nil)) pa_nil))) (fun _ _ => rfl)) (k_gtup (K := K) (by rfl) (pgs_cons (pg_name (i := 4) sc_l_there_and_back.nd rfl (by first | exact Or.inl rfl | exact Or.inr rfl)) (pgs_cons (pg_name (i := 5) sc_l_there_and_back.nd rfl (by first | exact Or.inl rfl | exact Or.inr rfl)) (pgs_cons (pg_name (i := 6) sc_l_there_and_back.nd rfl (by first | exact Or.inl rfl | exact Or.inr rfl)) pgs_nil)))))
  (pss_cons (ps_set (i := 7) sc_l_there_and_back.nd rfl (by first | exact Or.inl rfl | exact Or.inr rfl) (k_meth c_K_weigh hr (pv 1) (pa_cons (pv 4) (pa_cons (pv 5) (pa_cons (pe_ix (k_ixL (K := K)) (pe_lst (pa_cons (pe_callB (k_min2 rfl) (by rfl) T.z_min (by decide +kernel) (pa_cons (pe_op op_pow pe_int pe_int) (pa_cons (pe_op op_add (pv 6) pe_int) pa_nil))) (pa_cons pe_int (pa_cons (pe_callB (k_max2 rfl) (by rfl) T.z_max (by decide +kernel) (pa_cons pe_int (pa_cons (pe_op op_sub (pv 6) pe_int) pa_nil))) pa_nil)))) (k_call c_l_take hr (pa_cons (pv 0) (pa_cons pe_int pa_nil))) (fun _ _ => rfl)) pa_nil)))))
  (pss_cons (ps_set (i := 8) sc_l_there_and_back.nd rfl (by first | exact Or.inl rfl | exact Or.inr rfl) (k_meth c_K_weigh hr (pv 1) (pa_cons (pv 4) (pa_cons (pv 5) (pa_cons (pv 6) pa_nil)))))
  (pss_cons (ps_if (pt_cmpR (k_neD (K := K) hr.units) (pv 8) (pe_lc (own := [("_law_post", 9), ("_law_old", 10), ("_law_new", 11)]) (g := (gTup K 3 (gCons (gName 9) (gCons (gName 10) (gCons (gName 11) gNil))))) (by rfl) sc_l_there_and_back.nd (k_ilist (K := K) (pv 7)) (blkOk_by (N := nm_l_there_and_back) (sc := defScope s_l_there_and_back) (by decide +kernel)) (fun _ _ _ _ _ => (k_gtup (K := K) (by rfl) (pgs_cons (pg_name (i := 9) sc_l_there_and_back.nd rfl (by first | exact Or.inl rfl | exact Or.inr rfl)) (pgs_cons (pg_name (i := 10) sc_l_there_and_back.nd rfl (by first | exact Or.inl rfl | exact Or.inr rfl)) (pgs_cons (pg_name (i := 11) sc_l_there_and_back.nd rfl (by first | exact Or.inl rfl | exact Or.inr rfl)) pgs_nil))))) (fun _ _ _ _ _ => pts_nil) (fun _ _ _ _ _ => (pe_tup (pa_cons (pv 9) (pa_cons (pv 11) (pa_cons (pv 10) pa_nil)))))) (nomark _)) (pss_one (ps_ret pe_bl)) pss_nil)
  (pss_one (ps_ret (pe_cmpR (k_eqD (K := K) hr.units) (k_call c_l_told hr (pa_cons (pv 1) pa_nil)) (pv 2) (nomark _))))))))))), ?_⟩
    have nof : ∀ a ∈ own, ¬ a = ba := fun a ha z => hbo (z ▸ ha)
    walk_at "dn"
    refine ⟨x, B, n, ks, past, own, rfl, e, ke, ok, fun v1 B1 H1 g1 d1 => ?_⟩
    have ke1 := ke.grow g1 fun _ _ z => z
    have bx1 := bx.grow g1 (fun z => z)
    walk_at "dn"
    refine r_ixL (i := 0) g1.bh d1 rfl fun v2 h2 => ?_
    refine r_ixT (i := 1) g1.bh h2 rfl fun v3 h3 => ?_
    walk_at "dn"
    refine r_tup (xs := []) (ds := []) g1.bh .nil (by show 0 ≤ 100000; decide) fun p4 B4 H4 g4 _ d4 => ?_
    refine r_eqD (d1 := .tuple ((tiesOf ks.W).map dTie)) (d2 := .tuple []) g4.bh (h3.up g4.bb) d4 ((Sh.tup (Sh.map fun t _ => sh_dTie t)).ok (by decide)) ((Sh.tup (m := 0) (ds := []) (fun d hd => nomatch hd)).ok (by decide)) ?_
    have g14 := g1.trans g4
    have ke4 := ke1.grow g4 fun _ _ z => z
    have bx4 := bx1.grow g4 (fun z => z)
    walk_at "dn"
    refine ite2 (fun cc => ?_) (fun cc => ?_)
    · walk_at "dn"
      exact q B4 H4 (Gro.of g14) (bx4.more (by omega))
    · have hne : 0 < (tiesOf ks.W).length := by
        cases h : tiesOf ks.W with
        | nil =>
          rw [h] at cc
          exact absurd (by decide) cc
        | cons _ _ => exact Nat.succ_pos _
      have htl := ties_len ok.w
      walk_at "dn"
      refine r_lenT g4.bh (h3.up g4.bb) ?_
      walk_at "dn"
      rw [List.length_map]
      refine ⟨ba, (tiesOf ks.W).length, B4, c, rfl, g4.bh, bx4, hne, by omega, by omega, fun r H5 hr g5 bx5 => ?_⟩
      have ke5 := ke4.grow g5 nof
      obtain ⟨t, ht⟩ : ∃ t, (tiesOf ks.W)[r]? = some t := ⟨_, List.getElem?_eq_getElem hr⟩
      obtain ⟨tw, tab, tbn, tw0⟩ := ties_at ok.w ht
      refine r_ixT (i := r) g5.bh (h3.up g4.bb) (by rw [List.getElem?_map, ht]; rfl) fun v5 h5 => ?_
      refine g_tup3 g5.bh h5 fun u1 u2 u3 w1 w2 w3 => ?_
      cases w1
      cases w2
      cases w3
      walk_at "dn"
      obtain ⟨wa, ka, pa, vp, vseen, pq, os, eo, kp5⟩ := id ke5
      obtain ⟨dx, hx⟩ := kp5.ins
      refine ⟨x, dx, _, rfl, hx, by rfl, ?_⟩
      walk_at "dn"
      refine w_pow ⟨by decide, by decide, by decide⟩ ?_
      walk_at "dn"
      refine r_lst (ds := [.int _, .int _, .int _]) g5.bh (.three (.int _) (.int _) (.int _)) (by show 3 ≤ 100000; decide) fun p6 B6 H6 g6 _ d6 => ?_
      have ke6 := ke5.grow g6 fun _ _ z => z
      have bx6 := bx5.grow g6 (fun z => z)
      walk_at "dn"
      refine ⟨ba, 3, B6, _, rfl, g6.bh, bx6, by decide, by decide, by omega, fun r7 H7 hr7 g7 bx7 => ?_⟩
      have ke7 := ke6.grow g7 nof
      obtain ⟨wv, hwv, hwv0⟩ : ∃ wv : Int, ([PyData.int (if t.2.2 + 3 < 10 ^ 9 then t.2.2 + 3 else 10 ^ 9), PyData.int 0, PyData.int (if t.2.2 - 1 > 0 then t.2.2 - 1 else 0)] : List PyData)[r7]? = some (.int wv) ∧ 0 ≤ wv := by
        match r7, hr7 with
        | 0, _ => exact ⟨_, rfl, by split <;> omega⟩
        | 1, _ => exact ⟨_, rfl, by omega⟩
        | 2, _ => exact ⟨_, rfl, by split <;> omega⟩
      refine r_ixL (i := r7) g7.bh d6 hwv fun v8 h8 => ?_
      cases h8
      walk_at "dn"
      refine ⟨x, B6, n, ks, past, own, t.1, t.2.1, wv, rfl, g7.bh, ke7, ok, has, by omega, tab, tbn, hwv0, fun v9 B9 H9 own9 g9 ho9 ke9 has9 d9 => ?_⟩
      have v1ok : Valid n ks (.weigh t.1 t.2.1 wv) := ⟨tab, tbn, hwv0⟩
      have ok9 : KOk n ⟨wput ks.W (t.1, t.2.1) wv, ks.ps⟩ := step_ok ok po v1ok
      obtain ⟨wa9, ka9, pa9, vp9, vs9, pq9, os9, eo9, kp9⟩ := id ke9
      obtain ⟨dx9, hx9⟩ := kp9.ins
      walk_at "dn"
      refine ⟨x, dx9, _, rfl, hx9, by rfl, ?_⟩
      walk_at "dn"
      refine ⟨x, B9, n, _, _, own9, t.1, t.2.1, t.2.2, rfl, g9.bh, ke9, ok9, has9, by rw [List.length_append, List.length_singleton]; omega, tab, tbn, by omega, fun v10 B10 H10 own10 g10 ho10 ke10 has10 d10 => ?_⟩
      have ek : (⟨wput (wput ks.W (t.1, t.2.1) wv) (t.1, t.2.1) t.2.2, ks.ps⟩ : KS) = ks := by
        rw [tw, wput_back]
      rw [ek] at ke10 has10 d10
      have G4 : Gof (fun a => a = ba ∨ a ∈ own) B H B4 H4 := Gro.of g14
      have G5 : Gof (fun a => a = ba ∨ a ∈ own) B H B4 H5 := G4.trans g5 fun a ha => .inl (.inl ha)
      have G7 : Gof (fun a => a = ba ∨ a ∈ own) B H B6 H7 := (G5.trans (Gro.of g6)).trans g7 fun a ha => .inl (.inl ha)
      have G9 : Gof (fun a => a = ba ∨ a ∈ own) B H B9 H9 := G7.trans g9 fun a ha => .inl (.inr ha)
      have G10 : Gof (fun a => a = ba ∨ a ∈ own) B H B10 H10 := G9.trans g10 fun a ha => by
        rcases ho9 a ha with z | z
        · exact .inl (.inr z)
        · exact .inr (G7.back z)
      generalize (⟨wput ks.W (t.1, t.2.1) wv, ks.ps⟩ : KS) = k1 at d9 d10
      have e10 : (diffK k1 ks).map dDiff = (diffK ks k1).map fun x => PyData.tuple [.int (x.1 : Int), dO x.2.2, dO x.2.1] := by
        rw [diff_swap ks, List.map_map]
        rfl
      have hdl : (diffK ks k1).length ≤ 1000 := Nat.le_trans (diff_len ks k1) (by decide)
      generalize diffK ks k1 = ds at d9 e10 hdl
      walk_at "dn"
      have d9' := d9.up g10.bb
      refine lc_st (σ' := [some (.ref ba), some (.ref x), some v1, some v3, some (.int (t.1 : Int)), some (.int (t.2.1 : Int)), some (.int t.2.2), some v9, some v10, none, none, none]) rfl ?_
      refine r_lcL (B := B10) (enc := dDiff) (items := ds) (p := fun _ => true) (f := fun x => .tuple [.int (x.1 : Int), dO x.2.2, dO x.2.1]) (gv_var rfl g10.bh d9') hdl (fun i it y B2 H2 hi g2 hy Y N hY _ => ?_) fun D0 B11 H11 g11 d11 => ?_
      · refine g_tup3 (d1 := .int (it.1 : Int)) (d2 := dO it.2.1) (d3 := dO it.2.2) g2.bh hy fun u1 u2 u3 w1 w2 w3 => ?_
        refine ⟨rfl, ?_⟩
        walk_at "dn"
        exact r_tup3 g2.bh w1 w3 w2 fun p B3 H3 g3 _ d3 => hY rfl _ _ _ g3 d3
      rw [filter_yes, ← e10] at d11
      have sd := sh_diff (diffK k1 ks)
      refine r_neD g11.bh (d10.up g11.bb) d11 (sd.ok (by decide)) (sd.ok (by decide)) ?_
      rw [eqv_self sd]
      walk_at "dn"
      show if (!true) = true then _ else _
      rw [Bool.not_true]
      walk_at "dn"
      have ke11 := ke10.grow g11 fun _ _ z => z
      refine ⟨x, B11, n, ks, _, own10, rfl, g11.bh, ke11, ok, fun v12 B12 H12 g12 d12 => ?_⟩
      walk_at "dn"
      have G12 := (G10.trans (Gro.of g11)).trans (Gro.of g12)
      have st := sh_told n ks
      refine r_eqD g12.bh d12 (d1.up ((((((g4.bb.trans g5.bb).trans g6.bb).trans g7.bb).trans g9.bb).trans g10.bb).trans (g11.bb.trans g12.bb))) (st.ok (by decide)) (st.ok (by decide)) ?_
      rw [eqv_self st]
      have ho9b : ba ∉ own9 := fun z => by
        rcases ho9 ba z with y | y
        · exact hbo y
        · obtain ⟨_, _, _, z1, _⟩ := bx7.at_
          rw [y] at z1
          cases z1
      have ho10b : ba ∉ own9 := ho9b
      have bx9 := bx7.grow g9 (fun z => hbo z)
      have bx10 := bx9.grow g10 (fun z => ho9b z)
      exact q B12 H12 G12 (((bx10.grow g11 (fun z => z)).grow g12 (fun z => z)).more (by omega))
end
end KPR
set_option Elab.async false
set_option linter.all false
set_option maxRecDepth 100000
set_option maxHeartbeats 4000000
/-! W25: one by one. -/
namespace KPR
open PySem L2
local macro_rules | `(tactic| walk_at "dn") => `(tactic| repeat (first
  | (with_reducible refine w_seq ?_) | (with_reducible refine w_asg ?_) | (with_reducible refine w_drop ?_) | (with_reducible refine w_ret ?_) | (with_reducible refine w_ifs ?_)
  | ((with_reducible refine' w_var ?hv ?_); (case hv => exact rfl)) | (with_reducible refine w_c ?_) | (with_reducible refine w_op ?_) | (with_reducible refine w_un ?_) | (with_reducible refine w_cb ?_)
  | (with_reducible refine w_nil ?_) | (with_reducible refine w_cons ?_) | (with_reducible refine w_gname ?_) | (with_reducible refine w_test ?_) | (with_reducible refine w_b ?_) | (with_reducible refine w_exbl ?_)
  | (with_reducible refine w_and ?_) | (with_reducible refine w_or ?_) | (with_reducible refine w_not ?_) | (with_reducible refine w_if ?_) | (with_reducible refine w_andV ?_) | (with_reducible refine w_orV ?_) | (with_reducible refine w_notV ?_)
  | (with_reducible refine w_tup ?_) | (with_reducible refine w_lst ?_) | (with_reducible refine w_dnewK ?_) | (with_reducible refine w_dnewT ?_) | (with_reducible refine w_din ?_) | (with_reducible refine w_dnin ?_) | (with_reducible refine w_dget ?_) | (with_reducible refine w_dget2 ?_)
  | (with_reducible refine w_fld ?_) | (with_reducible refine w_cal ?_) | (with_reducible refine w_met ?_) | (with_reducible refine w_mak ?_) | (with_reducible refine w_bm ?_) | (with_reducible refine w_bm0 ?_) | (with_reducible refine w_sl ?_)
  | (with_reducible refine w_nopart ?_) | (with_reducible refine w_part ?_) | (with_reducible refine w_sfld ?_) | (with_reducible refine w_dput ?_) | ((with_reducible refine' w_aug ?hv ?_); (case hv => exact rfl)) | (with_reducible refine w_iT ?_) | (with_reducible refine w_iF ?_)
  | (with_reducible refine w_ii0 ?_) | (with_reducible refine w_neg ?_) | (with_reducible refine w_ip ?_) | (with_reducible refine w_yes ?_) | (with_reducible refine w_for ?_) | (with_reducible refine w_ilist ?_) | (with_reducible refine w_itup ?_) | (with_reducible refine w_irng1 ?_) | (with_reducible refine w_irng2 ?_) | (with_reducible refine w_ienum ?_) | (with_reducible refine w_ienumT ?_)
  | (with_reducible refine w_ckw ?_) | (with_reducible refine w_gd ?_) | (with_reducible refine w_chain ?_) | (with_reducible refine w_max2 ?_) | (with_reducible refine w_min2 ?_) | (with_reducible refine w_int1 ?_) | (with_reducible refine w_gsub ?_) | (with_reducible refine w_par ?_) | (with_reducible refine w_lcr1 ?_) | (with_reducible refine w_pcons ?_) | (with_reducible refine w_pnil ?_) | (with_reducible refine w_next ?_)))

theorem da_erase {H : Hp} : ∀ {xs : List V} {ds : List PyData} {i : Nat}, DA H xs ds → DA H (xs.eraseIdx i) (ds.eraseIdx i)
  | _, _, _, .nil => .nil
  | _, _, 0, .cons _ t => t
  | _, _, i + 1, .cons h t => .cons h (da_erase (i := i) t)
/-- the ties still to come, and the weights that stand -/
structure OneI (n : Nat) (W0 W : Wt) (rest : List Tie) : Prop where
  nd : (rest.map prOf).Nodup
  ok : ∀ t ∈ rest, t.2.2 = W0 (prOf t) ∧ t.1 < t.2.1 ∧ t.2.1 < n ∧ 0 < t.2.2
  w : ∀ p, W p = if p ∈ rest.map prOf then 0 else W0 p
theorem OneI.start {n : Nat} {W0 : Wt} (w : WOk n W0) : OneI n W0 (fun _ => 0) (tiesOf W0) := by
  refine ⟨by rw [prOf_ties]; exact supp_nd _, fun t ht => ?_, fun p => ?_⟩
  · obtain ⟨r, hr⟩ := List.mem_iff_getElem?.mp ht
    exact ties_at w hr
  · rw [prOf_ties]
    by_cases h : p ∈ supp W0
    · rw [if_pos h]
    · rw [if_neg h]
      rcases Classical.em (W0 p = 0) with z | z
      · exact z.symm
      · exact absurd ((mem_supp w).mpr z) h
theorem OneI.fin {n : Nat} {W0 W : Wt} (h : OneI n W0 W []) : W = W0 := funext fun p => by
  rw [h.w p, if_neg (by simp)]
theorem OneI.step {n : Nat} {W0 W : Wt} {rest : List Tie} (h : OneI n W0 W rest) {r : Nat} {t : Tie} (ht : rest[r]? = some t) : OneI n W0 (wput W (prOf t) t.2.2) (rest.eraseIdx r) := by
  have hr := (List.getElem?_eq_some_iff.mp ht).1
  have et := (List.getElem?_eq_some_iff.mp ht).2
  have pm := (erase_perm hr).map prOf
  rw [et] at pm
  have nd2 := pm.nodup_iff.mpr h.nd
  rw [List.map_cons] at nd2
  obtain ⟨n1, n2⟩ := List.nodup_cons.mp nd2
  refine ⟨n2, fun u hu => h.ok u ((List.eraseIdx_sublist _ _).subset hu), fun p => ?_⟩
  have hm : p ∈ rest.map prOf ↔ p = prOf t ∨ p ∈ (rest.eraseIdx r).map prOf := by
    rw [← pm.mem_iff, List.map_cons, List.mem_cons]
  unfold wput
  by_cases e : p = prOf t
  · rw [if_pos e, if_neg (by rw [e]; exact n1), e]
    exact (h.ok t (List.mem_of_getElem? ht)).1
  · rw [if_neg e, h.w p]
    by_cases h2 : p ∈ (rest.eraseIdx r).map prOf
    · rw [if_pos h2, if_pos (hm.mpr (.inr h2))]
    · rw [if_neg h2, if_neg fun z => (hm.mp z).elim e h2]
theorem wok0 {n : Nat} (hn : n ≤ 10) : WOk n (fun _ => 0) := ⟨hn, fun p h => absurd rfl h⟩
theorem ties0 : tiesOf (fun _ => 0) = [] := by
  unfold tiesOf supp
  rw [List.map_eq_nil_iff, List.filter_eq_nil_iff]
  intro p _
  simp
section
variable {P : Program} {w : World} {K : PySem.W.Frag} {mg : Str → Option Value} {base : Heap} {C Cf : Addr}
def sp_l_one (C : Addr) : Sp := fun vs H Q _ => ∃ (ba : Addr) (vw vp : V) (B : Hp) (c n : Nat) (k : KS), vs = [.ref ba, vw, vp] ∧ Ex B H ∧ Bx B H ba c ∧ D B vw (dWeb n (tiesOf k.W)) ∧ D B vp (dL k.ps) ∧ KOk n k ∧ c + 50 ≤ 1000000 ∧
  ∀ B' H', Gof (fun a => a = ba) B H B' H' → Bx B' H' ba (c + 50) → Q (.bl true) H'
theorem ok_l_one_by_one (R : Raw K mg "_law_one_by_one" "_law_one_by_one" s_l_one_by_one ["_law_box_here", "_law_web_here", "_law_posts_here"]) (T : TB mg) (c_l_take : DefT P w K mg base "_law_take" 1 ["_law_box_here", "_law_many"] sp_l_take) (c_l_told : DefT P w K mg base "_law_told" 8 ["_law_keeper"] (sp_l_told C)) (c_K_weigh : MethT P w K mg base C "weigh" 7 ["self", "a", "b", "weight"] (sp_K_weigh C)) (c_K_init : MakeT P w K mg base C "Keeper" 7 ["self", "web", "posts"] (sp_K_init C)) :
    DefT P w K mg base "_law_one_by_one" 9 ["_law_box_here", "_law_web_here", "_law_posts_here"] (sp_l_one C) := by
  refine R.ok fun f fd F => F.ok sc_l_one_by_one (fun vs H Q E h => ?_) (fun cdv A outer s H vs Q E hr h => ?_)
  · obtain ⟨_, _, _, _, _, _, _, rfl, _⟩ := h
    rfl
  · obtain ⟨ba, vw, vp, B, c, n, ks, rfl, e, bx, hw, hp, ok, hc, q⟩ := h
    refine ⟨_, (pss_cons (ps_set (i := 3) sc_l_one_by_one.nd rfl (by first | exact Or.inl rfl | exact Or.inr rfl) (k_make c_K_init hr (pa_cons (pe_tup (pa_cons (pe_ix (k_ixT (K := K)) (pv 1) pe_int (fun _ _ => rfl)) (pa_cons (pe_tup pa_nil) pa_nil))) (pa_cons (pv 2) pa_nil))))
  (pss_cons (ps_set (i := 4) sc_l_one_by_one.nd rfl (by first | exact Or.inl rfl | exact Or.inr rfl) (pe_callTy (k_list (K := K)) (by rfl) T.z_list (by decide +kernel) (pa_cons (pe_ix (k_ixT (K := K)) (pv 1) pe_int (fun _ _ => rfl)) pa_nil)))
  (pss_cons (ps_while PassesOwn.never (pt_cmpR (k_neD (K := K) hr.units) (pv 4) (pe_lst pa_nil) (nomark _)) (pss_cons (ps_asg (k_bm (K := K) PySem.F.plainAttrs_list PySem.F.slot_list_pop PySem.F.type_list_pop mt_popAt (pv 4) (pa_cons (k_call c_l_take hr (pa_cons (pv 0) (pa_cons (pe_callB (k_len (K := K)) (by rfl) T.z_len (by decide +kernel) (pa_cons (pv 4) pa_nil)) pa_nil))) pa_nil)) (k_gtup (K := K) (by rfl) (pgs_cons (pg_name (i := 5) sc_l_one_by_one.nd rfl (by first | exact Or.inl rfl | exact Or.inr rfl)) (pgs_cons (pg_name (i := 6) sc_l_one_by_one.nd rfl (by first | exact Or.inl rfl | exact Or.inr rfl)) (pgs_cons (pg_name (i := 7) sc_l_one_by_one.nd rfl (by first | exact Or.inl rfl | exact Or.inr rfl)) pgs_nil)))))
  (pss_one (ps_expr (k_meth c_K_weigh hr (pv 3) (pa_cons (pv 5) (pa_cons (pv 6) (pa_cons (pv 7) pa_nil))))))))
  (pss_one (ps_ret (pe_cmpR (k_eqD (K := K) hr.units) (k_call c_l_told hr (pa_cons (pv 3) pa_nil)) (k_call c_l_told hr (pa_cons (k_make c_K_init hr (pa_cons (pv 1) (pa_cons (pv 2) pa_nil))) pa_nil)) (nomark _))))))), ?_⟩
    have htl := ties_len ok.w
    walk_at "dn"
    refine r_ixT (i := 0) e hw rfl fun v hv => ?_
    cases hv
    walk_at "dn"
    refine r_tup (xs := []) (ds := []) e .nil (by show 0 ≤ 100000; decide) fun p1 B1 H1 g1 _ d1 => ?_
    walk_at "dn"
    refine r_tup2 g1.bh (.int _) d1 fun p2 B2 H2 g2 _ d2 => ?_
    have g02 := g1.trans g2
    obtain ⟨k0, ek0⟩ : ∃ k0 : KS, k0 = ⟨fun _ => 0, ks.ps⟩ := ⟨_, rfl⟩
    have ok0 : KOk n k0 := by rw [ek0]; exact ⟨wok0 ok.w.n10, ok.pw, ok.lt, ok.two⟩
    have d2' : D B2 (.ref p2) (dWeb n (tiesOf k0.W)) := by
      rw [ek0, ties0]
      exact d2
    walk_at "dn"
    intro x dx hx hdx hne
    have g3 := g02.trans (gro_mut (o := .own x) g02.bh hdx)
    have hx1 : upd H2 dx (.own x) x = none := by rw [upd_ne (Ne.symm hne)]; exact hx
    have g4 := g3.trans (gro_mut (o := .ins C dx []) g3.bh hx1)
    refine ⟨x, .ref p2, vp, dx, B2, n, k0, rfl, g4.bh, upd_same, g02.bh.back hx, d2', by rw [ek0]; exact hp.up g02.bb, ok0, fun B5 H5 own5 g5 ho ke5 has5 => ?_⟩
    have g6 : Gro B H B5 H5 := g4.trans g5 fun z hz => .inr (by rw [hz]; exact g02.back hx)
    have own0 : ∀ a ∈ own5, H a = none := fun a ha => by
      rcases ho a ha with z | z
      · rw [z]; exact g02.back hx
      · exact g4.back z
    refine ⟨rfl, ?_⟩
    walk_at "dn"
    refine r_ixT (i := 1) g6.bh (hw.up g6.bb) rfl fun v hv => ?_
    obtain ⟨ta, xs, rfl, ht1, ht2⟩ := hv.tup_inv
    walk_at "dn"
    refine ⟨ta, xs, rfl, .inr (SqT.of (g6.bh _ _ ht1)), fun S hS => ?_⟩
    have g7 := g6.trans (gro_mut (o := .lst xs) g6.bh hS)
    have hS7 : (upd H5 S (.lst xs)) S = some (.lst xs) := upd_same
    have bS : B5 S = none := g6.bh.back hS
    have ke7 := ke5.grow (gro_mut (o := .lst xs) g6.bh hS) fun _ _ z => z
    have Sown : S ∉ own5 := fun z => by
      obtain ⟨u, h1, _⟩ := ke5.al.1 S z
      rw [hS] at h1
      cases h1
    have S0 : H S = none := g6.back hS
    have bx7 := bx.grow g7 (fun z => z)
    generalize upd H5 S (.lst xs) = H7 at g7 hS7 ke7 bx7
    obtain ⟨_, _, _, hba, _⟩ := bx.at_
    have nbS : ba ≠ S := fun z => by
      rw [z, S0] at hba
      cases hba
    walk_at "dn"
    refine ⟨fun m σ' H' => ∃ (B' : Hp) (own : List Addr) (W : Wt) (rest : List Tie) (past : List KS) (xs : List V) (o5 o6 o7 : Option V), m = rest.length ∧ rest.length + past.length ≤ 45 ∧ Gof (fun a => a = ba) B H B' H' ∧ Bx B' H' ba (c + past.length) ∧ KpE C B' H' n x ⟨W, ks.ps⟩ past own ∧ (∀ a ∈ own, H a = none) ∧ Has ⟨W, ks.ps⟩ ∧ KOk n ⟨W, ks.ps⟩ ∧
      H' S = some (.lst xs) ∧ B' S = none ∧ S ∉ own ∧ DA B' xs (rest.map dTie) ∧ OneI n ks.W W rest ∧ σ' = [some (.ref ba), some vw, some vp, some (.ref x), some (.ref S), o5, o6, o7], ⟨_, B5, own5, _, tiesOf ks.W, [], xs, _, _, _, rfl, htl, Gro.of g7, bx7, by rw [ek0] at ke7; exact ke7, own0, by rw [ek0] at has5; exact has5, by rw [ek0] at ok0; exact ok0, hS7, bS, Sown, ht2, OneI.start ok.w, rfl⟩, ?_⟩
    rintro m σ' H' ⟨B', own, W, rest, past, xs', o5, o6, o7, rfl, hlen, g, bx', ke, ow, has, okW, hS', bS', Sn, da, inv, rfl⟩
    walk_at "dn"
    refine r_lst (ds := []) g.bh .nil (by show 0 ≤ 100000; decide) fun p8 B8 H8 g8 _ d8 => ?_
    have hS8 := g8.hh _ _ hS'
    have shr : Sh 2 (.list (rest.map dTie)) := Sh.list (Sh.map fun t _ => sh_dTie t)
    refine r_neD (B := H8) (d1 := .list (rest.map dTie)) (d2 := .list []) (Ex.refl _) (.lst hS8 (da.up (g8.bb.trans g8.bh))) (d8.up g8.bh) (shr.ok (by decide)) ((Sh.list (m := 0) (ds := []) (fun d hd => nomatch hd)).ok (by decide)) ?_
    have g08 : Gof (fun a => a = ba) B H B8 H8 := g.trans (Gro.of g8)
    have bS8 := g8.fr S _ hS' trivial bS'
    have bx8 := bx'.grow g8 (fun z => z)
    have ke8 := ke.grow g8 fun _ _ z => z
    have da8 := da.up g8.bb
    walk_at "dn"
    refine ite2 (fun cc => ?_) (fun cc => ?_)
    · have hne : 0 < rest.length := by
        cases h : rest with
        | nil =>
          rw [h] at cc
          exact absurd cc (by decide)
        | cons _ _ => exact Nat.succ_pos _
      refine ⟨fun σ' H' => ∃ (B' : Hp) (own : List Addr) (W : Wt) (rest' : List Tie) (past : List KS) (xs : List V) (o5 o6 o7 : Option V), rest'.length < rest.length ∧ rest'.length + past.length ≤ 45 ∧ Gof (fun a => a = ba) B H B' H' ∧ Bx B' H' ba (c + past.length) ∧ KpE C B' H' n x ⟨W, ks.ps⟩ past own ∧ (∀ a ∈ own, H a = none) ∧ Has ⟨W, ks.ps⟩ ∧ KOk n ⟨W, ks.ps⟩ ∧
        H' S = some (.lst xs) ∧ B' S = none ∧ S ∉ own ∧ DA B' xs (rest'.map dTie) ∧ OneI n ks.W W rest' ∧ σ' = [some (.ref ba), some vw, some vp, some (.ref x), some (.ref S), o5, o6, o7], ?_, ?_⟩
      · rintro σ' H' ⟨B', own, W, rest', past, xs, o5, o6, o7, h1, h2, h3, h4, h5, h6, h7, h8, h9, h10, h11, h12, h13, h14⟩
        exact ⟨_, h1, B', own, W, rest', past, xs, o5, o6, o7, rfl, h2, h3, h4, h5, h6, h7, h8, h9, h10, h11, h12, h13, h14⟩
      walk_at "dn"
      refine ⟨tyV_lst hS8, ?_⟩
      walk_at "dn"
      refine ⟨S, _, rfl, .inl (SqL.of hS8), ?_⟩
      have hxl : xs'.length = rest.length := by
        have := da.len
        rwa [List.length_map] at this
      rw [hxl]
      walk_at "dn"
      refine ⟨ba, rest.length, B8, c + past.length, rfl, g8.bh, bx8, hne, by omega, by omega, fun r H9 hr9 g9 bx9 => ?_⟩
      have hS9 := g9.kp _ _ hS8 (Ne.symm nbS)
      have bnot : ba ∉ own := fun z => by
        have := ow ba z
        rw [hba] at this
        cases this
      have ke9 := ke8.grow g9 fun a ha z => bnot (z ▸ ha)
      obtain ⟨t, ht⟩ : ∃ t, rest[r]? = some t := ⟨_, List.getElem?_eq_getElem hr9⟩
      obtain ⟨tw, tab, tbn, tw0⟩ := inv.ok t (List.mem_of_getElem? ht)
      obtain ⟨vt, hvt, dvt⟩ := da8.get (i := r) (d := dTie t) (by rw [List.getElem?_map, ht]; rfl)
      walk_at "dn"
      have hsi : seqIndex? (r : Int) xs'.length = some r := by
        rw [hxl]
        exact seqIndex_of (by omega) (by omega)
      refine ⟨S, xs', (r : Int), r, vt, rfl, rfl, hS9, by omega, by omega, hsi, hvt, ?_⟩
      have hS10 : (upd H9 S (.lst (xs'.eraseIdx r))) S = some (.lst (xs'.eraseIdx r)) := upd_same
      have gS : Gof (fun a => a = S) B8 H9 B8 (upd H9 S (.lst (xs'.eraseIdx r))) := gof_set (F := fun a => a = S) (o := .lst (xs'.eraseIdx r)) g9.bh rfl bS8
      have g010 : Gof (fun a => a = ba) B H B8 (upd H9 S (.lst (xs'.eraseIdx r))) := (g08.trans g9).trans gS fun a ha => .inr (by rw [ha]; exact S0)
      have ke10 := ke9.grow gS fun a ha z => Sn (z ▸ ha)
      have bx10 := bx9.grow gS (fun z => nbS z)
      generalize upd H9 S (.lst (xs'.eraseIdx r)) = H10 at hS10 gS g010 ke10 bx10
      refine g_tup3 gS.bh dvt fun u1 u2 u3 w1 w2 w3 => ?_
      cases w1
      cases w2
      cases w3
      obtain ⟨wa, ka, pa, vpp, vseen, pq, os, eo, kp10⟩ := id ke10
      obtain ⟨dxx, hxx⟩ := kp10.ins
      walk_at "dn"
      refine ⟨x, dxx, _, rfl, hxx, by rfl, ?_⟩
      walk_at "dn"
      refine ⟨x, B8, n, ⟨W, ks.ps⟩, past, own, t.1, t.2.1, t.2.2, rfl, gS.bh, ke10, okW, has, by omega, tab, tbn, by omega, fun v11 B11 H11 own11 g11 ho11 ke11 has11 d11 => ?_⟩
      have hrl := List.length_eraseIdx_of_lt hr9
      have dae := da_erase (i := r) da8
      rw [erase_map] at dae
      walk_at "dn"
      refine ⟨B11, own11, wput W (t.1, t.2.1) t.2.2, rest.eraseIdx r, past ++ [⟨W, ks.ps⟩], xs'.eraseIdx r, _, _, _, by omega, by rw [List.length_append, List.length_singleton]; omega, g010.trans g11 fun a ha => .inr (ow a ha), ?_, ke11, fun a ha => ?_, has11, ?_, g11.kp _ _ hS10 Sn, g11.fr S _ hS10 trivial bS8, fun z => ?_, dae.up g11.bb, inv.step ht, rfl⟩
      · refine (bx10.grow g11 bnot).more ?_
        rw [List.length_append, List.length_singleton]
        omega
      · rcases ho11 a ha with z | z
        · exact ow a z
        · exact g010.back z
      · exact ⟨wput_ok okW.w (p := (t.1, t.2.1)) tab tbn (by omega), okW.pw, okW.lt, okW.two⟩
      · rcases ho11 S z with y | y
        · exact Sn y
        · rw [hS10] at y
          cases y
    · have h0 : rest = [] := by
        cases h : rest with
        | nil => rfl
        | cons _ _ =>
          rw [h] at cc
          exact absurd rfl cc
      subst h0
      have eW := inv.fin
      subst eW
      walk_at "dn"
      refine ⟨x, B8, n, ks, past, own, rfl, g8.bh, ke8, ok, fun v9 B9 H9 g9 d9 => ?_⟩
      have g09 : Gof (fun a => a = ba) B H B9 H9 := g08.trans (Gro.of g9)
      have bx9 := bx8.grow g9 (fun z => z)
      walk_at "dn"
      intro y dy hy hdy hne
      have g10 := gro_mut (o := .own y) g9.bh hdy
      have hy1 : upd H9 dy (.own y) y = none := by rw [upd_ne (Ne.symm hne)]; exact hy
      have g11 := g10.trans (gro_mut (o := .ins C dy []) g10.bh hy1)
      refine ⟨y, vw, vp, dy, B9, n, ks, rfl, g11.bh, upd_same, g9.bh.back hy, hw.up g09.bb, hp.up g09.bb, ok, fun B12 H12 own12 g12 ho12 ke12 has12 => ?_⟩
      have g13 : Gro B9 H9 B12 H12 := g11.trans g12 fun z hz => .inr (by rw [hz]; exact hy)
      refine ⟨rfl, ?_⟩
      walk_at "dn"
      refine ⟨y, B12, n, ks, [], own12, rfl, g13.bh, ke12, ok, fun v14 B14 H14 g14 d14 => ?_⟩
      have st := sh_told n ks
      refine r_eqD g14.bh (d9.up (g13.bb.trans g14.bb)) d14 (st.ok (by decide)) (st.ok (by decide)) ?_
      rw [eqv_self st]
      exact q B14 H14 (g09.trans (Gro.of (g13.trans g14))) (((bx9.grow g13 (fun z => z)).grow g14 (fun z => z)).more (by simp only [List.length_nil] at hlen; omega))
end
end KPR
set_option Elab.async false
set_option linter.all false
set_option maxRecDepth 100000
/-! KV: runs of deeds; a keeper and a world side by side. -/
namespace KPR
open PySem L2
noncomputable def runK (s : KS × List KS) (ds : List Dd) : KS × List KS := ds.foldl (fun s d => stepK s.1 s.2 d) s
theorem runK_snoc (s : KS × List KS) (ds : List Dd) (d : Dd) : runK s (ds ++ [d]) = stepK (runK s ds).1 (runK s ds).2 d := by
  unfold runK
  rw [List.foldl_append]
  rfl
noncomputable def ansR (s : KS × List KS) : List Dd → List PyData
  | [] => []
  | d :: ds => ansD s.1 s.2 d :: ansR (stepK s.1 s.2 d) ds
theorem ansR_snoc : ∀ (ds : List Dd) (s : KS × List KS) (d : Dd), ansR s (ds ++ [d]) = ansR s ds ++ [ansD (runK s ds).1 (runK s ds).2 d]
  | [], _, _ => rfl
  | e :: ds, s, d => by
    show ansD s.1 s.2 e :: ansR (stepK s.1 s.2 e) (ds ++ [d]) = _
    rw [ansR_snoc ds]
    rfl
theorem ansR_len : ∀ (ds : List Dd) (s : KS × List KS), (ansR s ds).length = ds.length
  | [], _ => rfl
  | e :: ds, s => by
    show (ansR (stepK s.1 s.2 e) ds).length + 1 = ds.length + 1
    rw [ansR_len ds]
theorem sh_ansR : ∀ (ds : List Dd) (s : KS × List KS), ∀ a ∈ ansR s ds, Sh 2 a
  | [], _, a, h => nomatch h
  | e :: ds, s, a, h => by
    rcases List.mem_cons.mp h with z | z
    · rw [z]; exact sh_ans _ _ _
    · exact sh_ansR ds _ a z
/-- what a run of deeds leaves from a begun keeper -/
structure RunOk (n : Nat) (k0 : KS) (ds : List Dd) : Prop where
  val : ∀ (i : Nat) (d : Dd), ds[i]? = some d → Valid n (runK (k0, []) (ds.take i)).1 d
theorem RunOk.nil {n : Nat} {k0 : KS} : RunOk n k0 [] := ⟨fun i d h => by rw [List.getElem?_nil] at h; cases h⟩
theorem RunOk.snoc {n : Nat} {k0 : KS} {ds : List Dd} {d : Dd} (h : RunOk n k0 ds) (v : Valid n (runK (k0, []) ds).1 d) : RunOk n k0 (ds ++ [d]) := ⟨fun i e he => by
  by_cases hi : i < ds.length
  · rw [List.getElem?_append_left hi] at he
    rw [List.take_append_of_le_length (by omega)]
    exact h.val i e he
  · have h1 := (List.getElem?_eq_some_iff.mp he).1
    rw [List.length_append, List.length_singleton] at h1
    have ei : i = ds.length := by omega
    subst ei
    rw [List.getElem?_append_right (Nat.le_refl _), Nat.sub_self] at he
    cases he
    rw [List.take_append_of_le_length (Nat.le_refl _), List.take_length]
    exact v⟩
theorem take_succ_of {ds : List Dd} {i : Nat} {d : Dd} (h : ds[i]? = some d) : ds.take (i + 1) = ds.take i ++ [d] := by
  rw [List.take_add_one, h]
  rfl
/-- the state that lies lowest -/
def Low (k0 : KS) (s : KS × List KS) : Prop := (s.2 ++ [s.1]).head? = some k0
theorem Low.step {k0 k : KS} {past : List KS} (h : Low k0 (k, past)) (d : Dd) : Low k0 (stepK k past d) := by
  have more : ∀ k' : KS, Low k0 (k', past ++ [k]) := fun k' => by
    show ((past ++ [k]) ++ [k']).head? = some k0
    have h' : (past ++ [k]).head? = some k0 := h
    cases hp : past ++ [k] with
    | nil => rw [hp] at h'; cases h'
    | cons a l => rw [hp] at h'; exact h'
  cases d with
  | undo =>
    rcases List.eq_nil_or_concat past with hpast | ⟨past0, k1, hpast⟩
    · subst hpast; exact h
    · have hpast : past = past0 ++ [k1] := by rw [hpast, List.concat_eq_append]
      subst hpast
      have es : stepK k (past0 ++ [k1]) .undo = (k1, past0) := by
        unfold stepK
        rw [List.getLast?_concat, List.dropLast_concat]
      rw [es]
      have h' : ((past0 ++ [k1]) ++ [k]).head? = some k0 := h
      show (past0 ++ [k1]).head? = some k0
      cases hp : past0 ++ [k1] with
      | nil => simp at hp
      | cons a l => rw [hp] at h'; exact h'
  | put p => exact more _
  | take p => exact more _
  | weigh a b w => exact more _
theorem Low.fin {k0 k : KS} (h : Low k0 (k, [])) : k = k0 := by
  have h' : [k].head? = some k0 := h
  cases h'
  rfl
theorem undo_len (k : KS) (past : List KS) : (stepK k past .undo).2.length = past.length - 1 := by
  rcases List.eq_nil_or_concat past with hpast | ⟨past0, k1, hpast⟩
  · subst hpast; rfl
  · have hpast : past = past0 ++ [k1] := by rw [hpast, List.concat_eq_append]
    subst hpast
    have es : stepK k (past0 ++ [k1]) .undo = (k1, past0) := by
      unfold stepK
      rw [List.getLast?_concat, List.dropLast_concat]
    rw [es, List.length_append, List.length_singleton]
    show past0.length = past0.length + 1 - 1
    omega
/-- sound: what every state of a run has -/
structure Sound (n m : Nat) (s : KS × List KS) : Prop where
  ok : KOk n s.1
  has : Has s.1
  po : PastOk n s.2
  len : s.2.length ≤ m
theorem dis_step {o o' v : List Addr} {H : Hp} (d : ∀ a ∈ o, a ∉ v) (n : ∀ a ∈ o', a ∈ o ∨ H a = none) (al : ∀ a ∈ v, ∃ u, H a = some u ∧ nT u) : ∀ a ∈ o', a ∉ v := fun a ha hv => by
  rcases n a ha with z | z
  · exact d a z hv
  · obtain ⟨u, h1, _⟩ := al a hv
    rw [z] at h1
    cases h1
end KPR
set_option Elab.async false
set_option linter.all false
set_option maxRecDepth 100000
/-! KY2: two keepers and two worlds beside each other, and four lists. -/
namespace KPR
open PySem L2
/-- the four things of the law's turn -/
structure Who where
  C : Addr
  n : Fin 4 → Nat
  x : Fin 4 → Addr
def Ob (w : Who) (B H : Hp) (j : Fin 4) (s : KS × List KS) (own : List Addr) : Prop :=
  if j.val < 2 then KpE w.C B H (w.n j) (w.x j) s.1 s.2 own else WdE B H (w.n j) (w.x j) s.1 s.2 own
theorem Ob.grow {w : Who} {B H B' H' : Hp} {j : Fin 4} {s : KS × List KS} {own : List Addr} {F : Addr → Prop} (h : Ob w B H j s own) (g : Gof F B H B' H') (hf : ∀ a ∈ own, ¬ F a) : Ob w B' H' j s own := by
  unfold Ob at h ⊢
  by_cases c : j.val < 2
  · rw [if_pos c] at h ⊢; exact h.grow g hf
  · rw [if_neg c] at h ⊢; exact h.grow g hf
theorem Ob.al {w : Who} {B H : Hp} {j : Fin 4} {s : KS × List KS} {own : List Addr} (h : Ob w B H j s own) : (∀ a ∈ own, ∃ u, H a = some u ∧ nT u) ∧ (∀ a ∈ own, B a = none) := by
  unfold Ob at h
  by_cases c : j.val < 2
  · rw [if_pos c] at h; exact ⟨h.al.1, h.al.2.1⟩
  · rw [if_neg c] at h; exact ⟨h.al.1, h.al.2.1⟩
def put4 {α : Type} (f : Fin 4 → α) (j : Fin 4) (v : α) : Fin 4 → α := fun i => if i = j then v else f i
theorem put4_same {α : Type} (f : Fin 4 → α) (j : Fin 4) (v : α) : put4 f j v j = v := if_pos rfl
theorem put4_ne {α : Type} (f : Fin 4 → α) {i j : Fin 4} (v : α) (h : i ≠ j) : put4 f j v i = f i := if_neg h
def mk4 {α : Type} (a b c d : α) : Fin 4 → α := fun j => match j.val with
  | 0 => a
  | 1 => b
  | 2 => c
  | _ => d
theorem all4 {p : Fin 4 → Prop} (h0 : p 0) (h1 : p 1) (h2 : p 2) (h3 : p 3) : ∀ j, p j
  | ⟨0, _⟩ => h0
  | ⟨1, _⟩ => h1
  | ⟨2, _⟩ => h2
  | ⟨3, _⟩ => h3
/-- Hs: the heap that was; l: the four lists, what is in them -/
structure Four (w : Who) (Hs B H : Hp) (s : Fin 4 → KS × List KS) (own : Fin 4 → List Addr) (la : Fin 4 → Addr) (xs : Fin 4 → List V) : Prop where
  ob : ∀ j, Ob w B H j (s j) (own j)
  dis : ∀ i j, i ≠ j → ∀ a ∈ own i, a ∉ own j
  nw : ∀ j, ∀ a ∈ own j, Hs a = none
  at_ : ∀ j, H (la j) = some (.lst (xs j))
  un : ∀ j, B (la j) = none
  ln : ∀ j, Hs (la j) = none
  out : ∀ i j, la i ∉ own j
  ne : ∀ i j, i ≠ j → la i ≠ la j
variable {w : Who} {Hs B H B' H' : Hp} {s : Fin 4 → KS × List KS} {own : Fin 4 → List Addr} {la : Fin 4 → Addr} {xs : Fin 4 → List V} {F : Addr → Prop}
theorem Four.grow (h : Four w Hs B H s own la xs) (g : Gof F B H B' H') (hf : ∀ a, F a → Hs a ≠ none) : Four w Hs B' H' s own la xs :=
  ⟨fun j => (h.ob j).grow g fun a ha z => hf a z (h.nw j a ha), h.dis, h.nw, fun j => g.kp _ _ (h.at_ j) fun z => hf _ z (h.ln j), fun j => g.fr _ _ (h.at_ j) trivial (h.un j), h.ln, h.out, h.ne⟩
theorem Four.gro (h : Four w Hs B H s own la xs) (g : Gro B H B' H') : Four w Hs B' H' s own la xs := h.grow g fun _ z => z.elim
/-- one thing goes on -/
theorem Four.set (h : Four w Hs B H s own la xs) (j : Fin 4) {s' : KS × List KS} {o' : List Addr} (g : Gof (fun a => a ∈ own j) B H B' H') (hH : ∀ a, Hs a ≠ none → H a ≠ none) (ho : ∀ a ∈ o', a ∈ own j ∨ H a = none) (ob : Ob w B' H' j s' o') : Four w Hs B' H' (put4 s j s') (put4 own j o') la xs := by
  have dis1 : ∀ i, i ≠ j → ∀ a ∈ o', a ∉ own i := fun i hi => dis_step (h.dis j i (Ne.symm hi)) ho (h.ob i).al.1
  refine ⟨fun i => ?_, fun i k hik a ha hk => ?_, fun i a ha => ?_, fun i => g.kp _ _ (h.at_ i) (h.out i j), fun i => g.fr _ _ (h.at_ i) trivial (h.un i), h.ln, fun i k hk => ?_, h.ne⟩
  · by_cases e : i = j
    · subst e; rw [put4_same, put4_same]; exact ob
    · rw [put4_ne _ _ e, put4_ne _ _ e]
      exact (h.ob i).grow g fun a ha z => h.dis i j e a ha z
  · by_cases e : i = j
    · subst e
      rw [put4_same] at ha
      rw [put4_ne _ _ (Ne.symm hik)] at hk
      exact dis1 k (Ne.symm hik) a ha hk
    · rw [put4_ne _ _ e] at ha
      by_cases e2 : k = j
      · subst e2
        rw [put4_same] at hk
        exact dis1 i e a hk ha
      · rw [put4_ne _ _ e2] at hk
        exact h.dis i k hik a ha hk
  · by_cases e : i = j
    · subst e
      rw [put4_same] at ha
      rcases ho a ha with z | z
      · exact h.nw i a z
      · rcases Classical.em (Hs a = none) with y | y
        · exact y
        · exact absurd z (hH a y)
    · rw [put4_ne _ _ e] at ha
      exact h.nw i a ha
  · by_cases e : k = j
    · subst e
      rw [put4_same] at hk
      rcases ho _ hk with z | z
      · exact h.out i k z
      · rw [h.at_ i] at z
        cases z
    · rw [put4_ne _ _ e] at hk
      exact h.out i k hk
/-- one list is written -/
theorem Four.put (h : Four w Hs B H s own la xs) (e : Ex B H) (j : Fin 4) {ys : List V} : Four w Hs B (upd H (la j) (.lst ys)) s own la (put4 xs j ys) := by
  have g : Gof (fun a => a = la j) B H B (upd H (la j) (.lst ys)) := gof_set (F := fun a => a = la j) e rfl (h.un j)
  refine ⟨fun i => (h.ob i).grow g fun a ha z => h.out j i (z ▸ ha), h.dis, h.nw, fun i => ?_, h.un, h.ln, h.out, h.ne⟩
  by_cases c : i = j
  · subst c; rw [put4_same, upd_same]
  · rw [put4_ne _ _ c, upd_ne (h.ne i j c)]
    exact h.at_ i
end KPR
set_option Elab.async false
set_option linter.all false
set_option maxRecDepth 100000
/-! KY3: comprehensions and loops over a live list that stays. -/
namespace KPR
open PySem L2
section
variable {α : Type} {K : PySem.W.Frag} {B H : Hp} {σ : St} {Q : VK} {g : TG} {tt : TT} {te : TE} {vs : List Nat} {tb : TS} {D0 : Ends}
theorem lcM_at {F : Addr → Prop} {enc : α → PyData} {items : List α} {a : Addr} {xs : List V} (P : Addr → Nat → List V → Hp → Hp → Prop) (e : Ex B H) (ha : H a = some (.lst xs)) (hF : ¬ F a) (da : DA B xs (items.map enc)) (hz : items.length ≤ 1000)
    (start : ∀ Dl, H Dl = none → P Dl 0 [] B (upd H Dl (.lst [])))
    (turn : ∀ Dl (i : Nat) it x acc B' H', items[i]? = some it → H Dl = none → Gof F B H B' H' → B' Dl = none → H' Dl = some (.lst acc) → acc.length ≤ i → D B' x (enc it) → P Dl i acc B' H' → LcTurnG F B H (P Dl) g tt te vs σ Dl i acc H' x)
    (k : ∀ Dl acc B' H', H Dl = none → Gof F B H B' H' → B' Dl = none → H' Dl = some (.lst acc) → P Dl items.length acc B' H' → Q (.ref Dl) H') : ∃ a', V.ref a = .ref a' ∧ (∃ ys, SqL K H a' ys) ∧ LcW (Itl K a') g tt te vs σ Q H := by
  have hl := da.len
  rw [List.length_map] at hl
  refine ⟨a, rfl, ⟨xs, SqL.of ha⟩, fun Dl hD => lc_list (xs := xs) (LcAtG F B H (P Dl) Dl) ⟨[], B, (gro_mut e hD).of, e.back hD, upd_same, Nat.le_refl _, start Dl hD⟩ (fun i H' _ ⟨acc, B', g', _⟩ => SqL.of (g'.kp _ _ ha hF)) (fun i x H' hx at' => ?_) (fun H' ⟨acc, B', g', b', e', _, p'⟩ => k Dl acc B' H' hD g' b' e' (hl ▸ p'))⟩
  obtain ⟨acc, B', g', b', e', la, p'⟩ := at'
  obtain ⟨it, hit, hd⟩ := items_at da hx
  have hi := (List.getElem?_eq_some_iff.mp hit).1
  exact lcTurnG hD la (by omega) (turn Dl i it x acc B' H' hit hD g' b' e' la (hd.up g'.bb) p')
theorem loopM {F : Addr → Prop} {a : Addr} {xs : List V} (items : List α) (enc : α → PyData) (e : Ex B H) (ha : H a = some (.lst xs)) (hF : ¬ F a) (da : DA B xs (items.map enc)) (h : ForN items.length (isD items enc) F B H g tb D0 σ) : ∃ a', V.ref a = .ref a' ∧ (∃ ys, SqL K H a' ys) ∧ LoopW (Itl K a') g tb D0 σ H := by
  have hl := da.len
  rw [List.length_map] at hl
  refine ⟨a, rfl, ⟨xs, SqL.of ha⟩, ?_⟩
  obtain ⟨P, h0, turn, done⟩ := h
  refine ⟨fun i m σ' H' => m + i = items.length ∧ ∃ B', Gof F B H B' H' ∧ P i σ' B' H', ⟨items.length, rfl, B, Gof.refl e, h0⟩, fun i m σ' H' ⟨hm, B', g', p⟩ => ?_⟩
  have hq : SqL K H' a xs := SqL.of (g'.kp _ _ ha hF)
  by_cases hi : i < items.length
  · refine .inr ⟨⟨xs, xs[i], hq, List.getElem?_eq_getElem (by omega)⟩, fun σ3 H3 => ∃ B3, Gof F B H B3 H3 ∧ P (i + 1) σ3 B3 H3, fun σ3 H3 h3 => ⟨m - 1, by omega, by omega, h3⟩, fun x H2 y => ?_⟩
    have hx := y.2 xs hq
    obtain ⟨it, hit, hd⟩ := items_at da hx
    have e2 := y.1
    subst e2
    exact turn i x σ' B' _ hi g' ⟨it, hit, hd.up g'.bb⟩ p
  · have e1 : i = items.length := by omega
    subst e1
    exact .inl ⟨⟨xs, hq, by omega⟩, done σ' B' H' g' p⟩
end
section
variable {w : Who} {Hs B H B' H' : Hp} {s : Fin 4 → KS × List KS} {own : Fin 4 → List Addr} {la : Fin 4 → Addr} {xs : Fin 4 → List V} {F : Addr → Prop}
theorem Four.grow2 (h : Four w Hs B H s own la xs) (g : Gof F B H B' H') (hf : ∀ j, ∀ a ∈ own j, ¬ F a) (hl : ∀ j, ¬ F (la j)) : Four w Hs B' H' s own la xs :=
  ⟨fun j => (h.ob j).grow g (hf j), h.dis, h.nw, fun j => g.kp _ _ (h.at_ j) (hl j), fun j => g.fr _ _ (h.at_ j) trivial (h.un j), h.ln, h.out, h.ne⟩
end
end KPR
set_option Elab.async false
set_option linter.all false
set_option maxRecDepth 100000
set_option maxHeartbeats 4000000
/-! W26: the law's turn. -/
namespace KPR
open PySem L2
local macro_rules | `(tactic| walk_at "dn") => `(tactic| repeat (first
  | (with_reducible refine w_seq ?_) | (with_reducible refine w_asg ?_) | (with_reducible refine w_drop ?_) | (with_reducible refine w_ret ?_) | (with_reducible refine w_ifs ?_)
  | ((with_reducible refine' w_var ?hv ?_); (case hv => exact rfl)) | (with_reducible refine w_c ?_) | (with_reducible refine w_op ?_) | (with_reducible refine w_un ?_) | (with_reducible refine w_cb ?_)
  | (with_reducible refine w_nil ?_) | (with_reducible refine w_cons ?_) | (with_reducible refine w_gname ?_) | (with_reducible refine w_test ?_) | (with_reducible refine w_b ?_) | (with_reducible refine w_exbl ?_)
  | (with_reducible refine w_and ?_) | (with_reducible refine w_or ?_) | (with_reducible refine w_not ?_) | (with_reducible refine w_if ?_) | (with_reducible refine w_andV ?_) | (with_reducible refine w_orV ?_) | (with_reducible refine w_notV ?_)
  | (with_reducible refine w_tup ?_) | (with_reducible refine w_lst ?_) | (with_reducible refine w_dnewK ?_) | (with_reducible refine w_dnewT ?_) | (with_reducible refine w_din ?_) | (with_reducible refine w_dnin ?_) | (with_reducible refine w_dget ?_) | (with_reducible refine w_dget2 ?_)
  | (with_reducible refine w_fld ?_) | (with_reducible refine w_cal ?_) | (with_reducible refine w_met ?_) | (with_reducible refine w_mak ?_) | (with_reducible refine w_bm ?_) | (with_reducible refine w_bm0 ?_) | (with_reducible refine w_sl ?_)
  | (with_reducible refine w_nopart ?_) | (with_reducible refine w_part ?_) | (with_reducible refine w_sfld ?_) | (with_reducible refine w_dput ?_) | ((with_reducible refine' w_aug ?hv ?_); (case hv => exact rfl)) | (with_reducible refine w_iT ?_) | (with_reducible refine w_iF ?_)
  | (with_reducible refine w_ii0 ?_) | (with_reducible refine w_neg ?_) | (with_reducible refine w_ip ?_) | (with_reducible refine w_yes ?_) | (with_reducible refine w_for ?_) | (with_reducible refine w_ilist ?_) | (with_reducible refine w_itup ?_) | (with_reducible refine w_irng1 ?_) | (with_reducible refine w_irng2 ?_) | (with_reducible refine w_ienum ?_) | (with_reducible refine w_ienumT ?_)
  | (with_reducible refine w_ckw ?_) | (with_reducible refine w_gd ?_) | (with_reducible refine w_chain ?_) | (with_reducible refine w_max2 ?_) | (with_reducible refine w_min2 ?_) | (with_reducible refine w_int1 ?_) | (with_reducible refine w_gsub ?_) | (with_reducible refine w_par ?_) | (with_reducible refine w_lcr1 ?_) | (with_reducible refine w_pcons ?_) | (with_reducible refine w_pnil ?_) | (with_reducible refine w_next ?_)))

def dPr (n : Nat) (k : KS) : PyData := .tuple [dWeb n (tiesOf k.W), dL k.ps]
/-- a begun keeper among the new -/
structure KNew (C : Addr) (Hs B H : Hp) (Dl : Addr) (n : Nat) (x : Addr) (k : KS) (own : List Addr) : Prop where
  kp : KpE C B H n x k [] own
  has : Has k
  nw : ∀ a ∈ own, Hs a = none
  nd : Dl ∉ own
theorem KNew.grow {C : Addr} {Hs B H B' H' : Hp} {Dl : Addr} {n : Nat} {x : Addr} {k : KS} {own : List Addr} {F : Addr → Prop} (h : KNew C Hs B H Dl n x k own) (g : Gof F B H B' H') (hf : ∀ a ∈ own, ¬ F a) : KNew C Hs B' H' Dl n x k own := ⟨h.kp.grow g hf, h.has, h.nw, h.nd⟩
/-- a begun world among the new -/
structure WNew (Hs B H : Hp) (Dl : Addr) (n : Nat) (x : Addr) (k : KS) (own : List Addr) : Prop where
  wd : WdE B H n x k [] own
  nw : ∀ a ∈ own, Hs a = none
  nd : Dl ∉ own
theorem WNew.grow {Hs B H B' H' : Hp} {Dl : Addr} {n : Nat} {x : Addr} {k : KS} {own : List Addr} {F : Addr → Prop} (h : WNew Hs B H Dl n x k own) (g : Gof F B H B' H') (hf : ∀ a ∈ own, ¬ F a) : WNew Hs B' H' Dl n x k own := ⟨h.wd.grow g hf, h.nw, h.nd⟩
section
variable {P : Program} {w : World} {K : PySem.W.Frag} {mg : Str → Option Value} {base : Heap} {C Cf : Addr}
def sp_l_right : Sp := fun vs H Q _ => ∃ (ba : Addr) (B : Hp), vs = [.ref ba] ∧ Ex B H ∧ Bx B H ba 0 ∧ ∀ B' H', Gof (fun a => a = ba) B H B' H' → Q (.bl true) H'
theorem ok_l_right (R : Raw K mg "_law_right" "_law_right" s_l_right ["_law_box_here"]) (T : TB mg) (c_l_pair : DefT P w K mg base "_law_pair" 4 ["_law_box_here"] sp_l_pair) (c_l_world : DefT P w K mg base "_law_world" 1 ["_law_web_here", "_law_posts_here"] sp_l_world) (c_l_done : DefT P w K mg base "_law_done" 1 ["_law_world_here", "_law_deed_here"] sp_l_done) (c_l_fair : DefT P w K mg base "_law_fair" 4 ["_law_box_here", "_law_world_here"] sp_l_fair)
    (c_l_do : DefT P w K mg base "_law_do" 9 ["_law_keeper", "_law_deed_here"] (sp_l_do C)) (c_l_told : DefT P w K mg base "_law_told" 8 ["_law_keeper"] (sp_l_told C)) (c_l_anew : DefT P w K mg base "_law_anew" 9 ["_law_keeper"] (sp_l_anew C)) (c_l_there_and_back : DefT P w K mg base "_law_there_and_back" 9 ["_law_box_here", "_law_keeper"] (sp_l_there C)) (c_l_one_by_one : DefT P w K mg base "_law_one_by_one" 9 ["_law_box_here", "_law_web_here", "_law_posts_here"] (sp_l_one C))
    (c_K_init : MakeT P w K mg base C "Keeper" 7 ["self", "web", "posts"] (sp_K_init C)) (c_K_undo : MethT P w K mg base C "undo" 2 ["self"] (sp_K_undo C)) :
    DefT P w K mg base "_law_right" 10 ["_law_box_here"] sp_l_right := by
  refine R.ok fun f fd F => F.ok sc_l_right (fun vs H Q E h => ?_) (fun cdv A outer s H vs Q E hr h => ?_)
  · obtain ⟨_, _, rfl, _⟩ := h
    rfl
  · obtain ⟨ba, B, rfl, e, bx, q⟩ := h
    refine ⟨_, (pss_cons (ps_set (i := 1) sc_l_right.nd rfl (by first | exact Or.inl rfl | exact Or.inr rfl) (pe_lst (pa_cons (k_call c_l_pair hr (pa_cons (pv 0) pa_nil)) (pa_cons (k_call c_l_pair hr (pa_cons (pv 0) pa_nil)) pa_nil))))
  (pss_cons (ps_setLc (i := 2) (own := [("_law_web_here", 3), ("_law_posts_here", 4)]) (g := (gTup K 2 (gCons (gName 3) (gCons (gName 4) gNil)))) (by rfl) sc_l_right.nd rfl rfl (sw_true rfl rfl rfl (by decide +kernel)) (k_ilist (K := K) (pv 1)) (blkOk_by (N := nm_l_right) (sc := defScope s_l_right) (by decide +kernel)) (fun _ _ _ _ _ => (k_gtup (K := K) (by rfl) (pgs_cons (pg_name (i := 3) sc_l_right.nd rfl (by first | exact Or.inl rfl | exact Or.inr rfl)) (pgs_cons (pg_name (i := 4) sc_l_right.nd rfl (by first | exact Or.inl rfl | exact Or.inr rfl)) pgs_nil)))) (fun _ _ _ _ _ => pts_nil) (fun _ _ _ _ _ => (k_make c_K_init hr (pa_cons (pv 3) (pa_cons (pv 4) pa_nil)))))
  (pss_cons (ps_setLc (i := 5) (own := [("_law_web_here", 3), ("_law_posts_here", 4)]) (g := (gTup K 2 (gCons (gName 3) (gCons (gName 4) gNil)))) (by rfl) sc_l_right.nd rfl rfl (sw_true rfl rfl rfl (by decide +kernel)) (k_ilist (K := K) (pv 1)) (blkOk_by (N := nm_l_right) (sc := defScope s_l_right) (by decide +kernel)) (fun _ _ _ _ _ => (k_gtup (K := K) (by rfl) (pgs_cons (pg_name (i := 3) sc_l_right.nd rfl (by first | exact Or.inl rfl | exact Or.inr rfl)) (pgs_cons (pg_name (i := 4) sc_l_right.nd rfl (by first | exact Or.inl rfl | exact Or.inr rfl)) pgs_nil)))) (fun _ _ _ _ _ => pts_nil) (fun _ _ _ _ _ => (k_call c_l_world hr (pa_cons (pv 3) (pa_cons (pv 4) pa_nil)))))
  (pss_cons (ps_set (i := 6) sc_l_right.nd rfl (by first | exact Or.inl rfl | exact Or.inr rfl) (k_call c_l_told hr (pa_cons (pe_ix (k_ixL (K := K)) (pv 2) pe_int (fun _ _ => rfl)) pa_nil)))
  (pss_cons (ps_set (i := 7) sc_l_right.nd rfl (by first | exact Or.inl rfl | exact Or.inr rfl) (pe_lst pa_nil))
  (pss_cons (ps_set (i := 8) sc_l_right.nd rfl (by first | exact Or.inl rfl | exact Or.inr rfl) (pe_lst pa_nil))
  (pss_cons (ps_set (i := 9) sc_l_right.nd rfl (by first | exact Or.inl rfl | exact Or.inr rfl) (k_call c_l_told hr (pa_cons (pe_ix (k_ixL (K := K)) (pv 2) pe_int (fun _ _ => rfl)) pa_nil)))
  (pss_cons (ps_for PassesOwn.never rfl (pi_range1 (by rfl) T.z_range (pa_cons (pe_ix (k_ixL (K := K)) (pe_lst (pa_cons pe_int (pa_cons pe_int pa_nil))) (pe_callTy k_int1 (by rfl) T.z_int (by decide +kernel) (pa_cons (pe_cmpR op_gt (pe_callB (k_max (K := K) rfl) (by rfl) T.z_max (by decide +kernel) (pa_cons (pe_lc (own := [("_law_web_here", 3), ("_law_posts_here", 4)]) (g := (gTup K 2 (gCons (gName 3) (gCons (gName 4) gNil)))) (by rfl) sc_l_right.nd (k_ilist (K := K) (pv 1)) (blkOk_by (N := nm_l_right) (sc := defScope s_l_right) (by decide +kernel)) (fun _ _ _ _ _ => (k_gtup (K := K) (by rfl) (pgs_cons (pg_name (i := 3) sc_l_right.nd rfl (by first | exact Or.inl rfl | exact Or.inr rfl)) (pgs_cons (pg_name (i := 4) sc_l_right.nd rfl (by first | exact Or.inl rfl | exact Or.inr rfl)) pgs_nil)))) (fun _ _ _ _ _ => pts_nil) (fun _ _ _ _ _ => (pe_ix (k_ixT (K := K)) (pv 3) pe_int (fun _ _ => rfl)))) pa_nil)) pe_int (nomark _)) pa_nil)) (fun _ _ => rfl)) pa_nil)) (pg_name (i := 10) sc_l_right.nd rfl (by first | exact Or.inl rfl | exact Or.inr rfl)) (pss_cons (ps_expr (k_bm (K := K) PySem.F.plainAttrs_list PySem.F.slot_list_append PySem.F.type_list_append mt_append (pv 7) (pa_cons (k_call c_l_fair hr (pa_cons (pv 0) (pa_cons (pe_ix (k_ixL (K := K)) (pv 5) pe_int (fun _ _ => rfl)) pa_nil))) pa_nil)))
  (pss_cons (ps_expr (k_call c_l_done hr (pa_cons (pe_ix (k_ixL (K := K)) (pv 5) pe_int (fun _ _ => rfl)) (pa_cons (pe_ix (k_ixL (K := K)) (pv 7) (pe_un un_neg pe_int) (fun _ _ => rfl)) pa_nil))))
  (pss_cons (ps_expr (k_bm (K := K) PySem.F.plainAttrs_list PySem.F.slot_list_append PySem.F.type_list_append mt_append (pv 8) (pa_cons (k_call c_l_do hr (pa_cons (pe_ix (k_ixL (K := K)) (pv 2) pe_int (fun _ _ => rfl)) (pa_cons (pe_ix (k_ixL (K := K)) (pv 7) (pe_un un_neg pe_int) (fun _ _ => rfl)) pa_nil))) pa_nil)))
  (pss_cons (ps_if (PW.pt (pw_or (pt_cmpR (k_neD (K := K) hr.units) (k_call c_l_told hr (pa_cons (pe_ix (k_ixL (K := K)) (pv 2) pe_int (fun _ _ => rfl)) pa_nil)) (k_call c_l_anew hr (pa_cons (pe_ix (k_ixL (K := K)) (pv 2) pe_int (fun _ _ => rfl)) pa_nil)) (nomark _)) (pw_or1 (pt_cmpR (k_neD (K := K) hr.units) (k_call c_l_told hr (pa_cons (pe_ix (k_ixL (K := K)) (pv 2) pe_int (fun _ _ => rfl)) pa_nil)) (pv 9) (nomark _))))) (pss_one (ps_ret pe_bl)) pss_nil)
  (pss_cons (ps_set (i := 11) sc_l_right.nd rfl (by first | exact Or.inl rfl | exact Or.inr rfl) (k_call c_l_fair hr (pa_cons (pv 0) (pa_cons (pe_ix (k_ixL (K := K)) (pv 5) pe_int (fun _ _ => rfl)) pa_nil))))
  (pss_cons (ps_expr (k_call c_l_done hr (pa_cons (pe_ix (k_ixL (K := K)) (pv 5) pe_int (fun _ _ => rfl)) (pa_cons (pv 11) pa_nil))))
  (pss_cons (ps_expr (k_call c_l_do hr (pa_cons (pe_ix (k_ixL (K := K)) (pv 2) pe_int (fun _ _ => rfl)) (pa_cons (pv 11) pa_nil))))
  (pss_one (ps_set (i := 9) sc_l_right.nd rfl (by first | exact Or.inl rfl | exact Or.inr rfl) (k_call c_l_told hr (pa_cons (pe_ix (k_ixL (K := K)) (pv 2) pe_int (fun _ _ => rfl)) pa_nil))))))))))))
  (pss_cons (ps_set (i := 12) sc_l_right.nd rfl (by first | exact Or.inl rfl | exact Or.inr rfl) (k_make c_K_init hr (pa_cons (pe_ix (k_ixT (K := K)) (pe_ix (k_ixL (K := K)) (pv 1) pe_int (fun _ _ => rfl)) pe_int (fun _ _ => rfl)) (pa_cons (pe_ix (k_ixT (K := K)) (pe_ix (k_ixL (K := K)) (pv 1) pe_int (fun _ _ => rfl)) pe_int (fun _ _ => rfl)) pa_nil))))
  (pss_cons (ps_if (PW.pt (pw_or (pt_cmpR (k_neD (K := K) hr.units) (pe_lc (own := [("_law_deed_here", 11)]) (g := (gName 11)) (by rfl) sc_l_right.nd (k_ilist (K := K) (pv 7)) (blkOk_by (N := nm_l_right) (sc := defScope s_l_right) (by decide +kernel)) (fun _ _ _ _ _ => (pg_name (i := 11) sc_l_right.nd rfl (by first | exact Or.inl rfl | exact Or.inr rfl))) (fun _ _ _ _ _ => pts_nil) (fun _ _ _ _ _ => (k_call c_l_do hr (pa_cons (pv 12) (pa_cons (pv 11) pa_nil))))) (pv 8) (nomark _)) (pw_or1 (pt_cmpR (k_neD (K := K) hr.units) (k_call c_l_told hr (pa_cons (pv 12) pa_nil)) (k_call c_l_told hr (pa_cons (pe_ix (k_ixL (K := K)) (pv 2) pe_int (fun _ _ => rfl)) pa_nil)) (nomark _))))) (pss_one (ps_ret pe_bl)) pss_nil)
  (pss_cons (ps_if (pt_not (pt_val (k_call c_l_there_and_back hr (pa_cons (pv 0) (pa_cons (pv 12) pa_nil))))) (pss_one (ps_ret pe_bl)) pss_nil)
  (pss_cons (ps_for PassesOwn.never rfl (k_ilist (K := K) (pv 7)) (pg_name (i := 11) sc_l_right.nd rfl (by first | exact Or.inl rfl | exact Or.inr rfl)) (pss_one (ps_expr (k_meth0 c_K_undo hr (pe_ix (k_ixL (K := K)) (pv 2) pe_int (fun _ _ => rfl))))))
  (pss_cons (ps_if (pt_cmpR (k_neD (K := K) hr.units) (k_call c_l_told hr (pa_cons (pe_ix (k_ixL (K := K)) (pv 2) pe_int (fun _ _ => rfl)) pa_nil)) (pv 6) (nomark _)) (pss_one (ps_ret pe_bl)) pss_nil)
  (pss_one (ps_ret (pe_or (pe_cmpR op_gt (pe_callB (k_len (K := K)) (by rfl) T.z_len (by decide +kernel) (pa_cons (pe_ix (k_ixT (K := K)) (pe_ix (k_ixT (K := K)) (pe_ix (k_ixL (K := K)) (pv 1) pe_int (fun _ _ => rfl)) pe_int (fun _ _ => rfl)) pe_int (fun _ _ => rfl)) pa_nil)) pe_int (nomark _)) (pe_one (k_call c_l_one_by_one hr (pa_cons (pv 0) (pa_cons (pe_ix (k_ixT (K := K)) (pe_ix (k_ixL (K := K)) (pv 1) pe_int (fun _ _ => rfl)) pe_int (fun _ _ => rfl)) (pa_cons (pe_ix (k_ixT (K := K)) (pe_ix (k_ixL (K := K)) (pv 1) pe_int (fun _ _ => rfl)) pe_int (fun _ _ => rfl)) pa_nil))))))))))))))))))))), ?_⟩
    obtain ⟨_, _, _, hba, _⟩ := bx.at_
    walk_at "dn"
    refine ⟨ba, B, 0, rfl, e, bx, by omega, fun va n0 k0 B1 H1 g1 bx1 ok0 da => ?_⟩
    walk_at "dn"
    refine ⟨ba, B1, _, rfl, g1.bh, bx1, by omega, fun vb n1 k1 B2 H2 g2 bx2 ok1 db => ?_⟩
    walk_at "dn"
    refine r_lst (ds := [dPr n0 k0, dPr n1 k1]) g2.bh (.two (da.up g2.bb) db) (by show 2 ≤ 100000; decide) fun LP B3 H3 g3 _ d3 => ?_
    have G3 : Gof (fun a => a = ba) B H B3 H3 := (g1.trans g2).trans (Gro.of g3)
    have bx3 := bx2.grow g3 (fun z => z)
    walk_at "dn"
    refine lc_st (σ' := [some (.ref ba), some (.ref LP), none, none, none, none, none, none, none, none, none, none, none]) rfl ?_
    refine r_lcLg (F := F0) (B := B3) (enc := fun (p : Nat × KS) => dPr p.1 p.2) (items := [(n0, k0), (n1, k1)]) (fun Dl i acc B' H' => (i = 0 ∧ acc = []) ∨ (i = 1 ∧ ∃ x own, acc = [.ref x] ∧ KNew C H3 B' H' Dl n0 x k0 own) ∨ (i = 2 ∧ ∃ x own y own', acc = [.ref x, .ref y] ∧ KNew C H3 B' H' Dl n0 x k0 own ∧ KNew C H3 B' H' Dl n1 y k1 own' ∧ ∀ a ∈ own', a ∉ own)) (gv_var rfl g3.bh d3) (by show 2 ≤ 1000; decide)
      (fun Dl B1 H1 g1 hD => .inl ⟨rfl, rfl⟩) (fun Dl B1 H1 i it y acc B' H' hit g4 hD g5 bD eD la hy p => ?_) (fun KL Bz Hz acc B4 H4 g4 hKL g5 bKL eKL p => ?_)
    · intro Y N hY hN
      refine g_tup2 g5.bh hy fun u1 u2 w1 w2 => ?_
      refine ⟨rfl, ?_⟩
      walk_at "dn"
      intro x dx hx hdx hne
      have g6 := gro_mut (o := .own x) g5.bh hdx
      have hx1 : upd H' dx (.own x) x = none := by rw [upd_ne (Ne.symm hne)]; exact hx
      have g7 := g6.trans (gro_mut (o := .ins C dx []) g6.bh hx1)
      have okit : KOk it.1 it.2 := by
        rcases i with _ | _ | i
        · cases hit; exact ok0
        · cases hit; exact ok1
        · cases hit
      refine ⟨x, u1, u2, dx, B', it.1, it.2, rfl, g7.bh, upd_same, g5.bh.back hx, w1, w2, okit, fun B8 H8 own8 g8 ho ke8 has8 => ?_⟩
      have g9 : Gro B' H' B8 H8 := g7.trans g8 fun z hz => .inr (by rw [hz]; exact hx)
      have ow8 : ∀ a ∈ own8, H' a = none := fun a ha => by
        rcases ho a ha with z | z
        · rw [z]; exact hx
        · exact g7.back z
      have nd8 : Dl ∉ own8 := fun z => by
        have := ow8 Dl z
        rw [eD] at this
        cases this
      have kn8 : KNew C H3 B8 H8 Dl it.1 x it.2 own8 := ⟨ke8, has8, fun a ha => g4.back (g5.back (ow8 a ha)), nd8⟩
      have eD8 := g9.hh _ _ eD
      have bD8 := g9.fr Dl _ eD trivial bD
      have gs : Gof (fun a => a = Dl) B8 H8 B8 (upd H8 Dl (.lst (acc ++ [.ref x]))) := gof_set (F := fun a => a = Dl) g9.bh rfl bD8
      refine ⟨rfl, ?_⟩
      refine hY (.ref x) B8 H8 (g5.trans g9) bD8 eD8 ?_
      rcases p with ⟨rfl, rfl⟩ | ⟨rfl, x0, own0, rfl, kn0⟩ | ⟨rfl, _⟩
      · cases hit
        exact .inr (.inl ⟨rfl, x, own8, rfl, kn8.grow gs fun a ha z => kn8.nd (z ▸ ha)⟩)
      · cases hit
        have kn0' := (kn0.grow g9 fun _ _ z => z).grow gs fun a ha z => kn0.nd (z ▸ ha)
        refine .inr (.inr ⟨rfl, x0, own0, x, own8, rfl, kn0', kn8.grow gs fun a ha z => kn8.nd (z ▸ ha), fun a ha h0 => ?_⟩)
        obtain ⟨u, h1, _⟩ := kn0.kp.al.1 a h0
        rw [ow8 a ha] at h1
        cases h1
      · cases hit
    obtain ⟨x0, o0, x1, o1, rfl, kn0, kn1, dk⟩ : ∃ x0 o0 x1 o1, acc = [.ref x0, .ref x1] ∧ KNew C H3 B4 H4 KL n0 x0 k0 o0 ∧ KNew C H3 B4 H4 KL n1 x1 k1 o1 ∧ ∀ a ∈ o1, a ∉ o0 := by
      rcases p with ⟨z, _⟩ | ⟨z, _⟩ | ⟨_, x0, o0, x1, o1, z, h1, h2, h3⟩
      · cases z
      · cases z
      · exact ⟨x0, o0, x1, o1, z, h1, h2, h3⟩
    have g34 := g4.trans g5
    have G4 : Gof (fun a => a = ba) B H B4 H4 := G3.trans (Gro.of g34)
    have bx4 := bx3.grow g34 (fun z => z)
    have d4 := d3.up g34.bb
    have KL0 : H3 KL = none := g4.back hKL
    clear p hKL g5 g4
    walk_at "dn"
    refine lc_st (σ' := [some (.ref ba), some (.ref LP), some (.ref KL), none, none, none, none, none, none, none, none, none, none]) rfl ?_
    refine r_lcLg (F := F0) (B := B4) (enc := fun (p : Nat × KS) => dPr p.1 p.2) (items := [(n0, k0), (n1, k1)]) (fun Dl i acc B' H' => (i = 0 ∧ acc = []) ∨ (i = 1 ∧ ∃ x own, acc = [.ref x] ∧ WNew H4 B' H' Dl n0 x k0 own) ∨ (i = 2 ∧ ∃ x own y own', acc = [.ref x, .ref y] ∧ WNew H4 B' H' Dl n0 x k0 own ∧ WNew H4 B' H' Dl n1 y k1 own' ∧ ∀ a ∈ own', a ∉ own)) (gv_var rfl g34.bh d4) (by show 2 ≤ 1000; decide)
      (fun Dl B1 H1 g1 hD => .inl ⟨rfl, rfl⟩) (fun Dl B1 H1 i it y acc B' H' hit g4 hD g5 bD eD la hy p => ?_) (fun WL Bz Hz acc B5 H5 g4 hWL g5 bWL eWL p => ?_)
    · intro Y N hY hN
      refine g_tup2 g5.bh hy fun u1 u2 w1 w2 => ?_
      refine ⟨rfl, ?_⟩
      walk_at "dn"
      have okit : KOk it.1 it.2 := by
        rcases i with _ | _ | i
        · cases hit; exact ok0
        · cases hit; exact ok1
        · cases hit
      refine ⟨u1, u2, B', it.1, it.2, rfl, g5.bh, w1, w2, okit, fun x own8 B8 H8 g9 ow8 ke8 => ?_⟩
      have nd8 : Dl ∉ own8 := fun z => by
        have := ow8 Dl z
        rw [eD] at this
        cases this
      have kn8 : WNew H4 B8 H8 Dl it.1 x it.2 own8 := ⟨ke8, fun a ha => g4.back (g5.back (ow8 a ha)), nd8⟩
      have eD8 := g9.hh _ _ eD
      have bD8 := g9.fr Dl _ eD trivial bD
      have gs : Gof (fun a => a = Dl) B8 H8 B8 (upd H8 Dl (.lst (acc ++ [.ref x]))) := gof_set (F := fun a => a = Dl) g9.bh rfl bD8
      refine hY (.ref x) B8 H8 (g5.trans g9) bD8 eD8 ?_
      rcases p with ⟨rfl, rfl⟩ | ⟨rfl, x0, own0, rfl, kn0⟩ | ⟨rfl, _⟩
      · cases hit
        exact .inr (.inl ⟨rfl, x, own8, rfl, kn8.grow gs fun a ha z => kn8.nd (z ▸ ha)⟩)
      · cases hit
        have kn0' := (kn0.grow g9 fun _ _ z => z).grow gs fun a ha z => kn0.nd (z ▸ ha)
        refine .inr (.inr ⟨rfl, x0, own0, x, own8, rfl, kn0', kn8.grow gs fun a ha z => kn8.nd (z ▸ ha), fun a ha h0 => ?_⟩)
        obtain ⟨u, h1, _⟩ := kn0.wd.al.1 a h0
        rw [ow8 a ha] at h1
        cases h1
      · cases hit
    obtain ⟨y0, u0, y1, u1, rfl, wn0, wn1, dw⟩ : ∃ x0 o0 x1 o1, acc = [.ref x0, .ref x1] ∧ WNew H4 B5 H5 WL n0 x0 k0 o0 ∧ WNew H4 B5 H5 WL n1 x1 k1 o1 ∧ ∀ a ∈ o1, a ∉ o0 := by
      rcases p with ⟨z, _⟩ | ⟨z, _⟩ | ⟨_, x0, o0, x1, o1, z, h1, h2, h3⟩
      · cases z
      · cases z
      · exact ⟨x0, o0, x1, o1, z, h1, h2, h3⟩
    have g45 := g4.trans g5
    have G5 : Gof (fun a => a = ba) B H B5 H5 := G4.trans (Gro.of g45)
    have bx5 := bx4.grow g45 (fun z => z)
    have d5 := d4.up g45.bb
    have WL0 : H4 WL = none := g4.back hWL
    have eKL5 := g45.hh _ _ eKL
    have kal0 := kn0.kp.al.1
    have kal1 := kn1.kp.al.1
    have bKL5 := g45.fr KL _ eKL trivial bKL
    have kn0 := kn0.grow g45 fun _ _ z => z
    have kn1 := kn1.grow g45 fun _ _ z => z
    clear p hWL g5 g4
    walk_at "dn"
    refine r_ixLm (i := 0) (v := .ref x0) eKL5 rfl ?_
    walk_at "dn"
    refine ⟨x0, B5, n0, k0, [], o0, rfl, g45.bh, kn0.kp, ok0, fun vg B6 H6 g6 d6 => ?_⟩
    walk_at "dn"
    refine r_lstM g6.bh (by show 0 ≤ 100000; decide) fun DL H7 hDL g7 eDL bDL => ?_
    walk_at "dn"
    refine r_lstM (g6.trans g7).bh (by show 0 ≤ 100000; decide) fun AL H8 hAL g8 eAL bAL => ?_
    walk_at "dn"
    have g58 := (g6.trans g7).trans g8
    have eKL8 := g58.hh _ _ eKL5
    refine r_ixLm (i := 1) (v := .ref x1) eKL8 rfl ?_
    walk_at "dn"
    refine ⟨x1, B6, n1, k1, [], o1, rfl, g8.bh, kn1.kp.grow g58 fun _ _ z => z, ok1, fun vo B9 H9 g9 d9 => ?_⟩
    walk_at "dn"
    have g59 := g58.trans g9
    have G9 : Gof (fun a => a = ba) B H B9 H9 := G5.trans (Gro.of g59)
    refine r_lst (ds := [.int 6, .int 2]) g9.bh (.two (.int _) (.int _)) (by show 2 ≤ 100000; decide) fun L10 B10 H10 g10 _ d10 => ?_
    have dP := d5.up (g59.trans g10).bb
    walk_at "dn"
    refine lc_st (σ' := [some (.ref ba), some (.ref LP), some (.ref KL), none, none, some (.ref WL), some vg, some (.ref DL), some (.ref AL), some vo, none, none, none]) rfl ?_
    refine r_lcL (B := B10) (enc := fun (p : Nat × KS) => dPr p.1 p.2) (items := [(n0, k0), (n1, k1)]) (p := fun _ => true) (f := fun p => .int (p.1 : Int)) (gv_var rfl g10.bh dP) (by show 2 ≤ 1000; decide) (fun i it y B2 H2 hi g2 hy Y N hY _ => ?_) fun D0 B11 H11 g11 d11 => ?_
    · refine g_tup2 g2.bh hy fun u1 u2 w1 w2 => ?_
      refine ⟨rfl, ?_⟩
      walk_at "dn"
      exact r_ixT (i := 0) g2.bh w1 rfl fun v hv => hY rfl _ _ _ (Gof.refl g2.bh) hv
    walk_at "dn"
    refine r_max (ns := [(n0 : Int), (n1 : Int)]) g11.bh d11 (by show 0 < 2; decide) fun mx _ _ => ?_
    walk_at "dn"
    obtain ⟨ti, Tn, eti, eT, hT⟩ : ∃ ti Tn : Nat, (if decide (7 < mx) = true then 1 else 0 : Int) = (ti : Int) ∧ ([PyData.int 6, PyData.int 2] : List PyData)[ti]? = some (.int (Tn : Int)) ∧ Tn ≤ 6 := by
      by_cases h : 7 < mx
      · rw [decide_eq_true h]; exact ⟨1, 2, rfl, rfl, by decide⟩
      · rw [decide_eq_false h]; exact ⟨0, 6, rfl, rfl, by decide⟩
    rw [eti]
    refine r_ixL (i := ti) g11.bh (d10.up g11.bb) eT fun vT hvT => ?_
    cases hvT
    walk_at "dn"
    have g10' := g59.trans (g10.trans g11)
    have G11 : Gof (fun a => a = ba) B H B11 H11 := G5.trans (Gro.of g10')
    have bx11 := bx5.grow g10' (fun z => z)
    have g7_11 := ((g8.trans g9).trans g10).trans g11
    have g8_11 := (g9.trans g10).trans g11
    have hB : ∀ a, H a ≠ none → H11 a ≠ none := G11.al
    have nH : ∀ a, H5 a = none → H a = none := fun a z => G5.back z
    have alive : ∀ {a : Addr} {Hx : Hp}, Hx a = none → (∃ u, Hx a = some u ∧ nT u) → False := fun h1 h2 => by
      obtain ⟨u, h3, _⟩ := h2
      rw [h1] at h3
      cases h3
    have two : ∀ {a : Addr} {Hx : Hp} {o : HO}, Hx a = none → Hx a = some o → False := fun h1 h2 => by
      rw [h1] at h2
      cases h2
    have two2 : ∀ {a b : Addr} {Hx : Hp} {o : HO}, Hx b = none → Hx a = some o → a = b → False := fun h1 h2 h3 => by
      rw [h3, h1] at h2
      cases h2
    have DL5 : H5 DL = none := g6.back hDL
    have AL5 : H5 AL = none := (g6.trans g7).back hAL
    have eDL8 := g8.hh _ _ eDL
    have kw00 : ∀ a ∈ o0, a ∉ u0 := fun a ha hu => alive (wn0.nw a hu) (kal0 a ha)
    have kw01 : ∀ a ∈ o0, a ∉ u1 := fun a ha hu => alive (wn1.nw a hu) (kal0 a ha)
    have kw10 : ∀ a ∈ o1, a ∉ u0 := fun a ha hu => alive (wn0.nw a hu) (kal1 a ha)
    have kw11 : ∀ a ∈ o1, a ∉ u1 := fun a ha hu => alive (wn1.nw a hu) (kal1 a ha)
    have four : Four ⟨C, mk4 n0 n1 n0 n1, mk4 x0 x1 y0 y1⟩ H B11 H11 (mk4 (k0, []) (k1, []) (k0, []) (k1, [])) (mk4 o0 o1 u0 u1) (mk4 KL WL DL AL) (mk4 [.ref x0, .ref x1] [.ref y0, .ref y1] [] []) := by
      refine ⟨all4 ?_ ?_ ?_ ?_, all4 (all4 ?_ ?_ ?_ ?_) (all4 ?_ ?_ ?_ ?_) (all4 ?_ ?_ ?_ ?_) (all4 ?_ ?_ ?_ ?_), all4 ?_ ?_ ?_ ?_, all4 ?_ ?_ ?_ ?_, all4 ?_ ?_ ?_ ?_, all4 ?_ ?_ ?_ ?_, all4 (all4 ?_ ?_ ?_ ?_) (all4 ?_ ?_ ?_ ?_) (all4 ?_ ?_ ?_ ?_) (all4 ?_ ?_ ?_ ?_), all4 (all4 ?_ ?_ ?_ ?_) (all4 ?_ ?_ ?_ ?_) (all4 ?_ ?_ ?_ ?_) (all4 ?_ ?_ ?_ ?_)⟩
      · exact kn0.kp.grow g10' fun _ _ z => z
      · exact kn1.kp.grow g10' fun _ _ z => z
      · exact wn0.wd.grow g10' fun _ _ z => z
      · exact wn1.wd.grow g10' fun _ _ z => z
      · exact fun z => absurd rfl z
      · exact fun _ a ha hb => dk a hb ha
      · exact fun _ => kw00
      · exact fun _ => kw01
      · exact fun _ => dk
      · exact fun z => absurd rfl z
      · exact fun _ => kw10
      · exact fun _ => kw11
      · exact fun _ a ha hb => kw00 a hb ha
      · exact fun _ a ha hb => kw10 a hb ha
      · exact fun z => absurd rfl z
      · exact fun _ a ha hb => dw a hb ha
      · exact fun _ a ha hb => kw01 a hb ha
      · exact fun _ a ha hb => kw11 a hb ha
      · exact fun _ => dw
      · exact fun z => absurd rfl z
      · exact fun a ha => G3.back (kn0.nw a ha)
      · exact fun a ha => G3.back (kn1.nw a ha)
      · exact fun a ha => G4.back (wn0.nw a ha)
      · exact fun a ha => G4.back (wn1.nw a ha)
      · exact g10'.hh _ _ eKL5
      · exact g10'.hh _ _ eWL
      · exact g8_11.hh _ _ eDL8
      · exact g8_11.hh _ _ eAL
      · exact g10'.fr _ _ eKL5 trivial bKL5
      · exact g10'.fr _ _ eWL trivial bWL
      · exact g8_11.fr _ _ eDL8 trivial bDL
      · exact g8_11.fr _ _ eAL trivial bAL
      · exact G3.back KL0
      · exact G4.back WL0
      · exact G5.back DL5
      · exact G5.back AL5
      · exact kn0.nd
      · exact kn1.nd
      · exact fun z => two (wn0.nw _ z) eKL
      · exact fun z => two (wn1.nw _ z) eKL
      · exact fun z => alive WL0 (kal0 _ z)
      · exact fun z => alive WL0 (kal1 _ z)
      · exact wn0.nd
      · exact wn1.nd
      · exact fun z => alive DL5 (kn0.kp.al.1 _ z)
      · exact fun z => alive DL5 (kn1.kp.al.1 _ z)
      · exact fun z => alive DL5 (wn0.wd.al.1 _ z)
      · exact fun z => alive DL5 (wn1.wd.al.1 _ z)
      · exact fun z => alive AL5 (kn0.kp.al.1 _ z)
      · exact fun z => alive AL5 (kn1.kp.al.1 _ z)
      · exact fun z => alive AL5 (wn0.wd.al.1 _ z)
      · exact fun z => alive AL5 (wn1.wd.al.1 _ z)
      · exact fun z => absurd rfl z
      · exact fun _ z => two2 WL0 eKL z
      · exact fun _ z => two2 DL5 eKL5 z
      · exact fun _ z => two2 AL5 eKL5 z
      · exact fun _ z => two2 WL0 eKL (Eq.symm z)
      · exact fun z => absurd rfl z
      · exact fun _ z => two2 DL5 eWL z
      · exact fun _ z => two2 AL5 eWL z
      · exact fun _ z => two2 DL5 eKL5 (Eq.symm z)
      · exact fun _ z => two2 DL5 eWL (Eq.symm z)
      · exact fun z => absurd rfl z
      · exact fun _ z => two2 hAL eDL z
      · exact fun _ z => two2 AL5 eKL5 (Eq.symm z)
      · exact fun _ z => two2 AL5 eWL (Eq.symm z)
      · exact fun _ z => two2 hAL eDL (Eq.symm z)
      · exact fun z => absurd rfl z
    have sound0 : Sound n0 0 (k0, []) := ⟨ok0, kn0.has, (fun k hk => nomatch hk), Nat.le_refl _⟩
    have sound1 : Sound n1 0 (k1, []) := ⟨ok1, kn1.has, (fun k hk => nomatch hk), Nat.le_refl _⟩
    refine loopR (F := FA) (B := B11) Tn (by omega) G11.bh ⟨fun i σ' B' H' => ∃ (ds : List Dd) (s1 : KS × List KS) (s : Fin 4 → KS × List KS) (own : Fin 4 → List Addr) (xs : Fin 4 → List V) (vo : V) (o10 o11 : Option V), σ' = [some (.ref ba), some (.ref LP), some (.ref KL), none, none, some (.ref WL), some vg, some (.ref DL), some (.ref AL), some vo, o10, o11, none] ∧
      Gof (fun a => a = ba) B H B' H' ∧ Ex B11 B' ∧ Bx B' H' ba (600 + 60 * i) ∧ Four ⟨C, mk4 n0 n1 n0 n1, mk4 x0 x1 y0 y1⟩ H B' H' s own (mk4 KL WL DL AL) xs ∧ s 0 = runK (k0, []) ds ∧ s 2 = runK (k0, []) ds ∧ s 1 = s1 ∧ s 3 = s1 ∧ xs 0 = [.ref x0, .ref x1] ∧ xs 1 = [.ref y0, .ref y1] ∧
      DA B' (xs 2) (ds.map dDd) ∧ DA B' (xs 3) (ansR (k0, []) ds) ∧ ds.length = i ∧ RunOk n0 k0 ds ∧ Sound n0 i (runK (k0, []) ds) ∧ Low k0 (runK (k0, []) ds) ∧ Sound n1 i s1 ∧ D B' vo (toldD n1 s1.1),
      ⟨[], (k1, []), _, _, _, vo, _, _, rfl, G11, Ex.refl _, bx11.more (by omega), four, rfl, rfl, rfl, rfl, rfl, rfl, .nil, .nil, rfl, RunOk.nil, sound0, rfl, sound1, d9.up (g10.trans g11).bb⟩, fun i y σ' B' H' hi gB hy p => ?_, fun σ' B' H' gB p => ?_⟩
    · obtain ⟨ds, s1, s, own, xs, vo, o10, o11, rfl, g, ex, bx', fo, e0, e2, e1, e3, l0, l1, d7, d8, hdl, run, snd0, low, snd1, dvo⟩ := p
      walk_at "dn"
      obtain ⟨S0, eS0⟩ : ∃ S0, S0 = runK (k0, []) ds := ⟨_, rfl⟩
      rw [← eS0] at e0 e2 snd0 low
      have hbaN : ∀ a, a = ba → H a ≠ none := fun a z => by rw [z, hba]; exact fun z => nomatch z
      have xl2 : (xs 2).length = i := by
        have := d7.len
        rw [List.length_map] at this
        omega
      have xl3 : (xs 3).length = i := by
        have := d8.len
        rw [ansR_len] at this
        omega
      refine ⟨tyV_lst (fo.at_ 2), ?_⟩
      walk_at "dn"
      refine r_ixLm (i := 0) (v := .ref y0) (fo.at_ 1) (by rw [l1]; rfl) ?_
      walk_at "dn"
      have wd0 : WdE B' H' n0 y0 S0.1 S0.2 (own 2) := by
        have := fo.ob 2
        rw [e2] at this
        exact this
      refine ⟨ba, y0, B', _, n0, S0.1, S0.2, own 2, rfl, g.bh, bx', wd0, snd0.ok, fun z => hbaN ba rfl (fo.nw 2 ba z), by omega, fun vd d Ba Ha ga bxa hv dd => ?_⟩
      have foa := fo.grow ga hbaN
      have Ga := g.trans ga
      have Aa : Gof FA B' H' Ba Ha := ga.mono fun _ _ => trivial
      walk_at "dn"
      refine r_append (foa.at_ 2) (by omega) ?_
      have fob : Four ⟨C, mk4 n0 n1 n0 n1, mk4 x0 x1 y0 y1⟩ H Ba (upd Ha DL (.lst (xs 2 ++ [vd]))) s own (mk4 KL WL DL AL) (put4 xs 2 (xs 2 ++ [vd])) := foa.put ga.bh 2 (ys := xs 2 ++ [vd])
      have gb : Gof (fun a => a = DL) Ba Ha Ba (upd Ha DL (.lst (xs 2 ++ [vd]))) := gof_set (F := fun a => a = DL) ga.bh rfl (foa.un 2)
      have hDL : H DL = none := fo.ln 2
      have bxb := bxa.grow gb fun z => hbaN ba rfl (z ▸ hDL)
      have Gb := Ga.trans gb fun a ha => .inr (by rw [ha]; exact hDL)
      have Ab := Aa.trans gb fun a ha => .inl trivial
      walk_at "dn"
      generalize upd Ha DL (.lst (xs 2 ++ [vd])) = Hb at gb fob bxb Gb Ab
      refine r_ixLm (i := 0) (v := .ref y0) (fob.at_ 1) (by rw [put4_ne _ _ (by decide), l1]; rfl) ?_
      walk_at "dn"
      refine ⟨DL, _, (-1 : Int), vd, rfl, rfl, SqL.of (fob.at_ 2), by rw [put4_same]; exact atI_last _ _, ?_⟩
      walk_at "dn"
      have wdb : WdE Ba Hb n0 y0 S0.1 S0.2 (own 2) := by
        have := fob.ob 2
        rw [e2] at this
        exact this
      refine ⟨y0, vd, Ba, n0, S0.1, S0.2, own 2, d, rfl, gb.bh, wdb, snd0.ok, dd, hv, by have := snd0.len; omega, fun vz Bc Hc ow2 gc hoc wdc => ?_⟩
      have foc := fob.set 2 (s' := stepK S0.1 S0.2 d) gc Gb.al hoc wdc
      have Gc := Gb.trans gc fun a ha => .inr (fob.nw 2 a ha)
      have Ac := Ab.trans gc fun a ha => .inl trivial
      have bxc := bxb.grow gc fun z => hbaN ba rfl (fob.nw 2 ba z)
      walk_at "dn"
      refine ⟨tyV_lst (foc.at_ 3), ?_⟩
      walk_at "dn"
      refine r_ixLm (i := 0) (v := .ref x0) (foc.at_ 0) (by rw [put4_ne _ _ (by decide), l0]; rfl) ?_
      walk_at "dn"
      refine ⟨DL, _, (-1 : Int), vd, rfl, rfl, SqL.of (foc.at_ 2), by rw [put4_same]; exact atI_last _ _, ?_⟩
      walk_at "dn"
      have kpc : KpE C Bc Hc n0 x0 S0.1 S0.2 (own 0) := by
        have := foc.ob 0
        rw [put4_ne _ _ (by decide), put4_ne _ _ (by decide), e0] at this
        exact this
      refine ⟨x0, vd, Bc, n0, S0.1, S0.2, own 0, d, rfl, gc.bh, kpc, snd0.ok, snd0.has, snd0.po, (dd.up gb.bb).up gc.bb, hv, by have := snd0.len; omega, fun va8 Bd Hd ow0 gd hod kpd hasd dd8 => ?_⟩
      have fod := foc.set 0 (s' := stepK S0.1 S0.2 d) (gd.mono fun a ha => by rw [put4_ne _ _ (by decide)]; exact ha) Gc.al (fun a ha => by rw [put4_ne _ _ (by decide)]; exact hod a ha) kpd
      have Gd := Gc.trans gd fun a ha => .inr (fo.nw 0 a ha)
      have Ad := Ac.trans gd fun a ha => .inl trivial
      have bxd := bxc.grow gd fun z => hbaN ba rfl (fo.nw 0 ba z)
      walk_at "dn"
      refine r_append (fod.at_ 3) (by rw [put4_ne _ _ (by decide)]; omega) ?_
      rw [put4_ne _ _ (by decide)]
      have foe : Four ⟨C, mk4 n0 n1 n0 n1, mk4 x0 x1 y0 y1⟩ H Bd (upd Hd AL (.lst (xs 3 ++ [va8]))) _ _ (mk4 KL WL DL AL) (put4 (put4 xs 2 (xs 2 ++ [vd])) 3 (xs 3 ++ [va8])) := fod.put gd.bh 3 (ys := xs 3 ++ [va8])
      have ge : Gof (fun a => a = AL) Bd Hd Bd (upd Hd AL (.lst (xs 3 ++ [va8]))) := gof_set (F := fun a => a = AL) gd.bh rfl (fod.un 3)
      have hAL0 : H AL = none := fo.ln 3
      have bxe := bxd.grow ge fun z => hbaN ba rfl (z ▸ hAL0)
      have Ge := Gd.trans ge fun a ha => .inr (by rw [ha]; exact hAL0)
      have Ae := Ad.trans ge fun a ha => .inl trivial
      generalize upd Hd AL (.lst (xs 3 ++ [va8])) = He at ge foe bxe Ge Ae
      obtain ⟨S', eS'⟩ : ∃ S', S' = stepK S0.1 S0.2 d := ⟨_, rfl⟩
      have sndN : Sound n0 (i + 1) S' := by
        rw [eS']
        exact ⟨step_ok snd0.ok snd0.po hv, hasd, step_past snd0.ok snd0.has snd0.po, Nat.le_trans (step_len _ _ _) (Nat.succ_le_succ snd0.len)⟩
      have lowN : Low k0 S' := by rw [eS']; exact low.step d
      obtain ⟨sE, owE, xsE, foE, f0, f2, f1, f3, m0, m1, m2, m3⟩ : ∃ (sE : Fin 4 → KS × List KS) (owE : Fin 4 → List Addr) (xsE : Fin 4 → List V), Four ⟨C, mk4 n0 n1 n0 n1, mk4 x0 x1 y0 y1⟩ H Bd He sE owE (mk4 KL WL DL AL) xsE ∧ sE 0 = S' ∧ sE 2 = S' ∧ sE 1 = s1 ∧ sE 3 = s1 ∧ xsE 0 = [.ref x0, .ref x1] ∧ xsE 1 = [.ref y0, .ref y1] ∧ xsE 2 = xs 2 ++ [vd] ∧ xsE 3 = xs 3 ++ [va8] := by
        refine ⟨_, _, _, foe, ?_, ?_, ?_, ?_, ?_, ?_, ?_, ?_⟩
        · rw [eS']; rfl
        · rw [eS']; rfl
        · exact e1
        · exact e3
        · exact l0
        · exact l1
        · rfl
        · rfl
      clear foe fod foc fob foa
      walk_at "dn"
      refine r_ixLm (i := 0) (v := .ref x0) (foE.at_ 0) (by rw [m0]; rfl) ?_
      walk_at "dn"
      have kpe : KpE C Bd He n0 x0 S'.1 S'.2 (owE 0) := by
        have := foE.ob 0
        rw [f0] at this
        exact this
      refine ⟨x0, Bd, n0, S'.1, S'.2, owE 0, rfl, ge.bh, kpe, sndN.ok, fun vf1 Bf Hf gf df1 => ?_⟩
      have foF := foE.gro gf
      walk_at "dn"
      refine r_ixLm (i := 0) (v := .ref x0) (foF.at_ 0) (by rw [m0]; rfl) ?_
      walk_at "dn"
      refine ⟨x0, Bf, n0, S'.1, S'.2, owE 0, rfl, gf.bh, kpe.grow gf fun _ _ z => z, sndN.ok, fun vf2 Bg Hg gg df2 => ?_⟩
      have foG := foF.gro gg
      have st0 := sh_told n0 S'.1
      refine r_neD gg.bh (df1.up gg.bb) df2 (st0.ok (by decide)) (st0.ok (by decide)) ?_
      rw [eqv_self st0]
      walk_at "dn"
      show if (!true) = true then _ else _
      rw [Bool.not_true]
      walk_at "dn"
      refine r_ixLm (i := 1) (v := .ref x1) (foG.at_ 0) (by rw [m0]; rfl) ?_
      walk_at "dn"
      have kpg1 : KpE C Bg Hg n1 x1 s1.1 s1.2 (owE 1) := by
        have := foG.ob 1
        rw [f1] at this
        exact this
      refine ⟨x1, Bg, n1, s1.1, s1.2, owE 1, rfl, gg.bh, kpg1, snd1.ok, fun vh1 Bh Hh gh dh1 => ?_⟩
      have foH := foG.gro gh
      walk_at "dn"
      have st1 := sh_told n1 s1.1
      have gBh : Gof FA B' H' Bh Hh := ((Ae.trans gf).trans gg).trans gh
      refine r_neD gh.bh dh1 (dvo.up gBh.bb) (st1.ok (by decide)) (st1.ok (by decide)) ?_
      rw [eqv_self st1]
      walk_at "dn"
      show if (!true) = true then _ else _
      rw [Bool.not_true]
      walk_at "dn"
      refine r_ixLm (i := 1) (v := .ref y1) (foH.at_ 1) (by rw [m1]; rfl) ?_
      walk_at "dn"
      have wdh : WdE Bh Hh n1 y1 s1.1 s1.2 (owE 3) := by
        have := foH.ob 3
        rw [f3] at this
        exact this
      have bxh := ((bxe.grow gf (fun z => z)).grow gg (fun z => z)).grow gh (fun z => z)
      have Gh : Gof (fun a => a = ba) B H Bh Hh := ((Ge.trans (Gro.of gf)).trans (Gro.of gg)).trans (Gro.of gh)
      refine ⟨ba, y1, Bh, _, n1, s1.1, s1.2, owE 3, rfl, gh.bh, bxh, wdh, snd1.ok, fun z => hbaN ba rfl (foH.nw 3 ba z), by omega, fun vd2 d2 Bi Hi gi bxi hv2 dd2 => ?_⟩
      have foI := foH.grow gi hbaN
      have Gi := Gh.trans gi
      have Ai := gBh.trans gi fun _ _ => .inl trivial
      walk_at "dn"
      refine r_ixLm (i := 1) (v := .ref y1) (foI.at_ 1) (by rw [m1]; rfl) ?_
      walk_at "dn"
      have wdi : WdE Bi Hi n1 y1 s1.1 s1.2 (owE 3) := by
        have := foI.ob 3
        rw [f3] at this
        exact this
      refine ⟨y1, vd2, Bi, n1, s1.1, s1.2, owE 3, d2, rfl, gi.bh, wdi, snd1.ok, dd2, hv2, by have := snd1.len; omega, fun vz2 Bj Hj ow3 gj hoj wdj => ?_⟩
      have foJ := foI.set 3 (s' := stepK s1.1 s1.2 d2) gj Gi.al hoj wdj
      have Gj := Gi.trans gj fun a ha => .inr (foI.nw 3 a ha)
      have Aj := Ai.trans gj fun a ha => .inl trivial
      have bxj := bxi.grow gj fun z => hbaN ba rfl (foI.nw 3 ba z)
      walk_at "dn"
      refine r_ixLm (i := 1) (v := .ref x1) (foJ.at_ 0) (by rw [m0]; rfl) ?_
      walk_at "dn"
      have kpj : KpE C Bj Hj n1 x1 s1.1 s1.2 (owE 1) := by
        have := foJ.ob 1
        rw [put4_ne _ _ (by decide), put4_ne _ _ (by decide), f1] at this
        exact this
      refine ⟨x1, vd2, Bj, n1, s1.1, s1.2, owE 1, d2, rfl, gj.bh, kpj, snd1.ok, snd1.has, snd1.po, dd2.up gj.bb, hv2, by have := snd1.len; omega, fun va2 Bk Hk ow1 gk hok kpk hask dda2 => ?_⟩
      have foK := foJ.set 1 (s' := stepK s1.1 s1.2 d2) (gk.mono fun a ha => by rw [put4_ne _ _ (by decide)]; exact ha) Gj.al (fun a ha => by rw [put4_ne _ _ (by decide)]; exact hok a ha) kpk
      have Gk := Gj.trans gk fun a ha => .inr (foE.nw 1 a ha)
      have Ak := Aj.trans gk fun a ha => .inl trivial
      have bxk := bxj.grow gk fun z => hbaN ba rfl (foE.nw 1 ba z)
      obtain ⟨S1', eS1'⟩ : ∃ S', S' = stepK s1.1 s1.2 d2 := ⟨_, rfl⟩
      have snd1N : Sound n1 (i + 1) S1' := by
        rw [eS1']
        exact ⟨step_ok snd1.ok snd1.po hv2, hask, step_past snd1.ok snd1.has snd1.po, Nat.le_trans (step_len _ _ _) (Nat.succ_le_succ snd1.len)⟩
      obtain ⟨sL, owL, foL, h0, h2, h1, h3⟩ : ∃ (sE : Fin 4 → KS × List KS) (owE : Fin 4 → List Addr), Four ⟨C, mk4 n0 n1 n0 n1, mk4 x0 x1 y0 y1⟩ H Bk Hk sE owE (mk4 KL WL DL AL) xsE ∧ sE 0 = S' ∧ sE 2 = S' ∧ sE 1 = S1' ∧ sE 3 = S1' := by
        refine ⟨_, _, foK, ?_, ?_, ?_, ?_⟩
        · exact f0
        · exact f2
        · rw [eS1']; rfl
        · rw [eS1']; rfl
      clear foK foJ foI
      walk_at "dn"
      refine r_ixLm (i := 1) (v := .ref x1) (foL.at_ 0) (by rw [m0]; rfl) ?_
      walk_at "dn"
      have kpl : KpE C Bk Hk n1 x1 S1'.1 S1'.2 (owL 1) := by
        have := foL.ob 1
        rw [h1] at this
        exact this
      refine ⟨x1, Bk, n1, S1'.1, S1'.2, owL 1, rfl, gk.bh, kpl, snd1N.ok, fun vo2 Bm Hm gm dvo2 => ?_⟩
      have foM := foL.gro gm
      walk_at "dn"
      have Am := Ak.trans gm
      have eam : Ex Ba Bm := ((((((((gb.bb.trans gc.bb).trans gd.bb).trans ge.bb).trans gf.bb).trans gg.bb).trans gh.bb).trans gi.bb).trans (gj.bb.trans gk.bb)).trans gm.bb
      have edm : Ex Bd Bm := ((((((ge.bb.trans gf.bb).trans gg.bb).trans gh.bb).trans gi.bb).trans (gj.bb.trans gk.bb))).trans gm.bb
      have run' : runK (k0, []) (ds ++ [d]) = S' := by rw [runK_snoc, ← eS0, ← eS']
      refine ⟨Bm, gB.trans Am, ds ++ [d], S1', sL, owL, xsE, vo2, _, _, rfl, Gk.trans (Gro.of gm), ex.trans Am.bb, (bxk.grow gm (fun z => z)).more (by omega), foM, by rw [run']; exact h0, by rw [run']; exact h2, h1, h3, m0, m1, ?_, ?_, ?_, run.snoc (by rw [← eS0]; exact hv), by rw [run']; exact sndN, by rw [run']; exact lowN, snd1N, dvo2⟩
      · rw [m2, List.map_append]
        exact (d7.up Am.bb).app (.one (dd.up eam))
      · rw [m3, ansR_snoc, ← eS0]
        exact (d8.up Am.bb).app (.one (dd8.up edm))
      · rw [List.length_append, hdl]; rfl
    · obtain ⟨ds, s1, s, own, xs, vo, o10, o11, rfl, g, ex, bx', fo, e0, e2, e1, e3, l0, l1, d7, d8, hdl, run, snd0, low, snd1, dvo⟩ := p
      obtain ⟨S0, eS0⟩ : ∃ S0, S0 = runK (k0, []) ds := ⟨_, rfl⟩
      rw [← eS0] at e0 e2 snd0 low
      have hbaN : ∀ a, a = ba → H a ≠ none := fun a z => by rw [z, hba]; exact fun z => nomatch z
      walk_at "dn"
      have dP' := dP.up (g11.bb.trans ex)
      refine r_ixL (i := 0) g.bh dP' rfl fun vp0 hp0 => ?_
      walk_at "dn"
      refine r_ixT (i := 0) g.bh hp0 rfl fun vw0 hw0 => ?_
      walk_at "dn"
      refine r_ixL (i := 0) g.bh dP' rfl fun vp1 hp1 => ?_
      walk_at "dn"
      refine r_ixT (i := 1) g.bh hp1 rfl fun vs0 hs0 => ?_
      walk_at "dn"
      intro z dz hz hdz hne
      have gz0 := gro_mut (o := .own z) g.bh hdz
      have hz1 : upd H' dz (.own z) z = none := by rw [upd_ne (Ne.symm hne)]; exact hz
      have gz := gz0.trans (gro_mut (o := .ins C dz []) gz0.bh hz1)
      refine ⟨z, vw0, vs0, dz, B', n0, k0, rfl, gz.bh, upd_same, g.bh.back hz, hw0, hs0, ok0, fun B1 H1 own4 g1 ho ke1 has1 => ?_⟩
      have gA : Gro B' H' B1 H1 := gz.trans g1 fun a ha => .inr (by rw [ha]; exact hz)
      have ow4 : ∀ a ∈ own4, H' a = none := fun a ha => by
        rcases ho a ha with q | q
        · rw [q]; exact hz
        · exact gz.back q
      refine ⟨rfl, ?_⟩
      walk_at "dn"
      have fo1 := fo.gro gA
      have G1 := g.trans (Gro.of gA)
      have bx1 := bx'.grow gA (fun z => z)
      have d71 := d7.up gA.bb
      have d81 := d8.up gA.bb
      have ownN : ∀ j, ∀ a ∈ own j, H' a ≠ none := fun j a ha => by
        obtain ⟨u, h1, _⟩ := (fo.ob j).al.1 a ha
        rw [h1]
        exact fun z => nomatch z
      have laN : ∀ j, H' ((mk4 KL WL DL AL) j) ≠ none := fun j => by
        rw [fo.at_ j]
        exact fun z => nomatch z
      refine lc_st (σ' := [some (.ref ba), some (.ref LP), some (.ref KL), none, none, some (.ref WL), some vg, some (.ref DL), some (.ref AL), some vo, o10, o11, some (.ref z)]) rfl ?_
      refine w_lcl ?_
      walk_at "dn"
      refine lcM_at (F := fun a => a ∈ own4) (B := B1) (enc := dDd) (items := ds) (xs := xs 2) (fun Dl i acc B2 H2 => ∃ ow, KpE C B2 H2 n0 z (runK (k0, []) (ds.take i)).1 (runK (k0, []) (ds.take i)).2 ow ∧ (∀ a ∈ ow, a ∈ own4 ∨ H1 a = none) ∧ Dl ∉ ow ∧ Sound n0 i (runK (k0, []) (ds.take i)) ∧ DA B2 acc (ansR (k0, []) (ds.take i))) gA.bh (fo1.at_ 2) (fun q => laN 2 (ow4 _ q)) d71 (by omega)
        (fun Dl hD => ?_) (fun Dl i it x acc B2 H2 hit hD g2 bD eD la hd p => ?_) (fun D0 acc B2 H2 hD g2 b2 eD p => ?_)
      · have gs := gro_mut (o := .lst []) gA.bh hD
        refine ⟨own4, ke1.grow gs fun _ _ z => z, fun a ha => .inl ha, fun q => ?_, ⟨ok0, has1, (fun k hk => nomatch hk), Nat.le_refl _⟩, .nil⟩
        obtain ⟨u, h1, _⟩ := ke1.al.1 _ q
        rw [hD] at h1
        cases h1
      · obtain ⟨ow, kp2, how, hDn, snd2, da2⟩ := p
        intro Y N hY hN
        refine ⟨rfl, ?_⟩
        walk_at "dn"
        have hil := (List.getElem?_eq_some_iff.mp hit).1
        refine ⟨z, x, B2, n0, _, _, ow, it, rfl, g2.bh, kp2, snd2.ok, snd2.has, snd2.po, hd, run.val i it hit, by have := snd2.len; omega, fun va B8 H8 ow8 g8 ho8 kp8 has8 da8 => ?_⟩
        have e8 := g8.kp _ _ eD hDn
        have b8 := g8.fr Dl _ eD trivial bD
        have g28 := g2.trans g8 fun a ha => how a ha
        have hDn8 : Dl ∉ ow8 := fun q => by
          rcases ho8 _ q with y | y
          · exact hDn y
          · rw [eD] at y
            cases y
        have gs : Gof (fun a => a = Dl) B8 H8 B8 (upd H8 Dl (.lst (acc ++ [va]))) := gof_set (F := fun a => a = Dl) g8.bh rfl b8
        have et : runK (k0, []) (ds.take (i + 1)) = stepK (runK (k0, []) (ds.take i)).1 (runK (k0, []) (ds.take i)).2 it := by rw [take_succ_of hit, runK_snoc]
        refine hY va B8 H8 g28 b8 e8 ⟨ow8, ?_, fun a ha => ?_, hDn8, ?_, ?_⟩
        · rw [et]
          exact kp8.grow gs fun a ha q => hDn8 (q ▸ ha)
        · rcases ho8 a ha with y | y
          · exact how a y
          · exact .inr (g2.back y)
        · rw [et]
          exact ⟨step_ok snd2.ok snd2.po (run.val i it hit), has8, step_past snd2.ok snd2.has snd2.po, Nat.le_trans (step_len _ _ _) (Nat.succ_le_succ snd2.len)⟩
        · rw [take_succ_of hit, ansR_snoc]
          exact (da2.up g8.bb).app (.one da8)
      · obtain ⟨ow, kp2, how, hDn, snd2, da2⟩ := p
        rw [List.take_length] at kp2 snd2 da2
        rw [← eS0] at kp2 snd2
        have ow4N : ∀ a ∈ own4, ∀ j, a ∉ own j := fun a ha j q => ownN j a q (ow4 a ha)
        have la4N : ∀ j, (mk4 KL WL DL AL) j ∉ own4 := fun j q => laN j (ow4 _ q)
        have fo2 := fo1.grow2 g2 (fun j a ha q => ow4N a q j ha) la4N
        have ba4 : ba ∉ own4 := fun q => hbaN ba rfl (g.back (ow4 _ q))
        have bx2 := bx1.grow g2 ba4
        have G2 := G1.trans g2 fun a ha => .inr (g.back (ow4 a ha))
        have owH : ∀ a ∈ ow, H' a = none := fun a ha => by
          rcases how a ha with q | q
          · exact ow4 a q
          · exact gA.back q
        have sa := Sh.list (sh_ansR ds (k0, []))
        walk_at "dn"
        refine r_neD (B := H2) (d1 := .list (ansR (k0, []) ds)) (d2 := .list (ansR (k0, []) ds)) (Ex.refl H2) (.lst eD (da2.up g2.bh)) (.lst (fo2.at_ 3) ((d81.up g2.bb).up g2.bh)) (sa.ok (by decide)) (sa.ok (by decide)) ?_
        rw [eqv_self sa]
        walk_at "dn"
        show if (!true) = true then _ else _
        rw [Bool.not_true]
        walk_at "dn"
        refine ⟨z, B2, n0, S0.1, S0.2, ow, rfl, g2.bh, kp2, snd2.ok, fun vt B3 H3 g3 d3 => ?_⟩
        have fo3 := fo2.gro g3
        walk_at "dn"
        refine r_ixLm (i := 0) (v := .ref x0) (fo3.at_ 0) (by rw [l0]; rfl) ?_
        walk_at "dn"
        have kp03 : KpE C B3 H3 n0 x0 S0.1 S0.2 (own 0) := by
          have := fo3.ob 0
          rw [e0] at this
          exact this
        refine ⟨x0, B3, n0, S0.1, S0.2, own 0, rfl, g3.bh, kp03, snd2.ok, fun vt2 B4 H4 g4 d4 => ?_⟩
        walk_at "dn"
        have st0 := sh_told n0 S0.1
        refine r_neD g4.bh (d3.up g4.bb) d4 (st0.ok (by decide)) (st0.ok (by decide)) ?_
        rw [eqv_self st0]
        walk_at "dn"
        show if (!true) = true then _ else _
        rw [Bool.not_true]
        walk_at "dn"
        have fo4 := fo3.gro g4
        have G4 := (G2.trans (Gro.of g3)).trans (Gro.of g4)
        have bx4 := (bx2.grow g3 (fun z => z)).grow g4 (fun z => z)
        have kp4 := (kp2.grow g3 fun _ _ z => z).grow g4 fun _ _ z => z
        refine ⟨ba, z, B4, _, n0, S0.1, S0.2, ow, rfl, g4.bh, bx4, kp4, snd2.ok, snd2.has, snd2.po, fun q => hbaN ba rfl (g.back (owH _ q)), by have := snd2.len; omega, by omega, fun B5 H5 g5 bx5 => ?_⟩
        have fo5 := fo4.grow2 g5 (fun j a ha q => by
          rcases q with q | q
          · exact hbaN a q (fo.nw j a ha)
          · exact ownN j a ha (owH a q)) (fun j q => by
          rcases q with q | q
          · exact hbaN _ q (fo.ln j)
          · exact laN j (owH _ q))
        have G5 := G4.trans g5 fun a ha => by
          rcases ha with q | q
          · exact .inl q
          · exact .inr (g.back (owH a q))
        walk_at "dn"
        show if (!true) = true then _ else _
        rw [Bool.not_true]
        walk_at "dn"
        have u15 := (((g2.bb.trans g3.bb).trans g4.bb).trans g5.bb)
        have uB5 := (g11.bb.trans ex).trans (gA.bb.trans u15)
        have kp05 : KpE C B5 H5 n0 x0 S0.1 S0.2 (own 0) := by
          have := fo5.ob 0
          rw [e0] at this
          exact this
        have KLn : KL ∉ own 0 := fo5.out 0 0
        have eKL : H5 KL = some (.lst [.ref x0, .ref x1]) := by
          have := fo5.at_ 0
          rw [l0] at this
          exact this
        refine loopM (F := fun a => a ∈ own 0) ds dDd g5.bh (fo5.at_ 2) (fo5.out 2 0) (d71.up u15) ⟨fun i σ' B' H' => ∃ (o10 o11 : Option V) (S : KS × List KS) (ow0 : List Addr), σ' = [some (.ref ba), some (.ref LP), some (.ref KL), none, none, some (.ref WL), some vg, some (.ref DL), some (.ref AL), some vo, o10, o11, some (.ref z)] ∧ KpE C B' H' n0 x0 S.1 S.2 ow0 ∧ (∀ a ∈ ow0, a ∈ own 0) ∧ Low k0 S ∧ S.2.length ≤ ds.length - i,
          ⟨o10, o11, S0, own 0, rfl, kp05, fun a ha => ha, low, by have := snd0.len; omega⟩, fun i y σ' B' H' hi gB hy p => ?_, fun σ' B' H' gB p => ?_⟩
        · obtain ⟨o10, o11, S, ow0, rfl, kpS, hsub, lowS, hlen⟩ := p
          walk_at "dn"
          refine r_ixLm (i := 0) (v := .ref x0) (gB.kp _ _ eKL KLn) rfl ?_
          walk_at "dn"
          obtain ⟨wa, ka, pa, vp, vseen, pq, os, eo, kp⟩ := id kpS
          obtain ⟨dx, hx⟩ := kp.ins
          refine ⟨x0, dx, _, rfl, hx, by rfl, ?_⟩
          walk_at "dn"
          have hul := undo_len S.1 S.2
          refine ⟨x0, B', n0, S.1, S.2, ow0, rfl, gB.bh, kpS, ?_⟩
          rcases List.eq_nil_or_concat S.2 with hp | ⟨past0, kk, hp⟩
          · refine .inl ⟨hp, ?_⟩
            walk_at "dn"
            refine ⟨B', gB, _, _, S, ow0, rfl, kpS, hsub, lowS, ?_⟩
            rw [hp]
            exact Nat.zero_le _
          · have hp : S.2 = past0 ++ [kk] := by rw [hp, List.concat_eq_append]
            refine .inr ⟨past0, kk, hp, fun v B8 H8 ow8 g8 ho8 kp8 d8 => ?_⟩
            walk_at "dn"
            have es : stepK S.1 S.2 .undo = (kk, past0) := by
              rw [hp]
              unfold stepK
              rw [List.getLast?_concat, List.dropLast_concat]
            have lw := lowS.step .undo
            rw [es] at lw hul
            refine ⟨B8, gB.trans g8 fun a ha => .inl (hsub a ha), _, _, (kk, past0), ow8, rfl, kp8, fun a ha => hsub a (ho8 a ha), lw, ?_⟩
            have : past0.length = S.2.length - 1 := hul
            show past0.length ≤ _
            omega
        · obtain ⟨o10, o11, S, ow0, rfl, kpS, hsub, lowS, hlen⟩ := p
          walk_at "dn"
          have hS2 : S.2 = [] := List.eq_nil_of_length_eq_zero (by omega)
          obtain ⟨S1, Sp⟩ := S
          cases hS2
          cases lowS.fin
          refine r_ixLm (i := 0) (v := .ref x0) (gB.kp _ _ eKL KLn) rfl ?_
          walk_at "dn"
          refine ⟨x0, B', n0, k0, [], ow0, rfl, gB.bh, kpS, ok0, fun vt3 B7 H7 g7 d7 => ?_⟩
          walk_at "dn"
          have d6' := d6.up ((g9.bb.trans g10.bb).trans (uB5.trans (gB.bb.trans g7.bb)))
          have st6 := sh_told n0 k0
          refine r_neD g7.bh d7 d6' (st6.ok (by decide)) (st6.ok (by decide)) ?_
          rw [eqv_self st6]
          walk_at "dn"
          show if (!true) = true then _ else _
          rw [Bool.not_true]
          walk_at "dn"
          have G7 := (G5.trans gB fun a ha => .inr (fo5.nw 0 a ha)).trans (Gro.of g7)
          have bx7 := (bx5.grow gB fun q => hbaN ba rfl (fo5.nw 0 ba q)).grow g7 (fun z => z)
          have dP7 := dP.up (uB5.trans (gB.bb.trans g7.bb))
          refine r_ixL (i := 0) g7.bh dP7 rfl fun v1 h1 => ?_
          walk_at "dn"
          refine r_ixT (i := 0) g7.bh h1 rfl fun v2 h2 => ?_
          walk_at "dn"
          refine r_ixT (i := 1) g7.bh h2 rfl fun v3 h3 => ?_
          walk_at "dn"
          refine r_lenT g7.bh h3 ?_
          walk_at "dn"
          refine ite2 (fun cc => ?_) (fun cc => ?_)
          · exact q B7 H7 G7
          · walk_at "dn"
            refine r_ixL (i := 0) g7.bh dP7 rfl fun v4 h4 => ?_
            walk_at "dn"
            refine r_ixT (i := 0) g7.bh h4 rfl fun v5 h5 => ?_
            walk_at "dn"
            refine r_ixL (i := 0) g7.bh dP7 rfl fun v6 h6 => ?_
            walk_at "dn"
            refine r_ixT (i := 1) g7.bh h6 rfl fun v7 h7 => ?_
            walk_at "dn"
            exact ⟨ba, v5, v7, B7, _, n0, k0, rfl, g7.bh, bx7, h5, h7, ok0, by omega, fun B8 H8 g8 bx8 => q B8 H8 (G7.trans g8)⟩
end
end KPR
set_option Elab.async false
set_option linter.all false
set_option maxRecDepth 100000
set_option maxHeartbeats 4000000
/-! W27: the law. -/
namespace KPR
open PySem L2
local macro_rules | `(tactic| walk_at "dn") => `(tactic| repeat (first
  | (with_reducible refine w_seq ?_) | (with_reducible refine w_asg ?_) | (with_reducible refine w_drop ?_) | (with_reducible refine w_ret ?_) | (with_reducible refine w_ifs ?_)
  | ((with_reducible refine' w_var ?hv ?_); (case hv => exact rfl)) | (with_reducible refine w_c ?_) | (with_reducible refine w_op ?_) | (with_reducible refine w_un ?_) | (with_reducible refine w_cb ?_)
  | (with_reducible refine w_nil ?_) | (with_reducible refine w_cons ?_) | (with_reducible refine w_gname ?_) | (with_reducible refine w_test ?_) | (with_reducible refine w_b ?_) | (with_reducible refine w_exbl ?_)
  | (with_reducible refine w_and ?_) | (with_reducible refine w_or ?_) | (with_reducible refine w_not ?_) | (with_reducible refine w_if ?_) | (with_reducible refine w_andV ?_) | (with_reducible refine w_orV ?_) | (with_reducible refine w_notV ?_)
  | (with_reducible refine w_tup ?_) | (with_reducible refine w_lst ?_) | (with_reducible refine w_dnewK ?_) | (with_reducible refine w_dnewT ?_) | (with_reducible refine w_din ?_) | (with_reducible refine w_dnin ?_) | (with_reducible refine w_dget ?_) | (with_reducible refine w_dget2 ?_)
  | (with_reducible refine w_fld ?_) | (with_reducible refine w_cal ?_) | (with_reducible refine w_met ?_) | (with_reducible refine w_mak ?_) | (with_reducible refine w_bm ?_) | (with_reducible refine w_bm0 ?_) | (with_reducible refine w_sl ?_)
  | (with_reducible refine w_nopart ?_) | (with_reducible refine w_part ?_) | (with_reducible refine w_sfld ?_) | (with_reducible refine w_dput ?_) | ((with_reducible refine' w_aug ?hv ?_); (case hv => exact rfl)) | (with_reducible refine w_iT ?_) | (with_reducible refine w_iF ?_)
  | (with_reducible refine w_ii0 ?_) | (with_reducible refine w_neg ?_) | (with_reducible refine w_ip ?_) | (with_reducible refine w_yes ?_) | (with_reducible refine w_for ?_) | (with_reducible refine w_ilist ?_) | (with_reducible refine w_itup ?_) | (with_reducible refine w_irng1 ?_) | (with_reducible refine w_irng2 ?_) | (with_reducible refine w_ienum ?_) | (with_reducible refine w_ienumT ?_)
  | (with_reducible refine w_ckw ?_) | (with_reducible refine w_gd ?_) | (with_reducible refine w_chain ?_) | (with_reducible refine w_max2 ?_) | (with_reducible refine w_min2 ?_) | (with_reducible refine w_int1 ?_) | (with_reducible refine w_gsub ?_) | (with_reducible refine w_par ?_) | (with_reducible refine w_lcr1 ?_) | (with_reducible refine w_pcons ?_) | (with_reducible refine w_pnil ?_) | (with_reducible refine w_next ?_)))

theorem sql_kp {K : PySem.W.Frag} {F : Addr → Prop} {B H B' H' : Hp} {a : Addr} {xs : List V} (h : SqL K H a xs) (g : Gof F B H B' H') (hf : ¬ F a) : SqL K H' a xs := by
  rcases h with (h | ⟨o, h⟩) | h
  · exact .inl (.inl (g.kp _ _ h hf))
  · exact .inl (.inr ⟨o, g.kp _ _ h hf⟩)
  · exact .inr h
section
variable {P : Program} {w : World} {K : PySem.W.Frag} {mg : Str → Option Value} {base : Heap} {C Cf : Addr}
def sp_law (K : PySem.W.Frag) : Sp := fun vs H Q _ => ∃ (a : Addr) (ns : List Int), vs = [.ref a] ∧ SqL K H a (ns.map V.int) ∧ ns.length ≤ 63 ∧ ∀ H', Q (.bl true) H'
theorem ok_law {f : Addr} {fd : FuncData} (F : Fun K "law" "law" s_law f fd) (T : TB mg) (c_l_box : DefT P w K mg base "_law_box" 2 ["_law_script", "_law_k"] (sp_l_box K)) (c_l_right : DefT P w K mg base "_law_right" 10 ["_law_box_here"] sp_l_right) : FnOk P w K mg base CX0 11 f fd ["_law_script"] (sp_law K) := by
  refine F.ok sc_law (fun vs H Q E h => ?_) (fun cdv A outer s H vs Q E hr h => ?_)
  · obtain ⟨_, _, rfl, _⟩ := h
    rfl
  · obtain ⟨a, ns, rfl, hS, hl, q⟩ := h
    refine ⟨_, (pss_one (ps_ret (pe_callB (k_all (K := K) rfl) (by rfl) T.z_all (by decide +kernel) (pa_cons (pe_lc (own := [("_law_k", 1)]) (g := (gName 1)) (by rfl) sc_law.nd (pi_range1 (by rfl) T.z_range (pa_cons (pe_callB (k_max2 rfl) (by rfl) T.z_max (by decide +kernel) (pa_cons pe_int (pa_cons (pe_callB (k_min2 rfl) (by rfl) T.z_min (by decide +kernel) (pa_cons (pe_callB (k_len (K := K)) (by rfl) T.z_len (by decide +kernel) (pa_cons (pv 0) pa_nil)) (pa_cons pe_int pa_nil))) pa_nil))) pa_nil)) (blkOk_by (N := nm_law) (sc := defScope s_law) (by decide +kernel)) (fun _ _ _ _ _ => (pg_name (i := 1) sc_law.nd rfl (by first | exact Or.inl rfl | exact Or.inr rfl))) (fun _ _ _ _ _ => pts_nil) (fun _ _ _ _ _ => (k_call c_l_right hr (pa_cons (k_call c_l_box hr (pa_cons (pv 0) (pa_cons (pv 1) pa_nil))) pa_nil)))) pa_nil)))), ?_⟩
    have e : Ex (fun _ => none) H := fun _ _ z => nomatch z
    walk_at "dn"
    refine ⟨a, _, rfl, .inl hS, ?_⟩
    walk_at "dn"
    obtain ⟨m, em, hm⟩ : ∃ m : Nat, (if (if (2 : Int) < (((ns.map V.int).length : Nat) : Int) then (2 : Int) else (((ns.map V.int).length : Nat) : Int)) > 1 then (if (2 : Int) < (((ns.map V.int).length : Nat) : Int) then (2 : Int) else (((ns.map V.int).length : Nat) : Int)) else 1) = (m : Int) ∧ m ≤ 2 := by
      by_cases h1 : (2 : Int) < (((ns.map V.int).length : Nat) : Int)
      · rw [if_pos h1]
        exact ⟨2, rfl, Nat.le_refl _⟩
      · rw [if_neg h1]
        split
        · exact ⟨(ns.map V.int).length, rfl, by omega⟩
        · exact ⟨1, rfl, by decide⟩
    rw [em]
    refine lcR_at (F := F0) (B := fun _ => none) (fun Dl i acc B' H' => acc = List.replicate i (.bl true)) e (by omega) (fun Dl hD => rfl) (fun Dl i acc B' H' hi hD g' bD eD la p => ?_) (fun Dl acc B' H' hD g' bD eD p => ?_)
    · intro Y N hY hN
      refine ⟨rfl, ?_⟩
      walk_at "dn"
      refine ⟨a, B', ns, i, rfl, g'.bh, sql_kp hS g' (fun z => z), by omega, fun ba H1 hba g1 bx1 => ?_⟩
      walk_at "dn"
      refine ⟨ba, B', rfl, g1.bh, bx1, fun B2 H2 g2 => ?_⟩
      have hDba : Dl ≠ ba := fun z => by
        rw [z, hba] at eD
        cases eD
      have g12 : Gro B' H' B2 H2 := g1.trans g2 fun x hx => .inr (by rw [hx]; exact hba)
      refine hY _ B2 H2 (g'.trans g12) (g12.fr _ _ eD trivial bD) (g12.hh _ _ eD) ?_
      rw [p]
      exact (List.replicate_succ').symm
    · subst p
      walk_at "dn"
      refine r_all (B := H') (bs := List.replicate m true) (Ex.refl H') (.lst eD ?_) ?_
      · rw [List.map_replicate]
        have : ∀ k : Nat, DA H' (List.replicate k (V.bl true)) (List.replicate k (PyData.bool true)) := fun k => by
          induction k with
          | zero => exact .nil
          | succ k ih => exact .cons (.bl true) ih
        exact this m
      · have : (List.replicate m true).all id = true := by
          simp
        rw [this]
        exact q _
end
end KPR
set_option Elab.async false
set_option linter.all false
set_option maxRecDepth 100000
set_option maxHeartbeats 4000000
/-! KTop: what the top has left, joined to the law (printed by gen/top.py). -/
namespace KPR
open PySem L2
section
variable {K : PySem.W.Frag} {mg : Str → Option Value} {h : Heap} {x qual : Str} {st : Stmt} {ps : List Str} {C f : Addr} {oc kV doc pm cdv ct : Value} {od an : Option Addr} {osl : Array (Option Value)}
abbrev BdF (x qual : Str) (st : Stmt) (ps : List Str) : Prop := ∀ (kV doc pm : Value) (an : Option Addr) (cdv ct : Value) (us : List Value), us.length = ps.length → bindArgs (PySem.W.fnOf x qual (defArgs st) (defBody st) (defScope st) .none kV doc pm an cdv ct) ⟨us, []⟩ = pure (ps.zip us)
theorem raw_mk (b : BdF x qual st ps) (X : K.In h) (G : h.Ns mainGlobals mg) (a : PySem.W.nsIn K mainGlobals x = some (some (.ref f))) (l : K.lookup f = some ⟨oc, od, .func (PySem.W.fnOf x qual (defArgs st) (defBody st) (defScope st) .none kV doc pm an cdv ct), osl⟩) (c : PySem.W.codeIn K cdv qual = true) (k : PySem.W.keepIn K (.ref f) = true) : Raw K mg x qual st ps :=
  ⟨f, _, fun_mk l c k, PySem.W.mg_of X G a, (fun_mk l c k).binds b⟩
theorem rawM_mk (b : BdF x qual st ps) (a : PySem.W.findIn K (.ref C) x = some (some (.ref f))) (i : PySem.W.isFn K (.ref f) = true) (l : K.lookup f = some ⟨oc, od, .func (PySem.W.fnOf x qual (defArgs st) (defBody st) (defScope st) .none kV doc pm an cdv ct), osl⟩) (c : PySem.W.codeIn K cdv qual = true) (k : PySem.W.keepIn K (.ref f) = true) : RawM K C x qual st ps :=
  ⟨f, _, fun_mk l c k, ⟨a, i, k⟩, (fun_mk l c k).binds b⟩
theorem rawI_mk {cn : Str} (b : BdF "__init__" qual st ps) (X : K.In h) (G : h.Ns mainGlobals mg) (aC : PySem.W.nsIn K mainGlobals cn = some (some (.ref C))) (mk : PySem.W.makesIn K C = true) (kc : PySem.W.keepIn K (.ref C) = true) (a : PySem.W.findIn K (.ref C) "__init__" = some (some (.ref f))) (i : PySem.W.isFn K (.ref f) = true) (l : K.lookup f = some ⟨oc, od, .func (PySem.W.fnOf "__init__" qual (defArgs st) (defBody st) (defScope st) .none kV doc pm an cdv ct), osl⟩) (c : PySem.W.codeIn K cdv qual = true) (k : PySem.W.keepIn K (.ref f) = true) : RawI K mg C cn qual st ps :=
  ⟨f, _, fun_mk l c k, ⟨mk, a, i, kc⟩, PySem.W.mg_of X G aC, (fun_mk l c k).binds b⟩
theorem kpc_mk (pg : PySem.W.plainGet K C Str.empty = true) (hd : PySem.W.hasDictIn K C = true) (po : PySem.W.plainOver K C = true) (sa : PySem.W.findIn K (.ref C) "__setattr__" = some (some (.builtin "object.__setattr__"))) (n1 : PySem.W.findIn K (.ref C) "many" = some none) (n2 : PySem.W.findIn K (.ref C) "weights" = some none) (n3 : PySem.W.findIn K (.ref C) "posts" = some none) (n4 : PySem.W.findIn K (.ref C) "kept" = some none) (n5 : PySem.W.findIn K (.ref C) "past" = some none) (n6 : PySem.W.findIn K (.ref C) "seen" = some none) : KpC K C := ⟨⟨pg, hd, po, sa⟩, n1, n2, n3, n4, n5, n6⟩
theorem flc_mk (pg : PySem.W.plainGet K C Str.empty = true) (hd : PySem.W.hasDictIn K C = true) (po : PySem.W.plainOver K C = true) (sa : PySem.W.findIn K (.ref C) "__setattr__" = some (some (.builtin "object.__setattr__"))) (n1 : PySem.W.findIn K (.ref C) "ties" = some none) (n2 : PySem.W.findIn K (.ref C) "near" = some none) (n3 : PySem.W.findIn K (.ref C) "amounts" = some none) : FlC K C := ⟨⟨pg, hd, po, sa⟩, n1, n2, n3⟩
end
theorem bd_pairs_cut : BdF "pairs_cut" "pairs_cut" s_pairs_cut ["cut"] := fun _ _ _ _ _ _ us hl => match us, hl with | [_], _ => rfl
theorem bd_weight_of : BdF "weight_of" "weight_of" s_weight_of ["web", "cut"] := fun _ _ _ _ _ _ us hl => match us, hl with | [_, _], _ => rfl
theorem bd_without : BdF "without" "without" s_without ["web", "cut"] := fun _ _ _ _ _ _ us hl => match us, hl with | [_, _], _ => rfl
theorem bd_posts_in : BdF "posts_in" "posts_in" s_posts_in ["posts", "piece"] := fun _ _ _ _ _ _ us hl => match us, hl with | [_, _], _ => rfl
theorem bd_by_weight : BdF "by_weight" "by_weight" s_by_weight ["tie"] := fun _ _ _ _ _ _ us hl => match us, hl with | [_], _ => rfl
theorem bd_others_of : BdF "others_of" "others_of" s_others_of ["posts", "post"] := fun _ _ _ _ _ _ us hl => match us, hl with | [_, _], _ => rfl
theorem bd_edge_of : BdF "edge_of" "edge_of" s_edge_of ["web", "side"] := fun _ _ _ _ _ _ us hl => match us, hl with | [_, _], _ => rfl
theorem bd_side_weight : BdF "side_weight" "side_weight" s_side_weight ["web", "side"] := fun _ _ _ _ _ _ us hl => match us, hl with | [_, _], _ => rfl
theorem bd_beside : BdF "beside" "beside" s_beside ["web"] := fun _ _ _ _ _ _ us hl => match us, hl with | [_], _ => rfl
theorem bd_hangs_on : BdF "hangs_on" "hangs_on" s_hangs_on ["near", "place"] := fun _ _ _ _ _ _ us hl => match us, hl with | [_, _], _ => rfl
theorem bd_pieces : BdF "pieces" "pieces" s_pieces ["web"] := fun _ _ _ _ _ _ us hl => match us, hl with | [_], _ => rfl
theorem bd_is_parting : BdF "is_parting" "is_parting" s_is_parting ["web", "posts", "cut"] := fun _ _ _ _ _ _ us hl => match us, hl with | [_, _, _], _ => rfl
theorem bd_pruned : BdF "pruned" "pruned" s_pruned ["web", "posts", "cut"] := fun _ _ _ _ _ _ us hl => match us, hl with | [_, _, _], _ => rfl
theorem bd_F_room : BdF "room" "Flowing.room" s_F_room ["self", "number", "place"] := fun _ _ _ _ _ _ us hl => match us, hl with | [_, _, _], _ => rfl
theorem bd_F_add : BdF "add" "Flowing.add" s_F_add ["self", "number", "place", "more"] := fun _ _ _ _ _ _ us hl => match us, hl with | [_, _, _, _], _ => rfl
theorem bd_F_init : BdF "__init__" "Flowing.__init__" s_F_init ["self", "web"] := fun _ _ _ _ _ _ us hl => match us, hl with | [_, _], _ => rfl
theorem bd_F_ways_on : BdF "ways_on" "Flowing.ways_on" s_F_ways_on ["self", "sources"] := fun _ _ _ _ _ _ us hl => match us, hl with | [_, _], _ => rfl
theorem bd_F_bring : BdF "bring" "Flowing.bring" s_F_bring ["self", "came", "sink"] := fun _ _ _ _ _ _ us hl => match us, hl with | [_, _, _], _ => rfl
theorem bd_F_fill : BdF "fill" "Flowing.fill" s_F_fill ["self", "sources", "sinks"] := fun _ _ _ _ _ _ us hl => match us, hl with | [_, _, _], _ => rfl
theorem bd_flow : BdF "flow" "flow" s_flow ["web", "sources", "sinks"] := fun _ _ _ _ _ _ us hl => match us, hl with | [_, _, _], _ => rfl
theorem bd_greatest_at : BdF "greatest_at" "greatest_at" s_greatest_at ["values"] := fun _ _ _ _ _ _ us hl => match us, hl with | [_], _ => rfl
theorem bd_singles : BdF "singles" "singles" s_singles ["web", "posts"] := fun _ _ _ _ _ _ us hl => match us, hl with | [_, _], _ => rfl
theorem bd_by_singles : BdF "by_singles" "by_singles" s_by_singles ["web", "posts"] := fun _ _ _ _ _ _ us hl => match us, hl with | [_, _], _ => rfl
theorem bd_K_web_now : BdF "web_now" "Keeper.web_now" s_K_web_now ["self"] := fun _ _ _ _ _ _ us hl => match us, hl with | [_], _ => rfl
theorem bd_K_posts_now : BdF "posts_now" "Keeper.posts_now" s_K_posts_now ["self"] := fun _ _ _ _ _ _ us hl => match us, hl with | [_], _ => rfl
theorem bd_K_cut_of : BdF "cut_of" "Keeper.cut_of" s_K_cut_of ["self", "post"] := fun _ _ _ _ _ _ us hl => match us, hl with | [_, _], _ => rfl
theorem bd_K_find : BdF "find" "Keeper.find" s_K_find ["self", "posts"] := fun _ _ _ _ _ _ us hl => match us, hl with | [_, _], _ => rfl
theorem bd_K_singles_now : BdF "singles_now" "Keeper.singles_now" s_K_singles_now ["self"] := fun _ _ _ _ _ _ us hl => match us, hl with | [_], _ => rfl
theorem bd_K_parting_now : BdF "parting_now" "Keeper.parting_now" s_K_parting_now ["self"] := fun _ _ _ _ _ _ us hl => match us, hl with | [_], _ => rfl
theorem bd_K_look_place : BdF "look_place" "Keeper.look_place" s_K_look_place ["self", "place"] := fun _ _ _ _ _ _ us hl => match us, hl with | [_, _], _ => rfl
theorem bd_K_has_one_end : BdF "has_one_end" "Keeper.has_one_end" s_K_has_one_end ["self", "post", "a", "b"] := fun _ _ _ _ _ _ us hl => match us, hl with | [_, _, _, _], _ => rfl
theorem bd_K_state : BdF "state" "Keeper.state" s_K_state ["self"] := fun _ _ _ _ _ _ us hl => match us, hl with | [_], _ => rfl
theorem bd_K_otherwise_than : BdF "otherwise_than" "Keeper.otherwise_than" s_K_otherwise_than ["self", "kept"] := fun _ _ _ _ _ _ us hl => match us, hl with | [_, _], _ => rfl
theorem bd_K_begin : BdF "begin" "Keeper.begin" s_K_begin ["self"] := fun _ _ _ _ _ _ us hl => match us, hl with | [_], _ => rfl
theorem bd_K_find_all : BdF "find_all" "Keeper.find_all" s_K_find_all ["self", "posts"] := fun _ _ _ _ _ _ us hl => match us, hl with | [_, _], _ => rfl
theorem bd_K_put_post : BdF "put_post" "Keeper.put_post" s_K_put_post ["self", "place"] := fun _ _ _ _ _ _ us hl => match us, hl with | [_, _], _ => rfl
theorem bd_K_take_post : BdF "take_post" "Keeper.take_post" s_K_take_post ["self", "place"] := fun _ _ _ _ _ _ us hl => match us, hl with | [_, _], _ => rfl
theorem bd_K_undo : BdF "undo" "Keeper.undo" s_K_undo ["self"] := fun _ _ _ _ _ _ us hl => match us, hl with | [_], _ => rfl
theorem bd_K_weigh : BdF "weigh" "Keeper.weigh" s_K_weigh ["self", "a", "b", "weight"] := fun _ _ _ _ _ _ us hl => match us, hl with | [_, _, _, _], _ => rfl
theorem bd_K_init : BdF "__init__" "Keeper.__init__" s_K_init ["self", "web", "posts"] := fun _ _ _ _ _ _ us hl => match us, hl with | [_, _, _], _ => rfl
theorem bd_l_cell_at : BdF "_law_cell_at" "_law_cell_at" s_l_cell_at ["_law_script", "_law_k"] := fun _ _ _ _ _ _ us hl => match us, hl with | [_, _], _ => rfl
theorem bd_l_box : BdF "_law_box" "_law_box" s_l_box ["_law_script", "_law_k"] := fun _ _ _ _ _ _ us hl => match us, hl with | [_, _], _ => rfl
theorem bd_l_take : BdF "_law_take" "_law_take" s_l_take ["_law_box_here", "_law_many"] := fun _ _ _ _ _ _ us hl => match us, hl with | [_, _], _ => rfl
theorem bd_l_weight : BdF "_law_weight" "_law_weight" s_l_weight ["_law_box_here", "_law_heavy"] := fun _ _ _ _ _ _ us hl => match us, hl with | [_, _], _ => rfl
theorem bd_l_posts : BdF "_law_posts" "_law_posts" s_l_posts ["_law_box_here", "_law_many", "_law_most"] := fun _ _ _ _ _ _ us hl => match us, hl with | [_, _, _], _ => rfl
theorem bd_l_web : BdF "_law_web" "_law_web" s_l_web ["_law_box_here", "_law_many"] := fun _ _ _ _ _ _ us hl => match us, hl with | [_, _], _ => rfl
theorem bd_l_pair : BdF "_law_pair" "_law_pair" s_l_pair ["_law_box_here"] := fun _ _ _ _ _ _ us hl => match us, hl with | [_], _ => rfl
theorem bd_l_world : BdF "_law_world" "_law_world" s_l_world ["_law_web_here", "_law_posts_here"] := fun _ _ _ _ _ _ us hl => match us, hl with | [_, _], _ => rfl
theorem bd_l_done : BdF "_law_done" "_law_done" s_l_done ["_law_world_here", "_law_deed_here"] := fun _ _ _ _ _ _ us hl => match us, hl with | [_, _], _ => rfl
theorem bd_l_weighed : BdF "_law_weighed" "_law_weighed" s_l_weighed ["_law_box_here", "_law_world_here"] := fun _ _ _ _ _ _ us hl => match us, hl with | [_, _], _ => rfl
theorem bd_l_deed : BdF "_law_deed" "_law_deed" s_l_deed ["_law_box_here", "_law_world_here"] := fun _ _ _ _ _ _ us hl => match us, hl with | [_, _], _ => rfl
theorem bd_l_fair : BdF "_law_fair" "_law_fair" s_l_fair ["_law_box_here", "_law_world_here"] := fun _ _ _ _ _ _ us hl => match us, hl with | [_, _], _ => rfl
theorem bd_l_do : BdF "_law_do" "_law_do" s_l_do ["_law_keeper", "_law_deed_here"] := fun _ _ _ _ _ _ us hl => match us, hl with | [_, _], _ => rfl
theorem bd_l_told : BdF "_law_told" "_law_told" s_l_told ["_law_keeper"] := fun _ _ _ _ _ _ us hl => match us, hl with | [_], _ => rfl
theorem bd_l_anew : BdF "_law_anew" "_law_anew" s_l_anew ["_law_keeper"] := fun _ _ _ _ _ _ us hl => match us, hl with | [_], _ => rfl
theorem bd_l_there_and_back : BdF "_law_there_and_back" "_law_there_and_back" s_l_there_and_back ["_law_box_here", "_law_keeper"] := fun _ _ _ _ _ _ us hl => match us, hl with | [_, _], _ => rfl
theorem bd_l_one_by_one : BdF "_law_one_by_one" "_law_one_by_one" s_l_one_by_one ["_law_box_here", "_law_web_here", "_law_posts_here"] := fun _ _ _ _ _ _ us hl => match us, hl with | [_, _, _], _ => rfl
theorem bd_l_right : BdF "_law_right" "_law_right" s_l_right ["_law_box_here"] := fun _ _ _ _ _ _ us hl => match us, hl with | [_], _ => rfl
theorem bd_law : BdF "law" "law" s_law ["_law_script"] := fun _ _ _ _ _ _ us hl => match us, hl with | [_], _ => rfl
theorem top_law {l : PySem.W.OpenLaw} {w : World} {K : PySem.W.Frag} {h : Heap} {mg : Str → Option Value} {fa C Cf f : Addr} {oc kV doc pm cdv ct : Value} {od an : Option Addr} {osl : Array (Option Value)} (X : K.In h) (G : h.Ns mainGlobals mg) (hfa : mg "law" = some (.ref fa))
    (aC : PySem.W.nsIn K mainGlobals "Keeper" = some (some (.ref C))) (aF : PySem.W.nsIn K mainGlobals "Flowing" = some (some (.ref Cf)))
    (a : PySem.W.nsIn K mainGlobals "law" = some (some (.ref f))) (lk : K.lookup f = some ⟨oc, od, .func (PySem.W.fnOf "law" "law" (defArgs s_law) (defBody s_law) (defScope s_law) .none kV doc pm an cdv ct), osl⟩) (c : PySem.W.codeIn K cdv "law" = true) (k : PySem.W.keepIn K (.ref f) = true)
    (T : TB mg) (kc : KpC K C) (fc : FlC K Cf)
    (R_pairs_cut : Raw K mg "pairs_cut" "pairs_cut" s_pairs_cut ["cut"])
    (R_weight_of : Raw K mg "weight_of" "weight_of" s_weight_of ["web", "cut"])
    (R_without : Raw K mg "without" "without" s_without ["web", "cut"])
    (R_posts_in : Raw K mg "posts_in" "posts_in" s_posts_in ["posts", "piece"])
    (R_by_weight : Raw K mg "by_weight" "by_weight" s_by_weight ["tie"])
    (R_others_of : Raw K mg "others_of" "others_of" s_others_of ["posts", "post"])
    (R_edge_of : Raw K mg "edge_of" "edge_of" s_edge_of ["web", "side"])
    (R_side_weight : Raw K mg "side_weight" "side_weight" s_side_weight ["web", "side"])
    (R_beside : Raw K mg "beside" "beside" s_beside ["web"])
    (R_hangs_on : Raw K mg "hangs_on" "hangs_on" s_hangs_on ["near", "place"])
    (R_pieces : Raw K mg "pieces" "pieces" s_pieces ["web"])
    (R_is_parting : Raw K mg "is_parting" "is_parting" s_is_parting ["web", "posts", "cut"])
    (R_pruned : Raw K mg "pruned" "pruned" s_pruned ["web", "posts", "cut"])
    (R_F_room : RawM K Cf "room" "Flowing.room" s_F_room ["self", "number", "place"])
    (R_F_add : RawM K Cf "add" "Flowing.add" s_F_add ["self", "number", "place", "more"])
    (R_F_init : RawI K mg Cf "Flowing" "Flowing.__init__" s_F_init ["self", "web"])
    (R_F_ways_on : RawM K Cf "ways_on" "Flowing.ways_on" s_F_ways_on ["self", "sources"])
    (R_F_bring : RawM K Cf "bring" "Flowing.bring" s_F_bring ["self", "came", "sink"])
    (R_F_fill : RawM K Cf "fill" "Flowing.fill" s_F_fill ["self", "sources", "sinks"])
    (R_flow : Raw K mg "flow" "flow" s_flow ["web", "sources", "sinks"])
    (R_greatest_at : Raw K mg "greatest_at" "greatest_at" s_greatest_at ["values"])
    (R_singles : Raw K mg "singles" "singles" s_singles ["web", "posts"])
    (R_by_singles : Raw K mg "by_singles" "by_singles" s_by_singles ["web", "posts"])
    (R_K_web_now : RawM K C "web_now" "Keeper.web_now" s_K_web_now ["self"])
    (R_K_posts_now : RawM K C "posts_now" "Keeper.posts_now" s_K_posts_now ["self"])
    (R_K_cut_of : RawM K C "cut_of" "Keeper.cut_of" s_K_cut_of ["self", "post"])
    (R_K_find : RawM K C "find" "Keeper.find" s_K_find ["self", "posts"])
    (R_K_singles_now : RawM K C "singles_now" "Keeper.singles_now" s_K_singles_now ["self"])
    (R_K_parting_now : RawM K C "parting_now" "Keeper.parting_now" s_K_parting_now ["self"])
    (R_K_look_place : RawM K C "look_place" "Keeper.look_place" s_K_look_place ["self", "place"])
    (R_K_has_one_end : RawM K C "has_one_end" "Keeper.has_one_end" s_K_has_one_end ["self", "post", "a", "b"])
    (R_K_state : RawM K C "state" "Keeper.state" s_K_state ["self"])
    (R_K_otherwise_than : RawM K C "otherwise_than" "Keeper.otherwise_than" s_K_otherwise_than ["self", "kept"])
    (R_K_begin : RawM K C "begin" "Keeper.begin" s_K_begin ["self"])
    (R_K_find_all : RawM K C "find_all" "Keeper.find_all" s_K_find_all ["self", "posts"])
    (R_K_put_post : RawM K C "put_post" "Keeper.put_post" s_K_put_post ["self", "place"])
    (R_K_take_post : RawM K C "take_post" "Keeper.take_post" s_K_take_post ["self", "place"])
    (R_K_undo : RawM K C "undo" "Keeper.undo" s_K_undo ["self"])
    (R_K_weigh : RawM K C "weigh" "Keeper.weigh" s_K_weigh ["self", "a", "b", "weight"])
    (R_K_init : RawI K mg C "Keeper" "Keeper.__init__" s_K_init ["self", "web", "posts"])
    (R_l_cell_at : Raw K mg "_law_cell_at" "_law_cell_at" s_l_cell_at ["_law_script", "_law_k"])
    (R_l_box : Raw K mg "_law_box" "_law_box" s_l_box ["_law_script", "_law_k"])
    (R_l_take : Raw K mg "_law_take" "_law_take" s_l_take ["_law_box_here", "_law_many"])
    (R_l_weight : Raw K mg "_law_weight" "_law_weight" s_l_weight ["_law_box_here", "_law_heavy"])
    (R_l_posts : Raw K mg "_law_posts" "_law_posts" s_l_posts ["_law_box_here", "_law_many", "_law_most"])
    (R_l_web : Raw K mg "_law_web" "_law_web" s_l_web ["_law_box_here", "_law_many"])
    (R_l_pair : Raw K mg "_law_pair" "_law_pair" s_l_pair ["_law_box_here"])
    (R_l_world : Raw K mg "_law_world" "_law_world" s_l_world ["_law_web_here", "_law_posts_here"])
    (R_l_done : Raw K mg "_law_done" "_law_done" s_l_done ["_law_world_here", "_law_deed_here"])
    (R_l_weighed : Raw K mg "_law_weighed" "_law_weighed" s_l_weighed ["_law_box_here", "_law_world_here"])
    (R_l_deed : Raw K mg "_law_deed" "_law_deed" s_l_deed ["_law_box_here", "_law_world_here"])
    (R_l_fair : Raw K mg "_law_fair" "_law_fair" s_l_fair ["_law_box_here", "_law_world_here"])
    (R_l_do : Raw K mg "_law_do" "_law_do" s_l_do ["_law_keeper", "_law_deed_here"])
    (R_l_told : Raw K mg "_law_told" "_law_told" s_l_told ["_law_keeper"])
    (R_l_anew : Raw K mg "_law_anew" "_law_anew" s_l_anew ["_law_keeper"])
    (R_l_there_and_back : Raw K mg "_law_there_and_back" "_law_there_and_back" s_l_there_and_back ["_law_box_here", "_law_keeper"])
    (R_l_one_by_one : Raw K mg "_law_one_by_one" "_law_one_by_one" s_l_one_by_one ["_law_box_here", "_law_web_here", "_law_posts_here"])
    (R_l_right : Raw K mg "_law_right" "_law_right" s_l_right ["_law_box_here"]) :
    ∃ fd : FuncData, (∀ (s : Shared) (v : Value), BindsTo s fd ⟨[v], []⟩ [("_law_script", v)]) ∧ ∀ base : Heap, K.In base → base.Ns mainGlobals mg → FnOk l.prog w K mg base CX0 11 fa fd ["_law_script"] (sp_law K) := by
  have e := hfa.symm.trans (PySem.W.mg_of X G a)
  cases e
  refine ⟨PySem.W.fnOf "law" "law" (defArgs s_law) (defBody s_law) (defScope s_law) .none kV doc pm an cdv ct, fun s v => .of_eq rfl, fun base _ _ => ?_⟩
  have c_pairs_cut := ok_pairs_cut (P := l.prog) (w := w) (base := base) R_pairs_cut T
  have c_weight_of := ok_weight_of (P := l.prog) (w := w) (base := base) R_weight_of T c_pairs_cut
  have c_without := ok_without (P := l.prog) (w := w) (base := base) R_without T c_pairs_cut
  have c_posts_in := ok_posts_in (P := l.prog) (w := w) (base := base) R_posts_in T
  have c_by_weight := ok_by_weight (P := l.prog) (w := w) (base := base) R_by_weight T
  have c_others_of := ok_others_of (P := l.prog) (w := w) (base := base) R_others_of T
  have c_edge_of := ok_edge_of (P := l.prog) (w := w) (base := base) R_edge_of T
  have c_side_weight := ok_side_weight (P := l.prog) (w := w) (base := base) R_side_weight T
  have c_beside := ok_beside (P := l.prog) (w := w) (base := base) R_beside T
  have c_hangs_on := ok_hangs_on (P := l.prog) (w := w) (base := base) R_hangs_on T
  have c_pieces := ok_pieces (P := l.prog) (w := w) (base := base) R_pieces T c_beside c_hangs_on
  have c_is_parting := ok_is_parting (P := l.prog) (w := w) (base := base) R_is_parting T c_pieces c_without c_posts_in
  have c_pruned := ok_pruned (P := l.prog) (w := w) (base := base) R_pruned T c_by_weight c_is_parting
  have c_F_room := ok_F_room (P := l.prog) (w := w) (base := base) R_F_room fc T
  have c_F_add := ok_F_add (P := l.prog) (w := w) (base := base) R_F_add fc T
  have c_F_init := ok_F_init (P := l.prog) (w := w) (base := base) R_F_init fc T
  have c_F_ways_on := ok_F_ways_on (P := l.prog) (w := w) (base := base) R_F_ways_on fc T c_F_room
  have c_F_bring := ok_F_bring (P := l.prog) (w := w) (base := base) R_F_bring fc T c_F_room c_F_add
  have c_F_fill := ok_F_fill (P := l.prog) (w := w) (base := base) R_F_fill fc T c_F_ways_on c_F_bring
  have c_flow := ok_flow (P := l.prog) (w := w) (base := base) R_flow fc T c_F_init c_F_fill c_side_weight
  have c_greatest_at := ok_greatest_at (P := l.prog) (w := w) (base := base) R_greatest_at T
  have c_singles := ok_singles (P := l.prog) (w := w) (base := base) R_singles T c_flow c_others_of
  have c_by_singles := ok_by_singles (P := l.prog) (w := w) (base := base) R_by_singles T c_singles c_greatest_at c_edge_of c_pruned c_weight_of
  have c_K_web_now := ok_K_web_now (P := l.prog) (w := w) (base := base) R_K_web_now kc T
  have c_K_posts_now := ok_K_posts_now (P := l.prog) (w := w) (base := base) R_K_posts_now kc T
  have c_K_cut_of := ok_K_cut_of (P := l.prog) (w := w) (base := base) R_K_cut_of kc T c_flow c_K_web_now
  have c_K_find := ok_K_find (P := l.prog) (w := w) (base := base) R_K_find kc T c_K_cut_of
  have c_K_singles_now := ok_K_singles_now (P := l.prog) (w := w) (base := base) R_K_singles_now kc T c_K_cut_of
  have c_K_parting_now := ok_K_parting_now (P := l.prog) (w := w) (base := base) R_K_parting_now kc T c_by_singles c_K_web_now
  have c_K_look_place := ok_K_look_place (P := l.prog) (w := w) (base := base) R_K_look_place kc T
  have c_K_has_one_end := ok_K_has_one_end (P := l.prog) (w := w) (base := base) R_K_has_one_end kc T
  have c_K_state := ok_K_state (P := l.prog) (w := w) (base := base) R_K_state kc T
  have c_K_otherwise_than := ok_K_otherwise_than (P := l.prog) (w := w) (base := base) R_K_otherwise_than kc T
  have c_K_begin := ok_K_begin (P := l.prog) (w := w) (base := base) R_K_begin kc T c_K_state
  have c_K_find_all := ok_K_find_all (P := l.prog) (w := w) (base := base) R_K_find_all kc T c_K_find c_K_otherwise_than
  have c_K_put_post := ok_K_put_post (P := l.prog) (w := w) (base := base) R_K_put_post kc T c_K_look_place c_K_begin c_K_find_all
  have c_K_take_post := ok_K_take_post (P := l.prog) (w := w) (base := base) R_K_take_post kc T c_K_look_place c_K_begin c_K_find_all
  have c_K_undo := ok_K_undo (P := l.prog) (w := w) (base := base) R_K_undo kc T c_K_otherwise_than
  have c_K_weigh := ok_K_weigh (P := l.prog) (w := w) (base := base) R_K_weigh kc T c_K_look_place c_K_begin c_K_has_one_end c_K_find c_K_otherwise_than
  have c_K_init := ok_K_init (P := l.prog) (w := w) (base := base) R_K_init kc T c_K_find
  have c_l_cell_at := ok_l_cell_at (P := l.prog) (w := w) (base := base) R_l_cell_at T
  have c_l_box := ok_l_box (P := l.prog) (w := w) (base := base) R_l_box T c_l_cell_at
  have c_l_take := ok_l_take (P := l.prog) (w := w) (base := base) R_l_take T
  have c_l_weight := ok_l_weight (P := l.prog) (w := w) (base := base) R_l_weight T c_l_take
  have c_l_posts := ok_l_posts (P := l.prog) (w := w) (base := base) R_l_posts T c_l_take
  have c_l_web := ok_l_web (P := l.prog) (w := w) (base := base) R_l_web T c_l_take c_l_weight
  have c_l_pair := ok_l_pair (P := l.prog) (w := w) (base := base) R_l_pair T c_l_take c_l_web c_l_posts
  have c_l_world := ok_l_world (P := l.prog) (w := w) (base := base) R_l_world T
  have c_l_done := ok_l_done (P := l.prog) (w := w) (base := base) R_l_done T
  have c_l_weighed := ok_l_weighed (P := l.prog) (w := w) (base := base) R_l_weighed T c_l_take
  have c_l_deed := ok_l_deed (P := l.prog) (w := w) (base := base) R_l_deed T c_l_take c_l_weighed
  have c_l_fair := ok_l_fair (P := l.prog) (w := w) (base := base) R_l_fair T c_l_deed c_l_weighed
  have c_l_do := ok_l_do (P := l.prog) (w := w) (base := base) R_l_do T c_K_weigh c_K_put_post c_K_take_post c_K_undo
  have c_l_told := ok_l_told (P := l.prog) (w := w) (base := base) R_l_told T c_K_singles_now c_K_web_now c_K_posts_now c_K_parting_now
  have c_l_anew := ok_l_anew (P := l.prog) (w := w) (base := base) R_l_anew T c_l_told c_K_web_now c_K_posts_now c_K_init
  have c_l_there_and_back := ok_l_there_and_back (P := l.prog) (w := w) (base := base) R_l_there_and_back T c_l_take c_l_told c_K_weigh
  have c_l_one_by_one := ok_l_one_by_one (P := l.prog) (w := w) (base := base) R_l_one_by_one T c_l_take c_l_told c_K_weigh c_K_init
  have c_l_right := ok_l_right (P := l.prog) (w := w) (base := base) R_l_right T c_l_pair c_l_world c_l_done c_l_fair c_l_do c_l_told c_l_anew c_l_there_and_back c_l_one_by_one c_K_init c_K_undo
  exact ok_law (fun_mk (st := s_law) lk c k) T c_l_box c_l_right
theorem walk_top {l : PySem.W.OpenLaw} {q : Program} {loose : List Str} {XP : (Str → Option Value) → Heap → Prop} {YP : World → Heap → Prop} {d : DefRec} {K : Params → PySem.W.Frag} (hn : l.most = some 63) (hdf : d.params.defaults = [])
    (hY : ∀ (w : World) (h : Heap), YP w h → (K w.params).In h)
    (F : ∀ (w : World) (mg : Str → Option Value) (fa : Addr) (h : Heap), (K w.params).In h → h.Ns mainGlobals mg → mg d.name = some (.ref fa) →
      ∃ fd : FuncData, (∀ (s : Shared) (u : Value), BindsTo s fd ⟨[u], []⟩ [("_law_script", u)]) ∧ ∀ base : Heap, (K w.params).In base → base.Ns mainGlobals mg → FnOk l.prog w (K w.params) mg base CX0 11 fa fd ["_law_script"] (sp_law (K w.params))) :
    PySem.W.WalkO q loose XP YP l.row.toRowW d [] (fun f vs => PySem.call f vs) :=
  L2.walk_of (n := 63) (k := 11) (x := "_law_script") (CX := fun _ => CX0) (sp := fun w => sp_law (K w.params)) hn (by decide) hdf ⟨rfl, by decide, by decide⟩ hY F (fun _ _ a ns hl _ hS => ⟨a, ns, rfl, hS, hl, fun _ => rfl⟩) fun _ _ _ _ _ z => z
end KPR
set_option Elab.async false
set_option linter.all false
set_option maxRecDepth 100000
/-! KHead: the head. -/
namespace KPR
open PySem PySem.W PyProof.Rows
set_option maxHeartbeats 0 in
open_top hd for PySem.Challenge.rw_partedweb_k85_whole_keepers_beside_all_a
end KPR
set_option Elab.async false
set_option linter.all false
set_option maxRecDepth 100000
/-! KEnd: the facts by k_is, the law (printed by gen/top.py). -/
open PySem PySem.W PyProof.Rows
set_option maxRecDepth 100000 in
set_option maxHeartbeats 0 in
theorem PySem.Challenge.cw_partedweb_k85_whole_keepers_beside_all_a_holds : PySem.Challenge.rw_partedweb_k85_whole_keepers_beside_all_a.Holds := by
  refine KPR.hd ?_
  k_fill
  refine KPR.walk_top (l := PySem.Challenge.rw_partedweb_k85_whole_keepers_beside_all_a) rfl rfl (fun w h Y => PySem.W.kIn_of Y) ?F
  case F =>
    intro w mg fa h KX G hmg
    refine' KPR.top_law KX G hmg ?aC ?aF ?aL ?lL ?cL ?kL ?T ?kc ?fc ?R_pairs_cut ?R_weight_of ?R_without ?R_posts_in ?R_by_weight ?R_others_of ?R_edge_of ?R_side_weight ?R_beside ?R_hangs_on ?R_pieces ?R_is_parting ?R_pruned ?R_F_room ?R_F_add ?R_F_init ?R_F_ways_on ?R_F_bring ?R_F_fill ?R_flow ?R_greatest_at ?R_singles ?R_by_singles ?R_K_web_now ?R_K_posts_now ?R_K_cut_of ?R_K_find ?R_K_singles_now ?R_K_parting_now ?R_K_look_place ?R_K_has_one_end ?R_K_state ?R_K_otherwise_than ?R_K_begin ?R_K_find_all ?R_K_put_post ?R_K_take_post ?R_K_undo ?R_K_weigh ?R_K_init ?R_l_cell_at ?R_l_box ?R_l_take ?R_l_weight ?R_l_posts ?R_l_web ?R_l_pair ?R_l_world ?R_l_done ?R_l_weighed ?R_l_deed ?R_l_fair ?R_l_do ?R_l_told ?R_l_anew ?R_l_there_and_back ?R_l_one_by_one ?R_l_right
    (case aC => k_is); (case aF => k_is); (case aL => k_is); (case lL => k_is); (case cL => k_is); (case kL => k_is)
    (case T => refine' ⟨PySem.W.mg_none_of KX G ?z_len, PySem.W.mg_none_of KX G ?z_sum, PySem.W.mg_none_of KX G ?z_min, PySem.W.mg_none_of KX G ?z_max, PySem.W.mg_none_of KX G ?z_all, PySem.W.mg_none_of KX G ?z_sorted, PySem.W.mg_none_of KX G ?z_range, PySem.W.mg_none_of KX G ?z_enumerate, PySem.W.mg_none_of KX G ?z_abs, PySem.W.mg_none_of KX G ?z_int, PySem.W.mg_none_of KX G ?z_dict, PySem.W.mg_none_of KX G ?z_tuple, PySem.W.mg_none_of KX G ?z_list, PySem.W.mg_none_of KX G ?z_set⟩; (case z_len => k_is); (case z_sum => k_is); (case z_min => k_is); (case z_max => k_is); (case z_all => k_is); (case z_sorted => k_is); (case z_range => k_is); (case z_enumerate => k_is); (case z_abs => k_is); (case z_int => k_is); (case z_dict => k_is); (case z_tuple => k_is); (case z_list => k_is); (case z_set => k_is))
    (case kc => refine' KPR.kpc_mk ?p1 ?p2 ?p3 ?p4 ?n0 ?n1 ?n2 ?n3 ?n4 ?n5; (case p1 => k_is); (case p2 => k_is); (case p3 => k_is); (case p4 => k_is); (case n0 => k_is); (case n1 => k_is); (case n2 => k_is); (case n3 => k_is); (case n4 => k_is); (case n5 => k_is))
    (case fc => refine' KPR.flc_mk ?p1 ?p2 ?p3 ?p4 ?n0 ?n1 ?n2; (case p1 => k_is); (case p2 => k_is); (case p3 => k_is); (case p4 => k_is); (case n0 => k_is); (case n1 => k_is); (case n2 => k_is))
    (case R_pairs_cut => refine' KPR.raw_mk KPR.bd_pairs_cut KX G ?a ?l ?c ?k; (case a => k_is); (case l => k_is); (case c => k_is); (case k => k_is))
    (case R_weight_of => refine' KPR.raw_mk KPR.bd_weight_of KX G ?a ?l ?c ?k; (case a => k_is); (case l => k_is); (case c => k_is); (case k => k_is))
    (case R_without => refine' KPR.raw_mk KPR.bd_without KX G ?a ?l ?c ?k; (case a => k_is); (case l => k_is); (case c => k_is); (case k => k_is))
    (case R_posts_in => refine' KPR.raw_mk KPR.bd_posts_in KX G ?a ?l ?c ?k; (case a => k_is); (case l => k_is); (case c => k_is); (case k => k_is))
    (case R_by_weight => refine' KPR.raw_mk KPR.bd_by_weight KX G ?a ?l ?c ?k; (case a => k_is); (case l => k_is); (case c => k_is); (case k => k_is))
    (case R_others_of => refine' KPR.raw_mk KPR.bd_others_of KX G ?a ?l ?c ?k; (case a => k_is); (case l => k_is); (case c => k_is); (case k => k_is))
    (case R_edge_of => refine' KPR.raw_mk KPR.bd_edge_of KX G ?a ?l ?c ?k; (case a => k_is); (case l => k_is); (case c => k_is); (case k => k_is))
    (case R_side_weight => refine' KPR.raw_mk KPR.bd_side_weight KX G ?a ?l ?c ?k; (case a => k_is); (case l => k_is); (case c => k_is); (case k => k_is))
    (case R_beside => refine' KPR.raw_mk KPR.bd_beside KX G ?a ?l ?c ?k; (case a => k_is); (case l => k_is); (case c => k_is); (case k => k_is))
    (case R_hangs_on => refine' KPR.raw_mk KPR.bd_hangs_on KX G ?a ?l ?c ?k; (case a => k_is); (case l => k_is); (case c => k_is); (case k => k_is))
    (case R_pieces => refine' KPR.raw_mk KPR.bd_pieces KX G ?a ?l ?c ?k; (case a => k_is); (case l => k_is); (case c => k_is); (case k => k_is))
    (case R_is_parting => refine' KPR.raw_mk KPR.bd_is_parting KX G ?a ?l ?c ?k; (case a => k_is); (case l => k_is); (case c => k_is); (case k => k_is))
    (case R_pruned => refine' KPR.raw_mk KPR.bd_pruned KX G ?a ?l ?c ?k; (case a => k_is); (case l => k_is); (case c => k_is); (case k => k_is))
    (case R_F_room => refine' KPR.rawM_mk KPR.bd_F_room ?a ?i ?l ?c ?k; (case a => k_is); (case i => k_is); (case l => k_is); (case c => k_is); (case k => k_is))
    (case R_F_add => refine' KPR.rawM_mk KPR.bd_F_add ?a ?i ?l ?c ?k; (case a => k_is); (case i => k_is); (case l => k_is); (case c => k_is); (case k => k_is))
    (case R_F_init => refine' KPR.rawI_mk KPR.bd_F_init KX G ?aC ?mk ?kc ?a ?i ?l ?c ?k; (case aC => k_is); (case mk => k_is); (case kc => k_is); (case a => k_is); (case i => k_is); (case l => k_is); (case c => k_is); (case k => k_is))
    (case R_F_ways_on => refine' KPR.rawM_mk KPR.bd_F_ways_on ?a ?i ?l ?c ?k; (case a => k_is); (case i => k_is); (case l => k_is); (case c => k_is); (case k => k_is))
    (case R_F_bring => refine' KPR.rawM_mk KPR.bd_F_bring ?a ?i ?l ?c ?k; (case a => k_is); (case i => k_is); (case l => k_is); (case c => k_is); (case k => k_is))
    (case R_F_fill => refine' KPR.rawM_mk KPR.bd_F_fill ?a ?i ?l ?c ?k; (case a => k_is); (case i => k_is); (case l => k_is); (case c => k_is); (case k => k_is))
    (case R_flow => refine' KPR.raw_mk KPR.bd_flow KX G ?a ?l ?c ?k; (case a => k_is); (case l => k_is); (case c => k_is); (case k => k_is))
    (case R_greatest_at => refine' KPR.raw_mk KPR.bd_greatest_at KX G ?a ?l ?c ?k; (case a => k_is); (case l => k_is); (case c => k_is); (case k => k_is))
    (case R_singles => refine' KPR.raw_mk KPR.bd_singles KX G ?a ?l ?c ?k; (case a => k_is); (case l => k_is); (case c => k_is); (case k => k_is))
    (case R_by_singles => refine' KPR.raw_mk KPR.bd_by_singles KX G ?a ?l ?c ?k; (case a => k_is); (case l => k_is); (case c => k_is); (case k => k_is))
    (case R_K_web_now => refine' KPR.rawM_mk KPR.bd_K_web_now ?a ?i ?l ?c ?k; (case a => k_is); (case i => k_is); (case l => k_is); (case c => k_is); (case k => k_is))
    (case R_K_posts_now => refine' KPR.rawM_mk KPR.bd_K_posts_now ?a ?i ?l ?c ?k; (case a => k_is); (case i => k_is); (case l => k_is); (case c => k_is); (case k => k_is))
    (case R_K_cut_of => refine' KPR.rawM_mk KPR.bd_K_cut_of ?a ?i ?l ?c ?k; (case a => k_is); (case i => k_is); (case l => k_is); (case c => k_is); (case k => k_is))
    (case R_K_find => refine' KPR.rawM_mk KPR.bd_K_find ?a ?i ?l ?c ?k; (case a => k_is); (case i => k_is); (case l => k_is); (case c => k_is); (case k => k_is))
    (case R_K_singles_now => refine' KPR.rawM_mk KPR.bd_K_singles_now ?a ?i ?l ?c ?k; (case a => k_is); (case i => k_is); (case l => k_is); (case c => k_is); (case k => k_is))
    (case R_K_parting_now => refine' KPR.rawM_mk KPR.bd_K_parting_now ?a ?i ?l ?c ?k; (case a => k_is); (case i => k_is); (case l => k_is); (case c => k_is); (case k => k_is))
    (case R_K_look_place => refine' KPR.rawM_mk KPR.bd_K_look_place ?a ?i ?l ?c ?k; (case a => k_is); (case i => k_is); (case l => k_is); (case c => k_is); (case k => k_is))
    (case R_K_has_one_end => refine' KPR.rawM_mk KPR.bd_K_has_one_end ?a ?i ?l ?c ?k; (case a => k_is); (case i => k_is); (case l => k_is); (case c => k_is); (case k => k_is))
    (case R_K_state => refine' KPR.rawM_mk KPR.bd_K_state ?a ?i ?l ?c ?k; (case a => k_is); (case i => k_is); (case l => k_is); (case c => k_is); (case k => k_is))
    (case R_K_otherwise_than => refine' KPR.rawM_mk KPR.bd_K_otherwise_than ?a ?i ?l ?c ?k; (case a => k_is); (case i => k_is); (case l => k_is); (case c => k_is); (case k => k_is))
    (case R_K_begin => refine' KPR.rawM_mk KPR.bd_K_begin ?a ?i ?l ?c ?k; (case a => k_is); (case i => k_is); (case l => k_is); (case c => k_is); (case k => k_is))
    (case R_K_find_all => refine' KPR.rawM_mk KPR.bd_K_find_all ?a ?i ?l ?c ?k; (case a => k_is); (case i => k_is); (case l => k_is); (case c => k_is); (case k => k_is))
    (case R_K_put_post => refine' KPR.rawM_mk KPR.bd_K_put_post ?a ?i ?l ?c ?k; (case a => k_is); (case i => k_is); (case l => k_is); (case c => k_is); (case k => k_is))
    (case R_K_take_post => refine' KPR.rawM_mk KPR.bd_K_take_post ?a ?i ?l ?c ?k; (case a => k_is); (case i => k_is); (case l => k_is); (case c => k_is); (case k => k_is))
    (case R_K_undo => refine' KPR.rawM_mk KPR.bd_K_undo ?a ?i ?l ?c ?k; (case a => k_is); (case i => k_is); (case l => k_is); (case c => k_is); (case k => k_is))
    (case R_K_weigh => refine' KPR.rawM_mk KPR.bd_K_weigh ?a ?i ?l ?c ?k; (case a => k_is); (case i => k_is); (case l => k_is); (case c => k_is); (case k => k_is))
    (case R_K_init => refine' KPR.rawI_mk KPR.bd_K_init KX G ?aC ?mk ?kc ?a ?i ?l ?c ?k; (case aC => k_is); (case mk => k_is); (case kc => k_is); (case a => k_is); (case i => k_is); (case l => k_is); (case c => k_is); (case k => k_is))
    (case R_l_cell_at => refine' KPR.raw_mk KPR.bd_l_cell_at KX G ?a ?l ?c ?k; (case a => k_is); (case l => k_is); (case c => k_is); (case k => k_is))
    (case R_l_box => refine' KPR.raw_mk KPR.bd_l_box KX G ?a ?l ?c ?k; (case a => k_is); (case l => k_is); (case c => k_is); (case k => k_is))
    (case R_l_take => refine' KPR.raw_mk KPR.bd_l_take KX G ?a ?l ?c ?k; (case a => k_is); (case l => k_is); (case c => k_is); (case k => k_is))
    (case R_l_weight => refine' KPR.raw_mk KPR.bd_l_weight KX G ?a ?l ?c ?k; (case a => k_is); (case l => k_is); (case c => k_is); (case k => k_is))
    (case R_l_posts => refine' KPR.raw_mk KPR.bd_l_posts KX G ?a ?l ?c ?k; (case a => k_is); (case l => k_is); (case c => k_is); (case k => k_is))
    (case R_l_web => refine' KPR.raw_mk KPR.bd_l_web KX G ?a ?l ?c ?k; (case a => k_is); (case l => k_is); (case c => k_is); (case k => k_is))
    (case R_l_pair => refine' KPR.raw_mk KPR.bd_l_pair KX G ?a ?l ?c ?k; (case a => k_is); (case l => k_is); (case c => k_is); (case k => k_is))
    (case R_l_world => refine' KPR.raw_mk KPR.bd_l_world KX G ?a ?l ?c ?k; (case a => k_is); (case l => k_is); (case c => k_is); (case k => k_is))
    (case R_l_done => refine' KPR.raw_mk KPR.bd_l_done KX G ?a ?l ?c ?k; (case a => k_is); (case l => k_is); (case c => k_is); (case k => k_is))
    (case R_l_weighed => refine' KPR.raw_mk KPR.bd_l_weighed KX G ?a ?l ?c ?k; (case a => k_is); (case l => k_is); (case c => k_is); (case k => k_is))
    (case R_l_deed => refine' KPR.raw_mk KPR.bd_l_deed KX G ?a ?l ?c ?k; (case a => k_is); (case l => k_is); (case c => k_is); (case k => k_is))
    (case R_l_fair => refine' KPR.raw_mk KPR.bd_l_fair KX G ?a ?l ?c ?k; (case a => k_is); (case l => k_is); (case c => k_is); (case k => k_is))
    (case R_l_do => refine' KPR.raw_mk KPR.bd_l_do KX G ?a ?l ?c ?k; (case a => k_is); (case l => k_is); (case c => k_is); (case k => k_is))
    (case R_l_told => refine' KPR.raw_mk KPR.bd_l_told KX G ?a ?l ?c ?k; (case a => k_is); (case l => k_is); (case c => k_is); (case k => k_is))
    (case R_l_anew => refine' KPR.raw_mk KPR.bd_l_anew KX G ?a ?l ?c ?k; (case a => k_is); (case l => k_is); (case c => k_is); (case k => k_is))
    (case R_l_there_and_back => refine' KPR.raw_mk KPR.bd_l_there_and_back KX G ?a ?l ?c ?k; (case a => k_is); (case l => k_is); (case c => k_is); (case k => k_is))
    (case R_l_one_by_one => refine' KPR.raw_mk KPR.bd_l_one_by_one KX G ?a ?l ?c ?k; (case a => k_is); (case l => k_is); (case c => k_is); (case k => k_is))
    (case R_l_right => refine' KPR.raw_mk KPR.bd_l_right KX G ?a ?l ?c ?k; (case a => k_is); (case l => k_is); (case c => k_is); (case k => k_is))
