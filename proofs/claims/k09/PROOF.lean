import PyProof.Rows.All
import Wide.All
import OpenK.AllK
import Wide.FinOn
import HandS.ForMost
import HandS.Wide
import HandS.Deep
import HandS.IsInst
import HandS.TupAny
import HandS.SortInts
import HandS.Flow
import HandS.Walk
import HandS.Zip
import HandS.Codes
import HandS.Evl
import HandS.Text
import PySem.Challenge.RW_shapewhole_k09_chunks_of_a_text
set_option Elab.async false
set_option linter.all false
set_option maxRecDepth 100000
namespace SW
open PySem L2

structure GF (P : Program) (w : World) (K : PySem.W.Frag) (mg : Str → Option Value) (base : Heap) (CX : CXT) (x : Str) (k : Nat) (ps : List Str) (sp : Sp) : Prop where
  ex : ∃ (f : Addr) (fd : FuncData), FnOk P w K mg base CX k f fd ps sp ∧ mg x = some (.ref f) ∧ PySem.W.keepIn K (.ref f) = true ∧ Binds K fd ps []
section
variable {X : Cx} {x : Str} {k j : Nat} {ps : List Str} {sp : Sp} {e : Expr} {es : List Expr} {t : TA} {p pos : Pos}
def tCg (sp : Sp) (t : TA) : TE := fun σ H Q => t σ H fun vs H1 => sp vs H1 Q E0
theorem pe_cg (G : GF X.prog X.w X.K X.mg X.base CX0 x k ps sp) (hr : Room j X.A) (hg : Gl X x) (ha : PA X (e :: es) t) (hk : k ≤ j := by first | decide | omega)
    (hdb : (x == ("__debug__" : Str)) = false := by decide) (he : starEach (e :: es) X.env = (false, eval e X.env) :: starEach es X.env := by rfl) (hpl : (backTo pos (starEach es X.env)).any (·.1) = false := by rfl) :
    PE X (.Call (.Name x p) (e :: es) [] pos) (tCg sp t) := by
  obtain ⟨f, fd, F, hm, hkp, hb⟩ := G.ex
  have h := pe_call (p := p) (pos := pos) F (hr.mono hk) hg hm hkp hb .nil (pass0 (X := X)) ha hdb he hpl
  refine ⟨fun pins s σ H Q I q => h.run pins s σ H Q I ?_⟩
  have e1 : tCall sp [] E0 t = tCg sp t := by
    funext σ H Q
    show (t σ H fun vs H1 => sp (vs ++ []) H1 Q E0) = (t σ H fun vs H1 => sp vs H1 Q E0)
    simp only [List.append_nil]
  rw [e1]
  exact q
theorem pe_cg0 (G : GF X.prog X.w X.K X.mg X.base CX0 x k ps sp) (hr : Room j X.A) (hg : Gl X x) (hk : k ≤ j := by first | decide | omega)
    (hdb : (x == ("__debug__" : Str)) = false := by decide) : PE X (.Call (.Name x p) [] [] pos) (tCg sp tNil) := by
  obtain ⟨f, fd, F, hm, hkp, hb⟩ := G.ex
  have h := pe_call0 (pos := pos) (p := p) F (hr.mono hk) hg hm hkp hb .nil (pass0 (X := X)) hdb
  refine ⟨fun pins s σ H Q I q => h.run pins s σ H Q I ?_⟩
  exact q
end

section
variable {X : Cx}
def rGetL (K : PySem.W.Frag) : V → V → Hp → VK → Prop := fun o i H Q => ∃ a xs j v, o = .ref a ∧ i = .int ((j : Nat) : Int) ∧ SqL K H a xs ∧ xs[j]? = some v ∧ j < 4000000 ∧ Q v H
theorem get_list : PGet X (rGetL X.K) := by
  intro pins s σ H o i ov iv Q I ro ri h
  obtain ⟨a, xs, j, v, rfl, rfl, hs, hv, hj, q⟩ := h
  cases ro
  obtain ⟨t, rfl⟩ := ri
  obtain ⟨its, r, pl, hz⟩ := I.list hs
  obtain ⟨u, eu, ru⟩ := r.get hv
  refine wpAny_getItem_list (x := u) pl.isList (by omega) (by omega) ?_ ⟨v, H, I, ru, q⟩
  simpa using eu
end

def wo (H : Hp) (O : List Addr) : Hp := fun a => if a ∈ O then none else H a
theorem wo_nil (H : Hp) : wo H [] = H := by
  funext a
  simp [wo]
theorem wo_in {H : Hp} {O : List Addr} {a : Addr} (h : a ∈ O) : wo H O a = none := by simp [wo, h]
theorem wo_out {H : Hp} {O : List Addr} {a : Addr} (h : a ∉ O) : wo H O a = H a := by simp [wo, h]
theorem wo_le (H : Hp) (O : List Addr) : Same (wo H O) H := fun a o h => by
  unfold wo at h
  split at h
  · cases h
  · exact h
def Up (O : List Addr) (H H' : Hp) : Prop := ∀ a o, a ∉ O → H a = some o → H' a = some o
section
variable {O O' : List Addr} {H H' H1 H2 : Hp} {a p : Addr} {o u : HO}
theorem Up.rfl' : Up O H H := fun _ _ _ h => h
theorem Up.of (h : Same H H') : Up O H H' := fun a o _ e => h a o e
theorem Up.same (h : Up [] H H') : Same H H' := fun a o e => h a o (by simp) e
theorem Up.trans (h : Up O H H1) (h' : Up O H1 H2) : Up O H H2 := fun a o n e => h' a o n (h a o n e)
theorem Up.mono (h : Up O H H') (s : ∀ a ∈ O, a ∈ O') : Up O' H H' := fun a o n e => h a o (fun z => n (s a z)) e
theorem Up.wo (h : Up O H H') : Same (wo H O) (wo H' O) := fun a o e => by
  unfold SW.wo at e ⊢
  split at e
  · cases e
  · rename_i n
    rw [if_neg n]
    exact h a o n e
theorem same_upd (h : H p = none) : Same H (upd H p o) := fun b x e => by
  rw [upd_ne (ne_of_none e h)]
  exact e
theorem Up.put (h : a ∈ O) : Up O H (upd H a o) := fun b x n e => by
  have hb : b ≠ a := fun z => n (by rw [z]; exact h)
  rw [upd_ne hb]
  exact e
theorem Up.new (h : H p = none) : Up O H (upd H p o) := Up.of (same_upd h)
theorem Same.wo (h : Same H H') : Same (wo H O) (wo H' O) := Up.wo (Up.of h)
theorem wo_upd_in (h : a ∈ O) : wo (upd H a o) O = wo H O := by
  funext b
  unfold SW.wo
  by_cases hb : b ∈ O
  · rw [if_pos hb, if_pos hb]
  · have hn : b ≠ a := fun z => hb (by rw [z]; exact h)
    rw [if_neg hb, if_neg hb, upd_ne hn]
theorem wo_sub (s : ∀ a ∈ O, a ∈ O') : Same (wo H O') (wo H O) := fun a o e => by
  unfold SW.wo at e ⊢
  split at e
  · cases e
  · rename_i n
    rw [if_neg (fun z => n (s a z))]
    exact e
theorem wo_cons_le : Same (wo H (a :: O)) (wo H O) := wo_sub fun _ h => List.mem_cons_of_mem _ h
end
theorem Rd.le {H H' : Hp} (e : Same H H') {a : Addr} {u : HO} (h : Rd H a u) : Rd H' a u := by
  rcases h with h | ⟨o, h⟩
  · exact Or.inl (e a _ h)
  · exact Or.inr ⟨o, e a _ h⟩
theorem sqt_le {K : PySem.W.Frag} {H H' : Hp} (e : Same H H') {a : Addr} {xs : List V} (h : SqT K H a xs) : SqT K H' a xs := by
  rcases h with h | h
  · exact Or.inl (Rd.le e h)
  · exact Or.inr h
theorem sql_le {K : PySem.W.Frag} {H H' : Hp} (e : Same H H') {a : Addr} {xs : List V} (h : SqL K H a xs) : SqL K H' a xs := by
  rcases h with h | h
  · exact Or.inl (Rd.le e h)
  · exact Or.inr h
mutual
theorem Dp.le {K : PySem.W.Frag} {H H' : Hp} (e : Same H H') : ∀ {v : V} {d : PyData}, Dp K H v d → Dp K H' v d
  | _, _, .non => .non
  | _, _, .bl b => .bl b
  | _, _, .int i => .int i
  | _, _, .str x => .str x
  | _, _, .lst h1 h2 => .lst (sql_le e h1) (DpAll.le e h2)
  | _, _, .tup h1 h2 => .tup (sqt_le e h1) (DpAll.le e h2)
theorem DpAll.le {K : PySem.W.Frag} {H H' : Hp} (e : Same H H') : ∀ {vs : List V} {ds : List PyData}, DpAll K H vs ds → DpAll K H' vs ds
  | _, _, .nil => .nil
  | _, _, .cons h1 h2 => .cons (Dp.le e h1) (DpAll.le e h2)
end
theorem DpAll.length {K : PySem.W.Frag} {H : Hp} : ∀ {vs : List V} {ds : List PyData}, DpAll K H vs ds → vs.length = ds.length
  | _, _, .nil => rfl
  | _, _, .cons _ h => congrArg (· + 1) (DpAll.length h)
theorem DpAll.get {K : PySem.W.Frag} {H : Hp} : ∀ {vs : List V} {ds : List PyData} {i : Nat} {d : PyData}, DpAll K H vs ds → ds[i]? = some d → ∃ v, vs[i]? = some v ∧ Dp K H v d
  | _, _, _, _, .nil, h => by simp at h
  | _, _, 0, _, .cons h _, e => by
    simp at e
    subst e
    exact ⟨_, rfl, h⟩
  | _, _, i + 1, _, .cons _ h, e => by
    obtain ⟨v, h1, h2⟩ := DpAll.get (i := i) h (by simpa using e)
    exact ⟨v, by simpa using h1, h2⟩
theorem DpAll.append {K : PySem.W.Frag} {H : Hp} : ∀ {vs : List V} {ds : List PyData} {us : List V} {es : List PyData}, DpAll K H vs ds → DpAll K H us es → DpAll K H (vs ++ us) (ds ++ es)
  | _, _, _, _, .nil, h => h
  | _, _, _, _, .cons a b, h => .cons a (DpAll.append b h)
theorem DpAll.take {K : PySem.W.Frag} {H : Hp} : ∀ {vs : List V} {ds : List PyData} (n : Nat), DpAll K H vs ds → DpAll K H (vs.take n) (ds.take n)
  | _, _, 0, _ => by simpa using DpAll.nil
  | _, _, _ + 1, .nil => .nil
  | _, _, n + 1, .cons a b => .cons a (DpAll.take n b)
theorem DpAll.drop {K : PySem.W.Frag} {H : Hp} : ∀ {vs : List V} {ds : List PyData} (n : Nat), DpAll K H vs ds → DpAll K H (vs.drop n) (ds.drop n)
  | _, _, 0, h => by simpa using h
  | _, _, _ + 1, .nil => .nil
  | _, _, n + 1, .cons _ b => DpAll.drop n b
theorem DpAll.map {K : PySem.W.Frag} {H : Hp} {α : Type} (f : α → V) (g : α → PyData) (h : ∀ x, Dp K H (f x) (g x)) : ∀ l : List α, DpAll K H (l.map f) (l.map g)
  | [] => .nil
  | x :: l => .cons (h x) (DpAll.map f g h l)
theorem DpAll.set {K : PySem.W.Frag} {H : Hp} {v : V} {d : PyData} (r : Dp K H v d) : ∀ {vs : List V} {ds : List PyData} (i : Nat), DpAll K H vs ds → DpAll K H (vs.set i v) (ds.set i d)
  | _, _, _, .nil => .nil
  | _, _, 0, .cons _ t => .cons r t
  | _, _, i + 1, .cons q t => .cons q (DpAll.set r i t)

theorem bt_range : bootBuiltins "range" = some (.type "range") := by decide +kernel
theorem bt_int : bootBuiltins "int" = some (.type "int") := by decide +kernel
theorem bt_list : bootBuiltins "list" = some (.type "list") := by decide +kernel
theorem bt_tuple : bootBuiltins "tuple" = some (.type "tuple") := by decide +kernel
theorem bt_bool : bootBuiltins "bool" = some (.type "bool") := by decide +kernel
theorem bt_str : bootBuiltins "str" = some (.type "str") := by decide +kernel
theorem bt_set : bootBuiltins "set" = some (.type "set") := by decide +kernel
theorem bt_len : bootBuiltins "len" = some (.builtin "len") := by decide +kernel
theorem bt_min : bootBuiltins "min" = some (.builtin "min") := by decide +kernel
theorem bt_max : bootBuiltins "max" = some (.builtin "max") := by decide +kernel
theorem bt_sum : bootBuiltins "sum" = some (.builtin "sum") := by decide +kernel
theorem bt_all : bootBuiltins "all" = some (.builtin "all") := by decide +kernel
theorem bt_sorted : bootBuiltins "sorted" = some (.builtin "sorted") := by decide +kernel
theorem bt_isinstance : bootBuiltins "isinstance" = some (.builtin "isinstance") := by decide +kernel
theorem bt_repr : bootBuiltins "repr" = some (.builtin "repr") := by decide +kernel
theorem bt_ord : bootBuiltins "ord" = some (.builtin "ord") := by decide +kernel
theorem bt_abs : bootBuiltins "abs" = some (.builtin "abs") := by decide +kernel

def rLn (K : PySem.W.Frag) : List V → Hp → VK → Prop := fun xs H Q => ∃ p ys, xs = [.ref p] ∧ (SqL K H p ys ∨ SqT K H p ys) ∧ Q (.int ys.length) H
theorem br {b : Bool} {A B : Prop} (h1 : b = true → A) (h2 : b = false → B) : if b = true then A else B := by
  cases b with
  | true => exact (if_pos rfl).mpr (h1 rfl)
  | false => exact (if_neg (by decide)).mpr (h2 rfl)
theorem brD {p : Prop} [Decidable p] {A B : Prop} (h1 : p → A) (h2 : ¬ p → B) : if decide p = true then A else B :=
  br (fun h => h1 (of_decide_eq_true h)) (fun h => h2 (of_decide_eq_false h))
theorem brN {p : Prop} [Decidable p] {A B : Prop} (h1 : ¬ p → A) (h2 : p → B) : if (!decide p) = true then A else B :=
  br (fun h => h1 (by simpa using h)) (fun h => h2 (by simpa using h))
theorem int_inj {i j : Int} : (V.int i = V.int j) ↔ i = j := ⟨fun h => V.int.inj h, fun h => by rw [h]⟩
theorem str_inj {i j : Str} : (V.str i = V.str j) ↔ i = j := ⟨fun h => V.str.inj h, fun h => by rw [h]⟩

theorem sz (n : Nat) (h : n ≤ 16777216) : n ≤ sizeLine := by
  rw [sizeLine_eq]
  exact h
theorem szl (n : Nat) (h : n < 16777216) : n < sizeLine := by
  rw [sizeLine_eq]
  exact h
end SW

set_option Elab.async false
set_option linter.all false
set_option maxRecDepth 100000
namespace SW
open PySem L2
mutual
inductive Rp (K : PySem.W.Frag) (H : Hp) : V → PyData → Prop
  | non : Rp K H .non .none
  | bl (b : Bool) : Rp K H (.bl b) (.bool b)
  | int (i : Int) : Rp K H (.int i) (.int i)
  | str (x : Str) : Rp K H (.str x) (.str x)
  | lst {a : Addr} {xs : List V} {ds : List PyData} : SqL K H a xs → RpAll K H xs ds → Rp K H (.ref a) (.list ds)
  | tup {a : Addr} {xs : List V} {ds : List PyData} : SqT K H a xs → RpAll K H xs ds → Rp K H (.ref a) (.tuple ds)
  | dict0 {a : Addr} : H a = some (.dK []) → Rp K H (.ref a) (.dict [])
inductive RpAll (K : PySem.W.Frag) (H : Hp) : List V → List PyData → Prop
  | nil : RpAll K H [] []
  | cons {v : V} {vs : List V} {d : PyData} {ds : List PyData} : Rp K H v d → RpAll K H vs ds → RpAll K H (v :: vs) (d :: ds)
end
mutual
theorem Rp.le {K : PySem.W.Frag} {H H' : Hp} (e : Same H H') : ∀ {v : V} {d : PyData}, Rp K H v d → Rp K H' v d
  | _, _, .non => .non
  | _, _, .bl b => .bl b
  | _, _, .int i => .int i
  | _, _, .str x => .str x
  | _, _, .lst h1 h2 => .lst (sql_le e h1) (RpAll.le e h2)
  | _, _, .tup h1 h2 => .tup (sqt_le e h1) (RpAll.le e h2)
  | _, _, .dict0 h => .dict0 (e _ _ h)
theorem RpAll.le {K : PySem.W.Frag} {H H' : Hp} (e : Same H H') : ∀ {vs : List V} {ds : List PyData}, RpAll K H vs ds → RpAll K H' vs ds
  | _, _, .nil => .nil
  | _, _, .cons h1 h2 => .cons (Rp.le e h1) (RpAll.le e h2)
end
section
variable {K : PySem.W.Frag} {H : Hp}
theorem RpAll.length : ∀ {vs : List V} {ds : List PyData}, RpAll K H vs ds → vs.length = ds.length
  | _, _, .nil => rfl
  | _, _, .cons _ h => congrArg (· + 1) (RpAll.length h)
theorem RpAll.get : ∀ {vs : List V} {ds : List PyData} {i : Nat} {d : PyData}, RpAll K H vs ds → ds[i]? = some d → ∃ v, vs[i]? = some v ∧ Rp K H v d
  | _, _, _, _, .nil, h => by simp at h
  | _, _, 0, _, .cons h _, e => by
    simp at e
    subst e
    exact ⟨_, rfl, h⟩
  | _, _, i + 1, _, .cons _ h, e => by
    obtain ⟨v, h1, h2⟩ := RpAll.get (i := i) h (by simpa using e)
    exact ⟨v, by simpa using h1, h2⟩
theorem RpAll.getV : ∀ {vs : List V} {ds : List PyData} {i : Nat} {v : V}, RpAll K H vs ds → vs[i]? = some v → ∃ d, ds[i]? = some d ∧ Rp K H v d
  | _, _, _, _, .nil, h => by simp at h
  | _, _, 0, _, .cons h _, e => by
    simp at e
    subst e
    exact ⟨_, rfl, h⟩
  | _, _, i + 1, _, .cons _ h, e => by
    obtain ⟨v, h1, h2⟩ := RpAll.getV (i := i) h (by simpa using e)
    exact ⟨v, by simpa using h1, h2⟩
theorem RpAll.append : ∀ {vs : List V} {ds : List PyData} {us : List V} {es : List PyData}, RpAll K H vs ds → RpAll K H us es → RpAll K H (vs ++ us) (ds ++ es)
  | _, _, _, _, .nil, h => h
  | _, _, _, _, .cons a b, h => .cons a (RpAll.append b h)
theorem RpAll.take : ∀ {vs : List V} {ds : List PyData} (n : Nat), RpAll K H vs ds → RpAll K H (vs.take n) (ds.take n)
  | _, _, 0, _ => by simpa using RpAll.nil
  | _, _, _ + 1, .nil => .nil
  | _, _, n + 1, .cons a b => .cons a (RpAll.take n b)
theorem RpAll.drop : ∀ {vs : List V} {ds : List PyData} (n : Nat), RpAll K H vs ds → RpAll K H (vs.drop n) (ds.drop n)
  | _, _, 0, h => by simpa using h
  | _, _, _ + 1, .nil => .nil
  | _, _, n + 1, .cons _ b => RpAll.drop n b
theorem RpAll.map {α : Type} (f : α → V) (g : α → PyData) (h : ∀ x, Rp K H (f x) (g x)) : ∀ l : List α, RpAll K H (l.map f) (l.map g)
  | [] => .nil
  | x :: l => .cons (h x) (RpAll.map f g h l)
theorem RpAll.set {v : V} {d : PyData} (r : Rp K H v d) : ∀ {vs : List V} {ds : List PyData} (i : Nat), RpAll K H vs ds → RpAll K H (vs.set i v) (ds.set i d)
  | _, _, _, .nil => .nil
  | _, _, 0, .cons _ t => .cons r t
  | _, _, i + 1, .cons q t => .cons q (RpAll.set r i t)
end
mutual
theorem Rp.dp {K : PySem.W.Frag} {H : Hp} : ∀ {v : V} {d : PyData}, Rp K H v d → d.canLay0 = true → Dp K H v d
  | _, _, .non, _ => .non
  | _, _, .bl b, _ => .bl b
  | _, _, .int i, _ => .int i
  | _, _, .str x, _ => .str x
  | _, _, .lst h1 h2, e => .lst h1 (RpAll.dp h2 (by simpa [PyData.canLay0] using e))
  | _, _, .tup h1 h2, e => .tup h1 (RpAll.dp h2 (by simpa [PyData.canLay0] using e))
  | _, _, .dict0 h, e => by simp [PyData.canLay0] at e
theorem RpAll.dp {K : PySem.W.Frag} {H : Hp} : ∀ {vs : List V} {ds : List PyData}, RpAll K H vs ds → PyData.canLayAll0 ds = true → DpAll K H vs ds
  | _, _, .nil, _ => .nil
  | _, _, .cons h1 h2, e => by
    simp only [PyData.canLayAll0, Bool.and_eq_true] at e
    exact .cons (Rp.dp h1 e.1) (RpAll.dp h2 e.2)
end
def tyD : PyData → String
  | .none => "NoneType" | .bool _ => "bool" | .int _ => "int" | .str _ => "str" | .list _ => "list" | .tuple _ => "tuple" | .dict _ => "dict"
theorem sql_ty {K : PySem.W.Frag} {H : Hp} {a : Addr} {xs : List V} (h : SqL K H a xs) : TyX K H (.ref a) (.type "list") := by
  rcases h with (h | ⟨o, h⟩) | ⟨o, its, n, h, c, _⟩
  · exact .base (.lst h)
  · exact .base (.frz h)
  · exact .kList h c
theorem sqt_ty {K : PySem.W.Frag} {H : Hp} {a : Addr} {xs : List V} (h : SqT K H a xs) : TyX K H (.ref a) (.type "tuple") := by
  rcases h with (h | ⟨o, h⟩) | ⟨o, its, n, h, c, _⟩
  · exact .base (.tup h)
  · exact .fTuple h
  · exact .kTuple h c
theorem Rp.ty {K : PySem.W.Frag} {H : Hp} {v : V} {d : PyData} (h : Rp K H v d) : TyX K H v (.type (tyD d)) := by
  cases h with
  | non => exact .base .non
  | bl b => exact .base (.bl b)
  | int i => exact .base (.int i)
  | str x => exact .base (.str x)
  | lst h _ => exact sql_ty h
  | tup h _ => exact sqt_ty h
  | dict0 h => exact .base (.dK h)
def isBoolD : PyData → Bool | .bool _ => true | _ => false
def isIntD : PyData → Bool | .bool _ => true | .int _ => true | _ => false
def isStrD : PyData → Bool | .str _ => true | _ => false
def isTupD : PyData → Bool | .tuple _ => true | _ => false
def isLstD : PyData → Bool | .list _ => true | _ => false
theorem kit_bool (d : PyData) : kitB (tyD d) "bool" = some (isBoolD d) := by
  cases d <;> first | (show kitB "NoneType" "bool" = some false; decide +kernel) | (show kitB "bool" "bool" = some true; decide +kernel) | (show kitB "int" "bool" = some false; decide +kernel) | (show kitB "str" "bool" = some false; decide +kernel) | (show kitB "list" "bool" = some false; decide +kernel) | (show kitB "tuple" "bool" = some false; decide +kernel) | (show kitB "dict" "bool" = some false; decide +kernel)
theorem kit_int (d : PyData) : kitB (tyD d) "int" = some (isIntD d) := by
  cases d <;> first | (show kitB "NoneType" "int" = some false; decide +kernel) | (show kitB "bool" "int" = some true; decide +kernel) | (show kitB "int" "int" = some true; decide +kernel) | (show kitB "str" "int" = some false; decide +kernel) | (show kitB "list" "int" = some false; decide +kernel) | (show kitB "tuple" "int" = some false; decide +kernel) | (show kitB "dict" "int" = some false; decide +kernel)
theorem kit_str (d : PyData) : kitB (tyD d) "str" = some (isStrD d) := by
  cases d <;> first | (show kitB "NoneType" "str" = some false; decide +kernel) | (show kitB "bool" "str" = some false; decide +kernel) | (show kitB "int" "str" = some false; decide +kernel) | (show kitB "str" "str" = some true; decide +kernel) | (show kitB "list" "str" = some false; decide +kernel) | (show kitB "tuple" "str" = some false; decide +kernel) | (show kitB "dict" "str" = some false; decide +kernel)
theorem kit_tup (d : PyData) : kitB (tyD d) "tuple" = some (isTupD d) := by
  cases d <;> first | (show kitB "NoneType" "tuple" = some false; decide +kernel) | (show kitB "bool" "tuple" = some false; decide +kernel) | (show kitB "int" "tuple" = some false; decide +kernel) | (show kitB "str" "tuple" = some false; decide +kernel) | (show kitB "list" "tuple" = some false; decide +kernel) | (show kitB "tuple" "tuple" = some true; decide +kernel) | (show kitB "dict" "tuple" = some false; decide +kernel)
theorem kit_lst (d : PyData) : kitB (tyD d) "list" = some (isLstD d) := by
  cases d <;> first | (show kitB "NoneType" "list" = some false; decide +kernel) | (show kitB "bool" "list" = some false; decide +kernel) | (show kitB "int" "list" = some false; decide +kernel) | (show kitB "str" "list" = some false; decide +kernel) | (show kitB "list" "list" = some true; decide +kernel) | (show kitB "tuple" "list" = some false; decide +kernel) | (show kitB "dict" "list" = some false; decide +kernel)
theorem isi {K : PySem.W.Frag} {H : Hp} {v : V} {d : PyData} {T : String} {b : Bool} {Q : VK} (h : Rp K H v d) (e : kitB (tyD d) T = some b) (q : Q (.bl b) H) : rIsi K [v, .ty T] H Q :=
  ⟨v, .ty T, _, _, b, rfl, .ty T, h.ty, kit_ty e, q⟩

noncomputable def sameD (d e : PyData) : Bool := @decide (d = e) (Classical.propDecidable _)
theorem sameD_iff {d e : PyData} : sameD d e = true ↔ d = e := by
  unfold sameD
  exact @decide_eq_true_iff _ (Classical.propDecidable _)
theorem sameD_refl (d : PyData) : sameD d d = true := sameD_iff.mpr rfl
theorem sameD_ne {d e : PyData} (h : d ≠ e) : sameD d e = false := by
  cases q : sameD d e with
  | true => exact absurd (sameD_iff.mp q) h
  | false => rfl
theorem sameD_eq {d e : PyData} {b : Bool} (h : b = true ↔ d = e) : sameD d e = b := by
  rw [Bool.eq_iff_iff, sameD_iff, h]
mutual
def fit : PyData → Bool
  | .dict _ => false
  | .list xs => decide (xs.length ≤ 16777216) && fitAll xs
  | .tuple xs => decide (xs.length ≤ 16777216) && fitAll xs
  | _ => true
def fitAll : List PyData → Bool
  | [] => true
  | x :: xs => fit x && fitAll xs
end
mutual
def dep : PyData → Nat
  | .list xs => depAll xs + 1
  | .tuple xs => depAll xs + 1
  | _ => 0
def depAll : List PyData → Nat
  | [] => 0
  | x :: xs => max (dep x) (depAll xs)
end
theorem fitAll_get : ∀ {ds : List PyData} {i : Nat} {d : PyData}, fitAll ds = true → ds[i]? = some d → fit d = true
  | [], _, _, _, h => by simp at h
  | x :: xs, 0, d, h, e => by
    simp only [fitAll, Bool.and_eq_true] at h
    simp at e
    rw [← e]
    exact h.1
  | x :: xs, i + 1, d, h, e => by
    simp only [fitAll, Bool.and_eq_true] at h
    exact fitAll_get (i := i) h.2 (by simpa using e)
theorem fitAll_of : ∀ {ds : List PyData}, (∀ d ∈ ds, fit d = true) → fitAll ds = true
  | [], _ => rfl
  | x :: xs, h => by
    simp only [fitAll, Bool.and_eq_true]
    exact ⟨h x (by simp), fitAll_of fun d hd => h d (by simp [hd])⟩
theorem depAll_le : ∀ {ds : List PyData} {n : Nat}, (∀ d ∈ ds, dep d ≤ n) → depAll ds ≤ n
  | [], n, _ => Nat.zero_le n
  | x :: xs, n, h => by
    have h1 := h x (by simp)
    have h2 := depAll_le (ds := xs) (n := n) fun d hd => h d (by simp [hd])
    simp only [depAll]
    omega
theorem depAll_get : ∀ {ds : List PyData} {i : Nat} {d : PyData}, ds[i]? = some d → dep d ≤ depAll ds
  | [], _, _, h => by simp at h
  | x :: xs, 0, d, e => by
    simp at e
    rw [← e]
    simp only [depAll]
    omega
  | x :: xs, i + 1, d, e => by
    have := depAll_get (i := i) (ds := xs) (d := d) (by simpa using e)
    simp only [depAll]
    omega
theorem pre_eq {α : Type} : ∀ {xs ys : List α}, xs.length = ys.length → (∀ j, j < ys.length → xs[j]? = ys[j]?) → xs = ys := by
  intro xs ys hl h
  apply List.ext_getElem? 
  intro j
  by_cases hj : j < ys.length
  · exact h j hj
  · rw [List.getElem?_eq_none (by omega), List.getElem?_eq_none (by omega)]
end SW
namespace SW
open PySem L2
structure Acc (K : PySem.W.Frag) (O : List Addr) (D : Addr) (ds : List PyData) (acc : List V) (H : Hp) : Prop where
  own : D ∈ O
  is : H D = some (.lst acc)
  it : RpAll K (wo H O) acc ds
theorem Acc.le {K : PySem.W.Frag} {O : List Addr} {D : Addr} {ds : List PyData} {acc : List V} {H H' : Hp} (h : Acc K O D ds acc H) (s : Same H H') : Acc K O D ds acc H' :=
  ⟨h.own, s _ _ h.is, h.it.le (Same.wo s)⟩
theorem Acc.push {K : PySem.W.Frag} {O : List Addr} {D : Addr} {ds : List PyData} {acc : List V} {H : Hp} {v : V} {d : PyData} (h : Acc K O D ds acc H) (r : Rp K (wo H O) v d) : Acc K O D (ds ++ [d]) (acc ++ [v]) (upd H D (.lst (acc ++ [v]))) :=
  ⟨h.own, upd_same, by rw [wo_upd_in h.own]; exact h.it.append (.cons r .nil)⟩
theorem Acc.new {K : PySem.W.Frag} {O : List Addr} {D : Addr} {H : Hp} (h : D ∈ O) : Acc K O D [] [] (upd H D (.lst [])) := ⟨h, upd_same, .nil⟩
theorem Acc.len {K : PySem.W.Frag} {O : List Addr} {D : Addr} {ds : List PyData} {acc : List V} {H : Hp} (h : Acc K O D ds acc H) : acc.length = ds.length := h.it.length
theorem Acc.rp {K : PySem.W.Frag} {O : List Addr} {D : Addr} {ds : List PyData} {acc : List V} {H : Hp} (h : Acc K O D ds acc H) : Rp K H (.ref D) (.list ds) := .lst (SqL.of h.is) (h.it.le (wo_le _ _))
theorem Acc.rpI {K : PySem.W.Frag} {O : List Addr} {D : Addr} {acc : List V} {H : Hp} {v : V} : ∀ {ds : List PyData}, Acc K O D ds acc H → Same H H := fun _ => Same.refl _
theorem rp_newT {K : PySem.W.Frag} {O : List Addr} {H : Hp} {t : Addr} {xs : List V} {ds : List PyData} (ht : H t = none) (n : t ∉ O) (h : RpAll K (wo H O) xs ds) : Rp K (wo (upd H t (.tup xs)) O) (.ref t) (.tuple ds) :=
  .tup (SqT.of (by rw [wo_out n, upd_same])) (h.le (Same.wo (same_upd ht)))
theorem rp_newL {K : PySem.W.Frag} {O : List Addr} {H : Hp} {t : Addr} {xs : List V} {ds : List PyData} (ht : H t = none) (n : t ∉ O) (h : RpAll K (wo H O) xs ds) : Rp K (wo (upd H t (.lst xs)) O) (.ref t) (.list ds) :=
  .lst (SqL.of (by rw [wo_out n, upd_same])) (h.le (Same.wo (same_upd ht)))
theorem not_own {H : Hp} {O : List Addr} {t : Addr} (ht : H t = none) (h : ∀ a ∈ O, H a ≠ none) : t ∉ O := fun z => h t z ht
end SW

set_option Elab.async false
set_option linter.all false
set_option maxRecDepth 100000
namespace SW
open PySem L2
theorem len_S (l : List Nat) : (SX.S l).length = l.length := SX.S_len l
theorem cps_S (l : List Nat) : (SX.S l).cps.toList = l := rfl
theorem S_inj' {a b : List Nat} : SX.S a = SX.S b ↔ a = b := ⟨SX.S_inj, fun h => by rw [h]⟩
theorem six_nat {n a : Nat} (h : a ≤ n) (d : Nat) : HT.sIx n d (some (a : Int)) = a := by
  rw [HT.sIx_nat]
  omega
theorem cut_S {l : List Nat} {a b : Nat} (ha : a ≤ l.length) (hb : b ≤ l.length) : cutS (SX.S l) (some (a : Int)) (some (b : Int)) = SX.S ((l.drop a).take (b - a)) := by
  unfold cutS
  rw [len_S, six_nat ha, six_nat hb, cps_S]
theorem cut_to {l : List Nat} {b : Nat} (hb : b ≤ l.length) : cutS (SX.S l) none (some (b : Int)) = SX.S (l.take b) := by
  unfold cutS
  rw [len_S, six_nat hb, cps_S, HT.sIx_none]
  simp
theorem cut_from {l : List Nat} {a : Nat} (ha : a ≤ l.length) : cutS (SX.S l) (some (a : Int)) none = SX.S (l.drop a) := by
  unfold cutS
  rw [len_S, six_nat ha, cps_S, HT.sIx_none, List.take_of_length_le (by simp)]
theorem joinL_nil : ∀ ls : List (List Nat), TL.joinL [] ls = ls.flatten
  | [] => rfl
  | [x] => by simp [TL.joinL]
  | x :: y :: r => by
    have ih := joinL_nil (y :: r)
    simp only [TL.joinL, ih, List.flatten_cons, List.nil_append]
theorem join_flat (ls : List (List Nat)) : Txt.join (SX.S []) (ls.map SX.S) = SX.S ls.flatten := by
  rw [SX.join_S, joinL_nil]
theorem inV_str (c : List Nat) (ws : List (List Nat)) : inV (.str (SX.S c)) (ws.map fun w => .str (SX.S w)) = ws.any fun w => decide (w = c) := by
  unfold inV
  rw [List.any_map]
  congr 1
  funext w
  show (SX.S w == SX.S c) = _
  exact SX.S_beq_eq
theorem all_flat_str (ws : List (List Nat)) : (ws.map fun w => V.str (SX.S w)).all flatV = true := by
  rw [List.all_map]
  exact List.all_eq_true.mpr fun _ _ => rfl
theorem sum_len (ls : List (List Nat)) : ((ls.map SX.S).map (·.length)).sum = ls.flatten.length := by
  rw [SX.lens]
  exact List.length_flatten.symm
end SW

set_option linter.all false
namespace SW
open PySem L2
def stF : Bool → Nat → List Nat → List Nat
  | _, _, [] => []
  | b, p, c :: r => if b = true ∧ c ≠ 32 ∧ c ≠ 10 then p :: stF (c == 10) (p + 1) r else stF (c == 10) (p + 1) r
theorem stF_false : ∀ (l : List Nat) (p : Nat) (r : List Nat), (∀ c ∈ l, c ≠ 10) → stF false p (l ++ 10 :: r) = stF true (p + l.length + 1) r
  | [], p, r, _ => by simp [stF]
  | c :: l, p, r, h => by
    have hc : c ≠ 10 := h c (by simp)
    have e : (c == 10) = false := by simpa using hc
    have ih := stF_false l (p + 1) r fun d hd => h d (by simp [hd])
    simp only [List.cons_append, stF, e, Bool.false_eq_true, false_and, if_false, ih, List.length_cons]
    congr 1
    omega
def Quiet (l : List Nat) : Prop := ∀ p r, stF true p (l ++ r) = stF true (p + l.length) r
theorem Quiet.nil : Quiet [] := fun p r => rfl
theorem Quiet.append {a b : List Nat} (ha : Quiet a) (hb : Quiet b) : Quiet (a ++ b) := fun p r => by
  rw [List.append_assoc, ha, hb, List.length_append, Nat.add_assoc]
theorem Quiet.empty : Quiet [10] := fun p r => by simp [stF]
theorem Quiet.blank {l : List Nat} (h : ∀ c ∈ l, c ≠ 10) : Quiet (32 :: l ++ [10]) := fun p r => by
  have e : (32 :: l ++ [10]) ++ r = 32 :: (l ++ 10 :: r) := by simp
  rw [e]
  simp only [stF]
  rw [if_neg (by simp), show ((32 : Nat) == 10) = false from rfl, stF_false l _ r h]
  congr 1
  simp
  omega
def Whole (c : List Nat) : Prop := c ≠ [] ∧ ∀ p r, stF true p (c ++ r) = p :: stF true (p + c.length) r
theorem Whole.mk {c : Nat} {l m : List Nat} (h1 : c ≠ 32) (h2 : c ≠ 10) (hl : ∀ d ∈ l, d ≠ 10) (hm : Quiet m) : Whole (c :: l ++ [10] ++ m) := by
  refine ⟨by simp, fun p r => ?_⟩
  have e : (c :: l ++ [10] ++ m) ++ r = c :: (l ++ 10 :: (m ++ r)) := by simp
  have hb : (c == 10) = false := by simpa using h2
  rw [e]
  simp only [stF]
  rw [if_pos ⟨trivial, h1, h2⟩, hb, stF_false l _ _ hl, hm]
  congr 1
  congr 1
  simp
  omega
theorem stF_snoc : ∀ (l : List Nat) (b : Bool) (p x : Nat), ∃ t, stF b p (l ++ [x]) = stF b p l ++ t
  | [], b, p, x => ⟨_, rfl⟩
  | c :: l, b, p, x => by
    obtain ⟨t, ht⟩ := stF_snoc l (c == 10) (p + 1) x
    simp only [List.cons_append, stF, ht]
    split
    · exact ⟨t, rfl⟩
    · exact ⟨t, rfl⟩
def Last (c : List Nat) : Prop := c ≠ [] ∧ ∀ p, stF true p c = [p]
theorem Whole.last {c : List Nat} (h : Whole c) : Last c := ⟨h.1, fun p => by
  have q := h.2 p []
  simpa [stF] using q⟩
theorem Last.cut {c : Nat} {l : List Nat} (h1 : c ≠ 32) (h2 : c ≠ 10) (hl : l ≠ []) (h : Last (c :: l)) : Last (c :: l.dropLast) := by
  refine ⟨by simp, fun p => ?_⟩
  have e : c :: l = (c :: l.dropLast) ++ [l.getLast hl] := by
    rw [List.cons_append, List.dropLast_concat_getLast]
  have q := h.2 p
  obtain ⟨t, ht⟩ := stF_snoc (c :: l.dropLast) true p (l.getLast hl)
  rw [e, ht] at q
  simp only [stF] at q ⊢
  rw [if_pos ⟨trivial, h1, h2⟩] at q ⊢
  rw [List.cons_append] at q
  have q2 := List.cons.inj q
  have q3 := List.append_eq_nil_iff.mp q2.2
  rw [q3.1]
def poss : Nat → List (List Nat) → List Nat
  | _, [] => []
  | p, c :: cs => p :: poss (p + c.length) cs
theorem poss_snoc : ∀ (cs : List (List Nat)) (p : Nat) (c : List Nat), poss p (cs ++ [c]) = poss p cs ++ [p + cs.flatten.length]
  | [], p, c => by simp [poss]
  | d :: cs, p, c => by
    simp only [List.cons_append, poss, poss_snoc cs]
    simp
    omega
theorem poss_len : ∀ (cs : List (List Nat)) (p : Nat), (poss p cs).length = cs.length
  | [], _ => rfl
  | c :: cs, p => by simp [poss, poss_len cs]
def AllW (cs : List (List Nat)) : Prop := ∀ p r, stF true p (cs.flatten ++ r) = poss p cs ++ stF true (p + cs.flatten.length) r
def AllL (cs : List (List Nat)) : Prop := ∀ p, stF true p cs.flatten = poss p cs
theorem AllW.nil : AllW [] := fun p r => rfl
theorem AllW.snoc {cs : List (List Nat)} {c : List Nat} (h : AllW cs) (hc : Whole c) : AllW (cs ++ [c]) := fun p r => by
  have e : (cs ++ [c]).flatten ++ r = cs.flatten ++ (c ++ r) := by simp
  rw [e, h, hc.2, poss_snoc]
  simp [Nat.add_assoc]
theorem AllW.snocL {cs : List (List Nat)} {c : List Nat} (h : AllW cs) (hc : Last c) : AllL (cs ++ [c]) := fun p => by
  have e : (cs ++ [c]).flatten = cs.flatten ++ c := by simp
  rw [e, h, hc.2, poss_snoc]
theorem AllW.l {cs : List (List Nat)} (h : AllW cs) : AllL cs := fun p => by
  have q := h p []
  simpa [stF] using q
theorem starts_of {b : List Nat} {cs : List (List Nat)} (hb : Quiet b) (h : AllL cs) : stF true 0 (b ++ cs.flatten) = poss b.length cs := by
  rw [hb, h, Nat.zero_add]
def endsOf (st : List Nat) (n : Nat) : List Nat := st.drop 1 ++ [n]
def cutN (l : List Nat) (a b : Nat) : List Nat := (l.drop a).take (b - a)
theorem poss_drop : ∀ (cs : List (List Nat)) (p : Nat), ((poss p cs).drop 1 ++ [p + cs.flatten.length]) = match cs with | [] => [p] | c :: r => poss (p + c.length) r ++ [p + c.length + r.flatten.length]
  | [], p => by simp [poss]
  | c :: cs, p => by
    simp only [poss, List.drop_succ_cons, List.drop_zero, List.flatten_cons, List.length_append, Nat.add_assoc]
theorem chunk_at : ∀ (cs : List (List Nat)) (pre : List Nat) (i : Nat) (c : List Nat), cs[i]? = some c →
    ∃ s e, (poss pre.length cs)[i]? = some s ∧ ((poss pre.length cs).drop 1 ++ [pre.length + cs.flatten.length])[i]? = some e ∧ cutN (pre ++ cs.flatten) s e = c ∧ s ≤ e ∧ e ≤ pre.length + cs.flatten.length
  | [], pre, i, c, h => by simp at h
  | d :: cs, pre, 0, c, h => by
    simp at h
    subst h
    refine ⟨pre.length, pre.length + d.length, rfl, ?_, ?_, by omega, ?_⟩
    · rw [poss_drop]
      cases cs with
      | nil => simp [poss]
      | cons e r => simp [poss]
    · simp [cutN]
    · simp only [List.flatten_cons, List.length_append]
      omega
  | d :: cs, pre, i + 1, c, h => by
    have h' : cs[i]? = some c := by simpa using h
    obtain ⟨s, e, h1, h2, h3, h4, h5⟩ := chunk_at cs (pre ++ d) i c h'
    have el : (pre ++ d).length = pre.length + d.length := by simp
    rw [el] at h1 h2
    refine ⟨s, e, by simpa [poss] using h1, ?_, ?_, h4, ?_⟩
    · rw [poss_drop]
      have hi : i < (poss (pre.length + d.length) cs).length := by
        rw [poss_len]
        exact (List.getElem?_eq_some_iff.mp h').1
      show (poss (pre.length + d.length) cs ++ [pre.length + d.length + cs.flatten.length])[i + 1]? = some e
      rw [← h2]
      cases q : poss (pre.length + d.length) cs with
      | nil =>
        rw [q] at hi
        simp at hi
      | cons a r => simp
    · rw [← h3]
      simp
    · rw [el] at h5
      simp only [List.flatten_cons, List.length_append]
      omega
end SW
namespace SW
open PySem L2
def nlAt (b : Bool) (l : List Nat) : Bool := match l.getLast? with | none => b | some c => c == 10
theorem nlAt_cons (b : Bool) (c : Nat) (l : List Nat) : nlAt b (c :: l) = nlAt (c == 10) l := by
  cases l with
  | nil => rfl
  | cons d r =>
    unfold nlAt
    rw [List.getLast?_cons_cons]
    cases h : (d :: r).getLast? with
    | none => simp at h
    | some x => rfl
theorem stF_last : ∀ (l : List Nat) (b : Bool) (p x : Nat), stF b p (l ++ [x]) = stF b p l ++ (if nlAt b l = true ∧ x ≠ 32 ∧ x ≠ 10 then [p + l.length] else [])
  | [], b, p, x => by
    by_cases h : b = true ∧ x ≠ 32 ∧ x ≠ 10
    · rw [if_pos (show nlAt b [] = true ∧ x ≠ 32 ∧ x ≠ 10 from h)]
      simp only [List.nil_append, stF]
      rw [if_pos h]
      simp
    · rw [if_neg (show ¬ (nlAt b [] = true ∧ x ≠ 32 ∧ x ≠ 10) from h)]
      simp only [List.nil_append, stF]
      rw [if_neg h]
  | c :: l, b, p, x => by
    simp only [List.cons_append, stF, stF_last l, nlAt_cons, List.length_cons]
    have e : p + 1 + l.length = p + (l.length + 1) := by omega
    rw [e]
    split <;> rfl
theorem nlAt_take {l : List Nat} {i : Nat} (h : i < l.length) : nlAt true (l.take (i + 1)) = (l[i]? == some 10) := by
  unfold nlAt
  rw [List.getLast?_take]
  simp [h]
theorem stF_take {l : List Nat} {i c : Nat} (h : l[i]? = some c) : stF true 0 (l.take (i + 1)) = stF true 0 (l.take i) ++ (if (i = 0 ∨ l[i - 1]? = some 10) ∧ c ≠ 32 ∧ c ≠ 10 then [i] else []) := by
  have hi := (List.getElem?_eq_some_iff.mp h).1
  have e : l.take (i + 1) = l.take i ++ [c] := by rw [List.take_add_one, h]; rfl
  rw [e, stF_last]
  have el : (l.take i).length = i := by simp; omega
  rw [el, Nat.zero_add]
  congr 1
  have q : nlAt true (l.take i) = true ↔ (i = 0 ∨ l[i - 1]? = some 10) := by
    cases i with
    | zero => simp [nlAt]
    | succ j =>
      rw [nlAt_take (by omega)]
      simp
  by_cases hq : (i = 0 ∨ l[i - 1]? = some 10)
  · have := q.mpr hq
    simp only [this, hq, true_and]
  · have : nlAt true (l.take i) = false := by
      cases z : nlAt true (l.take i) with
      | true => exact absurd (q.mp z) hq
      | false => rfl
    simp [this, hq]
end SW

set_option Elab.async false
set_option linter.all false
set_option maxRecDepth 100000
set_option maxHeartbeats 4000000
namespace SW
open PySem L2
def top (i : Nat) : Stmt := PySem.Challenge.pw_shapewhole_k09_chunks_of_a_text.main.body.getD i (.Pass ⟨0, 0, 0, 0⟩)
abbrev s_law_next : Stmt := top 4
theorem sc_law_next : FnScope ["state", "limit", "cell", "value"] ["state", "limit"] (defScope s_law_next) := ⟨rfl, rfl, rfl, by decide +kernel, rfl, by decide +kernel, by decide +kernel⟩
abbrev s_law_same : Stmt := top 5
theorem sc_law_same : FnScope ["actual", "expected", "k"] ["actual", "expected"] (defScope s_law_same) := ⟨rfl, rfl, rfl, by decide +kernel, rfl, by decide +kernel, by decide +kernel⟩
abbrev s_line_starts : Stmt := top 1
theorem sc_line_starts : FnScope ["text", "found", "position"] ["text"] (defScope s_line_starts) := ⟨rfl, rfl, rfl, by decide +kernel, rfl, by decide +kernel, by decide +kernel⟩
abbrev s_chunks : Stmt := top 2
theorem sc_chunks : FnScope ["text", "starts", "ends", "start", "end"] ["text"] (defScope s_chunks) := ⟨rfl, rfl, rfl, by decide +kernel, rfl, by decide +kernel, by decide +kernel⟩
abbrev s_law_char : Stmt := top 6
theorem sc_law_char : FnScope ["index", "chars"] ["index"] (defScope s_law_char) := ⟨rfl, rfl, rfl, by decide +kernel, rfl, by decide +kernel, by decide +kernel⟩
abbrev s_law_line : Stmt := top 7
theorem sc_law_line : FnScope ["state", "line", "k"] ["state"] (defScope s_law_line) := ⟨rfl, rfl, rfl, by decide +kernel, rfl, by decide +kernel, by decide +kernel⟩
abbrev s_law_lines : Stmt := top 8
theorem sc_law_lines : FnScope ["state", "count", "text", "k"] ["state", "count"] (defScope s_law_lines) := ⟨rfl, rfl, rfl, by decide +kernel, rfl, by decide +kernel, by decide +kernel⟩
abbrev s_law : Stmt := top 9
theorem sc_law : FnScope ["script", "state", "text", "expected", "before", "count", "k", "chunk", "actual", "position"] ["script"] (defScope s_law) := ⟨rfl, rfl, rfl, by decide +kernel, rfl, by decide +kernel, by decide +kernel⟩
structure Txt (K : PySem.W.Frag) (mg : Str → Option Value) : Prop where
  b_bool : mg "bool" = none
  b_int : mg "int" = none
  b_isinstance : mg "isinstance" = none
  b_len : mg "len" = none
  b_list : mg "list" = none
  b_range : mg "range" = none
  b_str : mg "str" = none
  b_tuple : mg "tuple" = none
  b_zip : mg "zip" = none
theorem p31 : (0 : Int) < 2147483647 := by decide
def StB (K : PySem.W.Frag) (O : List Addr) (H : Hp) (st : Addr) : Prop := st ∈ O ∧ ∃ (sc : Addr) (ns : List Int) (i : Nat) (c s : Int), H st = some (.lst [.ref sc, .int (i : Int), .int c, .int s]) ∧ SqL K (wo H O) sc (ns.map V.int) ∧ i ≤ ns.length ∧ ns.length ≤ 63 ∧ 0 ≤ c ∧ 0 ≤ s ∧ s < 2147483647
section
variable {K : PySem.W.Frag} {O : List Addr} {H H' : Hp} {st p : Addr} {o : HO}
theorem StB.to (h : StB K O H st) (e : H' st = H st) (u : Same (wo H O) (wo H' O)) : StB K O H' st := by
  obtain ⟨h0, sc, ns, i, c, s, h1, h2, h3⟩ := h
  exact ⟨h0, sc, ns, i, c, s, e.trans h1, sql_le u h2, h3⟩
theorem StB.is (h : StB K O H st) : ∃ xs, H st = some (.lst xs) := by
  obtain ⟨_, _, _, _, _, _, h1, _⟩ := h
  exact ⟨_, h1⟩
theorem StB.le (h : StB K O H st) (u : Same H H') : StB K O H' st := by
  obtain ⟨xs, hx⟩ := h.is
  exact h.to (by rw [u _ _ hx, hx]) (Same.wo u)
theorem StB.put (h : StB K O H st) (hp : p ∈ O) (n : p ≠ st) : StB K O (upd H p o) st :=
  h.to (upd_ne (Ne.symm n)) (by rw [wo_upd_in hp]; exact Same.refl _)
theorem StB.grow (h : StB K O H st) (hp : H p = none) : StB K (p :: O) (upd H p o) st := by
  obtain ⟨xs, hx⟩ := h.is
  obtain ⟨h0, sc, ns, i, c, s, h1, h2, h3⟩ := h
  have n : st ≠ p := ne_of_none hx hp
  refine ⟨List.mem_cons_of_mem _ h0, sc, ns, i, c, s, by rw [upd_ne n]; exact h1, ?_, h3⟩
  refine sql_le (fun a u e => ?_) h2
  have ha : a ∉ O := fun z => by rw [wo_in z] at e; cases e
  rw [wo_out ha] at e
  have hn : a ≠ p := ne_of_none e hp
  rw [wo_out (by simp [ha, hn]), upd_ne hn]
  exact e
theorem StB.shrink (h : StB K (p :: O) H st) (hs : st ∈ O) : StB K O H st := by
  obtain ⟨_, sc, ns, i, c, s, h1, h2, h3⟩ := h
  exact ⟨hs, sc, ns, i, c, s, h1, sql_le wo_cons_le h2, h3⟩
end
def spNext (K : PySem.W.Frag) : Sp := fun vs H Q _ => ∃ (O : List Addr) (st : Addr) (lim : Int), vs = [.ref st, .int lim] ∧ 0 < lim ∧ lim < 1000000 ∧ StB K O H st ∧
  ∀ (r : Int) (H' : Hp), 0 ≤ r → r < lim → Up [st] H H' → StB K O H' st → Q (.int r) H'
section
variable {P : Program} {w : World} {K : PySem.W.Frag} {mg : Str → Option Value} {base : Heap}
theorem ok_law_next {f : Addr} {fd : FuncData} (F : Fun K "_law_next" "_law_next" s_law_next f fd) (T : Txt K mg) : FnOk P w K mg base CX0 1 f fd ["state", "limit"] (spNext K) := by
  refine F.ok sc_law_next (fun vs H Q E h => ?_) (fun cdv A outer s H vs Q E hr h => ?_)
  · obtain ⟨_, _, _, rfl, _⟩ := h
    rfl
  obtain ⟨O, st, lim, rfl, l0, l1, hS, k⟩ := h
  refine ⟨_, (Evl.pss_cut (ps_if (PW.pt (pw_and (pt_cmpR op_eq (pe_ix ix_list (pv 0) pe_int (fun _ _ => rfl)) pe_int (nomark _)) (pw_and1 (pt_cmpR op_lt (pe_ix ix_list (pv 0) pe_int (fun _ _ => rfl)) (pe_callB call_len_seq (by rfl) T.b_len bt_len (pa_cons (pe_ix ix_list (pv 0) pe_int (fun _ _ => rfl)) pa_nil)) (nomark _))))) (pss_cons (ps_set (i := 2) sc_law_next.nd rfl (Or.inl rfl) (pe_ix ix_list (pe_ix ix_list (pv 0) pe_int (fun _ _ => rfl)) (pe_ix ix_list (pv 0) pe_int (fun _ _ => rfl)) (fun _ _ => rfl)))
  (pss_cons (ps_augS (pv 0) pe_int get_list pe_int ip_add set_list)
  (pss_one (ps_if (pt_cmpR op_ge (pv 2) (pe_op op_pow pe_int pe_int) (nomark _)) (pss_one (ps_asg (pv 2) (pg_sub (pv 0) pe_int set_list))) (pss_one (ps_asg (pe_op op_mod (pe_callTy call_int1 (by rfl) T.b_int bt_int (pa_cons (pe_op op_add (pe_op op_add (pe_op op_mul (pe_ix ix_list (pv 0) pe_int (fun _ _ => rfl)) pe_int) (pe_op op_mod (pe_callTy call_int1 (by rfl) T.b_int bt_int (pa_cons (pv 2) pa_nil)) pe_int)) pe_int) pa_nil)) pe_int) (pg_sub (pv 0) pe_int set_list))))))) pss_nil)
  (pss_cons (ps_if (pt_cmpR op_gt (pe_ix ix_list (pv 0) pe_int (fun _ _ => rfl)) pe_int (nomark _)) (pss_cons (ps_set (i := 3) sc_law_next.nd rfl (Or.inl rfl) (pe_op op_mod (pe_callTy call_int1 (by rfl) T.b_int bt_int (pa_cons (pe_ix ix_list (pv 0) pe_int (fun _ _ => rfl)) pa_nil)) (pv 1)))
  (pss_cons (ps_asg (pe_op op_fdiv (pe_ix ix_list (pv 0) pe_int (fun _ _ => rfl)) (pv 1)) (pg_sub (pv 0) pe_int set_list))
  (pss_one (ps_ret (pv 3))))) pss_nil)
  (pss_cons (ps_asg (pe_op op_mod (pe_callTy call_int1 (by rfl) T.b_int bt_int (pa_cons (pe_op op_add (pe_op op_mul (pe_ix ix_list (pv 0) pe_int (fun _ _ => rfl)) pe_int) pe_int) pa_nil)) pe_int) (pg_sub (pv 0) pe_int set_list))
  (pss_one (ps_ret (pe_op op_mod (pe_callTy call_int1 (by rfl) T.b_int bt_int (pa_cons (pe_op op_fdiv (pe_ix ix_list (pv 0) pe_int (fun _ _ => rfl)) pe_int) pa_nil)) (pv 1))))))), ?_⟩
  obtain ⟨h0, sc, ns, i, c, s0, h1, h2', h4, h5, h6, h7, h8⟩ := hS
  have h2 : SqL K H sc (ns.map V.int) := sql_le (wo_le _ _) h2'
  refine ⟨fun σ' H' => ∃ cell, σ' = [some (.ref st), some (.int lim), cell, none] ∧ Up [st] H H' ∧ StB K O H' st, ?_, ?_⟩
  · -- if state[2] == 0 and state[1] < len(state[0])
    refine ⟨_, rfl, st, _, 2, _, rfl, rfl, SqL.of h1, rfl, rfl, _, rfl, brD (fun e => ?_) (fun e => ?_)⟩
    · refine ⟨_, rfl, st, _, 1, _, rfl, rfl, SqL.of h1, rfl, _, rfl, st, _, 0, _, rfl, rfl, SqL.of h1, rfl, sc, _, rfl, .inl h2, _, _, rfl, rfl, _, rfl, brD (fun e1 => ?_) (fun e1 => ?_)⟩
      · rw [List.length_map] at e1
        have hi : i < ns.length := by omega
        refine ⟨_, rfl, st, _, 0, _, rfl, rfl, SqL.of h1, rfl, _, rfl, st, _, 1, _, rfl, rfl, SqL.of h1, rfl, sc, _, _, .int ns[i], rfl, rfl, h2, atI_nat (by rw [List.getElem?_map, List.getElem?_eq_getElem hi]; rfl), ?_⟩
        refine ⟨_, rfl, st, _, 1, _, rfl, rfl, SqL.of h1, rfl, by decide, _, _, rfl, rfl, st, _, 1, 1, rfl, rfl, h1, rfl, ?_⟩
        have u1 : Up [st] H (upd H st (.lst [.ref sc, .int ((i : Int) + 1), .int c, .int s0])) := Up.put (by simp)
        have g1 : (upd H st (.lst [.ref sc, .int ((i : Int) + 1), .int c, .int s0])) st = some (.lst [.ref sc, .int ((i : Int) + 1), .int c, .int s0]) := upd_same
        refine ⟨_, rfl, _, _, rfl, rfl, ⟨by decide, by decide, by decide⟩, _, _, rfl, rfl, _, rfl, brD (fun e2 => ?_) (fun e2 => ?_)⟩
        · -- state[2] = cell
          refine ⟨_, rfl, _, rfl, st, _, 2, 2, rfl, rfl, g1, rfl, ?_⟩
          have e3 : (0 : Int) ≤ ns[i] := Int.le_trans (by decide) e2
          refine ⟨_, rfl, u1.trans (Up.put (by simp)), h0, sc, ns, i + 1, ns[i], s0, upd_same, ?_, hi, h5, e3, h7, h8⟩
          rw [wo_upd_in h0, wo_upd_in h0]
          exact h2'
        · -- state[3] = ..
          refine ⟨_, rfl, st, _, 3, _, rfl, rfl, SqL.of g1, rfl, _, _, rfl, rfl, .inr ⟨by decide, by decide⟩, ?_⟩
          refine ⟨_, rfl, .inl ⟨_, rfl, _, _, rfl, rfl, p31, _, _, rfl, rfl, _, _, rfl, rfl, .inl ⟨_, rfl, _, _, rfl, rfl, p31, _, rfl, st, _, 3, 3, rfl, rfl, g1, rfl, ?_⟩⟩⟩
          refine ⟨_, rfl, u1.trans (Up.put (by simp)), h0, sc, ns, i + 1, c, _, upd_same, ?_, hi, h5, h6, Int.emod_nonneg _ (by decide), Int.emod_lt_of_pos _ (by decide)⟩
          rw [wo_upd_in h0, wo_upd_in h0]
          exact h2'
      · exact ⟨none, rfl, Up.rfl', h0, sc, ns, i, c, s0, h1, h2', h4, h5, h6, h7, h8⟩
    · exact ⟨none, rfl, Up.rfl', h0, sc, ns, i, c, s0, h1, h2', h4, h5, h6, h7, h8⟩
  · rintro σ' H1 ⟨cell, rfl, u1, h0, sc, ns, i, c, s0, h1, h2', h4, h5, h6, h7, h8⟩
    have h2 : SqL K H1 sc (ns.map V.int) := sql_le (wo_le _ _) h2'
    refine ⟨_, rfl, st, _, 2, _, rfl, rfl, SqL.of h1, rfl, _, _, rfl, rfl, _, rfl, brD (fun e => ?_) (fun e => ?_)⟩
    · -- value = int(state[2]) % limit; state[2] = state[2] // limit
      refine ⟨_, rfl, st, _, 2, _, rfl, rfl, SqL.of h1, rfl, .inl ⟨_, rfl, _, rfl, _, _, rfl, rfl, l0, ?_⟩⟩
      refine ⟨_, rfl, st, _, 2, _, rfl, rfl, SqL.of h1, rfl, _, rfl, _, _, rfl, rfl, ⟨l0, Int.lt_trans l1 (by decide)⟩, _, rfl, st, _, 2, 2, rfl, rfl, h1, rfl, ?_⟩
      refine ⟨_, rfl, k _ _ (Int.emod_nonneg _ (by omega)) (Int.emod_lt_of_pos _ l0) (u1.trans (Up.put (by simp))) ⟨h0, sc, ns, i, c / lim, s0, upd_same, ?_, h4, h5, Int.ediv_nonneg h6 (by omega), h7, h8⟩⟩
      rw [wo_upd_in h0]
      exact h2'
    · refine ⟨_, rfl, st, _, 3, _, rfl, rfl, SqL.of h1, rfl, _, _, rfl, rfl, .inr ⟨by decide, by decide⟩, _, _, rfl, rfl, .inl ⟨_, rfl, _, _, rfl, rfl, p31, _, rfl, st, _, 3, 3, rfl, rfl, h1, rfl, ?_⟩⟩
      refine ⟨_, rfl, st, _, 3, _, rfl, rfl, SqL.of upd_same, rfl, _, _, rfl, rfl, ⟨by decide, by decide⟩, .inl ⟨_, rfl, _, rfl, _, _, rfl, rfl, l0, ?_⟩⟩
      refine k _ _ (Int.emod_nonneg _ (by omega)) (Int.emod_lt_of_pos _ l0) (u1.trans (Up.put (by simp))) ⟨h0, sc, ns, i, c, _, upd_same, ?_, h4, h5, h6, Int.emod_nonneg _ (by decide), Int.emod_lt_of_pos _ (by decide)⟩
      rw [wo_upd_in h0]
      exact h2'
end

def spSame (K : PySem.W.Frag) (n : Nat) : Sp := fun vs H Q _ => ∃ (va ve : V) (d e : PyData), vs = [va, ve] ∧ Rp K H va d ∧ Rp K H ve e ∧ fit e = true ∧ dep e < n ∧ ∀ H', Same H H' → Q (.bl (sameD d e)) H'
section
variable {P : Program} {w : World} {K : PySem.W.Frag} {mg : Str → Option Value} {base : Heap}
def SameMid (K : PySem.W.Frag) (n : Nat) (va ve : V) (d e : PyData) (H : Hp) : L2.St → Hp → Prop := fun σ' H' => σ' = [some va, some ve, none] ∧ H' = H ∧
  ∃ (xs ys : List V) (ds es : List PyData) (pa pe : Addr), va = .ref pa ∧ ve = .ref pe ∧ RpAll K H xs ds ∧ RpAll K H ys es ∧ (SqL K H pa xs ∨ SqT K H pa xs) ∧ (SqL K H pe ys ∨ SqT K H pe ys) ∧ es.length ≤ 16777216 ∧ fitAll es = true ∧ depAll es < n ∧ (d = e ↔ ds = es)
theorem ok_law_same {f : Addr} {fd : FuncData} {n : Nat} (F : Fun K "_law_same" "_law_same" s_law_same f fd) (T : Txt K mg) (G_law_same : GF P w K mg base CX0 "_law_same" n ["actual", "expected"] (spSame K n)) : FnOk P w K mg base CX0 (n + 1) f fd ["actual", "expected"] (spSame K (n + 1)) := by
  refine F.ok sc_law_same (fun vs H Q E h => ?_) (fun cdv A outer s H vs Q E hr h => ?_)
  · obtain ⟨_, _, _, _, rfl, _⟩ := h
    rfl
  obtain ⟨va, ve, d, e, rfl, ra, re, hn, hd, k⟩ := h
  have k0 : ∀ b, b = sameD d e → Q (.bl b) H := fun b e => by rw [e]; exact k H (Same.refl H)
  refine ⟨_, (pss_cons (ps_if (pt_cmp (pc_isN (pv 1))) (pss_one (ps_ret (pe_cmp (pc_isN (pv 0))))) pss_nil)
  (pss_cons (ps_if (pt_val (pe_callB call_isi (by rfl) T.b_isinstance bt_isinstance (pa_cons (pv 1) (pa_cons (pe_bltn (v := .ty "bool") (by rfl) T.b_bool bt_bool rfl) pa_nil)))) (pss_one (ps_ret (pe_and (pe_callB call_isi (by rfl) T.b_isinstance bt_isinstance (pa_cons (pv 0) (pa_cons (pe_bltn (v := .ty "bool") (by rfl) T.b_bool bt_bool rfl) pa_nil))) (pe_one (pe_cmpR op_eq (pv 0) (pv 1) (nomark _)))))) pss_nil)
  (pss_cons (ps_if (pt_val (pe_callB call_isi (by rfl) T.b_isinstance bt_isinstance (pa_cons (pv 1) (pa_cons (pe_bltn (v := .ty "int") (by rfl) T.b_int bt_int rfl) pa_nil)))) (pss_one (ps_ret (pe_and (pe_callB call_isi (by rfl) T.b_isinstance bt_isinstance (pa_cons (pv 0) (pa_cons (pe_bltn (v := .ty "int") (by rfl) T.b_int bt_int rfl) pa_nil))) (pe_and (pe_not (pe_callB call_isi (by rfl) T.b_isinstance bt_isinstance (pa_cons (pv 0) (pa_cons (pe_bltn (v := .ty "bool") (by rfl) T.b_bool bt_bool rfl) pa_nil)))) (pe_one (pe_cmpR op_eq (pv 0) (pv 1) (nomark _))))))) pss_nil)
  (pss_cons (ps_if (pt_val (pe_callB call_isi (by rfl) T.b_isinstance bt_isinstance (pa_cons (pv 1) (pa_cons (pe_bltn (v := .ty "str") (by rfl) T.b_str bt_str rfl) pa_nil)))) (pss_one (ps_ret (pe_and (pe_callB call_isi (by rfl) T.b_isinstance bt_isinstance (pa_cons (pv 0) (pa_cons (pe_bltn (v := .ty "str") (by rfl) T.b_str bt_str rfl) pa_nil))) (pe_one (pe_cmpR op_eq (pv 0) (pv 1) (nomark _)))))) pss_nil)
  (pss_cons (ps_if (PW.pt (pw_and (pt_val (pe_callB call_isi (by rfl) T.b_isinstance bt_isinstance (pa_cons (pv 1) (pa_cons (pe_bltn (v := .ty "tuple") (by rfl) T.b_tuple bt_tuple rfl) pa_nil)))) (pw_and1 (pt_not (pt_val (pe_callB call_isi (by rfl) T.b_isinstance bt_isinstance (pa_cons (pv 0) (pa_cons (pe_bltn (v := .ty "tuple") (by rfl) T.b_tuple bt_tuple rfl) pa_nil)))))))) (pss_one (ps_ret pe_bl)) pss_nil)
  (Evl.pss_cut (ps_if (PW.pt (pw_and (pt_val (pe_callB call_isi (by rfl) T.b_isinstance bt_isinstance (pa_cons (pv 1) (pa_cons (pe_bltn (v := .ty "list") (by rfl) T.b_list bt_list rfl) pa_nil)))) (pw_and1 (pt_not (pt_val (pe_callB call_isi (by rfl) T.b_isinstance bt_isinstance (pa_cons (pv 0) (pa_cons (pe_bltn (v := .ty "list") (by rfl) T.b_list bt_list rfl) pa_nil)))))))) (pss_one (ps_ret pe_bl)) pss_nil)
  (pss_cons (ps_if (pt_cmpR op_ne (pe_callB call_len_seq (by rfl) T.b_len bt_len (pa_cons (pv 0) pa_nil)) (pe_callB call_len_seq (by rfl) T.b_len bt_len (pa_cons (pv 1) pa_nil)) (nomark _)) (pss_one (ps_ret pe_bl)) pss_nil)
  (pss_cons (ps_for PassesOwn.never rfl (pi_range1 rfl T.b_range (pa_cons (pe_callB call_len_seq (by rfl) T.b_len bt_len (pa_cons (pv 1) pa_nil)) pa_nil)) (pg_name (i := 2) sc_law_same.nd rfl (Or.inl rfl)) (pss_one (ps_if (pt_not (pt_val (pe_cg G_law_same hr rfl (pa_cons (pe_ix ix_seq (pv 0) (pv 2) (fun _ _ => rfl)) (pa_cons (pe_ix ix_seq (pv 1) (pv 2) (fun _ _ => rfl)) pa_nil))))) (pss_one (ps_ret pe_bl)) pss_nil)))
  (pss_one (ps_ret pe_bl)))))))))), ?_⟩
  have tail : ∀ (va ve : V) (d e : PyData), (∀ (H' : Hp), Same H H' → Q (V.bl (sameD d e)) H') → ∀ σ' H', SameMid K n va ve d e H σ' H' → tSeq (tIfS (tTest (tOp rNe (tCB (rLn K) (tCons (tVar 0) tNil)) (tCB (rLn K) (tCons (tVar 1) tNil)))) (tRet (tC (.bl false))) tNext)
      (tSeq (tFor (iRng1 (tCons (tCB (rLn K) (tCons (tVar 1) tNil)) tNil)) (gName 2) (tIfS (tNot (tB (tCg (spSame K n) (tCons (tOp (rIx K) (tVar 0) (tVar 2)) (tCons (tOp (rIx K) (tVar 1) (tVar 2)) tNil))))) (tRet (tC (.bl false))) tNext)) (tRet (tC (.bl true)))) { nx := fun _ H' => Q .non H', rt := Q } σ' H' := by
    rintro va ve d e k σ' H' ⟨rfl, rfl, xs, ys, ds, es, pa, pe, rfl, rfl, ga, ge, sa, se, hz, hn, hd, hde⟩
    have la := ga.length
    have le := ge.length
    refine ⟨_, rfl, pa, xs, rfl, sa, _, rfl, pe, ys, rfl, se, rfl, _, rfl, brN (fun e1 => ?_) (fun e1 => ?_)⟩
    · have h : d ≠ e := fun z => by
        have z1 := hde.mp z
        rw [int_inj] at e1
        rw [z1] at la
        omega
      have q := k H' (Same.refl _)
      rw [sameD_ne h] at q
      exact q
    rw [int_inj] at e1
    have l2 : ds.length = es.length := by omega
    refine ⟨_, rfl, pe, ys, rfl, se, _, rfl, by omega, by omega, for_range (fun i σ2 H2 => ∃ z, σ2 = [some (.ref pa), some (.ref pe), z] ∧ Same H' H2 ∧ ∀ j, j < i → ds[j]? = es[j]?) ⟨none, rfl, Same.refl _, fun j hj => absurd hj (Nat.not_lt_zero j)⟩ ?_ ?_⟩
    · rintro i σ2 H2 hi ⟨z, rfl, sm, hj⟩
      have hi1 : i < es.length := by omega
      have hi2 : i < ds.length := by omega
      have he : es[i]? = some es[i] := List.getElem?_eq_getElem hi1
      have hda : ds[i]? = some ds[i] := List.getElem?_eq_getElem hi2
      obtain ⟨ve, v1, v2⟩ := ge.get he
      obtain ⟨va, w1, w2⟩ := ga.get hda
      have ix : ∀ {p : Addr} {us : List V} {u : V} {Q' : VK}, (SqL K H' p us ∨ SqT K H' p us) → us[i]? = some u → Q' u H2 → rIx K (.ref p) (.int (0 + (i : Int))) H2 Q' := fun {p us u Q'} hp hu q => by
        have ea : atI us (0 + (i : Int)) = some u := by
          rw [Int.zero_add]
          exact atI_nat hu
        rcases hp with hp | hp
        · exact .inl ⟨p, us, _, u, rfl, rfl, sql_le sm hp, ea, q⟩
        · exact .inr (.inl ⟨p, us, _, u, rfl, rfl, sqt_le sm hp, ea, q⟩)
      refine ⟨_, rfl, _, rfl, ix sa w1 ⟨_, rfl, _, rfl, ix se v1 ?_⟩⟩
      refine ⟨va, ve, ds[i], es[i], rfl, w2.le sm, v2.le sm, fitAll_get hn he, Nat.lt_of_le_of_lt (depAll_get he) hd, fun H3 s3 => ⟨_, rfl, ?_⟩⟩
      refine br (fun e2 => ?_) (fun e2 => ?_)
      · have h : d ≠ e := fun z => by
          have z1 := hde.mp z
          subst z1
          rw [sameD_refl] at e2
          cases e2
        have q := k H3 (sm.trans s3)
        rw [sameD_ne h] at q
        exact q
      · refine ⟨_, rfl, sm.trans s3, fun j hj2 => ?_⟩
        by_cases ej : j = i
        · subst ej
          have e3 : sameD ds[j] es[j] = true := by simpa using e2
          rw [hda, he, sameD_iff.mp e3]
        · exact hj j (by omega)
    · rintro σ2 H2 ⟨z, rfl, sm, hj⟩
      have h : d = e := hde.mpr (pre_eq l2 fun j hj2 => hj j (by omega))
      have q := k H2 sm
      rw [h, sameD_refl] at q
      exact q
  have fin : (∃ (xs ys : List V) (ds es : List PyData) (pa pe : Addr), va = .ref pa ∧ ve = .ref pe ∧ RpAll K H xs ds ∧ RpAll K H ys es ∧ (SqL K H pa xs ∨ SqT K H pa xs) ∧ (SqL K H pe ys ∨ SqT K H pe ys) ∧ es.length ≤ 16777216 ∧ fitAll es = true ∧ depAll es < n ∧ (d = e ↔ ds = es)) → SameMid K n va ve d e H [some va, some ve, none] H := fun z => ⟨rfl, rfl, z⟩
  cases re with
  | non =>
    refine ⟨_, rfl, _, rfl, iteT ⟨_, rfl, k0 _ ?_⟩⟩
    cases ra <;> first | exact (sameD_refl _).symm | exact (sameD_ne (fun z => by cases z)).symm
  | bl b =>
    refine ⟨_, rfl, _, rfl, iteF ⟨_, rfl, _, _, _, _, _, rfl, .ty _, (Rp.bl b).ty, kit_ty (kit_bool _), _, rfl, iteT ⟨_, rfl, _, _, _, _, _, rfl, .ty _, (ra).ty, kit_ty (kit_bool _), _, rfl, ?_⟩⟩⟩
    cases ra with
    | bl c =>
      refine iteT ⟨_, rfl, _, rfl, rfl, k0 _ (sameD_eq ?_).symm⟩
      simp
    | _ => exact iteF (k0 _ (sameD_ne (fun z => by cases z)).symm)
  | int i =>
    refine ⟨_, rfl, _, rfl, iteF ⟨_, rfl, _, _, _, _, _, rfl, .ty _, (Rp.int i).ty, kit_ty (kit_bool _), _, rfl, iteF ⟨_, rfl, _, _, _, _, _, rfl, .ty _, (Rp.int i).ty, kit_ty (kit_int _), _, rfl, iteT ⟨_, rfl, _, _, _, _, _, rfl, .ty _, (ra).ty, kit_ty (kit_int _), _, rfl, ?_⟩⟩⟩⟩
    cases ra with
    | bl c => exact iteT ⟨_, rfl, _, _, _, _, _, rfl, .ty _, (Rp.bl c).ty, kit_ty (kit_bool _), _, rfl, _, rfl, iteF (k0 _ (sameD_ne (fun z => by cases z)).symm)⟩
    | int j =>
      refine iteT ⟨_, rfl, _, _, _, _, _, rfl, .ty _, (Rp.int j).ty, kit_ty (kit_bool _), _, rfl, _, rfl, iteT ⟨_, rfl, _, rfl, rfl, k0 _ (sameD_eq ?_).symm⟩⟩
      simp
    | _ => exact iteF (k0 _ (sameD_ne (fun z => by cases z)).symm)
  | str x =>
    refine ⟨_, rfl, _, rfl, iteF ⟨_, rfl, _, _, _, _, _, rfl, .ty _, (Rp.str x).ty, kit_ty (kit_bool _), _, rfl, iteF ⟨_, rfl, _, _, _, _, _, rfl, .ty _, (Rp.str x).ty, kit_ty (kit_int _), _, rfl, iteF ⟨_, rfl, _, _, _, _, _, rfl, .ty _, (Rp.str x).ty, kit_ty (kit_str _), _, rfl, iteT ⟨_, rfl, _, _, _, _, _, rfl, .ty _, (ra).ty, kit_ty (kit_str _), _, rfl, ?_⟩⟩⟩⟩⟩
    cases ra with
    | str y =>
      refine iteT ⟨_, rfl, _, rfl, rfl, k0 _ (sameD_eq ?_).symm⟩
      simp
    | _ => exact iteF (k0 _ (sameD_ne (fun z => by cases z)).symm)
  | dict0 h => simp [fit] at hn
  | @tup pe ys es h1 h2 =>
    simp only [fit, Bool.and_eq_true, decide_eq_true_eq] at hn
    refine ⟨_, rfl, _, rfl, iteF ⟨_, rfl, _, _, _, _, _, rfl, .ty _, (Rp.tup h1 h2).ty, kit_ty (kit_bool _), _, rfl, iteF ⟨_, rfl, _, _, _, _, _, rfl, .ty _, (Rp.tup h1 h2).ty, kit_ty (kit_int _), _, rfl, iteF ⟨_, rfl, _, _, _, _, _, rfl, .ty _, (Rp.tup h1 h2).ty, kit_ty (kit_str _), _, rfl, iteF ⟨_, rfl, _, _, _, _, _, rfl, .ty _, (Rp.tup h1 h2).ty, kit_ty (kit_tup _), _, rfl, iteT ⟨_, rfl, _, _, _, _, _, rfl, .ty _, (ra).ty, kit_ty (kit_tup _), _, rfl, ?_⟩⟩⟩⟩⟩⟩
    cases ra with
    | @tup pa xs ds g1 g2 =>
      refine iteF ⟨SameMid K n (.ref pa) (.ref pe) (.tuple ds) (.tuple es) H, ⟨_, rfl, _, _, _, _, _, rfl, .ty _, (Rp.tup h1 h2).ty, kit_ty (kit_lst _), _, rfl, iteF (iteF (fin ⟨xs, ys, ds, es, pa, pe, rfl, rfl, g2, h2, .inr g1, .inr h1, hn.1, hn.2, ?_, ?_⟩))⟩, tail _ _ _ _ k⟩
      · simp only [dep] at hd
        omega
      · exact ⟨fun z => by cases z; rfl, fun z => by rw [z]⟩
    | _ => exact iteT (k0 _ (sameD_ne (fun z => by cases z)).symm)
  | @lst pe ys es h1 h2 =>
    simp only [fit, Bool.and_eq_true, decide_eq_true_eq] at hn
    refine ⟨_, rfl, _, rfl, iteF ⟨_, rfl, _, _, _, _, _, rfl, .ty _, (Rp.lst h1 h2).ty, kit_ty (kit_bool _), _, rfl, iteF ⟨_, rfl, _, _, _, _, _, rfl, .ty _, (Rp.lst h1 h2).ty, kit_ty (kit_int _), _, rfl, iteF ⟨_, rfl, _, _, _, _, _, rfl, .ty _, (Rp.lst h1 h2).ty, kit_ty (kit_str _), _, rfl, iteF ⟨_, rfl, _, _, _, _, _, rfl, .ty _, (Rp.lst h1 h2).ty, kit_ty (kit_tup _), _, rfl, iteF (iteF ⟨SameMid K n va (.ref pe) d (.list es) H, ⟨_, rfl, _, _, _, _, _, rfl, .ty _, (Rp.lst h1 h2).ty, kit_ty (kit_lst _), _, rfl, iteT ⟨_, rfl, _, _, _, _, _, rfl, .ty _, (ra).ty, kit_ty (kit_lst _), _, rfl, ?_⟩⟩, tail _ _ _ _ k⟩)⟩⟩⟩⟩⟩
    cases ra with
    | @lst pa xs ds g1 g2 =>
      refine iteF (fin ⟨xs, ys, ds, es, pa, pe, rfl, rfl, g2, h2, .inl g1, .inl h1, hn.1, hn.2, ?_, ?_⟩)
      · simp only [dep] at hd
        omega
      · exact ⟨fun z => by cases z; rfl, fun z => by rw [z]⟩
    | _ => exact iteT (k0 _ (sameD_ne (fun z => by cases z)).symm)
theorem gf_law_same {f : Addr} {fd : FuncData} (F : Fun K "_law_same" "_law_same" s_law_same f fd) (T : Txt K mg) (hm : mg "_law_same" = some (.ref f)) (b : Binds K fd ["actual", "expected"] []) : ∀ n, GF P w K mg base CX0 "_law_same" n ["actual", "expected"] (spSame K n)
  | 0 => by
    have no : ∀ vs H Q E, ¬ spSame K 0 vs H Q E := fun vs H Q E h => by
      obtain ⟨_, _, _, _, _, _, _, _, h, _⟩ := h
      omega
    exact ⟨f, fd, ⟨fun vs H Q E h => absurd h (no vs H Q E), fun A outer s H args us vs Q E _ _ _ _ h => absurd h (no vs H Q E)⟩, hm, F.kp, b⟩
  | n + 1 => ⟨f, fd, ok_law_same F T (gf_law_same F T hm b n), hm, F.kp, b⟩
end

section
variable {P : Program} {w : World} {K : PySem.W.Frag} {mg : Str → Option Value} {base : Heap}
def intN (n : Nat) : V := .int (n : Int)
def spStarts : Sp := fun vs H Q _ => ∃ l : List Nat, vs = [.str (SX.S l)] ∧ l.length ≤ 1000000 ∧ ∀ p H', H p = none → Same H H' → H' p = some (.lst ((stF true 0 l).map intN)) → Q (.ref p) H'
theorem nlS : (PySem.Str.ofString "\n") = SX.S [10] := by decide +kernel
theorem blS : (PySem.Str.ofString " ") = SX.S [32] := by decide +kernel
theorem stF_le : ∀ (l : List Nat) (b : Bool) (p : Nat), (stF b p l).length ≤ l.length
  | [], _, _ => Nat.le_refl _
  | c :: l, b, p => by
    have := stF_le l (c == 10) (p + 1)
    simp only [stF]
    split <;> simp <;> omega
theorem ok_line_starts {f : Addr} {fd : FuncData} (F : Fun K "line_starts" "line_starts" s_line_starts f fd) (T : Txt K mg) : FnOk P w K mg base CX0 1 f fd ["text"] spStarts := by
  refine F.ok sc_line_starts (fun vs H Q E h => ?_) (fun cdv A outer s H vs Q E hr h => ?_)
  · obtain ⟨_, rfl, _⟩ := h
    rfl
  obtain ⟨l, rfl, hl, k⟩ := h
  have hz : (SX.S l).length ≤ sizeLine := sz _ (by rw [len_S]; omega)
  refine ⟨_, (pss_cons (ps_set (i := 1) sc_line_starts.nd rfl (Or.inl rfl) (pe_lst pa_nil))
  (pss_cons (ps_for PassesOwn.never rfl (pi_range1 rfl T.b_range (pa_cons (pe_callB call_len_str (by rfl) T.b_len bt_len (pa_cons (pv 0) pa_nil)) pa_nil)) (pg_name (i := 2) sc_line_starts.nd rfl (Or.inl rfl)) (pss_one (ps_if (PW.pt (pw_and (pt_cmpR op_notIn_seq (pe_ix ix_str (pv 0) (pv 2) (fun _ _ => rfl)) (pe_tup (pa_cons pe_str (pa_cons pe_str pa_nil))) rfl) (pw_and1 (PW.pt (pw_or (pt_cmpR op_eq (pv 2) pe_int (nomark _)) (pw_or1 (pt_cmpR op_eq (pe_ix ix_str (pv 0) (pe_op op_sub (pv 2) pe_int) (fun _ _ => rfl)) pe_str (nomark _)))))))) (pss_one (ps_expr (pe_bm PySem.F.plainAttrs_list PySem.F.slot_list_append PySem.F.type_list_append mt_append (pv 1) (pa_cons (pv 2) pa_nil)))) pss_nil)))
  (pss_one (ps_ret (pv 1))))), ?_⟩
  refine ⟨Nat.zero_le _, fun p hp => ?_⟩
  refine ⟨_, rfl, _, rfl, hz, _, rfl, by rw [len_S]; omega, by rw [len_S]; omega, for_range (fun i σ H2 => ∃ z, σ = [some (.str (SX.S l)), some (.ref p), z] ∧ Same H H2 ∧ H2 p = some (.lst ((stF true 0 (l.take i)).map intN))) ⟨none, rfl, same_upd hp, by simp [stF, upd_same]⟩ ?_ ?_⟩
  · rintro i σ H2 hi ⟨z, rfl, sm, hH⟩
    have hi' : i < l.length := by rw [len_S] at hi; omega
    have hc : l[i]? = some l[i] := List.getElem?_eq_getElem hi'
    have ix : atI (SX.S l).cps.toList (0 + (i : Int)) = some l[i] := by
      rw [Int.zero_add, cps_S]
      exact atI_nat hc
    have hzl := stF_le (l.take i) true 0
    have hlt : (l.take i).length ≤ 1000000 := by simp; omega
    have yes : ∀ H3, Same H2 H3 → ((i = 0 ∨ l[i - 1]? = some 10) ∧ l[i] ≠ 32 ∧ l[i] ≠ 10) → ∃ z, [some (V.str (SX.S l)), some (.ref p), some (.int (0 + (i : Int)))] = [some (.str (SX.S l)), some (.ref p), z] ∧ Same H (upd H3 p (.lst ((stF true 0 (l.take i)).map intN ++ [.int (0 + (i : Int))]))) ∧ (upd H3 p (.lst ((stF true 0 (l.take i)).map intN ++ [.int (0 + (i : Int))]))) p = some (.lst ((stF true 0 (l.take (i + 1))).map intN)) := fun H3 s3 hq => by
      refine ⟨_, rfl, fun b o e => ?_, ?_⟩
      · have hb : b ≠ p := ne_of_none e hp
        rw [upd_ne hb]
        exact s3 _ _ (sm _ _ e)
      · rw [upd_same, stF_take hc, if_pos hq, List.map_append, Int.zero_add]
        rfl
    have no : ∀ H3, Same H2 H3 → ¬ ((i = 0 ∨ l[i - 1]? = some 10) ∧ l[i] ≠ 32 ∧ l[i] ≠ 10) → ∃ z, [some (V.str (SX.S l)), some (.ref p), some (.int (0 + (i : Int)))] = [some (.str (SX.S l)), some (.ref p), z] ∧ Same H H3 ∧ H3 p = some (.lst ((stF true 0 (l.take (i + 1))).map intN)) := fun H3 s3 hq => by
      refine ⟨_, rfl, sm.trans s3, ?_⟩
      rw [stF_take hc, if_neg hq, List.append_nil]
      exact s3 _ _ hH
    refine ⟨_, rfl, _, rfl, _, _, _, rfl, rfl, hz, ix, Nat.le_trans (by decide) (sz 2 (by decide)), fun t ht => ?_⟩
    have hne : t ≠ p := fun e => by rw [e, hH] at ht; cases ht
    have s3 : Same H2 (upd H2 t (.tup [.str (PySem.Str.ofString " "), .str (PySem.Str.ofString "\n")])) := same_upd ht
    refine ⟨t, _, rfl, .inr (SqT.of upd_same), rfl, rfl, _, rfl, ?_⟩
    have hin : inV (.str ⟨#[l[i]]⟩) [.str (PySem.Str.ofString " "), .str (PySem.Str.ofString "\n")] = decide (l[i] = 32 ∨ l[i] = 10) := by
      rw [nlS, blS]
      have := inV_str [l[i]] [[32], [10]]
      refine this.trans ?_
      rw [Bool.eq_iff_iff]
      simp only [List.any_cons, List.any_nil, Bool.or_false, Bool.or_eq_true, decide_eq_true_eq, List.cons.injEq, and_true]
      exact ⟨fun z => z.elim (fun a => .inl a.symm) (fun a => .inr a.symm), fun z => z.elim (fun a => .inl a.symm) (fun a => .inr a.symm)⟩
    rw [if_pos rfl, hin]
    refine brN (fun e1 => ?_) (fun e1 => ?_)
    · have e2 : ¬ (l[i] = 32 ∨ l[i] = 10) := e1
      refine ⟨_, rfl, rfl, _, rfl, brD (fun e3 => ?_) (fun e3 => ?_)⟩
      · rw [int_inj] at e3
        refine iteT ⟨_, rfl, .inl ⟨rfl, _, SqL.of (s3 _ _ hH)⟩, _, rfl, p, _, _, rfl, rfl, s3 _ _ hH, szl _ (by rw [List.length_map]; omega), ?_⟩
        exact yes _ s3 ⟨.inl (by omega), fun z => e2 (.inl z), fun z => e2 (.inr z)⟩
      · rw [int_inj] at e3
        have hi0 : 0 < i := by omega
        have hc1 : l[i - 1]? = some l[i - 1] := List.getElem?_eq_getElem (by omega)
        have ix1 : atI (SX.S l).cps.toList (0 + (i : Int) - 1) = some l[i - 1] := by
          have : 0 + (i : Int) - 1 = ((i - 1 : Nat) : Int) := by omega
          rw [this, cps_S]
          exact atI_nat hc1
        refine ⟨_, rfl, _, rfl, _, _, rfl, rfl, _, _, _, rfl, rfl, hz, ix1, rfl, _, rfl, brD (fun e4 => ?_) (fun e4 => ?_)⟩
        · rw [str_inj, nlS] at e4
          have e5 : l[i - 1] = 10 := by simpa using SX.S_inj (a := [l[i-1]]) e4
          refine ⟨_, rfl, .inl ⟨rfl, _, SqL.of (s3 _ _ hH)⟩, _, rfl, p, _, _, rfl, rfl, s3 _ _ hH, szl _ (by rw [List.length_map]; omega), ?_⟩
          exact yes _ s3 ⟨.inr (by rw [hc1, e5]), fun z => e2 (.inl z), fun z => e2 (.inr z)⟩
        · rw [str_inj, nlS] at e4
          refine no _ s3 fun z => ?_
          rcases z.1 with z1 | z1
          · omega
          · rw [hc1] at z1
            exact e4 (by rw [Option.some.inj z1])
    · have e2 : l[i] = 32 ∨ l[i] = 10 := e1
      refine no _ s3 fun z => ?_
      rcases e2 with e2 | e2
      · exact z.2.1 e2
      · exact z.2.2 e2
  · rintro σ H2 ⟨z, rfl, sm, hH⟩
    have e : l.take ((SX.S l).length : Int).toNat = l := by
      rw [len_S]
      exact List.take_of_length_le (by omega)
    rw [e] at hH
    exact ⟨_, rfl, k p H2 hp sm hH⟩
def pairsOf (l : List Nat) : List PyData := (List.zip (stF true 0 l) ((stF true 0 l).drop 1 ++ [l.length])).map fun q => .tuple [.int (q.1 : Int), .str (SX.S (cutN l q.1 q.2))]
def spChunks (K : PySem.W.Frag) : Sp := fun vs H Q _ => ∃ l : List Nat, vs = [.str (SX.S l)] ∧ l.length ≤ 1000000 ∧ ∀ p H', Same H H' → Rp K H' (.ref p) (.list (pairsOf l)) → Q (.ref p) H'
theorem stF_bd : ∀ (l : List Nat) (b : Bool) (p : Nat), ∀ q ∈ stF b p l, p ≤ q ∧ q < p + l.length
  | [], _, _, q, h => by simp [stF] at h
  | c :: l, b, p, q, h => by
    simp only [stF] at h
    simp only [List.length_cons]
    split at h
    · rcases List.mem_cons.mp h with rfl | h
      · omega
      · have := stF_bd l _ _ q h
        omega
    · have := stF_bd l _ _ q h
      omega
theorem ok_chunks {f : Addr} {fd : FuncData} (F : Fun K "chunks" "chunks" s_chunks f fd) (T : Txt K mg) (G_line_starts : GF P w K mg base CX0 "line_starts" 1 ["text"] spStarts) : FnOk P w K mg base CX0 2 f fd ["text"] (spChunks K) := by
  refine F.ok sc_chunks (fun vs H Q E h => ?_) (fun cdv A outer s H vs Q E hr h => ?_)
  · obtain ⟨_, rfl, _⟩ := h
    rfl
  obtain ⟨l, rfl, hl, k⟩ := h
  have hz : (SX.S l).length ≤ sizeLine := sz _ (by rw [len_S]; omega)
  refine ⟨_, (pss_cons (ps_set (i := 1) sc_chunks.nd rfl (Or.inl rfl) (pe_cg G_line_starts hr rfl (pa_cons (pv 0) pa_nil)))
  (pss_cons (ps_set (i := 2) sc_chunks.nd rfl (Or.inl rfl) (pe_op op_cat (pe_slice sl_list (pv 1) (po_some pe_int) po_none) (pe_lst (pa_cons (pe_callB call_len_str (by rfl) T.b_len bt_len (pa_cons (pv 0) pa_nil)) pa_nil))))
  (pss_one (ps_ret (pe_lc (own := [("start", 3), ("end", 4)]) (g := (gTup K 2 (gCons (gName 3) (gCons (gName 4) gNil)))) (tt := tYes) rfl sc_chunks.nd (pi_zip (by rfl) T.b_zip (pa_cons (pv 1) (pa_cons (pv 2) pa_nil))) (blkOk_by (N := ["text", "starts", "ends", "start", "end"]) (sc := defScope s_chunks) (by decide +kernel)) (fun _ _ _ _ _ => (pg_tup rfl (pgs_cons (pg_name (i := 3) sc_chunks.nd rfl (Or.inl rfl)) (pgs_cons (pg_name (i := 4) sc_chunks.nd rfl (Or.inl rfl)) pgs_nil)))) (fun _ _ _ _ _ => pts_nil) (fun _ _ _ _ _ => (pe_tup (pa_cons (pv 3) (pa_cons (pe_slice sl_str (pv 0) (po_some (pv 3)) (po_some (pv 4))) pa_nil))))))))), ?_⟩
  refine ⟨_, rfl, l, rfl, hl, fun p H1 hp s1 h1 => ?_⟩
  have hsl := stF_le l true 0
  refine ⟨_, rfl, 1, rfl, p, _, rfl, SqL.of h1, fun c hc => ?_⟩
  refine ⟨_, rfl, _, rfl, hz, sz 1 (by decide), fun c2 hc2 => ?_⟩
  have s2 : Same H1 (upd H1 c (.lst (cutV ((stF true 0 l).map intN) (some 1) none))) := same_upd hc
  have s3 := same_upd (o := .lst [.int ((SX.S l).length : Int)]) hc2
  have e1 : cutV ((stF true 0 l).map intN) (some 1) none = ((stF true 0 l).drop 1).map intN := by
    unfold cutV
    rw [HT.sIx_none, show HT.sIx ((stF true 0 l).map intN).length 0 (some 1) = min 1 ((stF true 0 l).map intN).length from HT.sIx_nat _ 0 1, List.map_drop]
    cases (stF true 0 l).map intN with
    | nil => rfl
    | cons x r =>
      rw [show min 1 (x :: r).length = 1 by simp only [List.length_cons]; omega]
      exact List.take_of_length_le (by simp)
  rw [e1] at s2 s3 ⊢
  refine ⟨c, c2, _, _, rfl, rfl, s3 _ _ upd_same, upd_same, sz _ (by simp; omega), fun e he => ?_⟩
  have s4 := same_upd (o := .lst (((stF true 0 l).drop 1).map intN ++ [.int ((SX.S l).length : Int)])) he
  have sA := s1.trans (s2.trans (s3.trans s4))
  have hP := s4 _ _ (s3 _ _ (s2 _ _ h1))
  have hE : (upd (upd (upd H1 c (.lst (((stF true 0 l).drop 1).map intN))) c2 (.lst [.int ((SX.S l).length : Int)])) e (.lst (((stF true 0 l).drop 1).map intN ++ [.int ((SX.S l).length : Int)]))) e = some (.lst (((stF true 0 l).drop 1 ++ [l.length]).map intN)) := by
    rw [upd_same, List.map_append, len_S]
    rfl
  generalize upd (upd (upd H1 c (.lst (((stF true 0 l).drop 1).map intN))) c2 (.lst [.int ((SX.S l).length : Int)])) e (.lst (((stF true 0 l).drop 1).map intN ++ [.int ((SX.S l).length : Int)])) = H5 at *
  generalize hst : stF true 0 l = st at *
  have hbd : ∀ q ∈ st, q ≤ l.length := fun q hq => by
    rw [← hst] at hq
    have := stF_bd l true 0 q hq
    omega
  have hbe : ∀ q ∈ st.drop 1 ++ [l.length], q ≤ l.length := fun q hq => by
    rcases List.mem_append.mp hq with hq | hq
    · exact hbd q (List.mem_of_mem_drop hq)
    · simp at hq
      omega
  refine ⟨_, rfl, _, rfl, p, e, _, _, rfl, SqL.of hP, SqL.of hE, fun D hD => lc_it (walk_zip rfl) (fun i H' => Same H5 H' ∧ ∃ acc, Acc K [D] D ((pairsOf l).take i) acc H') ⟨same_upd hD, [], Acc.new (by simp)⟩ (fun i H' _ q => ⟨sql_le q.1 (SqL.of hP), sql_le q.1 (SqL.of hE)⟩) ?_ ?_⟩
  · rintro i x H' H6 hi ⟨sm, acc, A1⟩ ⟨T, x1, x2, rfl, hT, rfl, g1, g2⟩
    have hlen : i < st.length ∧ i < (st.drop 1 ++ [l.length]).length := by
      simp only [List.length_map] at hi
      omega
    have w1 : st[i]? = some st[i] := List.getElem?_eq_getElem hlen.1
    have w2 : (st.drop 1 ++ [l.length])[i]? = some (st.drop 1 ++ [l.length])[i] := List.getElem?_eq_getElem hlen.2
    have b1 := hbd _ (List.getElem_mem hlen.1)
    have b2 := hbe _ (List.getElem_mem hlen.2)
    generalize hu : st[i] = u at *
    generalize hv : (st.drop 1 ++ [l.length])[i] = v at *
    have q1 : x1 = .int (u : Int) := by
      have g : (st.map intN)[i]? = some x1 := g1
      rw [List.getElem?_map, w1] at g
      exact (Option.some.inj g).symm
    have q2 : x2 = .int (v : Int) := by
      have g : ((st.drop 1 ++ [l.length]).map intN)[i]? = some x2 := g2
      rw [List.getElem?_map, w2] at g
      exact (Option.some.inj g).symm
    subst q1 q2
    have sT := same_upd (o := .tup [.int (u : Int), .int (v : Int)]) hT
    refine ⟨T, _, rfl, SqT.of upd_same, rfl, _, _, rfl, _, _, rfl, rfl, rfl, ?_⟩
    refine ⟨_, rfl, _, rfl, _, rfl, _, rfl, _, rfl, _, rfl, _, rfl, hz, sz 2 (by decide), fun t ht => ?_⟩
    have st1 := same_upd (o := .tup [.int (u : Int), .str (cutS (SX.S l) (some (u : Int)) (some (v : Int)))]) ht
    have A2 := (A1.le sT).le st1
    have htD : t ≠ D := fun z => by
      rw [z, sT _ _ A1.is] at ht
      cases ht
    have hz2 : acc.length < sizeLine := szl _ (by
      rw [A1.len, List.length_take]
      omega)
    refine ⟨acc, A2.is, hz2, fun b o z => ?_, acc ++ [.ref t], ?_⟩
    · have hb : b ≠ D := ne_of_none z hD
      rw [upd_ne hb]
      exact st1 _ _ (sT _ _ (sm _ _ z))
    · have hp1 : (pairsOf l)[i]? = some (.tuple [.int (u : Int), .str (SX.S (cutN l u v))]) := by
        unfold pairsOf
        rw [hst, List.getElem?_map, show (List.zip st (st.drop 1 ++ [l.length]))[i]? = some (u, v) by
          rw [List.getElem?_zip_eq_some]
          exact ⟨w1, w2⟩]
        rfl
      rw [List.take_add_one, hp1]
      refine A2.push (rp_newT ht (by simpa using htD) (.cons (.int _) (.cons ?_ .nil)))
      rw [cut_S b1 b2]
      exact .str _
  · rintro H' ⟨sm, acc, A1⟩
    refine k D H' (sA.trans sm) ?_
    have q := A1.rp
    rw [List.take_of_length_le (by
      unfold pairsOf
      rw [hst]
      simp)] at q
    exact q
end

section
variable {P : Program} {w : World} {K : PySem.W.Frag} {mg : Str → Option Value} {base : Heap}
def charTab : List Nat := [32, 39, 33, 34, 35, 36, 38, 40, 41, 42, 43, 44, 45, 46, 47, 48, 49, 50, 51, 52, 53, 54, 55, 56, 57, 58, 59, 60, 61, 62, 63, 64, 65, 66, 67, 68, 69, 70, 71, 72, 73, 74, 75, 76, 77, 78, 79, 80, 81, 82, 83, 84, 85, 86, 87, 88, 89, 90, 91, 92, 93, 94, 95, 96, 97, 98, 99, 100, 101, 102, 103, 104, 105, 106, 107, 108, 109, 110, 111, 112, 113, 114, 115, 116, 117, 118, 119, 120, 121, 122, 123, 124, 125, 126, 10]
theorem charTab_is : (PySem.Str.ofString " '!\"#$&()*+,-./0123456789:;<=>?@ABCDEFGHIJKLMNOPQRSTUVWXYZ[\\]^_`" ++ PySem.Str.ofString "abcdefghijklmnopqrstuvwxyz{|}~\n").cps.toList = charTab := by decide +kernel
theorem charTab_len : charTab.length = 95 := rfl
theorem charTab_no : ∀ i, i < 94 → charTab.getD i 0 ≠ 10 ∧ (1 ≤ i → charTab.getD i 0 ≠ 32) := by decide
def spChar : Sp := fun vs H Q _ => ∃ n : Int, vs = [.int n] ∧ 0 ≤ n ∧ n < 94 ∧ ∀ c : Nat, c ≠ 10 → (1 ≤ n → c ≠ 32) → Q (.str (SX.S [c])) H
theorem ok_law_char {f : Addr} {fd : FuncData} (F : Fun K "_law_char" "_law_char" s_law_char f fd) (T : Txt K mg) : FnOk P w K mg base CX0 1 f fd ["index"] spChar := by
  refine F.ok sc_law_char (fun vs H Q E h => ?_) (fun cdv A outer s H vs Q E hr h => ?_)
  · obtain ⟨_, rfl, _⟩ := h
    rfl
  obtain ⟨n, rfl, h0, h1, k⟩ := h
  refine ⟨_, (pss_cons (ps_set (i := 1) sc_law_char.nd rfl (Or.inl rfl) pe_str)
  (pss_cons (ps_set (i := 1) sc_law_char.nd rfl (Or.inl rfl) (pe_op op_add_str (pv 1) pe_str))
  (pss_one (ps_ret (pe_ix ix_str (pv 1) (pe_op op_mod (pe_callTy call_int1 (by rfl) T.b_int bt_int (pa_cons (pv 0) pa_nil)) pe_int) (fun _ _ => rfl)))))), ?_⟩
  have l1 : (PySem.Str.ofString " '!\"#$&()*+,-./0123456789:;<=>?@ABCDEFGHIJKLMNOPQRSTUVWXYZ[\\]^_`").length + (PySem.Str.ofString "abcdefghijklmnopqrstuvwxyz{|}~\n").length ≤ sizeLine := sz _ (by decide +kernel)
  have l2 : (PySem.Str.ofString " '!\"#$&()*+,-./0123456789:;<=>?@ABCDEFGHIJKLMNOPQRSTUVWXYZ[\\]^_`" ++ PySem.Str.ofString "abcdefghijklmnopqrstuvwxyz{|}~\n").length ≤ sizeLine := sz _ (by decide +kernel)
  have hm : n % 95 = ((n.toNat : Nat) : Int) := by omega
  have hn : n.toNat < 94 := by omega
  have ix : atI (PySem.Str.ofString " '!\"#$&()*+,-./0123456789:;<=>?@ABCDEFGHIJKLMNOPQRSTUVWXYZ[\\]^_`" ++ PySem.Str.ofString "abcdefghijklmnopqrstuvwxyz{|}~\n").cps.toList (n % 95) = some (charTab.getD n.toNat 0) := by
    rw [charTab_is, hm]
    refine atI_nat ?_
    rw [List.getElem?_eq_getElem (by rw [charTab_len]; omega), List.getD_eq_getElem?_getD, List.getElem?_eq_getElem (by rw [charTab_len]; omega)]
    rfl
  have hc := charTab_no n.toNat hn
  refine ⟨_, rfl, _, _, rfl, rfl, l1, ?_⟩
  refine ⟨_, rfl, _, rfl, .inl ⟨_, rfl, _, _, rfl, rfl, (by show (0 : Int) < 95; decide), _, _, _, rfl, rfl, l2, ix, ?_⟩⟩
  exact k _ hc.1 fun z => hc.2 (by omega)
def spLine (K : PySem.W.Frag) : Sp := fun vs H Q _ => ∃ (O : List Addr) (st : Addr), vs = [.ref st] ∧ StB K O H st ∧ ∀ (l : List Nat) (H' : Hp), l.length ≤ 90 → (∀ c ∈ l, c ≠ 10) → Up [st] H H' → StB K O H' st → Q (.str (SX.S l)) H'
theorem ok_law_line {f : Addr} {fd : FuncData} (F : Fun K "_law_line" "_law_line" s_law_line f fd) (T : Txt K mg) (G_law_next : GF P w K mg base CX0 "_law_next" 1 ["state", "limit"] (spNext K)) (G_law_char : GF P w K mg base CX0 "_law_char" 1 ["index"] spChar) :
    FnOk P w K mg base CX0 2 f fd ["state"] (spLine K) := by
  refine F.ok sc_law_line (fun vs H Q E h => ?_) (fun cdv A outer s H vs Q E hr h => ?_)
  · obtain ⟨_, _, rfl, _⟩ := h
    rfl
  obtain ⟨O, st, rfl, hS, k⟩ := h
  refine ⟨_, (pss_cons (ps_set (i := 1) sc_law_line.nd rfl (Or.inl rfl) pe_str)
  (pss_cons (ps_for PassesOwn.never rfl (pi_range1 rfl T.b_range (pa_cons (pe_cg G_law_next hr rfl (pa_cons (pv 0) (pa_cons (pe_ix ix_list (pe_lst (pa_cons pe_int (pa_cons pe_int (pa_cons pe_int (pa_cons pe_int pa_nil))))) (pe_cg G_law_next hr rfl (pa_cons (pv 0) (pa_cons pe_int pa_nil))) (fun _ _ => rfl)) pa_nil))) pa_nil)) (pg_name (i := 2) sc_law_line.nd rfl (Or.inl rfl)) (pss_one (ps_set (i := 1) sc_law_line.nd rfl (Or.inl rfl) (pe_op op_add_str (pv 1) (pe_cg G_law_char hr rfl (pa_cons (pe_cg G_law_next hr rfl (pa_cons (pv 0) (pa_cons pe_int pa_nil))) pa_nil))))))
  (pss_one (ps_ret (pv 1))))), ?_⟩
  refine ⟨_, rfl, sz 4 (by decide), fun p hp => ?_⟩
  have s1 := same_upd (o := .lst [.int 9, .int 9, .int 9, .int 90]) hp
  refine ⟨_, rfl, O, st, 4, rfl, by decide, by decide, hS.le s1, fun r H1 r0 r1 u1 S1 => ?_⟩
  have hps : p ≠ st := fun e => by
    obtain ⟨xs, hx⟩ := hS.is
    rw [e, hx] at hp
    cases hp
  have hP : H1 p = some (.lst [.int 9, .int 9, .int 9, .int 90]) := u1 _ _ (by simpa using hps) upd_same
  obtain ⟨m, hm, m0, m1⟩ : ∃ m : Int, atI [V.int 9, .int 9, .int 9, .int 90] r = some (.int m) ∧ 0 < m ∧ m ≤ 90 := by
    have : r = 0 ∨ r = 1 ∨ r = 2 ∨ r = 3 := by omega
    rcases this with rfl | rfl | rfl | rfl
    · exact ⟨9, rfl, by decide, by decide⟩
    · exact ⟨9, rfl, by decide, by decide⟩
    · exact ⟨9, rfl, by decide, by decide⟩
    · exact ⟨90, rfl, by decide, by decide⟩
  refine ⟨p, _, r, _, rfl, rfl, SqL.of hP, hm, O, st, m, rfl, m0, by omega, S1, fun n H2 n0 n1 u2 S2 => ?_⟩
  have u02 : Up [st] H H2 := (Up.of s1).trans (u1.trans u2)
  refine ⟨n, rfl, by omega, by omega, for_range (fun i σ H3 => ∃ l z, σ = [some (.ref st), some (.str (SX.S l)), z] ∧ l.length = i ∧ (∀ c ∈ l, c ≠ 10) ∧ Up [st] H H3 ∧ StB K O H3 st) ⟨[], none, rfl, rfl, by simp, u02, S2⟩ ?_ ?_⟩
  · rintro i σ H3 hi ⟨l, z, rfl, hl, hc, u3, S3⟩
    refine ⟨_, rfl, _, rfl, O, st, 94, rfl, by decide, by decide, S3, fun r H4 r0 r1 u4 S4 => ⟨r, rfl, r0, r1, fun c c1 _ => ?_⟩⟩
    refine ⟨_, _, rfl, rfl, sz _ (by rw [len_S, len_S]; simp; omega), l ++ [c], some (.int (0 + (i : Int))), ?_, by simp [hl], ?_, u3.trans u4, S4⟩
    · rw [SX.S_cat]
      rfl
    · intro d hd
      rcases List.mem_append.mp hd with hd | hd
      · exact hc d hd
      · simp at hd
        rw [hd]
        exact c1
  · rintro σ H3 ⟨l, z, rfl, hl, hc, u3, S3⟩
    exact ⟨_, rfl, k l H3 (by omega) hc u3 S3⟩
def spLines (K : PySem.W.Frag) : Sp := fun vs H Q _ => ∃ (O : List Addr) (st : Addr) (n : Int), vs = [.ref st, .int n] ∧ 0 ≤ n ∧ n ≤ 10 ∧ StB K O H st ∧ ∀ (l : List Nat) (H' : Hp), l.length ≤ 1000 → Quiet l → Up [st] H H' → StB K O H' st → Q (.str (SX.S l)) H'
theorem ok_law_lines {f : Addr} {fd : FuncData} (F : Fun K "_law_lines" "_law_lines" s_law_lines f fd) (T : Txt K mg) (G_law_next : GF P w K mg base CX0 "_law_next" 1 ["state", "limit"] (spNext K)) (G_law_line : GF P w K mg base CX0 "_law_line" 2 ["state"] (spLine K)) :
    FnOk P w K mg base CX0 3 f fd ["state", "count"] (spLines K) := by
  refine F.ok sc_law_lines (fun vs H Q E h => ?_) (fun cdv A outer s H vs Q E hr h => ?_)
  · obtain ⟨_, _, _, rfl, _⟩ := h
    rfl
  obtain ⟨O, st, n, rfl, n0, n1, hS, k⟩ := h
  refine ⟨_, (pss_cons (ps_set (i := 2) sc_law_lines.nd rfl (Or.inl rfl) pe_str)
  (pss_cons (ps_for PassesOwn.never rfl (pi_range1 rfl T.b_range (pa_cons (pv 1) pa_nil)) (pg_name (i := 3) sc_law_lines.nd rfl (Or.inl rfl)) (Evl.pss_cut (ps_if (pt_cmpR op_gt (pe_cg G_law_next hr rfl (pa_cons (pv 0) (pa_cons pe_int pa_nil))) pe_int (nomark _)) (pss_one (ps_set (i := 2) sc_law_lines.nd rfl (Or.inl rfl) (pe_op op_add_str (pe_op op_add_str (pv 2) pe_str) (pe_cg G_law_line hr rfl (pa_cons (pv 0) pa_nil))))) pss_nil)
  (pss_one (ps_set (i := 2) sc_law_lines.nd rfl (Or.inl rfl) (pe_op op_add_str (pv 2) pe_str)))))
  (pss_one (ps_ret (pv 2))))), ?_⟩
  refine ⟨_, rfl, n, rfl, by omega, by omega, for_range (fun i σ H3 => ∃ l z, σ = [some (.ref st), some (.int n), some (.str (SX.S l)), z] ∧ l.length ≤ 92 * i ∧ Quiet l ∧ Up [st] H H3 ∧ StB K O H3 st) ⟨[], none, rfl, by simp, Quiet.nil, Up.rfl', hS⟩ ?_ ?_⟩
  · rintro i σ H3 hi ⟨l, z, rfl, hl, hq, u3, S3⟩
    refine ⟨fun σ' H' => ∃ m, σ' = [some (.ref st), some (.int n), some (.str (SX.S (l ++ m))), some (.int (0 + (i : Int)))] ∧ m.length ≤ 91 ∧ Quiet (m ++ [10]) ∧ Up [st] H H' ∧ StB K O H' st, ?_, ?_⟩
    · -- if _law_next(state, 3) > 0
      refine ⟨_, rfl, O, st, 3, rfl, by decide, by decide, S3, fun r H4 r0 r1 u4 S4 => ?_⟩
      refine ⟨_, _, rfl, rfl, _, rfl, brD (fun e => ?_) (fun e => ?_)⟩
      · refine ⟨_, rfl, _, _, rfl, rfl, sz _ (by rw [len_S, blS, len_S]; simp; omega), ?_⟩
        refine ⟨_, rfl, O, st, rfl, S4, fun ln H5 l0 l1 u5 S5 => ?_⟩
        refine ⟨_, _, rfl, rfl, sz _ (by rw [blS, SX.S_cat, len_S, len_S]; simp; omega), 32 :: ln, ?_, by simp; omega, Quiet.blank l1, u3.trans (u4.trans u5), S5⟩
        rw [blS, SX.S_cat, SX.S_cat]
        simp [List.set]
      · exact ⟨[], by simp, by simp, Quiet.empty, u3.trans u4, S4⟩
    · rintro σ' H' ⟨m, rfl, hm, hqm, u4, S4⟩
      refine ⟨_, rfl, _, _, rfl, rfl, sz _ (by rw [nlS, len_S, len_S]; simp; omega), l ++ (m ++ [10]), some (.int (0 + (i : Int))), ?_, by simp; omega, hq.append hqm, u4, S4⟩
      rw [nlS, SX.S_cat, List.append_assoc]
      rfl
  · rintro σ H3 ⟨l, z, rfl, hl, hq, u3, S3⟩
    exact ⟨_, rfl, k l H3 (by omega) hq u3 S3⟩
end

def expD (p : Nat) (cs : List (List Nat)) : List PyData := (List.zip (poss p cs) cs).map fun q => .tuple [.int (q.1 : Int), .str (SX.S q.2)]
theorem expD_snoc (p : Nat) (cs : List (List Nat)) (c : List Nat) : expD p (cs ++ [c]) = expD p cs ++ [.tuple [.int ((p + cs.flatten.length : Nat) : Int), .str (SX.S c)]] := by
  unfold expD
  rw [poss_snoc, List.zip_append (by rw [poss_len]), List.map_append]
  rfl
theorem expD_len (p : Nat) (cs : List (List Nat)) : (expD p cs).length = cs.length := by
  unfold expD
  simp [poss_len]
theorem zip_len {st : List Nat} {n : Nat} : (List.zip st (st.drop 1 ++ [n])).length = st.length := by
  simp
  omega
theorem pairs_eq {b : List Nat} {cs : List (List Nat)} (hb : Quiet b) (h : AllL cs) : pairsOf (b ++ cs.flatten) = expD b.length cs := by
  have hs := starts_of hb h
  unfold pairsOf
  rw [hs]
  apply List.ext_getElem?
  intro i
  by_cases hi : i < cs.length
  · have hc : cs[i]? = some cs[i] := List.getElem?_eq_getElem hi
    obtain ⟨s, e, h1, h2, h3, h4, h5⟩ := chunk_at cs b i _ hc
    have el : (b ++ cs.flatten).length = b.length + cs.flatten.length := List.length_append
    rw [List.getElem?_map, el, show (List.zip (poss b.length cs) ((poss b.length cs).drop 1 ++ [b.length + cs.flatten.length]))[i]? = some (s, e) by
      rw [List.getElem?_zip_eq_some]
      exact ⟨h1, h2⟩]
    unfold expD
    rw [List.getElem?_map, show (List.zip (poss b.length cs) cs)[i]? = some (s, cs[i]) by
      rw [List.getElem?_zip_eq_some]
      exact ⟨h1, hc⟩]
    show some (PyData.tuple [.int (s : Int), .str (SX.S (cutN (b ++ cs.flatten) s e))]) = _
    rw [h3]
    rfl
  · rw [List.getElem?_eq_none, List.getElem?_eq_none]
    · rw [expD_len]
      omega
    · rw [List.length_map, zip_len, poss_len]
      omega
theorem expD_fit (p : Nat) (cs : List (List Nat)) : fitAll (expD p cs) = true := fitAll_of fun d hd => by
  unfold expD at hd
  obtain ⟨q, _, rfl⟩ := List.mem_map.mp hd
  rfl
theorem expD_dep (p : Nat) (cs : List (List Nat)) : depAll (expD p cs) ≤ 1 := depAll_le fun d hd => by
  unfold expD at hd
  obtain ⟨q, _, rfl⟩ := List.mem_map.mp hd
  exact Nat.le_refl _
theorem expD_at {p : Nat} {cs : List (List Nat)} {i : Nat} {d : PyData} (h : (expD p cs)[i]? = some d) : ∃ s c, cs[i]? = some c ∧ d = .tuple [.int s, .str (SX.S c)] := by
  unfold expD at h
  rw [List.getElem?_map] at h
  cases e : (List.zip (poss p cs) cs)[i]? with
  | none =>
    rw [e] at h
    cases h
  | some q =>
    rw [e] at h
    obtain ⟨h1, h2⟩ := List.getElem?_zip_eq_some.mp e
    exact ⟨_, _, h2, (Option.some.inj h).symm⟩
def spLaw (K : PySem.W.Frag) : Sp := fun vs H Q _ => ∃ (a : Addr) (ns : List Int), vs = [.ref a] ∧ SqL K H a (ns.map V.int) ∧ ns.length ≤ 63 ∧ ∀ H', Q (.bl true) H'
section
variable {P : Program} {w : World} {K : PySem.W.Frag} {mg : Str → Option Value} {base : Heap}
theorem ok_law {f : Addr} {fd : FuncData} (F : Fun K "law" "law" s_law f fd) (T : Txt K mg) (G_law_next : GF P w K mg base CX0 "_law_next" 1 ["state", "limit"] (spNext K)) (G_law_char : GF P w K mg base CX0 "_law_char" 1 ["index"] spChar)
    (G_law_line : GF P w K mg base CX0 "_law_line" 2 ["state"] (spLine K)) (G_law_lines : GF P w K mg base CX0 "_law_lines" 3 ["state", "count"] (spLines K)) (G_chunks : GF P w K mg base CX0 "chunks" 2 ["text"] (spChunks K))
    (G_law_same : GF P w K mg base CX0 "_law_same" 3 ["actual", "expected"] (spSame K 3)) : FnOk P w K mg base CX0 4 f fd ["script"] (spLaw K) := by
  refine F.ok sc_law (fun vs H Q E h => ?_) (fun cdv A outer s H vs Q E hr h => ?_)
  · obtain ⟨_, _, rfl, _⟩ := h
    rfl
  obtain ⟨a, ns, rfl, hA, hlen, k⟩ := h
  refine ⟨_, (pss_cons (ps_set (i := 1) sc_law.nd rfl (Or.inl rfl) (pe_lst (pa_cons (pe_callTy call_list_of (by rfl) T.b_list bt_list (pa_cons (pv 0) pa_nil)) (pa_cons pe_int (pa_cons pe_int (pa_cons pe_int pa_nil))))))
  (pss_cons (ps_set (i := 2) sc_law.nd rfl (Or.inl rfl) (pe_cg G_law_lines hr rfl (pa_cons (pv 1) (pa_cons (pe_cg G_law_next hr rfl (pa_cons (pv 1) (pa_cons pe_int pa_nil))) pa_nil))))
  (pss_cons (ps_set (i := 3) sc_law.nd rfl (Or.inl rfl) (pe_lst pa_nil))
  (pss_cons (ps_set (i := 4) sc_law.nd rfl (Or.inl rfl) (pv 2))
  (pss_cons (ps_set (i := 5) sc_law.nd rfl (Or.inl rfl) (pe_cg G_law_next hr rfl (pa_cons (pv 1) (pa_cons pe_int pa_nil))))
  (Evl.pss_cut (ps_if (pt_cmpR op_eq (pe_cg G_law_next hr rfl (pa_cons (pv 1) (pa_cons pe_int pa_nil))) pe_int (nomark _)) (pss_one (ps_set (i := 5) sc_law.nd rfl (Or.inl rfl) (pe_op op_add pe_int (pe_cg G_law_next hr rfl (pa_cons (pv 1) (pa_cons pe_int pa_nil)))))) pss_nil)
  (pss_cons (ps_for PassesOwn.never rfl (pi_range1 rfl T.b_range (pa_cons (pv 5) pa_nil)) (pg_name (i := 6) sc_law.nd rfl (Or.inl rfl)) (pss_cons (ps_set (i := 7) sc_law.nd rfl (Or.inl rfl) (pe_op op_add_str (pe_op op_add_str (pe_op op_add_str (pe_cg G_law_char hr rfl (pa_cons (pe_op op_add pe_int (pe_cg G_law_next hr rfl (pa_cons (pv 1) (pa_cons pe_int pa_nil)))) pa_nil)) (pe_cg G_law_line hr rfl (pa_cons (pv 1) pa_nil))) pe_str) (pe_cg G_law_lines hr rfl (pa_cons (pv 1) (pa_cons (pe_cg G_law_next hr rfl (pa_cons (pv 1) (pa_cons (pe_ix ix_list (pe_lst (pa_cons pe_int (pa_cons pe_int pa_nil))) (pe_cg G_law_next hr rfl (pa_cons (pv 1) (pa_cons pe_int pa_nil))) (fun _ _ => rfl)) pa_nil))) pa_nil)))))
  (Evl.pss_cut (ps_if (PW.pt (pw_and (pt_cmpR op_eq (pv 6) (pe_op op_sub (pv 5) pe_int) (nomark _)) (pw_and1 (pt_cmpR op_eq (pe_cg G_law_next hr rfl (pa_cons (pv 1) (pa_cons pe_int pa_nil))) pe_int (nomark _))))) (pss_one (ps_set (i := 7) sc_law.nd rfl (Or.inl rfl) (pe_slice sl_str (pv 7) po_none (po_some (pe_op op_sub (pe_callB call_len_str (by rfl) T.b_len bt_len (pa_cons (pv 7) pa_nil)) pe_int))))) pss_nil)
  (pss_cons (ps_expr (pe_bm PySem.F.plainAttrs_list PySem.F.slot_list_append PySem.F.type_list_append mt_append (pv 3) (pa_cons (pe_tup (pa_cons (pe_callB call_len_str (by rfl) T.b_len bt_len (pa_cons (pv 2) pa_nil)) (pa_cons (pv 7) pa_nil))) pa_nil)))
  (pss_one (ps_set (i := 2) sc_law.nd rfl (Or.inl rfl) (pe_op op_add_str (pv 2) (pv 7))))))))
  (pss_cons (ps_set (i := 8) sc_law.nd rfl (Or.inl rfl) (pe_cg G_chunks hr rfl (pa_cons (pv 2) pa_nil)))
  (pss_cons (ps_if (pt_not (pt_val (pe_cg G_law_same hr rfl (pa_cons (pv 8) (pa_cons (pv 3) pa_nil))))) (pss_one (ps_ret pe_bl)) pss_nil)
  (pss_one (ps_ret (pe_cmpR op_eq (pe_op op_add_str (pv 4) (pe_join pe_str (pe_lc (own := [("position", 9), ("chunk", 7)]) (g := (gTup K 2 (gCons (gName 9) (gCons (gName 7) gNil)))) (tt := tYes) rfl sc_law.nd (pi_list (pv 8)) (blkOk_by (N := ["script", "state", "text", "expected", "before", "count", "k", "chunk", "actual", "position"]) (sc := defScope s_law) (by decide +kernel)) (fun _ _ _ _ _ => (pg_tup rfl (pgs_cons (pg_name (i := 9) sc_law.nd rfl (Or.inl rfl)) (pgs_cons (pg_name (i := 7) sc_law.nd rfl (Or.inl rfl)) pgs_nil)))) (fun _ _ _ _ _ => pts_nil) (fun _ _ _ _ _ => (pv 7))))) (pv 2) (nomark _))))))))))))), ?_⟩
  refine ⟨_, rfl, a, _, rfl, .inl hA, fun sc hsc => ⟨sz 4 (by decide), fun st hst => ?_⟩⟩
  have S0 : StB K [st] (upd (upd H sc (.lst (ns.map V.int))) st (.lst [.ref sc, .int 0, .int 0, .int 1])) st := by
    have ne : sc ≠ st := fun e => by
      rw [← e, upd_same] at hst
      cases hst
    exact ⟨by simp, sc, ns, 0, 0, 1, upd_same, SqL.of (by rw [wo_out (by simpa using ne)]; exact same_upd hst _ _ upd_same), Nat.zero_le _, hlen, by decide, by decide, by decide⟩
  generalize upd (upd H sc (.lst (ns.map V.int))) st (.lst [.ref sc, .int 0, .int 0, .int 1]) = H0 at *
  refine ⟨_, rfl, _, rfl, [st], st, 4, rfl, by decide, by decide, S0, fun r H1 r0 r1 u1 S1 => ?_⟩
  refine ⟨[st], st, r, rfl, r0, by omega, S1, fun b H2 hb qb u2 S2 => ?_⟩
  refine ⟨Nat.zero_le _, fun p hp => ⟨_, rfl, _, rfl, [p, st], st, 13, rfl, by decide, by decide, S2.grow hp, fun cn H3 c0 c1 u3 S3 => ?_⟩⟩
  have hpst : p ≠ st := fun e => by
    obtain ⟨xs, hx⟩ := S2.is
    rw [e, hx] at hp
    cases hp
  have A3 : Acc K [p, st] p [] [] H3 := ⟨by simp, u3 _ _ (by simpa using hpst) upd_same, .nil⟩
  have keep : ∀ {ds : List PyData} {acc : List V} {H' H'' : Hp}, Acc K [p, st] p ds acc H' → Up [st] H' H'' → Acc K [p, st] p ds acc H'' := fun h u => ⟨h.own, u _ _ (by simpa using hpst) h.is, h.it.le (u.mono (by simp)).wo⟩
  refine ⟨fun σ' H' => ∃ c : Int, σ' = [some (.ref a), some (.ref st), some (.str (SX.S b)), some (.ref p), some (.str (SX.S b)), some (.int c), none, none, none, none] ∧ 0 ≤ c ∧ c ≤ 149 ∧ StB K [p, st] H' st ∧ Acc K [p, st] p [] [] H', ?_, ?_⟩
  · -- if _law_next(state, 6) == 5
    refine ⟨_, rfl, [p, st], st, 6, rfl, by decide, by decide, S3, fun r H4 r0 r1 u4 S4 => ?_⟩
    refine ⟨rfl, _, rfl, brD (fun _ => ?_) (fun _ => ?_)⟩
    · refine ⟨_, rfl, [p, st], st, 90, rfl, by decide, by decide, S4, fun r H5 r0 r1 u5 S5 => ⟨_, _, rfl, rfl, ?_⟩⟩
      exact ⟨60 + r, rfl, by omega, by omega, S5, keep (keep A3 u4) u5⟩
    · exact ⟨cn, rfl, c0, by omega, S4, keep A3 u4⟩
  rintro σ' H' ⟨c, rfl, c0, c1, S5, A5⟩
  refine ⟨_, rfl, c, rfl, by omega, by omega, for_range (fun i σ H' => ∃ (cs : List (List Nat)) (acc : List V) (z1 z2 : Option V), σ = [some (.ref a), some (.ref st), some (.str (SX.S (b ++ cs.flatten))), some (.ref p), some (.str (SX.S b)), some (.int c), z1, z2, none, none] ∧
    cs.length = i ∧ cs.flatten.length ≤ 1100 * i ∧ AllL cs ∧ ((i : Int) < c → AllW cs) ∧ StB K [p, st] H' st ∧ Acc K [p, st] p (expD b.length cs) acc H') ⟨[], [], none, none, by simp [List.set], rfl, by simp, AllW.nil.l, fun _ => AllW.nil, S5, A5⟩ ?_ ?_⟩
  · rintro i σ H6 hi ⟨cs, acc, z1, z2, rfl, hcs, hfl, hL, hW, S6, A6⟩
    have hic : (i : Int) < c := by omega
    refine ⟨_, rfl, [p, st], st, 93, rfl, by decide, by decide, S6, fun r H7 r0 r1 u7 S7 => ⟨_, _, rfl, rfl, 1 + r, rfl, by omega, by omega, fun d d1 d2 => ?_⟩⟩
    refine ⟨_, rfl, [p, st], st, rfl, S7, fun ln H8 l0 l1 u8 S8 => ⟨_, _, rfl, rfl, sz _ (by rw [len_S, len_S]; simp; omega), _, _, rfl, rfl, sz _ (by rw [nlS, SX.S_cat, len_S, len_S]; simp; omega), ?_⟩⟩
    refine ⟨_, rfl, _, rfl, sz 2 (by decide), fun q hq => ?_⟩
    have sq := same_upd (o := .lst [.int 4, .int 9]) hq
    have hqs : q ≠ st := fun e => by
      obtain ⟨xs, hx⟩ := S8.is
      rw [e, hx] at hq
      cases hq
    refine ⟨_, rfl, [p, st], st, 2, rfl, by decide, by decide, S8.le sq, fun r2 H9 r20 r21 u9 S9 => ?_⟩
    have hQ : H9 q = some (.lst [.int 4, .int 9]) := u9 _ _ (by simpa using hqs) upd_same
    obtain ⟨m, hm, m0, m1⟩ : ∃ m : Int, atI [V.int 4, .int 9] r2 = some (.int m) ∧ 0 < m ∧ m ≤ 9 := by
      have : r2 = 0 ∨ r2 = 1 := by omega
      rcases this with rfl | rfl
      · exact ⟨4, rfl, by decide, by decide⟩
      · exact ⟨9, rfl, by decide, by decide⟩
    refine ⟨q, _, r2, _, rfl, rfl, SqL.of hQ, hm, [p, st], st, m, rfl, m0, by omega, S9, fun r3 Ha r30 r31 ua Sa => ?_⟩
    refine ⟨[p, st], st, r3, rfl, r30, by omega, Sa, fun ls Hb lsl e0 ub Sb => ?_⟩
    refine ⟨_, _, rfl, rfl, sz _ (by rw [nlS, SX.S_cat, SX.S_cat, len_S, len_S]; simp; omega), ?_⟩
    rw [nlS, SX.S_cat, SX.S_cat, SX.S_cat]
    have Ab := keep (keep (keep ((keep (keep A6 u7) u8).le sq) u9) ua) ub
    have hch : [d] ++ ln ++ [10] ++ ls = d :: ln ++ [10] ++ ls := rfl
    rw [hch]
    have Wh : Whole (d :: ln ++ [10] ++ ls) := Whole.mk (d2 (by omega)) d1 l1 e0
    have Ll : (d :: ln ++ [10] ++ ls).length ≤ 1092 := by
      simp
      omega
    have Nn : ln ++ [10] ++ ls ≠ [] := by simp
    generalize hrest : ln ++ [10] ++ ls = rest at *
    have hch2 : d :: ln ++ [10] ++ ls = d :: rest := by rw [← hrest]; rfl
    rw [hch2] at Wh Ll ⊢
    refine ⟨fun σ' H' => ∃ ch, σ' = [some (.ref a), some (.ref st), some (.str (SX.S (b ++ cs.flatten))), some (.ref p), some (.str (SX.S b)), some (.int c), some (.int (0 + (i : Int))), some (.str (SX.S ch)), none, none] ∧
      ch.length ≤ 1092 ∧ Last ch ∧ ((i : Int) + 1 < c → Whole ch) ∧ StB K [p, st] H' st ∧ Acc K [p, st] p (expD b.length cs) acc H', ?_, ?_⟩
    · -- if k == count - 1 and _law_next(state, 2) == 1
      refine ⟨_, rfl, _, rfl, _, _, rfl, rfl, rfl, _, rfl, brD (fun e => ?_) (fun e => ?_)⟩
      · rw [int_inj] at e
        refine ⟨_, rfl, [p, st], st, 2, rfl, by decide, by decide, Sb, fun r4 Hc r40 r41 uc Sc => ?_⟩
        refine ⟨rfl, _, rfl, brD (fun _ => ?_) (fun _ => ?_)⟩
        · have hlen1 : (d :: rest).length - 1 ≤ (d :: rest).length := by omega
          have ec : ((SX.S (d :: rest)).length : Int) - 1 = (((d :: rest).length - 1 : Nat) : Int) := by
            rw [len_S]
            simp
          refine ⟨_, rfl, _, rfl, _, rfl, sz _ (by rw [len_S]; omega), _, _, rfl, rfl, _, rfl, _, rfl, sz _ (by rw [len_S]; omega), ?_⟩
          rw [ec, cut_to hlen1]
          have et : (d :: rest).take ((d :: rest).length - 1) = d :: rest.dropLast := by
            rw [← List.dropLast_eq_take]
            cases rest with
            | nil => exact absurd rfl Nn
            | cons x y => rfl
          rw [et]
          refine ⟨_, rfl, ?_, Wh.last.cut (d2 (by omega)) d1 Nn, fun z => by omega, Sc, keep Ab uc⟩
          simp at Ll ⊢
          omega
        · exact ⟨_, rfl, Ll, Wh.last, fun _ => Wh, Sc, keep Ab uc⟩
      · exact ⟨_, rfl, Ll, Wh.last, fun _ => Wh, Sb, Ab⟩
    · -- expected.append((len(text), chunk)); text = text + chunk
      rintro σ' Hd ⟨ch, rfl, hl1, hLast, hWh, Sd, Ad⟩
      have hz : (SX.S (b ++ cs.flatten)).length ≤ sizeLine := sz _ (by rw [len_S]; simp only [List.length_append]; omega)
      refine ⟨_, rfl, .inl ⟨rfl, _, SqL.of Ad.is⟩, _, rfl, _, rfl, hz, _, rfl, sz 2 (by decide), fun t ht => ?_⟩
      have st1 := same_upd (o := .tup [.int ((SX.S (b ++ cs.flatten)).length : Int), .str (SX.S ch)]) ht
      have At := Ad.le st1
      have hto : t ∉ [p, st] := by
        refine not_own ht fun x hx => ?_
        obtain ⟨xs, hxs⟩ := Sd.is
        simp at hx
        rcases hx with e | e
        · rw [e, Ad.is]
          exact fun z => nomatch z
        · rw [e, hxs]
          exact fun z => nomatch z
      refine ⟨p, acc, _, rfl, rfl, At.is, szl _ (by rw [At.len, expD_len]; omega), ?_⟩
      refine ⟨_, rfl, _, rfl, _, _, rfl, rfl, sz _ (by rw [len_S, len_S]; simp only [List.length_append]; omega), ?_⟩
      refine ⟨cs ++ [ch], acc ++ [.ref t], some (.int (0 + (i : Int))), some (.str (SX.S ch)), ?_, by simp [hcs], ?_, ?_, ?_, ?_, ?_⟩
      · rw [SX.S_cat]
        simp [List.set]
      · simp only [List.flatten_append, List.length_append, List.flatten_cons, List.flatten_nil, List.append_nil]
        omega
      · exact (hW hic).snocL hLast
      · exact fun z => (hW hic).snoc (hWh (by omega))
      · exact (Sd.le st1).put (by simp) hpst
      · rw [expD_snoc]
        refine At.push (rp_newT ht hto (.cons ?_ (.cons (.str _) .nil)))
        have e : ((b.length + cs.flatten.length : Nat) : Int) = ((SX.S (b ++ cs.flatten)).length : Int) := by rw [len_S, List.length_append]
        rw [e]
        exact .int _
  · rintro σ H6 ⟨cs, acc, z1, z2, rfl, hcs, hfl, hL, hW, S6, A6⟩
    have hn : cs.length ≤ 149 := by omega
    have hll : (b ++ cs.flatten).length ≤ 1000000 := by
      rw [List.length_append]
      omega
    refine ⟨_, rfl, b ++ cs.flatten, rfl, hll, fun D H7 s7 R7 => ?_⟩
    rw [pairs_eq qb hL] at R7
    refine ⟨_, rfl, _, rfl, _, _, _, _, rfl, R7, (A6.le s7).rp, ?_, ?_, fun H8 s8 => ⟨_, rfl, ?_⟩⟩
    · simp only [fit, Bool.and_eq_true, decide_eq_true_eq]
      exact ⟨by rw [expD_len]; omega, expD_fit _ _⟩
    · have := expD_dep b.length cs
      simp only [dep]
      omega
    rw [sameD_refl]
    cases R7.le s8 with
    | lst hD hall =>
      rename_i xs
      have hxl : xs.length = cs.length := by
        rw [hall.length, expD_len]
      refine ⟨_, rfl, ⟨_, rfl⟩, _, rfl, D, rfl, ⟨xs, hD⟩, fun D2 hD2 => lc_list (xs := xs) (fun i H9 => Same H8 H9 ∧ H9 D2 = some (.lst ((cs.take i).map fun c => .str (SX.S c)))) ⟨same_upd hD2, by simp [upd_same]⟩ (fun i H9 _ q => sql_le q.1 hD) ?_ ?_⟩
      · rintro i x H9 hx ⟨s9, e9⟩
        obtain ⟨d, hd, hr1⟩ := hall.getV hx
        obtain ⟨s, c, hc, rfl⟩ := expD_at hd
        cases hr1 with
        | tup ht h2 =>
          cases h2 with
          | cons r1 h3 =>
            cases h3 with
            | cons r2 h4 =>
              cases h4
              cases r1
              cases r2
              have hi2 := (List.getElem?_eq_some_iff.mp hc).1
              refine ⟨_, _, rfl, sqt_le s9 ht, rfl, _, _, rfl, _, _, rfl, rfl, rfl, _, rfl, _, e9, szl _ (by rw [List.length_map, List.length_take]; omega), fun q o z => ?_, ?_⟩
              · have hq : q ≠ D2 := ne_of_none z hD2
                rw [upd_ne hq]
                exact s9 _ _ z
              · rw [upd_same, List.take_add_one, hc]
                simp
      · rintro H9 ⟨s9, e9⟩
        have et : cs.take xs.length = cs := List.take_of_length_le (by omega)
        rw [et] at e9
        have ej : (cs.map fun c => V.str (SX.S c)) = (cs.map SX.S).map V.str := by simp
        have e0 : (PySem.Str.ofString "") = SX.S [] := by decide +kernel
        refine ⟨_, D2, cs.map SX.S, rfl, rfl, .inl (SqL.of (by rw [← ej]; exact e9)), ?_, ?_⟩
        · rw [sum_len, e0, len_S, List.length_nil, Nat.mul_zero, Nat.add_zero]
          rw [List.length_append] at hll
          omega
        · rw [e0, join_flat]
          refine ⟨_, _, rfl, rfl, sz _ (by rw [len_S, len_S, ← List.length_append]; omega), _, rfl, rfl, ?_⟩
          rw [SX.S_cat, decide_eq_true rfl]
          exact k H9
end

theorem all_mk {l : PySem.W.OpenLaw} {w : World} {K : PySem.W.Frag} {h : Heap} {mg : Str → Option Value} {fa f1 f2 f3 f4 f5 f6 f7 f8 : Addr} (X : K.In h) (G : h.Ns mainGlobals mg) (hfa : mg "law" = some (.ref fa))
    {od1 od2 od3 od4 od5 od6 od7 od8 an1 an2 an3 an4 an5 an6 an7 an8 : Option Addr} {sl1 sl2 sl3 sl4 sl5 sl6 sl7 sl8 : Array (Option Value)} {oc1 oc2 oc3 oc4 oc5 oc6 oc7 oc8 kV1 kV2 kV3 kV4 kV5 kV6 kV7 kV8 dc1 dc2 dc3 dc4 dc5 dc6 dc7 dc8 pm1 pm2 pm3 pm4 pm5 pm6 pm7 pm8 cd1 cd2 cd3 cd4 cd5 cd6 cd7 cd8 ct1 ct2 ct3 ct4 ct5 ct6 ct7 ct8 : Value}
    (a1 : PySem.W.nsIn K mainGlobals "_law_next" = some (some (.ref f1))) (l1 : K.lookup f1 = some ⟨oc1, od1, .func (PySem.W.fnOf "_law_next" "_law_next" (defArgs s_law_next) (defBody s_law_next) (defScope s_law_next) .none kV1 dc1 pm1 an1 cd1 ct1), sl1⟩) (c1 : PySem.W.codeIn K cd1 "_law_next" = true) (k1 : PySem.W.keepIn K (.ref f1) = true)
    (a2 : PySem.W.nsIn K mainGlobals "_law_char" = some (some (.ref f2))) (l2 : K.lookup f2 = some ⟨oc2, od2, .func (PySem.W.fnOf "_law_char" "_law_char" (defArgs s_law_char) (defBody s_law_char) (defScope s_law_char) .none kV2 dc2 pm2 an2 cd2 ct2), sl2⟩) (c2 : PySem.W.codeIn K cd2 "_law_char" = true) (k2 : PySem.W.keepIn K (.ref f2) = true)
    (a3 : PySem.W.nsIn K mainGlobals "_law_line" = some (some (.ref f3))) (l3 : K.lookup f3 = some ⟨oc3, od3, .func (PySem.W.fnOf "_law_line" "_law_line" (defArgs s_law_line) (defBody s_law_line) (defScope s_law_line) .none kV3 dc3 pm3 an3 cd3 ct3), sl3⟩) (c3 : PySem.W.codeIn K cd3 "_law_line" = true) (k3 : PySem.W.keepIn K (.ref f3) = true)
    (a4 : PySem.W.nsIn K mainGlobals "_law_lines" = some (some (.ref f4))) (l4 : K.lookup f4 = some ⟨oc4, od4, .func (PySem.W.fnOf "_law_lines" "_law_lines" (defArgs s_law_lines) (defBody s_law_lines) (defScope s_law_lines) .none kV4 dc4 pm4 an4 cd4 ct4), sl4⟩) (c4 : PySem.W.codeIn K cd4 "_law_lines" = true) (k4 : PySem.W.keepIn K (.ref f4) = true)
    (a5 : PySem.W.nsIn K mainGlobals "line_starts" = some (some (.ref f5))) (l5 : K.lookup f5 = some ⟨oc5, od5, .func (PySem.W.fnOf "line_starts" "line_starts" (defArgs s_line_starts) (defBody s_line_starts) (defScope s_line_starts) .none kV5 dc5 pm5 an5 cd5 ct5), sl5⟩) (c5 : PySem.W.codeIn K cd5 "line_starts" = true) (k5 : PySem.W.keepIn K (.ref f5) = true)
    (a6 : PySem.W.nsIn K mainGlobals "chunks" = some (some (.ref f6))) (l6 : K.lookup f6 = some ⟨oc6, od6, .func (PySem.W.fnOf "chunks" "chunks" (defArgs s_chunks) (defBody s_chunks) (defScope s_chunks) .none kV6 dc6 pm6 an6 cd6 ct6), sl6⟩) (c6 : PySem.W.codeIn K cd6 "chunks" = true) (k6 : PySem.W.keepIn K (.ref f6) = true)
    (a7 : PySem.W.nsIn K mainGlobals "_law_same" = some (some (.ref f7))) (l7 : K.lookup f7 = some ⟨oc7, od7, .func (PySem.W.fnOf "_law_same" "_law_same" (defArgs s_law_same) (defBody s_law_same) (defScope s_law_same) .none kV7 dc7 pm7 an7 cd7 ct7), sl7⟩) (c7 : PySem.W.codeIn K cd7 "_law_same" = true) (k7 : PySem.W.keepIn K (.ref f7) = true)
    (a8 : PySem.W.nsIn K mainGlobals "law" = some (some (.ref f8))) (l8 : K.lookup f8 = some ⟨oc8, od8, .func (PySem.W.fnOf "law" "law" (defArgs s_law) (defBody s_law) (defScope s_law) .none kV8 dc8 pm8 an8 cd8 ct8), sl8⟩) (c8 : PySem.W.codeIn K cd8 "law" = true) (k8 : PySem.W.keepIn K (.ref f8) = true)
    (z1 : PySem.W.nsIn K mainGlobals "bool" = some none)
    (z2 : PySem.W.nsIn K mainGlobals "int" = some none)
    (z3 : PySem.W.nsIn K mainGlobals "isinstance" = some none)
    (z4 : PySem.W.nsIn K mainGlobals "len" = some none)
    (z5 : PySem.W.nsIn K mainGlobals "list" = some none)
    (z6 : PySem.W.nsIn K mainGlobals "range" = some none)
    (z7 : PySem.W.nsIn K mainGlobals "str" = some none)
    (z8 : PySem.W.nsIn K mainGlobals "tuple" = some none)
    (z9 : PySem.W.nsIn K mainGlobals "zip" = some none)
    : ∃ fd : FuncData, (∀ (s : Shared) (v : Value), BindsTo s fd ⟨[v], []⟩ [("script", v)]) ∧ ∀ base : Heap, K.In base → base.Ns mainGlobals mg → FnOk l.prog w K mg base CX0 4 fa fd ["script"] (spLaw K) := by
  have e := hfa.symm.trans (PySem.W.mg_of X G a8)
  cases e
  have T : Txt K mg := ⟨PySem.W.mg_none_of X G z1, PySem.W.mg_none_of X G z2, PySem.W.mg_none_of X G z3, PySem.W.mg_none_of X G z4, PySem.W.mg_none_of X G z5, PySem.W.mg_none_of X G z6, PySem.W.mg_none_of X G z7, PySem.W.mg_none_of X G z8, PySem.W.mg_none_of X G z9⟩
  have F_law_next := fun_mk (st := s_law_next) l1 c1 k1
  have b_law_next := F_law_next.binds (ps := ["state", "limit"]) fun _ _ _ _ _ _ us hl => match us, hl with | [_, _], _ => rfl
  have m_law_next := PySem.W.mg_of X G a1
  have F_law_char := fun_mk (st := s_law_char) l2 c2 k2
  have b_law_char := F_law_char.binds (ps := ["index"]) fun _ _ _ _ _ _ us hl => match us, hl with | [_], _ => rfl
  have m_law_char := PySem.W.mg_of X G a2
  have F_law_line := fun_mk (st := s_law_line) l3 c3 k3
  have b_law_line := F_law_line.binds (ps := ["state"]) fun _ _ _ _ _ _ us hl => match us, hl with | [_], _ => rfl
  have m_law_line := PySem.W.mg_of X G a3
  have F_law_lines := fun_mk (st := s_law_lines) l4 c4 k4
  have b_law_lines := F_law_lines.binds (ps := ["state", "count"]) fun _ _ _ _ _ _ us hl => match us, hl with | [_, _], _ => rfl
  have m_law_lines := PySem.W.mg_of X G a4
  have F_line_starts := fun_mk (st := s_line_starts) l5 c5 k5
  have b_line_starts := F_line_starts.binds (ps := ["text"]) fun _ _ _ _ _ _ us hl => match us, hl with | [_], _ => rfl
  have m_line_starts := PySem.W.mg_of X G a5
  have F_chunks := fun_mk (st := s_chunks) l6 c6 k6
  have b_chunks := F_chunks.binds (ps := ["text"]) fun _ _ _ _ _ _ us hl => match us, hl with | [_], _ => rfl
  have m_chunks := PySem.W.mg_of X G a6
  have F_law_same := fun_mk (st := s_law_same) l7 c7 k7
  have b_law_same := F_law_same.binds (ps := ["actual", "expected"]) fun _ _ _ _ _ _ us hl => match us, hl with | [_, _], _ => rfl
  have m_law_same := PySem.W.mg_of X G a7
  have F_law := fun_mk (st := s_law) l8 c8 k8
  have b_law := F_law.binds (ps := ["script"]) fun _ _ _ _ _ _ us hl => match us, hl with | [_], _ => rfl
  have m_law := PySem.W.mg_of X G a8
  refine ⟨PySem.W.fnOf "law" "law" (defArgs s_law) (defBody s_law) (defScope s_law) .none kV8 dc8 pm8 an8 cd8 ct8, fun s v => .of_eq rfl, fun base _ _ => ?_⟩
  have G_law_next : GF l.prog w K mg base CX0 "_law_next" 1 ["state", "limit"] (spNext K) := ⟨f1, _, ok_law_next F_law_next T, m_law_next, k1, b_law_next⟩
  have G_law_char : GF l.prog w K mg base CX0 "_law_char" 1 ["index"] (spChar) := ⟨f2, _, ok_law_char F_law_char T, m_law_char, k2, b_law_char⟩
  have G_law_line : GF l.prog w K mg base CX0 "_law_line" 2 ["state"] (spLine K) := ⟨f3, _, ok_law_line F_law_line T G_law_next G_law_char, m_law_line, k3, b_law_line⟩
  have G_law_lines : GF l.prog w K mg base CX0 "_law_lines" 3 ["state", "count"] (spLines K) := ⟨f4, _, ok_law_lines F_law_lines T G_law_next G_law_line, m_law_lines, k4, b_law_lines⟩
  have G_line_starts : GF l.prog w K mg base CX0 "line_starts" 1 ["text"] (spStarts) := ⟨f5, _, ok_line_starts F_line_starts T, m_line_starts, k5, b_line_starts⟩
  have G_chunks : GF l.prog w K mg base CX0 "chunks" 2 ["text"] (spChunks K) := ⟨f6, _, ok_chunks F_chunks T G_line_starts, m_chunks, k6, b_chunks⟩
  have G_law_same : GF l.prog w K mg base CX0 "_law_same" 3 ["actual", "expected"] (spSame K 3) := gf_law_same F_law_same T m_law_same b_law_same 3
  exact ok_law F_law T G_law_next G_law_char G_law_line G_law_lines G_chunks G_law_same
theorem walk {l : PySem.W.OpenLaw} {q : Program} {loose : List Str} {XP : (Str → Option Value) → Heap → Prop} {YP : World → Heap → Prop} {d : DefRec} {K : Params → PySem.W.Frag} (hn : l.most = some 63) (hdf : d.params.defaults = [])
    (hY : ∀ (w : World) (h : Heap), YP w h → (K w.params).In h)
    (F : ∀ (w : World) (mg : Str → Option Value) (fa : Addr) (h : Heap), (K w.params).In h → h.Ns mainGlobals mg → mg d.name = some (.ref fa) →
      ∃ fd : FuncData, (∀ (s : Shared) (u : Value), BindsTo s fd ⟨[u], []⟩ [("script", u)]) ∧ ∀ base : Heap, (K w.params).In base → base.Ns mainGlobals mg → FnOk l.prog w (K w.params) mg base CX0 4 fa fd ["script"] (spLaw (K w.params))) :
    PySem.W.WalkO q loose XP YP l.row.toRowW d [] (fun f vs => PySem.call f vs) :=
  L2.walk_of (n := 63) (k := 4) (x := "script") (CX := fun _ => CX0) (sp := fun w => spLaw (K w.params)) hn (by decide) hdf ⟨rfl, by decide, by decide⟩ hY F (fun _ _ a ns hl _ hS => ⟨a, ns, rfl, hS, hl, fun _ => rfl⟩) fun _ _ _ _ _ z => z
end SW
open PySem PySem.W PyProof.Rows
set_option maxRecDepth 100000 in
set_option maxHeartbeats 0 in
theorem PySem.Challenge.cw_shapewhole_k09_chunks_of_a_text_holds : PySem.Challenge.rw_shapewhole_k09_chunks_of_a_text.Holds := by
  w_on; o_law; k_head; (case hw => w_witness2)
  k_fill
  refine SW.walk (l := PySem.Challenge.rw_shapewhole_k09_chunks_of_a_text) rfl rfl (fun w h Y => PySem.W.kIn_of Y) ?F
  case F =>
    intro w mg fa h KX G hmg
    refine' SW.all_mk KX G hmg ?a1 ?l1 ?c1 ?k1 ?a2 ?l2 ?c2 ?k2 ?a3 ?l3 ?c3 ?k3 ?a4 ?l4 ?c4 ?k4 ?a5 ?l5 ?c5 ?k5 ?a6 ?l6 ?c6 ?k6 ?a7 ?l7 ?c7 ?k7 ?a8 ?l8 ?c8 ?k8 ?z1 ?z2 ?z3 ?z4 ?z5 ?z6 ?z7 ?z8 ?z9
    (case a1 => k_is)
    (case l1 => k_is)
    (case c1 => k_is)
    (case k1 => k_is)
    (case a2 => k_is)
    (case l2 => k_is)
    (case c2 => k_is)
    (case k2 => k_is)
    (case a3 => k_is)
    (case l3 => k_is)
    (case c3 => k_is)
    (case k3 => k_is)
    (case a4 => k_is)
    (case l4 => k_is)
    (case c4 => k_is)
    (case k4 => k_is)
    (case a5 => k_is)
    (case l5 => k_is)
    (case c5 => k_is)
    (case k5 => k_is)
    (case a6 => k_is)
    (case l6 => k_is)
    (case c6 => k_is)
    (case k6 => k_is)
    (case a7 => k_is)
    (case l7 => k_is)
    (case c7 => k_is)
    (case k7 => k_is)
    (case a8 => k_is)
    (case l8 => k_is)
    (case c8 => k_is)
    (case k8 => k_is)
    (case z1 => k_is)
    (case z2 => k_is)
    (case z3 => k_is)
    (case z4 => k_is)
    (case z5 => k_is)
    (case z6 => k_is)
    (case z7 => k_is)
    (case z8 => k_is)
    (case z9 => k_is)
