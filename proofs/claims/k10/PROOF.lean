import PyProof.Rows.All
import Wide.All
import OpenK.AllK
import Wide.FinOn
import HandS.ForMost
import HandS.Wide
import HandS.Deep
import HandS.IsInst
import HandS.TupAny
import HandS.SortInts
import HandS.Flow
import HandS.Walk
import HandS.Zip
import HandS.Codes
import HandS.Evl
import HandS.More
import HandS.NoneIn
import HandS.Text
import PySem.Challenge.RW_shapewhole_k10_files_keep_a_beginning
set_option Elab.async false
set_option linter.all false
set_option maxRecDepth 100000
namespace SW
open PySem L2

structure GF (P : Program) (w : World) (K : PySem.W.Frag) (mg : Str → Option Value) (base : Heap) (CX : CXT) (x : Str) (k : Nat) (ps : List Str) (sp : Sp) : Prop where
  ex : ∃ (f : Addr) (fd : FuncData), FnOk P w K mg base CX k f fd ps sp ∧ mg x = some (.ref f) ∧ PySem.W.keepIn K (.ref f) = true ∧ Binds K fd ps []
section
variable {X : Cx} {x : Str} {k j : Nat} {ps : List Str} {sp : Sp} {e : Expr} {es : List Expr} {t : TA} {p pos : Pos}
def tCg (sp : Sp) (t : TA) : TE := fun σ H Q => t σ H fun vs H1 => sp vs H1 Q E0
theorem pe_cg (G : GF X.prog X.w X.K X.mg X.base CX0 x k ps sp) (hr : Room j X.A) (hg : Gl X x) (ha : PA X (e :: es) t) (hk : k ≤ j := by first | decide | omega)
    (hdb : (x == ("__debug__" : Str)) = false := by decide) (he : starEach (e :: es) X.env = (false, eval e X.env) :: starEach es X.env := by rfl) (hpl : (backTo pos (starEach es X.env)).any (·.1) = false := by rfl) :
    PE X (.Call (.Name x p) (e :: es) [] pos) (tCg sp t) := by
  obtain ⟨f, fd, F, hm, hkp, hb⟩ := G.ex
  have h := pe_call (p := p) (pos := pos) F (hr.mono hk) hg hm hkp hb .nil (pass0 (X := X)) ha hdb he hpl
  refine ⟨fun pins s σ H Q I q => h.run pins s σ H Q I ?_⟩
  have e1 : tCall sp [] E0 t = tCg sp t := by
    funext σ H Q
    show (t σ H fun vs H1 => sp (vs ++ []) H1 Q E0) = (t σ H fun vs H1 => sp vs H1 Q E0)
    simp only [List.append_nil]
  rw [e1]
  exact q
theorem pe_cg0 (G : GF X.prog X.w X.K X.mg X.base CX0 x k ps sp) (hr : Room j X.A) (hg : Gl X x) (hk : k ≤ j := by first | decide | omega)
    (hdb : (x == ("__debug__" : Str)) = false := by decide) : PE X (.Call (.Name x p) [] [] pos) (tCg sp tNil) := by
  obtain ⟨f, fd, F, hm, hkp, hb⟩ := G.ex
  have h := pe_call0 (pos := pos) (p := p) F (hr.mono hk) hg hm hkp hb .nil (pass0 (X := X)) hdb
  refine ⟨fun pins s σ H Q I q => h.run pins s σ H Q I ?_⟩
  exact q
end

structure GM (P : Program) (w : World) (K : PySem.W.Frag) (mg : Str → Option Value) (base : Heap) (CX : CXT) (C : Addr) (m : Str) (k : Nat) (ps : List Str) (sp : Sp) : Prop where
  ex : ∃ (f : Addr) (fd : FuncData), FnOk P w K mg base CX k f fd ps sp ∧ Meth K C m f ∧ Binds K fd ps []
structure GC (P : Program) (w : World) (K : PySem.W.Frag) (mg : Str → Option Value) (base : Heap) (CX : CXT) (x : Str) (C : Addr) (k : Nat) (ps : List Str) (sp : Sp) : Prop where
  ex : ∃ (f : Addr) (fd : FuncData), FnOk P w K mg base CX k f fd ps sp ∧ Mk K C f ∧ mg x = some (.ref C) ∧ Binds K fd ps []
section
variable {X : Cx} {x m : Str} {C : Addr} {k j : Nat} {ps : List Str} {sp : Sp} {o e : Expr} {es : List Expr} {ta : TE} {t : TA} {p pos apos : Pos}
def tGm (C : Addr) (m : Str) (sp : Sp) (ta : TE) (t : TA) : TE := fun σ H Q => ta σ H fun x H1 => ∃ a dx fs, x = .ref a ∧ H1 a = some (.ins C dx fs) ∧ fs.lookup m = none ∧ t σ H1 fun vs H2 => sp (x :: vs) H2 Q E0
def tGk (C : Addr) (sp : Sp) (t : TA) : TE := fun σ H Q => t σ H fun vs H1 => ∀ x dx, H1 x = none → H1 dx = none → dx ≠ x → sp (.ref x :: vs) (upd (upd H1 dx (.own x)) x (.ins C dx [])) (fun v H2 => v = .non ∧ Q (.ref x) H2) E0
theorem pe_gm {pl : Sem Bool} (he : PE X o ta) (c : Cls X.K C) (G : GM X.prog X.w X.K X.mg X.base CX0 C m k ps sp) (hr : Room j X.A) (ha : PA X (e :: es) t) (hk : k ≤ j := by first | decide | omega)
    (hst : starEach (e :: es) X.env = (false, eval e X.env) :: starEach es X.env := by rfl) (hpl : (backTo pos (starEach es X.env)).any (·.1) = false := by rfl)
    (ht : eval (.Call (.Attribute o m apos) (e :: es) [] pos) X.env = (do
      let ov ← eval o X.env
      standAt apos.atName
      let (f, first) ← holding [ov] (getMethod ov m pl)
      callWith pos f first (backTo pos (starEach (e :: es) X.env)) (backToKw pos (keywordEach [] X.env))) := by rfl) :
    PE X (.Call (.Attribute o m apos) (e :: es) [] pos) (tGm C m sp ta t) := by
  obtain ⟨f, fd, F, hm, hb⟩ := G.ex
  have h := pe_meth (pos := pos) (apos := apos) he c hm F (hr.mono hk) hb .nil (pass0 (X := X)) ha hst hpl ht
  refine ⟨fun pins s σ H Q I q => h.run pins s σ H Q I ?_⟩
  have e1 : tMeth C m sp [] E0 ta t = tGm C m sp ta t := by
    unfold tMeth tGm
    simp only [List.append_nil]
  rw [e1]
  exact q
theorem pe_gm0 {pl : Sem Bool} (he : PE X o ta) (c : Cls X.K C) (G : GM X.prog X.w X.K X.mg X.base CX0 C m k ps sp) (hr : Room j X.A) (hk : k ≤ j := by first | decide | omega)
    (ht : eval (.Call (.Attribute o m apos) [] [] pos) X.env = (do
      let ov ← eval o X.env
      standAt apos.atName
      let (f, first) ← holding [ov] (getMethod ov m pl)
      callWith pos f first (backTo pos (starEach [] X.env)) (backToKw pos (keywordEach [] X.env))) := by rfl) :
    PE X (.Call (.Attribute o m apos) [] [] pos) (tGm C m sp ta tNil) := by
  obtain ⟨f, fd, F, hm, hb⟩ := G.ex
  have h := pe_meth0 (pos := pos) (apos := apos) he c hm F (hr.mono hk) hb .nil (pass0 (X := X)) ht
  refine ⟨fun pins s σ H Q I q => h.run pins s σ H Q I ?_⟩
  have e1 : tMeth C m sp [] E0 ta tNil = tGm C m sp ta tNil := by
    unfold tMeth tGm
    simp only [List.append_nil]
  rw [e1]
  exact q
theorem pe_gk (G : GC X.prog X.w X.K X.mg X.base CX0 x C k ps sp) (hr : Room j X.A) (hg : Gl X x) (ha : PA X (e :: es) t) (hk : k + 1 ≤ j := by first | decide | omega)
    (hdb : (x == ("__debug__" : Str)) = false := by decide) (he : starEach (e :: es) X.env = (false, eval e X.env) :: starEach es X.env := by rfl) (hpl : (backTo pos (starEach es X.env)).any (·.1) = false := by rfl) :
    PE X (.Call (.Name x p) (e :: es) [] pos) (tGk C sp t) := by
  obtain ⟨f, fd, F, M, hm, hb⟩ := G.ex
  have h := pe_make (p := p) (pos := pos) M F (hr.mono hk) hg hm hb .nil (pass0 (X := X)) ha hdb he hpl
  refine ⟨fun pins s σ H Q I q => h.run pins s σ H Q I ?_⟩
  have e1 : tMake C sp [] E0 t = tGk C sp t := by
    unfold tMake tGk
    simp only [List.append_nil]
  rw [e1]
  exact q
theorem pe_gk0 (G : GC X.prog X.w X.K X.mg X.base CX0 x C k ps sp) (hr : Room j X.A) (hg : Gl X x) (hk : k + 1 ≤ j := by first | decide | omega)
    (hdb : (x == ("__debug__" : Str)) = false := by decide) : PE X (.Call (.Name x p) [] [] pos) (tGk C sp tNil) := by
  obtain ⟨f, fd, F, M, hm, hb⟩ := G.ex
  have h := pe_make0 (p := p) (pos := pos) M F (hr.mono hk) hg hm hb .nil (pass0 (X := X)) hdb
  refine ⟨fun pins s σ H Q I q => h.run pins s σ H Q I ?_⟩
  have e1 : tMake C sp [] E0 tNil = tGk C sp tNil := by
    unfold tMake tGk
    simp only [List.append_nil]
  rw [e1]
  exact q
end

section
variable {X : Cx}
def rGetL (K : PySem.W.Frag) : V → V → Hp → VK → Prop := fun o i H Q => ∃ a xs j v, o = .ref a ∧ i = .int ((j : Nat) : Int) ∧ SqL K H a xs ∧ xs[j]? = some v ∧ j < 4000000 ∧ Q v H
theorem get_list : PGet X (rGetL X.K) := by
  intro pins s σ H o i ov iv Q I ro ri h
  obtain ⟨a, xs, j, v, rfl, rfl, hs, hv, hj, q⟩ := h
  cases ro
  obtain ⟨t, rfl⟩ := ri
  obtain ⟨its, r, pl, hz⟩ := I.list hs
  obtain ⟨u, eu, ru⟩ := r.get hv
  refine wpAny_getItem_list (x := u) pl.isList (by omega) (by omega) ?_ ⟨v, H, I, ru, q⟩
  simpa using eu
end

def wo (H : Hp) (O : List Addr) : Hp := fun a => if a ∈ O then none else H a
theorem wo_nil (H : Hp) : wo H [] = H := by
  funext a
  simp [wo]
theorem wo_in {H : Hp} {O : List Addr} {a : Addr} (h : a ∈ O) : wo H O a = none := by simp [wo, h]
theorem wo_out {H : Hp} {O : List Addr} {a : Addr} (h : a ∉ O) : wo H O a = H a := by simp [wo, h]
theorem wo_le (H : Hp) (O : List Addr) : Same (wo H O) H := fun a o h => by
  unfold wo at h
  split at h
  · cases h
  · exact h
def Up (O : List Addr) (H H' : Hp) : Prop := ∀ a o, a ∉ O → H a = some o → H' a = some o
section
variable {O O' : List Addr} {H H' H1 H2 : Hp} {a p : Addr} {o u : HO}
theorem Up.rfl' : Up O H H := fun _ _ _ h => h
theorem Up.of (h : Same H H') : Up O H H' := fun a o _ e => h a o e
theorem Up.same (h : Up [] H H') : Same H H' := fun a o e => h a o (by simp) e
theorem Up.trans (h : Up O H H1) (h' : Up O H1 H2) : Up O H H2 := fun a o n e => h' a o n (h a o n e)
theorem Up.mono (h : Up O H H') (s : ∀ a ∈ O, a ∈ O') : Up O' H H' := fun a o n e => h a o (fun z => n (s a z)) e
theorem Up.wo (h : Up O H H') : Same (wo H O) (wo H' O) := fun a o e => by
  unfold SW.wo at e ⊢
  split at e
  · cases e
  · rename_i n
    rw [if_neg n]
    exact h a o n e
theorem same_upd (h : H p = none) : Same H (upd H p o) := fun b x e => by
  rw [upd_ne (ne_of_none e h)]
  exact e
theorem Up.put (h : a ∈ O) : Up O H (upd H a o) := fun b x n e => by
  have hb : b ≠ a := fun z => n (by rw [z]; exact h)
  rw [upd_ne hb]
  exact e
theorem Up.new (h : H p = none) : Up O H (upd H p o) := Up.of (same_upd h)
theorem Same.wo (h : Same H H') : Same (wo H O) (wo H' O) := Up.wo (Up.of h)
theorem wo_upd_in (h : a ∈ O) : wo (upd H a o) O = wo H O := by
  funext b
  unfold SW.wo
  by_cases hb : b ∈ O
  · rw [if_pos hb, if_pos hb]
  · have hn : b ≠ a := fun z => hb (by rw [z]; exact h)
    rw [if_neg hb, if_neg hb, upd_ne hn]
theorem wo_sub (s : ∀ a ∈ O, a ∈ O') : Same (wo H O') (wo H O) := fun a o e => by
  unfold SW.wo at e ⊢
  split at e
  · cases e
  · rename_i n
    rw [if_neg (fun z => n (s a z))]
    exact e
theorem wo_cons_le : Same (wo H (a :: O)) (wo H O) := wo_sub fun _ h => List.mem_cons_of_mem _ h
end
theorem wo_new {H : Hp} {O : List Addr} {p : Addr} {o : HO} (hp : H p = none) : Same (wo H O) (wo (upd H p o) (p :: O)) := fun a u e => by
  have ha : a ∉ O := fun z => by rw [wo_in z] at e; cases e
  rw [wo_out ha] at e
  have hn : a ≠ p := ne_of_none e hp
  rw [wo_out (by simp [ha, hn]), upd_ne hn]
  exact e
theorem Up.wo_new {H H' : Hp} {O : List Addr} {q : Addr} (u : Up O H H') (hq : H q = none) : Same (SW.wo H O) (SW.wo H' (q :: O)) := fun a o e => by
  have ha : a ∉ O := fun z => by rw [wo_in z] at e; cases e
  rw [wo_out ha] at e
  have hn : a ≠ q := ne_of_none e hq
  rw [wo_out (by simp [ha, hn])]
  exact u _ _ ha e
def Own (O : List Addr) (H : Hp) : Prop := ∀ a ∈ O, H a ≠ none
theorem Own.out {O : List Addr} {H : Hp} {t : Addr} (h : Own O H) (ht : H t = none) : t ∉ O := fun z => h t z ht
theorem Own.up {O S : List Addr} {H H' : Hp} (h : Own O H) (u : Up S H H') (hs : ∀ a ∈ S, H' a ≠ none) : Own O H' := fun a ha => by
  by_cases hS : a ∈ S
  · exact hs a hS
  · cases e : H a with
    | none => exact absurd e (h a ha)
    | some o =>
      rw [u a o hS e]
      exact fun z => nomatch z
theorem Own.le {O : List Addr} {H H' : Hp} (h : Own O H) (u : Same H H') : Own O H' := h.up (S := []) (Up.of u) (by simp)
theorem Own.cons {O : List Addr} {H : Hp} {q : Addr} (h : Own O H) (hq : H q ≠ none) : Own (q :: O) H := fun a ha => by
  rcases List.mem_cons.mp ha with rfl | ha
  · exact hq
  · exact h a ha
theorem some_ne {H : Hp} {a : Addr} {o : HO} (h : H a = some o) : H a ≠ none := by
  rw [h]
  exact fun z => nomatch z
theorem Up.back {S : List Addr} {H H' : Hp} {q : Addr} (u : Up S H H') (hS : ∀ a ∈ S, H' a ≠ none) (hq : H' q = none) : H q = none := by
  have n : q ∉ S := fun z => hS q z hq
  cases e : H q with
  | none => rfl
  | some o =>
    rw [u q o n e] at hq
    cases hq
theorem Rd.le {H H' : Hp} (e : Same H H') {a : Addr} {u : HO} (h : Rd H a u) : Rd H' a u := by
  rcases h with h | ⟨o, h⟩
  · exact Or.inl (e a _ h)
  · exact Or.inr ⟨o, e a _ h⟩
theorem sqt_le {K : PySem.W.Frag} {H H' : Hp} (e : Same H H') {a : Addr} {xs : List V} (h : SqT K H a xs) : SqT K H' a xs := by
  rcases h with h | h
  · exact Or.inl (Rd.le e h)
  · exact Or.inr h
theorem sql_le {K : PySem.W.Frag} {H H' : Hp} (e : Same H H') {a : Addr} {xs : List V} (h : SqL K H a xs) : SqL K H' a xs := by
  rcases h with h | h
  · exact Or.inl (Rd.le e h)
  · exact Or.inr h
mutual
theorem Dp.le {K : PySem.W.Frag} {H H' : Hp} (e : Same H H') : ∀ {v : V} {d : PyData}, Dp K H v d → Dp K H' v d
  | _, _, .non => .non
  | _, _, .bl b => .bl b
  | _, _, .int i => .int i
  | _, _, .str x => .str x
  | _, _, .lst h1 h2 => .lst (sql_le e h1) (DpAll.le e h2)
  | _, _, .tup h1 h2 => .tup (sqt_le e h1) (DpAll.le e h2)
theorem DpAll.le {K : PySem.W.Frag} {H H' : Hp} (e : Same H H') : ∀ {vs : List V} {ds : List PyData}, DpAll K H vs ds → DpAll K H' vs ds
  | _, _, .nil => .nil
  | _, _, .cons h1 h2 => .cons (Dp.le e h1) (DpAll.le e h2)
end
theorem DpAll.length {K : PySem.W.Frag} {H : Hp} : ∀ {vs : List V} {ds : List PyData}, DpAll K H vs ds → vs.length = ds.length
  | _, _, .nil => rfl
  | _, _, .cons _ h => congrArg (· + 1) (DpAll.length h)
theorem DpAll.get {K : PySem.W.Frag} {H : Hp} : ∀ {vs : List V} {ds : List PyData} {i : Nat} {d : PyData}, DpAll K H vs ds → ds[i]? = some d → ∃ v, vs[i]? = some v ∧ Dp K H v d
  | _, _, _, _, .nil, h => by simp at h
  | _, _, 0, _, .cons h _, e => by
    simp at e
    subst e
    exact ⟨_, rfl, h⟩
  | _, _, i + 1, _, .cons _ h, e => by
    obtain ⟨v, h1, h2⟩ := DpAll.get (i := i) h (by simpa using e)
    exact ⟨v, by simpa using h1, h2⟩
theorem DpAll.append {K : PySem.W.Frag} {H : Hp} : ∀ {vs : List V} {ds : List PyData} {us : List V} {es : List PyData}, DpAll K H vs ds → DpAll K H us es → DpAll K H (vs ++ us) (ds ++ es)
  | _, _, _, _, .nil, h => h
  | _, _, _, _, .cons a b, h => .cons a (DpAll.append b h)
theorem DpAll.take {K : PySem.W.Frag} {H : Hp} : ∀ {vs : List V} {ds : List PyData} (n : Nat), DpAll K H vs ds → DpAll K H (vs.take n) (ds.take n)
  | _, _, 0, _ => by simpa using DpAll.nil
  | _, _, _ + 1, .nil => .nil
  | _, _, n + 1, .cons a b => .cons a (DpAll.take n b)
theorem DpAll.drop {K : PySem.W.Frag} {H : Hp} : ∀ {vs : List V} {ds : List PyData} (n : Nat), DpAll K H vs ds → DpAll K H (vs.drop n) (ds.drop n)
  | _, _, 0, h => by simpa using h
  | _, _, _ + 1, .nil => .nil
  | _, _, n + 1, .cons _ b => DpAll.drop n b
theorem DpAll.map {K : PySem.W.Frag} {H : Hp} {α : Type} (f : α → V) (g : α → PyData) (h : ∀ x, Dp K H (f x) (g x)) : ∀ l : List α, DpAll K H (l.map f) (l.map g)
  | [] => .nil
  | x :: l => .cons (h x) (DpAll.map f g h l)
theorem DpAll.set {K : PySem.W.Frag} {H : Hp} {v : V} {d : PyData} (r : Dp K H v d) : ∀ {vs : List V} {ds : List PyData} (i : Nat), DpAll K H vs ds → DpAll K H (vs.set i v) (ds.set i d)
  | _, _, _, .nil => .nil
  | _, _, 0, .cons _ t => .cons r t
  | _, _, i + 1, .cons q t => .cons q (DpAll.set r i t)

theorem bt_range : bootBuiltins "range" = some (.type "range") := by decide +kernel
theorem bt_int : bootBuiltins "int" = some (.type "int") := by decide +kernel
theorem bt_list : bootBuiltins "list" = some (.type "list") := by decide +kernel
theorem bt_tuple : bootBuiltins "tuple" = some (.type "tuple") := by decide +kernel
theorem bt_bool : bootBuiltins "bool" = some (.type "bool") := by decide +kernel
theorem bt_str : bootBuiltins "str" = some (.type "str") := by decide +kernel
theorem bt_set : bootBuiltins "set" = some (.type "set") := by decide +kernel
theorem bt_len : bootBuiltins "len" = some (.builtin "len") := by decide +kernel
theorem bt_min : bootBuiltins "min" = some (.builtin "min") := by decide +kernel
theorem bt_max : bootBuiltins "max" = some (.builtin "max") := by decide +kernel
theorem bt_sum : bootBuiltins "sum" = some (.builtin "sum") := by decide +kernel
theorem bt_all : bootBuiltins "all" = some (.builtin "all") := by decide +kernel
theorem bt_sorted : bootBuiltins "sorted" = some (.builtin "sorted") := by decide +kernel
theorem bt_isinstance : bootBuiltins "isinstance" = some (.builtin "isinstance") := by decide +kernel
theorem bt_repr : bootBuiltins "repr" = some (.builtin "repr") := by decide +kernel
theorem bt_ord : bootBuiltins "ord" = some (.builtin "ord") := by decide +kernel
theorem bt_abs : bootBuiltins "abs" = some (.builtin "abs") := by decide +kernel

def rLn (K : PySem.W.Frag) : List V → Hp → VK → Prop := fun xs H Q => ∃ p ys, xs = [.ref p] ∧ (SqL K H p ys ∨ SqT K H p ys) ∧ Q (.int ys.length) H
def F2 (a b : Str) (x y : V) : List (Str × V) := putF b y (putF a x [])
section
variable {a b m : Str} {x y z : V}
theorem F2_eq (h : ¬ a = b) : F2 a b x y = [(a, x), (b, y)] := by
  show (if a = b then [(a, y)] else (a, x) :: putF b y []) = _
  rw [if_neg h]
  rfl
theorem F2_a (h : ¬ a = b) : (F2 a b x y).lookup a = some x := by
  unfold F2
  rw [lookup_putF, if_neg h, lookup_putF, if_pos rfl]
theorem F2_b : (F2 a b x y).lookup b = some y := by
  unfold F2
  rw [lookup_putF, if_pos rfl]
theorem F2_no (h1 : ¬ m = b) (h2 : ¬ m = a) : (F2 a b x y).lookup m = none := by
  unfold F2
  rw [lookup_putF, if_neg h1, lookup_putF, if_neg h2]
  rfl
theorem F2_putb (h : ¬ a = b) : putF b z (F2 a b x y) = F2 a b x z := by
  rw [F2_eq h, F2_eq h]
  show (if a = b then [(a, z), (b, y)] else (a, x) :: (if b = b then [(b, z)] else (b, y) :: putF b z [])) = _
  rw [if_neg h, if_pos rfl]
theorem F2_puta (h : ¬ a = b) : putF a z (F2 a b x y) = F2 a b z y := by
  rw [F2_eq h, F2_eq h]
  show (if a = a then [(a, z), (b, y)] else _) = _
  rw [if_pos rfl]
theorem F2_len (h : ¬ a = b) : (F2 a b x y).length < 1000 := by
  rw [F2_eq h]
  show 2 < 1000
  decide
end
theorem br {b : Bool} {A B : Prop} (h1 : b = true → A) (h2 : b = false → B) : if b = true then A else B := by
  cases b with
  | true => exact (if_pos rfl).mpr (h1 rfl)
  | false => exact (if_neg (by decide)).mpr (h2 rfl)
theorem brD {p : Prop} [Decidable p] {A B : Prop} (h1 : p → A) (h2 : ¬ p → B) : if decide p = true then A else B :=
  br (fun h => h1 (of_decide_eq_true h)) (fun h => h2 (of_decide_eq_false h))
theorem brN {p : Prop} [Decidable p] {A B : Prop} (h1 : ¬ p → A) (h2 : p → B) : if (!decide p) = true then A else B :=
  br (fun h => h1 (by simpa using h)) (fun h => h2 (by simpa using h))
theorem int_inj {i j : Int} : (V.int i = V.int j) ↔ i = j := ⟨fun h => V.int.inj h, fun h => by rw [h]⟩
theorem str_inj {i j : Str} : (V.str i = V.str j) ↔ i = j := ⟨fun h => V.str.inj h, fun h => by rw [h]⟩

theorem sz (n : Nat) (h : n ≤ 16777216) : n ≤ sizeLine := by
  rw [sizeLine_eq]
  exact h
theorem szl (n : Nat) (h : n < 16777216) : n < sizeLine := by
  rw [sizeLine_eq]
  exact h
end SW

set_option Elab.async false
set_option linter.all false
set_option maxRecDepth 100000
namespace SW
open PySem L2
mutual
inductive Rp (K : PySem.W.Frag) (H : Hp) : V → PyData → Prop
  | non : Rp K H .non .none
  | bl (b : Bool) : Rp K H (.bl b) (.bool b)
  | int (i : Int) : Rp K H (.int i) (.int i)
  | str (x : Str) : Rp K H (.str x) (.str x)
  | lst {a : Addr} {xs : List V} {ds : List PyData} : SqL K H a xs → RpAll K H xs ds → Rp K H (.ref a) (.list ds)
  | tup {a : Addr} {xs : List V} {ds : List PyData} : SqT K H a xs → RpAll K H xs ds → Rp K H (.ref a) (.tuple ds)
  | dict0 {a : Addr} : H a = some (.dK []) → Rp K H (.ref a) (.dict [])
inductive RpAll (K : PySem.W.Frag) (H : Hp) : List V → List PyData → Prop
  | nil : RpAll K H [] []
  | cons {v : V} {vs : List V} {d : PyData} {ds : List PyData} : Rp K H v d → RpAll K H vs ds → RpAll K H (v :: vs) (d :: ds)
end
mutual
theorem Rp.le {K : PySem.W.Frag} {H H' : Hp} (e : Same H H') : ∀ {v : V} {d : PyData}, Rp K H v d → Rp K H' v d
  | _, _, .non => .non
  | _, _, .bl b => .bl b
  | _, _, .int i => .int i
  | _, _, .str x => .str x
  | _, _, .lst h1 h2 => .lst (sql_le e h1) (RpAll.le e h2)
  | _, _, .tup h1 h2 => .tup (sqt_le e h1) (RpAll.le e h2)
  | _, _, .dict0 h => .dict0 (e _ _ h)
theorem RpAll.le {K : PySem.W.Frag} {H H' : Hp} (e : Same H H') : ∀ {vs : List V} {ds : List PyData}, RpAll K H vs ds → RpAll K H' vs ds
  | _, _, .nil => .nil
  | _, _, .cons h1 h2 => .cons (Rp.le e h1) (RpAll.le e h2)
end
section
variable {K : PySem.W.Frag} {H : Hp}
theorem RpAll.length : ∀ {vs : List V} {ds : List PyData}, RpAll K H vs ds → vs.length = ds.length
  | _, _, .nil => rfl
  | _, _, .cons _ h => congrArg (· + 1) (RpAll.length h)
theorem RpAll.get : ∀ {vs : List V} {ds : List PyData} {i : Nat} {d : PyData}, RpAll K H vs ds → ds[i]? = some d → ∃ v, vs[i]? = some v ∧ Rp K H v d
  | _, _, _, _, .nil, h => by simp at h
  | _, _, 0, _, .cons h _, e => by
    simp at e
    subst e
    exact ⟨_, rfl, h⟩
  | _, _, i + 1, _, .cons _ h, e => by
    obtain ⟨v, h1, h2⟩ := RpAll.get (i := i) h (by simpa using e)
    exact ⟨v, by simpa using h1, h2⟩
theorem RpAll.getV : ∀ {vs : List V} {ds : List PyData} {i : Nat} {v : V}, RpAll K H vs ds → vs[i]? = some v → ∃ d, ds[i]? = some d ∧ Rp K H v d
  | _, _, _, _, .nil, h => by simp at h
  | _, _, 0, _, .cons h _, e => by
    simp at e
    subst e
    exact ⟨_, rfl, h⟩
  | _, _, i + 1, _, .cons _ h, e => by
    obtain ⟨v, h1, h2⟩ := RpAll.getV (i := i) h (by simpa using e)
    exact ⟨v, by simpa using h1, h2⟩
theorem RpAll.append : ∀ {vs : List V} {ds : List PyData} {us : List V} {es : List PyData}, RpAll K H vs ds → RpAll K H us es → RpAll K H (vs ++ us) (ds ++ es)
  | _, _, _, _, .nil, h => h
  | _, _, _, _, .cons a b, h => .cons a (RpAll.append b h)
theorem RpAll.take : ∀ {vs : List V} {ds : List PyData} (n : Nat), RpAll K H vs ds → RpAll K H (vs.take n) (ds.take n)
  | _, _, 0, _ => by simpa using RpAll.nil
  | _, _, _ + 1, .nil => .nil
  | _, _, n + 1, .cons a b => .cons a (RpAll.take n b)
theorem RpAll.drop : ∀ {vs : List V} {ds : List PyData} (n : Nat), RpAll K H vs ds → RpAll K H (vs.drop n) (ds.drop n)
  | _, _, 0, h => by simpa using h
  | _, _, _ + 1, .nil => .nil
  | _, _, n + 1, .cons _ b => RpAll.drop n b
theorem RpAll.map {α : Type} (f : α → V) (g : α → PyData) (h : ∀ x, Rp K H (f x) (g x)) : ∀ l : List α, RpAll K H (l.map f) (l.map g)
  | [] => .nil
  | x :: l => .cons (h x) (RpAll.map f g h l)
theorem RpAll.set {v : V} {d : PyData} (r : Rp K H v d) : ∀ {vs : List V} {ds : List PyData} (i : Nat), RpAll K H vs ds → RpAll K H (vs.set i v) (ds.set i d)
  | _, _, _, .nil => .nil
  | _, _, 0, .cons _ t => .cons r t
  | _, _, i + 1, .cons q t => .cons q (RpAll.set r i t)
end
mutual
theorem Rp.dp {K : PySem.W.Frag} {H : Hp} : ∀ {v : V} {d : PyData}, Rp K H v d → d.canLay0 = true → Dp K H v d
  | _, _, .non, _ => .non
  | _, _, .bl b, _ => .bl b
  | _, _, .int i, _ => .int i
  | _, _, .str x, _ => .str x
  | _, _, .lst h1 h2, e => .lst h1 (RpAll.dp h2 (by simpa [PyData.canLay0] using e))
  | _, _, .tup h1 h2, e => .tup h1 (RpAll.dp h2 (by simpa [PyData.canLay0] using e))
  | _, _, .dict0 h, e => by simp [PyData.canLay0] at e
theorem RpAll.dp {K : PySem.W.Frag} {H : Hp} : ∀ {vs : List V} {ds : List PyData}, RpAll K H vs ds → PyData.canLayAll0 ds = true → DpAll K H vs ds
  | _, _, .nil, _ => .nil
  | _, _, .cons h1 h2, e => by
    simp only [PyData.canLayAll0, Bool.and_eq_true] at e
    exact .cons (Rp.dp h1 e.1) (RpAll.dp h2 e.2)
end
def tyD : PyData → String
  | .none => "NoneType" | .bool _ => "bool" | .int _ => "int" | .str _ => "str" | .list _ => "list" | .tuple _ => "tuple" | .dict _ => "dict"
theorem sql_ty {K : PySem.W.Frag} {H : Hp} {a : Addr} {xs : List V} (h : SqL K H a xs) : TyX K H (.ref a) (.type "list") := by
  rcases h with (h | ⟨o, h⟩) | ⟨o, its, n, h, c, _⟩
  · exact .base (.lst h)
  · exact .base (.frz h)
  · exact .kList h c
theorem sqt_ty {K : PySem.W.Frag} {H : Hp} {a : Addr} {xs : List V} (h : SqT K H a xs) : TyX K H (.ref a) (.type "tuple") := by
  rcases h with (h | ⟨o, h⟩) | ⟨o, its, n, h, c, _⟩
  · exact .base (.tup h)
  · exact .fTuple h
  · exact .kTuple h c
theorem Rp.ty {K : PySem.W.Frag} {H : Hp} {v : V} {d : PyData} (h : Rp K H v d) : TyX K H v (.type (tyD d)) := by
  cases h with
  | non => exact .base .non
  | bl b => exact .base (.bl b)
  | int i => exact .base (.int i)
  | str x => exact .base (.str x)
  | lst h _ => exact sql_ty h
  | tup h _ => exact sqt_ty h
  | dict0 h => exact .base (.dK h)
def isBoolD : PyData → Bool | .bool _ => true | _ => false
def isIntD : PyData → Bool | .bool _ => true | .int _ => true | _ => false
def isStrD : PyData → Bool | .str _ => true | _ => false
def isTupD : PyData → Bool | .tuple _ => true | _ => false
def isLstD : PyData → Bool | .list _ => true | _ => false
theorem kit_bool (d : PyData) : kitB (tyD d) "bool" = some (isBoolD d) := by
  cases d <;> first | (show kitB "NoneType" "bool" = some false; decide +kernel) | (show kitB "bool" "bool" = some true; decide +kernel) | (show kitB "int" "bool" = some false; decide +kernel) | (show kitB "str" "bool" = some false; decide +kernel) | (show kitB "list" "bool" = some false; decide +kernel) | (show kitB "tuple" "bool" = some false; decide +kernel) | (show kitB "dict" "bool" = some false; decide +kernel)
theorem kit_int (d : PyData) : kitB (tyD d) "int" = some (isIntD d) := by
  cases d <;> first | (show kitB "NoneType" "int" = some false; decide +kernel) | (show kitB "bool" "int" = some true; decide +kernel) | (show kitB "int" "int" = some true; decide +kernel) | (show kitB "str" "int" = some false; decide +kernel) | (show kitB "list" "int" = some false; decide +kernel) | (show kitB "tuple" "int" = some false; decide +kernel) | (show kitB "dict" "int" = some false; decide +kernel)
theorem kit_str (d : PyData) : kitB (tyD d) "str" = some (isStrD d) := by
  cases d <;> first | (show kitB "NoneType" "str" = some false; decide +kernel) | (show kitB "bool" "str" = some false; decide +kernel) | (show kitB "int" "str" = some false; decide +kernel) | (show kitB "str" "str" = some true; decide +kernel) | (show kitB "list" "str" = some false; decide +kernel) | (show kitB "tuple" "str" = some false; decide +kernel) | (show kitB "dict" "str" = some false; decide +kernel)
theorem kit_tup (d : PyData) : kitB (tyD d) "tuple" = some (isTupD d) := by
  cases d <;> first | (show kitB "NoneType" "tuple" = some false; decide +kernel) | (show kitB "bool" "tuple" = some false; decide +kernel) | (show kitB "int" "tuple" = some false; decide +kernel) | (show kitB "str" "tuple" = some false; decide +kernel) | (show kitB "list" "tuple" = some false; decide +kernel) | (show kitB "tuple" "tuple" = some true; decide +kernel) | (show kitB "dict" "tuple" = some false; decide +kernel)
theorem kit_lst (d : PyData) : kitB (tyD d) "list" = some (isLstD d) := by
  cases d <;> first | (show kitB "NoneType" "list" = some false; decide +kernel) | (show kitB "bool" "list" = some false; decide +kernel) | (show kitB "int" "list" = some false; decide +kernel) | (show kitB "str" "list" = some false; decide +kernel) | (show kitB "list" "list" = some true; decide +kernel) | (show kitB "tuple" "list" = some false; decide +kernel) | (show kitB "dict" "list" = some false; decide +kernel)
theorem kitAny_2 {K : PySem.W.Frag} {d : PyData} {A B : String} {x y : Bool} (h1 : kitB (tyD d) A = some x) (h2 : kitB (tyD d) B = some y) : PySem.W.kitAny K (.type (tyD d)) [.type A, .type B] = some (x || y) :=
  kitAny_cons (kit_ty h1) (fun hx => by
    subst hx
    exact kitAny_cons (kit_ty h2) (fun hy => by subst hy; exact kitAny_nil) (fun hy => by subst hy; rfl)) (fun hx => by subst hx; rfl)
theorem isi {K : PySem.W.Frag} {H : Hp} {v : V} {d : PyData} {T : String} {b : Bool} {Q : VK} (h : Rp K H v d) (e : kitB (tyD d) T = some b) (q : Q (.bl b) H) : rIsi K [v, .ty T] H Q :=
  ⟨v, .ty T, _, _, b, rfl, .ty T, h.ty, kit_ty e, q⟩

noncomputable def sameD (d e : PyData) : Bool := @decide (d = e) (Classical.propDecidable _)
theorem sameD_iff {d e : PyData} : sameD d e = true ↔ d = e := by
  unfold sameD
  exact @decide_eq_true_iff _ (Classical.propDecidable _)
theorem sameD_refl (d : PyData) : sameD d d = true := sameD_iff.mpr rfl
theorem sameD_ne {d e : PyData} (h : d ≠ e) : sameD d e = false := by
  cases q : sameD d e with
  | true => exact absurd (sameD_iff.mp q) h
  | false => rfl
theorem sameD_eq {d e : PyData} {b : Bool} (h : b = true ↔ d = e) : sameD d e = b := by
  rw [Bool.eq_iff_iff, sameD_iff, h]
mutual
def fit : PyData → Bool
  | .dict _ => false
  | .list xs => decide (xs.length ≤ 16777216) && fitAll xs
  | .tuple xs => decide (xs.length ≤ 16777216) && fitAll xs
  | _ => true
def fitAll : List PyData → Bool
  | [] => true
  | x :: xs => fit x && fitAll xs
end
mutual
def dep : PyData → Nat
  | .list xs => depAll xs + 1
  | .tuple xs => depAll xs + 1
  | _ => 0
def depAll : List PyData → Nat
  | [] => 0
  | x :: xs => max (dep x) (depAll xs)
end
theorem fitAll_get : ∀ {ds : List PyData} {i : Nat} {d : PyData}, fitAll ds = true → ds[i]? = some d → fit d = true
  | [], _, _, _, h => by simp at h
  | x :: xs, 0, d, h, e => by
    simp only [fitAll, Bool.and_eq_true] at h
    simp at e
    rw [← e]
    exact h.1
  | x :: xs, i + 1, d, h, e => by
    simp only [fitAll, Bool.and_eq_true] at h
    exact fitAll_get (i := i) h.2 (by simpa using e)
theorem fitAll_of : ∀ {ds : List PyData}, (∀ d ∈ ds, fit d = true) → fitAll ds = true
  | [], _ => rfl
  | x :: xs, h => by
    simp only [fitAll, Bool.and_eq_true]
    exact ⟨h x (by simp), fitAll_of fun d hd => h d (by simp [hd])⟩
theorem depAll_le : ∀ {ds : List PyData} {n : Nat}, (∀ d ∈ ds, dep d ≤ n) → depAll ds ≤ n
  | [], n, _ => Nat.zero_le n
  | x :: xs, n, h => by
    have h1 := h x (by simp)
    have h2 := depAll_le (ds := xs) (n := n) fun d hd => h d (by simp [hd])
    simp only [depAll]
    omega
theorem depAll_get : ∀ {ds : List PyData} {i : Nat} {d : PyData}, ds[i]? = some d → dep d ≤ depAll ds
  | [], _, _, h => by simp at h
  | x :: xs, 0, d, e => by
    simp at e
    rw [← e]
    simp only [depAll]
    omega
  | x :: xs, i + 1, d, e => by
    have := depAll_get (i := i) (ds := xs) (d := d) (by simpa using e)
    simp only [depAll]
    omega
theorem pre_eq {α : Type} : ∀ {xs ys : List α}, xs.length = ys.length → (∀ j, j < ys.length → xs[j]? = ys[j]?) → xs = ys := by
  intro xs ys hl h
  apply List.ext_getElem? 
  intro j
  by_cases hj : j < ys.length
  · exact h j hj
  · rw [List.getElem?_eq_none (by omega), List.getElem?_eq_none (by omega)]
end SW
namespace SW
open PySem L2
structure Acc (K : PySem.W.Frag) (O : List Addr) (D : Addr) (ds : List PyData) (acc : List V) (H : Hp) : Prop where
  own : D ∈ O
  is : H D = some (.lst acc)
  it : RpAll K (wo H O) acc ds
theorem Acc.le {K : PySem.W.Frag} {O : List Addr} {D : Addr} {ds : List PyData} {acc : List V} {H H' : Hp} (h : Acc K O D ds acc H) (s : Same H H') : Acc K O D ds acc H' :=
  ⟨h.own, s _ _ h.is, h.it.le (Same.wo s)⟩
theorem Acc.push {K : PySem.W.Frag} {O : List Addr} {D : Addr} {ds : List PyData} {acc : List V} {H : Hp} {v : V} {d : PyData} (h : Acc K O D ds acc H) (r : Rp K (wo H O) v d) : Acc K O D (ds ++ [d]) (acc ++ [v]) (upd H D (.lst (acc ++ [v]))) :=
  ⟨h.own, upd_same, by rw [wo_upd_in h.own]; exact h.it.append (.cons r .nil)⟩
theorem Acc.new {K : PySem.W.Frag} {O : List Addr} {D : Addr} {H : Hp} (h : D ∈ O) : Acc K O D [] [] (upd H D (.lst [])) := ⟨h, upd_same, .nil⟩
theorem Acc.len {K : PySem.W.Frag} {O : List Addr} {D : Addr} {ds : List PyData} {acc : List V} {H : Hp} (h : Acc K O D ds acc H) : acc.length = ds.length := h.it.length
theorem Acc.rp {K : PySem.W.Frag} {O : List Addr} {D : Addr} {ds : List PyData} {acc : List V} {H : Hp} (h : Acc K O D ds acc H) : Rp K H (.ref D) (.list ds) := .lst (SqL.of h.is) (h.it.le (wo_le _ _))
theorem Acc.rpI {K : PySem.W.Frag} {O : List Addr} {D : Addr} {acc : List V} {H : Hp} {v : V} : ∀ {ds : List PyData}, Acc K O D ds acc H → Same H H := fun _ => Same.refl _
theorem rp_newT {K : PySem.W.Frag} {O : List Addr} {H : Hp} {t : Addr} {xs : List V} {ds : List PyData} (ht : H t = none) (n : t ∉ O) (h : RpAll K (wo H O) xs ds) : Rp K (wo (upd H t (.tup xs)) O) (.ref t) (.tuple ds) :=
  .tup (SqT.of (by rw [wo_out n, upd_same])) (h.le (Same.wo (same_upd ht)))
theorem rp_newL {K : PySem.W.Frag} {O : List Addr} {H : Hp} {t : Addr} {xs : List V} {ds : List PyData} (ht : H t = none) (n : t ∉ O) (h : RpAll K (wo H O) xs ds) : Rp K (wo (upd H t (.lst xs)) O) (.ref t) (.list ds) :=
  .lst (SqL.of (by rw [wo_out n, upd_same])) (h.le (Same.wo (same_upd ht)))
theorem not_own {H : Hp} {O : List Addr} {t : Addr} (ht : H t = none) (h : ∀ a ∈ O, H a ≠ none) : t ∉ O := fun z => h t z ht
end SW
namespace SW
open PySem L2
theorem eqvAll_ints : ∀ a b : List Int, PyData.eqvAll (a.map .int) (b.map .int) = decide (a = b)
  | [], [] => by simp [PyData.eqvAll]
  | [], _ :: _ => by simp [PyData.eqvAll]
  | _ :: _, [] => by simp [PyData.eqvAll]
  | x :: a, y :: b => by
    simp only [List.map_cons, PyData.eqvAll, eqvAll_ints a b, PyData.eqv]
    by_cases h1 : x = y
    · subst h1
      simp
    · simp [h1]
theorem eqv_ints (a b : List Int) : PyData.eqv (.list (a.map .int)) (.list (b.map .int)) = decide (a = b) := by
  simp only [PyData.eqv]
  exact eqvAll_ints a b
theorem lay_ints : ∀ a : List Int, PyData.canLayAll0 (a.map .int) = true
  | [] => rfl
  | x :: a => by simp [PyData.canLayAll0, PyData.canLay0, lay_ints a]
theorem depth_ints : ∀ a : List Int, PyData.depthAll (a.map .int) = 0
  | [] => rfl
  | x :: a => by simp [PyData.depthAll, PyData.depth, depth_ints a]
theorem shaped_ints (a : List Int) : SeqAt.shaped (.list (a.map .int)) = true := by
  show ((PyData.list (a.map .int)).canLay0 && decide ((PyData.list (a.map .int)).depth ≤ 64)) = true
  simp [PyData.canLay0, lay_ints, PyData.depth, depth_ints]
theorem rpAll_ints {K : PySem.W.Frag} {H : Hp} (a : List Int) : RpAll K H (a.map V.int) (a.map .int) := RpAll.map _ _ (fun i => .int i) a
theorem dp_ints {K : PySem.W.Frag} {H : Hp} {p : Addr} {a : List Int} (h : SqL K H p (a.map V.int)) : Dp K H (.ref p) (.list (a.map .int)) := .lst h (DpAll.map _ _ (fun i => .int i) a)
theorem rp_ints {K : PySem.W.Frag} {H : Hp} {p : Addr} {a : List Int} (h : SqL K H p (a.map V.int)) : Rp K H (.ref p) (.list (a.map .int)) := .lst h (rpAll_ints a)
theorem fit_ints {a : List Int} (h : a.length ≤ 16777216) : fit (.list (a.map .int)) = true := by
  simp only [fit, Bool.and_eq_true, decide_eq_true_eq, List.length_map]
  refine ⟨h, fitAll_of fun d hd => ?_⟩
  obtain ⟨i, _, rfl⟩ := List.mem_map.mp hd
  rfl
theorem dep_ints (a : List Int) : dep (.list (a.map .int)) ≤ 1 := by
  simp only [dep]
  have : depAll (a.map PyData.int) ≤ 0 := depAll_le fun d hd => by
    obtain ⟨i, _, rfl⟩ := List.mem_map.mp hd
    exact Nat.le_refl _
  omega
end SW

set_option Elab.async false
set_option linter.all false
set_option maxRecDepth 100000
namespace SW
open PySem L2
theorem len_S (l : List Nat) : (SX.S l).length = l.length := SX.S_len l
theorem cps_S (l : List Nat) : (SX.S l).cps.toList = l := rfl
theorem S_inj' {a b : List Nat} : SX.S a = SX.S b ↔ a = b := ⟨SX.S_inj, fun h => by rw [h]⟩
theorem six_nat {n a : Nat} (h : a ≤ n) (d : Nat) : HT.sIx n d (some (a : Int)) = a := by
  rw [HT.sIx_nat]
  omega
theorem cut_S {l : List Nat} {a b : Nat} (ha : a ≤ l.length) (hb : b ≤ l.length) : cutS (SX.S l) (some (a : Int)) (some (b : Int)) = SX.S ((l.drop a).take (b - a)) := by
  unfold cutS
  rw [len_S, six_nat ha, six_nat hb, cps_S]
theorem cut_to {l : List Nat} {b : Nat} (hb : b ≤ l.length) : cutS (SX.S l) none (some (b : Int)) = SX.S (l.take b) := by
  unfold cutS
  rw [len_S, six_nat hb, cps_S, HT.sIx_none]
  simp
theorem cut_from {l : List Nat} {a : Nat} (ha : a ≤ l.length) : cutS (SX.S l) (some (a : Int)) none = SX.S (l.drop a) := by
  unfold cutS
  rw [len_S, six_nat ha, cps_S, HT.sIx_none, List.take_of_length_le (by simp)]
theorem joinL_nil : ∀ ls : List (List Nat), TL.joinL [] ls = ls.flatten
  | [] => rfl
  | [x] => by simp [TL.joinL]
  | x :: y :: r => by
    have ih := joinL_nil (y :: r)
    simp only [TL.joinL, ih, List.flatten_cons, List.nil_append]
theorem join_flat (ls : List (List Nat)) : Txt.join (SX.S []) (ls.map SX.S) = SX.S ls.flatten := by
  rw [SX.join_S, joinL_nil]
theorem inV_str (c : List Nat) (ws : List (List Nat)) : inV (.str (SX.S c)) (ws.map fun w => .str (SX.S w)) = ws.any fun w => decide (w = c) := by
  unfold inV
  rw [List.any_map]
  congr 1
  funext w
  show (SX.S w == SX.S c) = _
  exact SX.S_beq_eq
theorem all_flat_str (ws : List (List Nat)) : (ws.map fun w => V.str (SX.S w)).all flatV = true := by
  rw [List.all_map]
  exact List.all_eq_true.mpr fun _ _ => rfl
theorem sum_len (ls : List (List Nat)) : ((ls.map SX.S).map (·.length)).sum = ls.flatten.length := by
  rw [SX.lens]
  exact List.length_flatten.symm
end SW

set_option Elab.async false
set_option linter.all false
set_option maxRecDepth 100000
set_option maxHeartbeats 4000000
namespace SW
open PySem L2
def top (i : Nat) : Stmt := PySem.Challenge.pw_shapewhole_k10_files_keep_a_beginning.main.body.getD i (.Pass ⟨0, 0, 0, 0⟩)
abbrev s_law_mix : Stmt := top 4
theorem sc_law_mix : FnScope ["cell", "k", "value"] ["cell", "k"] (defScope s_law_mix) := ⟨rfl, rfl, rfl, by decide +kernel, rfl, by decide +kernel, by decide +kernel⟩
abbrev s_law_draws : Stmt := top 5
theorem sc_law_draws : FnScope ["script", "draws", "k", "cell", "place"] ["script"] (defScope s_law_draws) := ⟨rfl, rfl, rfl, by decide +kernel, rfl, by decide +kernel, by decide +kernel⟩
abbrev s_law_at : Stmt := top 6
theorem sc_law_at : FnScope ["draws", "index"] ["draws", "index"] (defScope s_law_at) := ⟨rfl, rfl, rfl, by decide +kernel, rfl, by decide +kernel, by decide +kernel⟩
abbrev s_law_next : Stmt := top 9
theorem sc_law_next : FnScope ["state", "limit"] ["state", "limit"] (defScope s_law_next) := ⟨rfl, rfl, rfl, by decide +kernel, rfl, by decide +kernel, by decide +kernel⟩
abbrev s_law_is_integer : Stmt := top 7
theorem sc_law_is_integer : FnScope ["actual"] ["actual"] (defScope s_law_is_integer) := ⟨rfl, rfl, rfl, by decide +kernel, rfl, by decide +kernel, by decide +kernel⟩
abbrev s_law_same : Stmt := top 8
theorem sc_law_same : FnScope ["actual", "expected", "k"] ["actual", "expected"] (defScope s_law_same) := ⟨rfl, rfl, rfl, by decide +kernel, rfl, by decide +kernel, by decide +kernel⟩
abbrev s_applied : Stmt := top 1
theorem sc_applied : FnScope ["data", "steps", "result", "name", "number"] ["data", "steps"] (defScope s_applied) := ⟨rfl, rfl, rfl, by decide +kernel, rfl, by decide +kernel, by decide +kernel⟩
abbrev s_law_after : Stmt := top 10
theorem sc_law_after : FnScope ["data", "steps", "kind", "number"] ["data", "steps"] (defScope s_law_after) := ⟨rfl, rfl, rfl, by decide +kernel, rfl, by decide +kernel, by decide +kernel⟩
abbrev s_File___init__ : Stmt := inClass (top 2) 0
theorem sc_File___init__ : FnScope ["self"] ["self"] (defScope s_File___init__) := ⟨rfl, rfl, rfl, by decide +kernel, rfl, by decide +kernel, by decide +kernel⟩
abbrev s_File_write : Stmt := inClass (top 2) 1
theorem sc_File_write : FnScope ["self", "data", "steps", "count", "byte"] ["self", "data", "steps"] (defScope s_File_write) := ⟨rfl, rfl, rfl, by decide +kernel, rfl, by decide +kernel, by decide +kernel⟩
abbrev s_File_shorten : Stmt := inClass (top 2) 2
theorem sc_File_shorten : FnScope ["self", "size", "steps"] ["self", "size", "steps"] (defScope s_File_shorten) := ⟨rfl, rfl, rfl, by decide +kernel, rfl, by decide +kernel, by decide +kernel⟩
abbrev s_File_flush : Stmt := inClass (top 2) 3
theorem sc_File_flush : FnScope ["self", "steps"] ["self", "steps"] (defScope s_File_flush) := ⟨rfl, rfl, rfl, by decide +kernel, rfl, by decide +kernel, by decide +kernel⟩
abbrev s_File_content : Stmt := inClass (top 2) 4
theorem sc_File_content : FnScope ["self"] ["self"] (defScope s_File_content) := ⟨rfl, rfl, rfl, by decide +kernel, rfl, by decide +kernel, by decide +kernel⟩
abbrev s_File_pending : Stmt := inClass (top 2) 5
theorem sc_File_pending : FnScope ["self"] ["self"] (defScope s_File_pending) := ⟨rfl, rfl, rfl, by decide +kernel, rfl, by decide +kernel, by decide +kernel⟩
abbrev s_File_lose : Stmt := inClass (top 2) 6
theorem sc_File_lose : FnScope ["self", "steps"] ["self", "steps"] (defScope s_File_lose) := ⟨rfl, rfl, rfl, by decide +kernel, rfl, by decide +kernel, by decide +kernel⟩
abbrev s_law_deed : Stmt := top 11
theorem sc_law_deed : FnScope ["state", "file", "lasting", "steps", "pick", "limit", "data", "count", "passed", "done", "size", "k", "byte"] ["state", "file", "lasting", "steps"] (defScope s_law_deed) := ⟨rfl, rfl, rfl, by decide +kernel, rfl, by decide +kernel, by decide +kernel⟩
abbrev s_law : Stmt := top 12
theorem sc_law : FnScope ["script", "state", "file", "lasting", "steps", "other", "still", "k", "right"] ["script"] (defScope s_law) := ⟨rfl, rfl, rfl, by decide +kernel, rfl, by decide +kernel, by decide +kernel⟩
structure Txt (K : PySem.W.Frag) (mg : Str → Option Value) : Prop where
  b_bool : mg "bool" = none
  b_int : mg "int" = none
  b_isinstance : mg "isinstance" = none
  b_len : mg "len" = none
  b_list : mg "list" = none
  b_min : mg "min" = none
  b_range : mg "range" = none
  b_str : mg "str" = none
  b_tuple : mg "tuple" = none
def CZ : Int := 9973
def InR (ds : List Int) : Prop := (∀ d ∈ ds, 0 ≤ d ∧ d < 9973) ∧ ds.length ≤ 3780
def spMix : Sp := fun vs H Q _ => ∃ c k : Int, vs = [.int c, .int k] ∧ ∀ r : Int, 0 ≤ r → r < 9973 → Q (.int r) H
def spDraws (K : PySem.W.Frag) : Sp := fun vs H Q _ => ∃ (a : Addr) (ns : List Int), vs = [.ref a] ∧ SqL K H a (ns.map V.int) ∧ ns.length ≤ 63 ∧ ∀ (p : Addr) (H' : Hp) (ds : List Int), H p = none → Same H H' → H' p = some (.lst (ds.map V.int)) → InR ds → Q (.ref p) H'
def spAt (K : PySem.W.Frag) : Sp := fun vs H Q _ => ∃ (a : Addr) (ds : List Int) (i : Int), vs = [.ref a, .int i] ∧ SqL K H a (ds.map V.int) ∧ InR ds ∧ 0 ≤ i ∧ ∀ r : Int, 0 ≤ r → r < 9973 → Q (.int r) H
section
variable {P : Program} {w : World} {K : PySem.W.Frag} {mg : Str → Option Value} {base : Heap}
theorem pz {a : Int} (h : 0 < a) : (fun (_ j : Int) => 0 < j) a a := h
theorem ok_law_mix {f : Addr} {fd : FuncData} (F : Fun K "_law_mix" "_law_mix" s_law_mix f fd) (T : Txt K mg) : FnOk P w K mg base CX0 1 f fd ["cell", "k"] spMix := by
  refine F.ok sc_law_mix (fun vs H Q E h => ?_) (fun cdv A outer s H vs Q E hr h => ?_)
  · obtain ⟨_, _, rfl, _⟩ := h
    rfl
  obtain ⟨c, k, rfl, q⟩ := h
  refine ⟨_, (pss_cons (ps_set (i := 2) sc_law_mix.nd rfl (Or.inl rfl) (pe_op op_mod (pe_callTy call_int1 (by rfl) T.b_int bt_int (pa_cons (pe_op op_add (pe_op op_add (pe_op op_mul (pe_callTy call_int1 (by rfl) T.b_int bt_int (pa_cons (pv 0) pa_nil)) pe_int) (pe_op op_mul (pv 1) pe_int)) pe_int) pa_nil)) pe_int))
  (pss_cons (ps_set (i := 2) sc_law_mix.nd rfl (Or.inl rfl) (pe_op op_mod (pe_callTy call_int1 (by rfl) T.b_int bt_int (pa_cons (pe_op op_add (pe_op op_add (pe_op op_mul (pv 2) (pv 2)) (pe_op op_mul (pv 1) pe_int)) pe_int) pa_nil)) pe_int))
  (pss_one (ps_ret (pe_op op_mod (pe_op op_fdiv (pv 2) pe_int) pe_int))))), ?_⟩
  refine ⟨_, rfl, .inl ⟨_, rfl, _, _, rfl, rfl, .inr ⟨by decide, by decide⟩, _, rfl, _, _, rfl, rfl, .inr ⟨by decide, by decide⟩, _, _, rfl, rfl, _, _, rfl, rfl, .inl ⟨_, rfl, _, _, rfl, rfl, (by show (0 : Int) < 2147483647; decide), ?_⟩⟩⟩
  generalize hv : (c * 48271 + k * 69621 + 12345) % 2147483647 = v
  have v0 : 0 ≤ v := by rw [← hv]; exact Int.emod_nonneg _ (by decide)
  have v1 : v < 2147483647 := by rw [← hv]; exact Int.emod_lt_of_pos _ (by decide)
  refine ⟨_, rfl, _, rfl, _, _, rfl, rfl, .inl ⟨by omega, by omega⟩, _, rfl, _, _, rfl, rfl, .inr ⟨by decide, by decide⟩, _, _, rfl, rfl, _, _, rfl, rfl, .inl ⟨_, rfl, _, _, rfl, rfl, (by show (0 : Int) < 2147483399; decide), ?_⟩⟩
  refine ⟨_, rfl, _, _, rfl, rfl, ⟨by decide, by decide⟩, _, _, rfl, rfl, (by show (0 : Int) < 9973; decide), ?_⟩
  exact q _ (Int.emod_nonneg _ (by decide)) (Int.emod_lt_of_pos _ (by decide))
theorem ok_law_draws {f : Addr} {fd : FuncData} (F : Fun K "_law_draws" "_law_draws" s_law_draws f fd) (T : Txt K mg) (G_law_mix : GF P w K mg base CX0 "_law_mix" 1 ["cell", "k"] spMix) : FnOk P w K mg base CX0 2 f fd ["script"] (spDraws K) := by
  refine F.ok sc_law_draws (fun vs H Q E h => ?_) (fun cdv A outer s H vs Q E hr h => ?_)
  · obtain ⟨_, _, rfl, _⟩ := h
    rfl
  obtain ⟨a, ns, rfl, hA, hl, q⟩ := h
  refine ⟨_, (pss_cons (ps_set (i := 1) sc_law_draws.nd rfl (Or.inl rfl) (pe_lst pa_nil))
  (pss_cons (ps_for PassesOwn.never rfl (pi_range1 rfl T.b_range (pa_cons (pe_callB (call_min2 rfl) (by rfl) T.b_min bt_min (pa_cons pe_int (pa_cons (pe_callB call_len_seq (by rfl) T.b_len bt_len (pa_cons (pv 0) pa_nil)) pa_nil))) pa_nil)) (pg_name (i := 2) sc_law_draws.nd rfl (Or.inl rfl)) (pss_cons (ps_set (i := 3) sc_law_draws.nd rfl (Or.inl rfl) (pe_callTy call_int1 (by rfl) T.b_int bt_int (pa_cons (pe_ix ix_list (pv 0) (pv 2) (fun _ _ => rfl)) pa_nil)))
  (pss_one (ps_if (pt_cmpR op_lt (pv 3) (pe_op op_pow pe_int pe_int) (nomark _)) (pss_one (ps_expr (pe_bm PySem.F.plainAttrs_list PySem.F.slot_list_append PySem.F.type_list_append mt_append (pv 1) (pa_cons (pe_cg G_law_mix hr rfl (pa_cons (pv 3) (pa_cons (pv 2) pa_nil))) pa_nil)))) (pss_one (ps_for PassesOwn.never rfl (pi_range1 rfl T.b_range (pa_cons pe_int pa_nil)) (pg_name (i := 4) sc_law_draws.nd rfl (Or.inl rfl)) (pss_one (ps_if (pt_cmpR op_gt (pv 3) pe_int (nomark _)) (pss_cons (ps_expr (pe_bm PySem.F.plainAttrs_list PySem.F.slot_list_append PySem.F.type_list_append mt_append (pv 1) (pa_cons (pe_op op_mod (pe_callTy call_int1 (by rfl) T.b_int bt_int (pa_cons (pv 3) pa_nil)) pe_int) pa_nil)))
  (pss_one (ps_set (i := 3) sc_law_draws.nd rfl (Or.inl rfl) (pe_op op_fdiv (pv 3) pe_int)))) pss_nil))))))))
  (pss_one (ps_ret (pv 1))))), ?_⟩
  refine ⟨Nat.zero_le _, fun p hp => ?_⟩
  have eln : (ns.map V.int).length = ns.length := List.length_map _
  refine ⟨_, rfl, a, _, rfl, .inl (sql_le (same_upd hp) hA), 63, _, rfl, ?_⟩
  have emin : (if (((ns.map V.int).length : Nat) : Int) < 63 then (((ns.map V.int).length : Nat) : Int) else 63) = (ns.length : Int) := by
    rw [eln]
    split <;> omega
  rw [emin]
  refine ⟨_, rfl, by omega, by omega, for_range (fun i σ H' => ∃ (ds : List Int) (z1 z2 z3 : Option V), σ = [some (.ref a), some (.ref p), z1, z2, z3] ∧ Same H H' ∧ H' p = some (.lst (ds.map V.int)) ∧ (∀ d ∈ ds, 0 ≤ d ∧ d < 9973) ∧ ds.length ≤ 60 * i) ⟨[], none, none, none, rfl, same_upd hp, upd_same, by simp, by simp⟩ ?_ ?_⟩
  · rintro i σ H1 hi ⟨ds, z1, z2, z3, rfl, s1, h1, hd, hdl⟩
    have hi' : i < ns.length := by omega
    have hc : (ns.map V.int)[i]? = some (.int ns[i]) := by rw [List.getElem?_map, List.getElem?_eq_getElem hi']; rfl
    have ix : atI (ns.map V.int) (0 + (i : Int)) = some (.int ns[i]) := by
      rw [Int.zero_add]
      exact atI_nat hc
    refine ⟨_, rfl, _, rfl, a, _, _, _, rfl, rfl, s1.seq hA, ix, .inl ⟨_, rfl, ?_⟩⟩
    refine ⟨_, rfl, _, _, rfl, rfl, ⟨by decide, by decide, by decide⟩, _, _, rfl, rfl, _, rfl, brD (fun e => ?_) (fun e => ?_)⟩
    · refine ⟨_, rfl, .inl ⟨rfl, _, SqL.of h1⟩, _, rfl, _, rfl, _, _, rfl, fun r r0 r1 => ⟨p, _, _, rfl, rfl, h1, szl _ (by rw [List.length_map]; omega), ?_⟩⟩
      refine ⟨ds ++ [r], _, _, z3, rfl, fun b o z => ?_, by rw [upd_same]; simp, ?_, by simp; omega⟩
      · have hb : b ≠ p := ne_of_none z hp
        rw [upd_ne hb]
        exact s1 _ _ z
      · intro d hd'
        rcases List.mem_append.mp hd' with hd' | hd'
        · exact hd d hd'
        · simp at hd'
          rw [hd']
          exact ⟨r0, r1⟩
    · -- the places of a great cell
      have e60 : ((60 : Int).toNat) = 60 := rfl
      refine ⟨60, rfl, by decide, by decide, for_range (fun j σ H' => ∃ (ds2 : List Int) (cell : Int) (z2 z3 : Option V), σ = [some (.ref a), some (.ref p), some (.int (0 + (i : Int))), some (.int cell), z3] ∧ Same H H' ∧ H' p = some (.lst (ds2.map V.int)) ∧ (∀ d ∈ ds2, 0 ≤ d ∧ d < 9973) ∧ ds2.length ≤ ds.length + j) ⟨ds, ns[i], none, z3, rfl, s1, h1, hd, by omega⟩ ?_ ?_⟩
      · rintro j σ H2 hj ⟨ds2, cell, z2, z3, rfl, s2, h2, hd2, hdl2⟩
        refine ⟨_, rfl, _, _, rfl, rfl, _, rfl, brD (fun e1 => ?_) (fun e1 => ?_)⟩
        · refine ⟨_, rfl, .inl ⟨rfl, _, SqL.of h2⟩, _, rfl, .inl ⟨_, rfl, _, _, rfl, rfl, (by show (0 : Int) < 9973; decide), p, _, _, rfl, rfl, h2, szl _ (by rw [List.length_map]; omega), ?_⟩⟩
          refine ⟨_, rfl, _, _, rfl, rfl, ⟨by decide, by decide⟩, ?_⟩
          refine ⟨ds2 ++ [cell % 9973], cell / 9973, none, _, rfl, fun b o z => ?_, by rw [upd_same]; simp, ?_, by simp; omega⟩
          · have hb : b ≠ p := ne_of_none z hp
            rw [upd_ne hb]
            exact s2 _ _ z
          · intro d hd'
            rcases List.mem_append.mp hd' with hd' | hd'
            · exact hd2 d hd'
            · simp at hd'
              rw [hd']
              exact ⟨Int.emod_nonneg _ (by decide), Int.emod_lt_of_pos _ (by decide)⟩
        · exact ⟨ds2, cell, none, _, rfl, s2, h2, hd2, by omega⟩
      · rintro σ H2 ⟨ds2, cell, z2, z3, rfl, s2, h2, hd2, hdl2⟩
        exact ⟨ds2, _, _, _, rfl, s2, h2, hd2, by omega⟩
  · rintro σ H1 ⟨ds, z1, z2, z3, rfl, s1, h1, hd, hdl⟩
    exact ⟨_, rfl, q p H1 ds hp s1 h1 ⟨hd, by omega⟩⟩
theorem ok_law_at {f : Addr} {fd : FuncData} (F : Fun K "_law_at" "_law_at" s_law_at f fd) (T : Txt K mg) (G_law_mix : GF P w K mg base CX0 "_law_mix" 1 ["cell", "k"] spMix) : FnOk P w K mg base CX0 2 f fd ["draws", "index"] (spAt K) := by
  refine F.ok sc_law_at (fun vs H Q E h => ?_) (fun cdv A outer s H vs Q E hr h => ?_)
  · obtain ⟨_, _, _, rfl, _⟩ := h
    rfl
  obtain ⟨a, ds, i, rfl, hA, ⟨hR, hl⟩, h0, q⟩ := h
  refine ⟨_, (pss_cons (ps_if (pt_cmpR op_lt (pv 1) (pe_callB call_len_seq (by rfl) T.b_len bt_len (pa_cons (pv 0) pa_nil)) (nomark _)) (pss_one (ps_ret (pe_ix ix_list (pv 0) (pv 1) (fun _ _ => rfl)))) pss_nil)
  (pss_cons (ps_if (pt_cmpR op_eq (pe_callB call_len_seq (by rfl) T.b_len bt_len (pa_cons (pv 0) pa_nil)) pe_int (nomark _)) (pss_one (ps_ret (pe_cg G_law_mix hr rfl (pa_cons (pv 1) (pa_cons pe_int pa_nil))))) pss_nil)
  (pss_one (ps_ret (pe_cg G_law_mix hr rfl (pa_cons (pe_op op_add (pe_ix ix_list (pv 0) (pe_op op_mod (pe_callTy call_int1 (by rfl) T.b_int bt_int (pa_cons (pv 1) pa_nil)) (pe_callB call_len_seq (by rfl) T.b_len bt_len (pa_cons (pv 0) pa_nil))) (fun _ _ => rfl)) (pe_op op_mul (pv 1) pe_int)) (pa_cons (pv 1) pa_nil))))))), ?_⟩
  have eln : (ds.map V.int).length = ds.length := List.length_map _
  have at_ : ∀ j : Int, 0 ≤ j → j < ds.length → ∃ v, atI (ds.map V.int) j = some (.int v) ∧ 0 ≤ v ∧ v < 9973 := fun j j0 j1 => by
    have hj : j.toNat < ds.length := by omega
    refine ⟨ds[j.toNat], ?_, hR _ (List.getElem_mem hj)⟩
    have e : ((j.toNat : Nat) : Int) = j := by omega
    have g : atI (ds.map V.int) ((j.toNat : Nat) : Int) = some (.int ds[j.toNat]) := atI_nat (by rw [List.getElem?_map, List.getElem?_eq_getElem hj]; rfl)
    rw [e] at g
    exact g
  refine ⟨_, rfl, _, rfl, a, _, rfl, .inl hA, _, _, rfl, rfl, _, rfl, brD (fun e => ?_) (fun e => ?_)⟩
  · rw [eln] at e
    obtain ⟨v, hv, v0, v1⟩ := at_ i h0 e
    exact ⟨_, rfl, _, rfl, a, _, _, _, rfl, rfl, hA, hv, q v v0 v1⟩
  · refine ⟨_, rfl, a, _, rfl, .inl hA, rfl, _, rfl, brD (fun e1 => ?_) (fun e1 => ?_)⟩
    · exact ⟨_, rfl, _, _, rfl, q⟩
    · rw [int_inj, eln] at e1
      have hpos : (0 : Int) < ds.length := by omega
      obtain ⟨v, hv, v0, v1⟩ := at_ (i % ds.length) (Int.emod_nonneg _ (by omega)) (Int.emod_lt_of_pos _ hpos)
      refine ⟨_, rfl, _, rfl, .inl ⟨_, rfl, _, rfl, a, _, rfl, .inl hA, _, _, rfl, rfl, (by rw [eln]; exact hpos), ?_⟩⟩
      refine ⟨a, _, _, .int v, rfl, rfl, hA, by rw [eln]; exact hv, _, rfl, _, _, rfl, rfl, .inr ⟨by decide, by decide⟩, _, _, rfl, rfl, _, rfl, ?_⟩
      exact ⟨_, _, rfl, q⟩
def StA (K : PySem.W.Frag) (O : List Addr) (H : Hp) (st : Addr) : Prop := st ∈ O ∧ ∃ (d : Addr) (ds : List Int) (i : Int), H st = some (.lst [.ref d, .int i]) ∧ SqL K (wo H O) d (ds.map V.int) ∧ InR ds ∧ 0 ≤ i
section
variable {O : List Addr} {H H' : Hp} {st p : Addr} {o : HO}
theorem StA.to (h : StA K O H st) (e : H' st = H st) (u : Same (wo H O) (wo H' O)) : StA K O H' st := by
  obtain ⟨h0, d, ds, i, h1, h2, h3⟩ := h
  exact ⟨h0, d, ds, i, e.trans h1, sql_le u h2, h3⟩
theorem StA.is (h : StA K O H st) : ∃ xs, H st = some (.lst xs) := by
  obtain ⟨_, _, _, _, h1, _⟩ := h
  exact ⟨_, h1⟩
theorem StA.le (h : StA K O H st) (u : Same H H') : StA K O H' st := by
  obtain ⟨xs, hx⟩ := h.is
  exact h.to (by rw [u _ _ hx, hx]) (Same.wo u)
theorem StA.put (h : StA K O H st) (hp : p ∈ O) (n : p ≠ st) : StA K O (upd H p o) st :=
  h.to (upd_ne (Ne.symm n)) (by rw [wo_upd_in hp]; exact Same.refl _)
theorem StA.grow (h : StA K O H st) (hp : H p = none) : StA K (p :: O) (upd H p o) st := by
  obtain ⟨xs, hx⟩ := h.is
  obtain ⟨h0, d, ds, i, h1, h2, h3⟩ := h
  have n : st ≠ p := ne_of_none hx hp
  refine ⟨List.mem_cons_of_mem _ h0, d, ds, i, by rw [upd_ne n]; exact h1, ?_, h3⟩
  exact sql_le (wo_new hp) h2
theorem StA.shrink (h : StA K (p :: O) H st) (hs : st ∈ O) : StA K O H st := by
  obtain ⟨_, d, ds, i, h1, h2, h3⟩ := h
  exact ⟨hs, d, ds, i, h1, sql_le wo_cons_le h2, h3⟩
end
def spNextA (K : PySem.W.Frag) : Sp := fun vs H Q _ => ∃ (O : List Addr) (st : Addr) (lim : Int), vs = [.ref st, .int lim] ∧ 0 < lim ∧ StA K O H st ∧ ∀ (r : Int) (H' : Hp), 0 ≤ r → r < lim → r < 9973 → Up [st] H H' → StA K O H' st → Q (.int r) H'
theorem ok_law_nextA {f : Addr} {fd : FuncData} (F : Fun K "_law_next" "_law_next" s_law_next f fd) (T : Txt K mg) (G_law_at : GF P w K mg base CX0 "_law_at" 2 ["draws", "index"] (spAt K)) : FnOk P w K mg base CX0 3 f fd ["state", "limit"] (spNextA K) := by
  refine F.ok sc_law_next (fun vs H Q E h => ?_) (fun cdv A outer s H vs Q E hr h => ?_)
  · obtain ⟨_, _, _, rfl, _⟩ := h
    rfl
  obtain ⟨O, st, lim, rfl, l0, ⟨h0, d, ds, i, h1, h2, h3, h4⟩, q⟩ := h
  refine ⟨_, (pss_cons (ps_augS (pv 0) pe_int get_list pe_int ip_add set_list)
  (pss_one (ps_ret (pe_op op_mod (pe_cg G_law_at hr rfl (pa_cons (pe_ix ix_list (pv 0) pe_int (fun _ _ => rfl)) (pa_cons (pe_ix ix_list (pv 0) pe_int (fun _ _ => rfl)) pa_nil))) (pv 1))))), ?_⟩
  refine ⟨_, rfl, st, _, 1, _, rfl, rfl, SqL.of h1, rfl, by decide, _, _, rfl, rfl, st, _, 1, 1, rfl, rfl, h1, rfl, ?_⟩
  have g1 : (upd H st (.lst [.ref d, .int (i + 1)])) st = some (.lst [.ref d, .int (i + 1)]) := upd_same
  refine ⟨_, rfl, st, _, 0, _, rfl, rfl, SqL.of g1, rfl, _, rfl, st, _, 1, _, rfl, rfl, SqL.of g1, rfl, ?_⟩
  refine ⟨d, ds, i + 1, rfl, sql_le (wo_le _ O) (by rw [wo_upd_in h0]; exact h2), h3, by omega, fun r r0 r1 => ⟨_, rfl, _, _, rfl, rfl, l0, ?_⟩⟩
  have hle : r % lim ≤ r := by
    have hq := Int.ediv_nonneg r0 (Int.le_of_lt l0)
    have := Int.emod_add_mul_ediv r lim
    have hm : 0 ≤ lim * (r / lim) := Int.mul_nonneg (Int.le_of_lt l0) hq
    omega
  exact q _ _ (Int.emod_nonneg _ (by omega)) (Int.emod_lt_of_pos _ l0) (by omega) (Up.put (by simp)) ⟨h0, d, ds, i + 1, g1, by rw [wo_upd_in h0]; exact h2, h3, by omega⟩
end

def spSame (K : PySem.W.Frag) (n : Nat) : Sp := fun vs H Q _ => ∃ (va ve : V) (d e : PyData), vs = [va, ve] ∧ Rp K H va d ∧ Rp K H ve e ∧ fit e = true ∧ dep e < n ∧ ∀ H', Same H H' → Q (.bl (sameD d e)) H'
def spIsInt (K : PySem.W.Frag) : Sp := fun vs H Q _ => ∃ (v : V) (d : PyData), vs = [v] ∧ Rp K H v d ∧ Q (.bl (isIntD d && !isBoolD d)) H
section
variable {P : Program} {w : World} {K : PySem.W.Frag} {mg : Str → Option Value} {base : Heap}
theorem ok_law_is_integer {f : Addr} {fd : FuncData} (F : Fun K "_law_is_integer" "_law_is_integer" s_law_is_integer f fd) (T : Txt K mg) : FnOk P w K mg base CX0 1 f fd ["actual"] (spIsInt K) := by
  refine F.ok sc_law_is_integer (fun vs H Q E h => ?_) (fun cdv A outer s H vs Q E hr h => ?_)
  · obtain ⟨_, _, rfl, _⟩ := h
    rfl
  obtain ⟨v, d, rfl, r, k⟩ := h
  refine ⟨_, (pss_one (ps_ret (pe_and (pe_callB call_isi (by rfl) T.b_isinstance bt_isinstance (pa_cons (pv 0) (pa_cons (pe_bltn (v := .ty "int") (by rfl) T.b_int bt_int rfl) pa_nil))) (pe_one (pe_not (pe_callB call_isi (by rfl) T.b_isinstance bt_isinstance (pa_cons (pv 0) (pa_cons (pe_bltn (v := .ty "bool") (by rfl) T.b_bool bt_bool rfl) pa_nil)))))))), ?_⟩
  refine ⟨_, rfl, _, _, _, _, _, rfl, .ty _, (r).ty, kit_ty (kit_int _), _, rfl, br (fun e => ?_) (fun e => ?_)⟩
  · rw [e, Bool.true_and] at k
    exact ⟨_, rfl, _, _, _, _, _, rfl, .ty _, (r).ty, kit_ty (kit_bool _), _, rfl, k⟩
  · rw [e, Bool.false_and] at k
    exact k
def SameMid (K : PySem.W.Frag) (n : Nat) (va ve : V) (d e : PyData) (H : Hp) : L2.St → Hp → Prop := fun σ' H' => σ' = [some va, some ve, none] ∧ H' = H ∧
  ∃ (xs ys : List V) (ds es : List PyData) (pa pe : Addr), va = .ref pa ∧ ve = .ref pe ∧ RpAll K H xs ds ∧ RpAll K H ys es ∧ (SqL K H pa xs ∨ SqT K H pa xs) ∧ (SqL K H pe ys ∨ SqT K H pe ys) ∧ es.length ≤ 16777216 ∧ fitAll es = true ∧ depAll es < n ∧ (d = e ↔ ds = es)
theorem ok_law_same {f : Addr} {fd : FuncData} {n : Nat} (F : Fun K "_law_same" "_law_same" s_law_same f fd) (T : Txt K mg) (G_law_is_integer : GF P w K mg base CX0 "_law_is_integer" 1 ["actual"] (spIsInt K))
    (G_law_same : GF P w K mg base CX0 "_law_same" (n + 1) ["actual", "expected"] (spSame K n)) : FnOk P w K mg base CX0 (n + 2) f fd ["actual", "expected"] (spSame K (n + 1)) := by
  refine F.ok sc_law_same (fun vs H Q E h => ?_) (fun cdv A outer s H vs Q E hr h => ?_)
  · obtain ⟨_, _, _, _, rfl, _⟩ := h
    rfl
  obtain ⟨va, ve, d, e, rfl, ra, re, hn, hd, k⟩ := h
  refine ⟨_, (pss_cons (ps_if (pt_val (pe_callB call_isiT (by rfl) T.b_isinstance bt_isinstance (pa_cons (pv 1) (pa_cons (pe_tup (pa_cons (pe_bltn (v := .ty "list") (by rfl) T.b_list bt_list rfl) (pa_cons (pe_bltn (v := .ty "tuple") (by rfl) T.b_tuple bt_tuple rfl) pa_nil))) pa_nil)))) (Evl.pss_cut (ps_if (PW.pt (pw_or (pt_cmpR op_ne (pe_callB call_isi (by rfl) T.b_isinstance bt_isinstance (pa_cons (pv 1) (pa_cons (pe_bltn (v := .ty "list") (by rfl) T.b_list bt_list rfl) pa_nil))) (pe_callB call_isi (by rfl) T.b_isinstance bt_isinstance (pa_cons (pv 0) (pa_cons (pe_bltn (v := .ty "list") (by rfl) T.b_list bt_list rfl) pa_nil))) (nomark _)) (pw_or1 (pt_cmpR op_ne (pe_callB call_isi (by rfl) T.b_isinstance bt_isinstance (pa_cons (pv 1) (pa_cons (pe_bltn (v := .ty "tuple") (by rfl) T.b_tuple bt_tuple rfl) pa_nil))) (pe_callB call_isi (by rfl) T.b_isinstance bt_isinstance (pa_cons (pv 0) (pa_cons (pe_bltn (v := .ty "tuple") (by rfl) T.b_tuple bt_tuple rfl) pa_nil))) (nomark _))))) (pss_one (ps_ret pe_bl)) pss_nil)
  (pss_cons (ps_if (pt_cmpR op_ne (pe_callB call_len_seq (by rfl) T.b_len bt_len (pa_cons (pv 0) pa_nil)) (pe_callB call_len_seq (by rfl) T.b_len bt_len (pa_cons (pv 1) pa_nil)) (nomark _)) (pss_one (ps_ret pe_bl)) pss_nil)
  (pss_cons (ps_for PassesOwn.never rfl (pi_range1 rfl T.b_range (pa_cons (pe_callB call_len_seq (by rfl) T.b_len bt_len (pa_cons (pv 1) pa_nil)) pa_nil)) (pg_name (i := 2) sc_law_same.nd rfl (Or.inl rfl)) (pss_one (ps_if (pt_not (pt_val (pe_cg G_law_same hr rfl (pa_cons (pe_ix ix_seq (pv 0) (pv 2) (fun _ _ => rfl)) (pa_cons (pe_ix ix_seq (pv 1) (pv 2) (fun _ _ => rfl)) pa_nil))))) (pss_one (ps_ret pe_bl)) pss_nil)))
  (pss_one (ps_ret pe_bl))))) pss_nil)
  (pss_cons (ps_if (pt_cmp (pc_isN (pv 1))) (pss_one (ps_ret (pe_cmp (pc_isN (pv 0))))) pss_nil)
  (pss_cons (ps_if (pt_val (pe_callB call_isi (by rfl) T.b_isinstance bt_isinstance (pa_cons (pv 1) (pa_cons (pe_bltn (v := .ty "bool") (by rfl) T.b_bool bt_bool rfl) pa_nil)))) (pss_one (ps_ret (pe_and (pe_callB call_isi (by rfl) T.b_isinstance bt_isinstance (pa_cons (pv 0) (pa_cons (pe_bltn (v := .ty "bool") (by rfl) T.b_bool bt_bool rfl) pa_nil))) (pe_one (pe_cmpR op_eq (pv 0) (pv 1) (nomark _)))))) pss_nil)
  (pss_cons (ps_if (pt_val (pe_callB call_isi (by rfl) T.b_isinstance bt_isinstance (pa_cons (pv 1) (pa_cons (pe_bltn (v := .ty "int") (by rfl) T.b_int bt_int rfl) pa_nil)))) (pss_one (ps_ret (pe_and (pe_cg G_law_is_integer hr rfl (pa_cons (pv 0) pa_nil)) (pe_one (pe_cmpR op_eq (pv 0) (pv 1) (nomark _)))))) pss_nil)
  (pss_one (ps_ret (pe_and (pe_callB call_isi (by rfl) T.b_isinstance bt_isinstance (pa_cons (pv 0) (pa_cons (pe_bltn (v := .ty "str") (by rfl) T.b_str bt_str rfl) pa_nil))) (pe_one (pe_cmpR op_eq (pv 0) (pv 1) (nomark _)))))))))), ?_⟩
  have tail : ∀ (va ve : V) (d e : PyData) (H : Hp), (∀ (H' : Hp), Same H H' → Q (V.bl (sameD d e)) H') → ∀ σ' H', SameMid K n va ve d e H σ' H' → tSeq (tIfS (tTest (tOp rNe (tCB (rLn K) (tCons (tVar 0) tNil)) (tCB (rLn K) (tCons (tVar 1) tNil)))) (tRet (tC (.bl false))) tNext)
      (tSeq (tFor (iRng1 (tCons (tCB (rLn K) (tCons (tVar 1) tNil)) tNil)) (gName 2) (tIfS (tNot (tB (tCg (spSame K n) (tCons (tOp (rIx K) (tVar 0) (tVar 2)) (tCons (tOp (rIx K) (tVar 1) (tVar 2)) tNil))))) (tRet (tC (.bl false))) tNext)) (tRet (tC (.bl true)))) { nx := fun _ H' => Q .non H', rt := Q } σ' H' := by
    rintro va ve d e H k σ' H' ⟨rfl, rfl, xs, ys, ds, es, pa, pe, rfl, rfl, ga, ge, sa, se, hz, hn, hd, hde⟩
    have la := ga.length
    have le := ge.length
    refine ⟨_, rfl, pa, xs, rfl, sa, _, rfl, pe, ys, rfl, se, rfl, _, rfl, brN (fun e1 => ?_) (fun e1 => ?_)⟩
    · have h : d ≠ e := fun z => by
        have z1 := hde.mp z
        rw [int_inj] at e1
        rw [z1] at la
        omega
      have q := k H' (Same.refl _)
      rw [sameD_ne h] at q
      exact q
    rw [int_inj] at e1
    have l2 : ds.length = es.length := by omega
    refine ⟨_, rfl, pe, ys, rfl, se, _, rfl, by omega, by omega, for_range (fun i σ2 H2 => ∃ z, σ2 = [some (.ref pa), some (.ref pe), z] ∧ Same H' H2 ∧ ∀ j, j < i → ds[j]? = es[j]?) ⟨none, rfl, Same.refl _, fun j hj => absurd hj (Nat.not_lt_zero j)⟩ ?_ ?_⟩
    · rintro i σ2 H2 hi ⟨z, rfl, sm, hj⟩
      have hi1 : i < es.length := by omega
      have hi2 : i < ds.length := by omega
      have he : es[i]? = some es[i] := List.getElem?_eq_getElem hi1
      have hda : ds[i]? = some ds[i] := List.getElem?_eq_getElem hi2
      obtain ⟨ve, v1, v2⟩ := ge.get he
      obtain ⟨va, w1, w2⟩ := ga.get hda
      have ix : ∀ {p : Addr} {us : List V} {u : V} {Q' : VK}, (SqL K H' p us ∨ SqT K H' p us) → us[i]? = some u → Q' u H2 → rIx K (.ref p) (.int (0 + (i : Int))) H2 Q' := fun {p us u Q'} hp hu q => by
        have ea : atI us (0 + (i : Int)) = some u := by
          rw [Int.zero_add]
          exact atI_nat hu
        rcases hp with hp | hp
        · exact .inl ⟨p, us, _, u, rfl, rfl, sql_le sm hp, ea, q⟩
        · exact .inr (.inl ⟨p, us, _, u, rfl, rfl, sqt_le sm hp, ea, q⟩)
      refine ⟨_, rfl, _, rfl, ix sa w1 ⟨_, rfl, _, rfl, ix se v1 ?_⟩⟩
      refine ⟨va, ve, ds[i], es[i], rfl, w2.le sm, v2.le sm, fitAll_get hn he, Nat.lt_of_le_of_lt (depAll_get he) hd, fun H3 s3 => ⟨_, rfl, ?_⟩⟩
      refine br (fun e2 => ?_) (fun e2 => ?_)
      · have h : d ≠ e := fun z => by
          have z1 := hde.mp z
          subst z1
          rw [sameD_refl] at e2
          cases e2
        have q := k H3 (sm.trans s3)
        rw [sameD_ne h] at q
        exact q
      · refine ⟨_, rfl, sm.trans s3, fun j hj2 => ?_⟩
        by_cases ej : j = i
        · subst ej
          have e3 : sameD ds[j] es[j] = true := by simpa using e2
          rw [hda, he, sameD_iff.mp e3]
        · exact hj j (by omega)
    · rintro σ2 H2 ⟨z, rfl, sm, hj⟩
      have h : d = e := hde.mpr (pre_eq l2 fun j hj2 => hj j (by omega))
      have q := k H2 sm
      rw [h, sameD_refl] at q
      exact q
  have fin : ∀ {H1 : Hp}, (∃ (xs ys : List V) (ds es : List PyData) (pa pe : Addr), va = .ref pa ∧ ve = .ref pe ∧ RpAll K H1 xs ds ∧ RpAll K H1 ys es ∧ (SqL K H1 pa xs ∨ SqT K H1 pa xs) ∧ (SqL K H1 pe ys ∨ SqT K H1 pe ys) ∧ es.length ≤ 16777216 ∧ fitAll es = true ∧ depAll es < n ∧ (d = e ↔ ds = es)) → SameMid K n va ve d e H1 [some va, some ve, none] H1 := fun z => ⟨rfl, rfl, z⟩
  refine ⟨_, rfl, sz 2 (by decide), fun t ht => ?_⟩
  have s1 := same_upd (o := .tup [.ty "list", .ty "tuple"]) ht
  generalize hH1 : upd H t (.tup [.ty "list", .ty "tuple"]) = H1 at *
  have hT : H1 t = some (.tup [.ty "list", .ty "tuple"]) := by rw [← hH1]; exact upd_same
  replace ra := ra.le s1
  replace re := re.le s1
  have k0 : ∀ b, b = sameD d e → Q (.bl b) H1 := fun b e => by rw [e]; exact k H1 s1
  have k1 : ∀ (H' : Hp), Same H1 H' → Q (V.bl (sameD d e)) H' := fun H' z => k H' (s1.trans z)
  refine ⟨ve, t, _, _, _, _, rfl, hT, .cons (.ty _) (.cons (.ty _) .nil), re.ty, kitAny_2 (kit_lst _) (kit_tup _), _, rfl, ?_⟩
  cases re with
  | non =>
    refine ⟨_, rfl, _, rfl, _, rfl, k0 _ ?_⟩
    cases ra <;> first | exact (sameD_refl _).symm | exact (sameD_ne (fun z => by cases z)).symm
  | bl b =>
    refine ⟨_, rfl, _, rfl, iteF ⟨_, rfl, _, _, _, _, _, rfl, .ty _, (Rp.bl b).ty, kit_ty (kit_bool _), _, rfl, iteT ⟨_, rfl, _, _, _, _, _, rfl, .ty _, (ra).ty, kit_ty (kit_bool _), _, rfl, ?_⟩⟩⟩
    cases ra with
    | bl c =>
      refine iteT ⟨_, rfl, _, rfl, rfl, k0 _ (sameD_eq ?_).symm⟩
      simp
    | _ => exact iteF (k0 _ (sameD_ne (fun z => by cases z)).symm)
  | int i =>
    refine ⟨_, rfl, _, rfl, iteF ⟨_, rfl, _, _, _, _, _, rfl, .ty _, (Rp.int i).ty, kit_ty (kit_bool _), _, rfl, iteF ⟨_, rfl, _, _, _, _, _, rfl, .ty _, (Rp.int i).ty, kit_ty (kit_int _), _, rfl, iteT ⟨_, rfl, va, d, rfl, ra, _, rfl, ?_⟩⟩⟩⟩
    cases ra with
    | int j =>
      refine iteT ⟨_, rfl, _, rfl, rfl, k0 _ (sameD_eq ?_).symm⟩
      simp
    | _ => exact iteF (k0 _ (sameD_ne (fun z => by cases z)).symm)
  | str x =>
    refine ⟨_, rfl, _, rfl, iteF ⟨_, rfl, _, _, _, _, _, rfl, .ty _, (Rp.str x).ty, kit_ty (kit_bool _), _, rfl, iteF ⟨_, rfl, _, _, _, _, _, rfl, .ty _, (Rp.str x).ty, kit_ty (kit_int _), _, rfl, iteF ⟨_, rfl, _, _, _, _, _, rfl, .ty _, (ra).ty, kit_ty (kit_str _), _, rfl, ?_⟩⟩⟩⟩
    cases ra with
    | str y =>
      refine iteT ⟨_, rfl, _, rfl, rfl, k0 _ (sameD_eq ?_).symm⟩
      simp
    | _ => exact iteF (k0 _ (sameD_ne (fun z => by cases z)).symm)
  | dict0 h => simp [fit] at hn
  | @tup pe ys es h1 h2 =>
    simp only [fit, Bool.and_eq_true, decide_eq_true_eq] at hn
    refine iteT ⟨SameMid K n va (.ref pe) d (.tuple es) H1, ⟨_, rfl, _, _, _, _, _, rfl, .ty _, (Rp.tup h1 h2).ty, kit_ty (kit_lst _), _, rfl, _, _, _, _, _, rfl, .ty _, (ra).ty, kit_ty (kit_lst _), rfl, _, rfl, ?_⟩, tail _ _ _ _ _ k1⟩
    have ra1 := ra
    cases ra with
    | @tup pa xs ds g1 g2 =>
      refine iteF ⟨_, rfl, _, _, _, _, _, rfl, .ty _, (Rp.tup h1 h2).ty, kit_ty (kit_tup _), _, rfl, _, _, _, _, _, rfl, .ty _, (Rp.tup g1 g2).ty, kit_ty (kit_tup _), rfl, _, rfl, iteF (fin ⟨xs, ys, ds, es, pa, pe, rfl, rfl, g2, h2, .inr g1, .inr h1, hn.1, hn.2, ?_, ?_⟩)⟩
      · simp only [dep] at hd
        omega
      · exact ⟨fun z => by cases z; rfl, fun z => by rw [z]⟩
    | @lst pa xs ds g1 g2 => exact iteT (k0 _ (sameD_ne (fun z => by cases z)).symm)
    | _ => exact iteF ⟨_, rfl, _, _, _, _, _, rfl, .ty _, (Rp.tup h1 h2).ty, kit_ty (kit_tup _), _, rfl, _, _, _, _, _, rfl, .ty _, (ra1).ty, kit_ty (kit_tup _), rfl, _, rfl, iteT (k0 _ (sameD_ne (fun z => by cases z)).symm)⟩
  | @lst pe ys es h1 h2 =>
    simp only [fit, Bool.and_eq_true, decide_eq_true_eq] at hn
    refine iteT ⟨SameMid K n va (.ref pe) d (.list es) H1, ⟨_, rfl, _, _, _, _, _, rfl, .ty _, (Rp.lst h1 h2).ty, kit_ty (kit_lst _), _, rfl, _, _, _, _, _, rfl, .ty _, (ra).ty, kit_ty (kit_lst _), rfl, _, rfl, ?_⟩, tail _ _ _ _ _ k1⟩
    cases ra with
    | @lst pa xs ds g1 g2 =>
      refine iteF ⟨_, rfl, _, _, _, _, _, rfl, .ty _, (Rp.lst h1 h2).ty, kit_ty (kit_tup _), _, rfl, _, _, _, _, _, rfl, .ty _, (Rp.lst g1 g2).ty, kit_ty (kit_tup _), rfl, _, rfl, iteF (fin ⟨xs, ys, ds, es, pa, pe, rfl, rfl, g2, h2, .inl g1, .inl h1, hn.1, hn.2, ?_, ?_⟩)⟩
      · simp only [dep] at hd
        omega
      · exact ⟨fun z => by cases z; rfl, fun z => by rw [z]⟩
    | _ => exact iteT (k0 _ (sameD_ne (fun z => by cases z)).symm)
theorem gf_law_same {f : Addr} {fd : FuncData} (F : Fun K "_law_same" "_law_same" s_law_same f fd) (T : Txt K mg) (G_law_is_integer : GF P w K mg base CX0 "_law_is_integer" 1 ["actual"] (spIsInt K)) (hm : mg "_law_same" = some (.ref f)) (b : Binds K fd ["actual", "expected"] []) : ∀ n, GF P w K mg base CX0 "_law_same" (n + 1) ["actual", "expected"] (spSame K n)
  | 0 => by
    have no : ∀ vs H Q E, ¬ spSame K 0 vs H Q E := fun vs H Q E h => by
      obtain ⟨_, _, _, _, _, _, _, _, h, _⟩ := h
      omega
    exact ⟨f, fd, ⟨fun vs H Q E h => absurd h (no vs H Q E), fun A outer s H args us vs Q E _ _ _ _ h => absurd h (no vs H Q E)⟩, hm, F.kp, b⟩
  | n + 1 => ⟨f, fd, ok_law_same F T G_law_is_integer (gf_law_same F T G_law_is_integer hm b n), hm, F.kp, b⟩
end

abbrev Stp := Bool × Int
def applied : List Int → List Stp → List Int
  | d, [] => d
  | d, (true, n) :: r => applied (d ++ [n]) r
  | d, (false, n) :: r => applied (d.take n.toNat) r
theorem applied_snoc : ∀ (ss : List Stp) (d : List Int) (x : Stp), applied d (ss ++ [x]) = if x.1 = true then applied d ss ++ [x.2] else (applied d ss).take x.2.toNat
  | [], d, (true, n) => rfl
  | [], d, (false, n) => rfl
  | (true, m) :: r, d, x => applied_snoc r (d ++ [m]) x
  | (false, m) :: r, d, x => applied_snoc r (d.take m.toNat) x
theorem applied_len : ∀ (ss : List Stp) (d : List Int), (applied d ss).length ≤ d.length + ss.length
  | [], d => by simp [applied]
  | (true, m) :: r, d => by
    have := applied_len r (d ++ [m])
    simp [applied] at this ⊢
    omega
  | (false, m) :: r, d => by
    have := applied_len r (d.take m.toNat)
    simp [applied] at this ⊢
    omega
def encF (x : Stp) : PyData := .tuple [.str (PySem.Str.ofString (if x.1 then "append" else "truncate")), .int x.2]
def encL (x : Stp) : PyData := .tuple [.int (if x.1 then 0 else 1), .int x.2]
def NnS (ss : List Stp) : Prop := ∀ x ∈ ss, x.1 = false → 0 ≤ x.2
theorem cut_list {xs : List V} {n : Int} (h : 0 ≤ n) : cutV xs none (some n) = xs.take n.toNat := by
  obtain ⟨m, rfl⟩ : ∃ m : Nat, n = (m : Int) := ⟨n.toNat, by omega⟩
  unfold cutV
  rw [HT.sIx_none, HT.sIx_nat]
  simp only [List.drop_zero, Nat.sub_zero, Int.toNat_natCast]
  by_cases hn : m ≤ xs.length
  · rw [Nat.min_eq_left hn]
  · rw [Nat.min_eq_right (by omega), List.take_of_length_le (Nat.le_refl _), List.take_of_length_le (by omega)]
def spApp (K : PySem.W.Frag) (enc : Stp → PyData) : Sp := fun vs H Q _ => ∃ (a b : Addr) (d : List Int) (ss : List Stp) (xs : List V), vs = [.ref a, .ref b] ∧ SqL K H a (d.map V.int) ∧ SqL K H b xs ∧ RpAll K H xs (ss.map enc) ∧ NnS ss ∧ d.length + ss.length ≤ 4000000 ∧
  ∀ (p : Addr) (H' : Hp), H p = none → Same H H' → H' p = some (.lst ((applied d ss).map V.int)) → Q (.ref p) H'
section
variable {P : Program} {w : World} {K : PySem.W.Frag} {mg : Str → Option Value} {base : Heap}
theorem app_ne : ¬ (V.str (PySem.Str.ofString "truncate") = V.str (PySem.Str.ofString "append")) := by
  rw [str_inj]
  decide +kernel
theorem ok_applied {f : Addr} {fd : FuncData} (F : Fun K "_applied" "_applied" s_applied f fd) (T : Txt K mg) : FnOk P w K mg base CX0 1 f fd ["data", "steps"] (spApp K encF) := by
  refine F.ok sc_applied (fun vs H Q E h => ?_) (fun cdv A outer s H vs Q E hr h => ?_)
  · obtain ⟨_, _, _, _, _, rfl, _⟩ := h
    rfl
  obtain ⟨a, b, d, ss, xs, rfl, hA, hB, hX, hN, hl, q⟩ := h
  refine ⟨_, (pss_cons (ps_set (i := 2) sc_applied.nd rfl (Or.inl rfl) (pe_callTy call_list_of (by rfl) T.b_list bt_list (pa_cons (pv 0) pa_nil)))
  (pss_cons (ps_for PassesOwn.never rfl (pi_list (pv 1)) (pg_tup rfl (pgs_cons (pg_name (i := 3) sc_applied.nd rfl (Or.inl rfl)) (pgs_cons (pg_name (i := 4) sc_applied.nd rfl (Or.inl rfl)) pgs_nil))) (pss_one (ps_if (pt_cmpR op_eq (pv 3) pe_str (nomark _)) (pss_one (ps_expr (pe_bm PySem.F.plainAttrs_list PySem.F.slot_list_append PySem.F.type_list_append mt_append (pv 2) (pa_cons (pv 4) pa_nil)))) (pss_one (ps_set (i := 2) sc_applied.nd rfl (Or.inl rfl) (pe_slice sl_list (pv 2) po_none (po_some (pv 4))))))))
  (pss_one (ps_ret (pv 2))))), ?_⟩
  refine ⟨_, rfl, a, _, rfl, .inl hA, fun r0 hr0 => ?_⟩
  have xl : xs.length = ss.length := by rw [hX.length, List.length_map]
  refine ⟨_, rfl, b, rfl, ⟨xs, sql_le (same_upd hr0) hB⟩, for_list (K := K) (a := b) (xs := xs) (fun i σ H' => ∃ (r : Addr) (z1 z2 : Option V), σ = [some (.ref a), some (.ref b), some (.ref r), z1, z2] ∧ H r = none ∧ Same H H' ∧ H' r = some (.lst ((applied d (ss.take i)).map V.int)))
    ⟨r0, none, none, rfl, hr0, same_upd hr0, by simp [applied, upd_same]⟩ (fun i σ H' _ ⟨_, _, _, _, _, sm, _⟩ => sql_le sm hB) ?_ ?_⟩
  · rintro i x σ H1 hx ⟨r, z1, z2, rfl, nr, sm, h1⟩
    have hi : i < ss.length := by
      have := (List.getElem?_eq_some_iff.mp hx).1
      omega
    obtain ⟨dd, hd, hr1⟩ := hX.getV hx
    have hs : ss[i]? = some ss[i] := List.getElem?_eq_getElem hi
    rw [List.getElem?_map, hs] at hd
    generalize hsi : ss[i] = y at *
    have hle : (applied d (ss.take i)).length ≤ 4000000 := by
      have := applied_len (ss.take i) d
      simp at this
      omega
    have htk : ss.take (i + 1) = ss.take i ++ [y] := by rw [List.take_add_one, hs]; rfl
    obtain ⟨k, n⟩ := y
    cases Option.some.inj hd
    cases hr1 with
    | tup ht h2 =>
      cases h2 with
      | cons q1 h3 =>
        cases h3 with
        | cons q2 h4 =>
          cases h4
          cases q1
          cases q2
          refine ⟨_, _, rfl, sqt_le sm ht, rfl, _, _, rfl, _, _, rfl, rfl, ?_⟩
          cases k with
          | true =>
            refine ⟨_, rfl, rfl, _, rfl, brD (fun e => ?_) (fun e => absurd rfl e)⟩
            refine ⟨_, rfl, .inl ⟨rfl, _, SqL.of h1⟩, _, rfl, r, _, _, rfl, rfl, h1, szl _ (by rw [List.length_map]; omega), ?_⟩
            refine ⟨r, _, _, rfl, nr, fun c o z => ?_, ?_⟩
            · have hc : c ≠ r := ne_of_none z nr
              rw [upd_ne hc]
              exact sm _ _ z
            · rw [upd_same, htk, applied_snoc]
              simp
          | false =>
            refine ⟨_, rfl, rfl, _, rfl, brD (fun e => absurd e app_ne) (fun e => ?_)⟩
            have n0 : 0 ≤ n := hN (false, n) (by rw [← hsi]; exact List.getElem_mem hi) rfl
            refine ⟨_, rfl, _, rfl, _, rfl, r, _, rfl, SqL.of h1, fun r2 hr2 => ?_⟩
            refine ⟨r2, _, _, rfl, sm.free hr2, sm.trans (same_upd hr2), ?_⟩
            rw [upd_same, htk, applied_snoc, if_neg (show ¬ ((false, n).1 = true) from Bool.false_ne_true), cut_list n0, List.map_take]
  · rintro σ H1 ⟨r, z1, z2, rfl, nr, sm, h1⟩
    rw [List.take_of_length_le (by omega)] at h1
    exact ⟨_, rfl, q r H1 nr sm h1⟩
theorem ok_law_after {f : Addr} {fd : FuncData} (F : Fun K "_law_after" "_law_after" s_law_after f fd) (T : Txt K mg) : FnOk P w K mg base CX0 1 f fd ["data", "steps"] (spApp K encL) := by
  refine F.ok sc_law_after (fun vs H Q E h => ?_) (fun cdv A outer s H vs Q E hr h => ?_)
  · obtain ⟨_, _, _, _, _, rfl, _⟩ := h
    rfl
  obtain ⟨a, b, d, ss, xs, rfl, hA, hB, hX, hN, hl, q⟩ := h
  refine ⟨_, (pss_cons (ps_set (i := 0) sc_law_after.nd rfl (Or.inl rfl) (pe_callTy call_list_of (by rfl) T.b_list bt_list (pa_cons (pv 0) pa_nil)))
  (pss_cons (ps_for PassesOwn.never rfl (pi_list (pv 1)) (pg_tup rfl (pgs_cons (pg_name (i := 2) sc_law_after.nd rfl (Or.inl rfl)) (pgs_cons (pg_name (i := 3) sc_law_after.nd rfl (Or.inl rfl)) pgs_nil))) (pss_one (ps_if (pt_cmpR op_eq (pv 2) pe_int (nomark _)) (pss_one (ps_expr (pe_bm PySem.F.plainAttrs_list PySem.F.slot_list_append PySem.F.type_list_append mt_append (pv 0) (pa_cons (pv 3) pa_nil)))) (pss_one (ps_set (i := 0) sc_law_after.nd rfl (Or.inl rfl) (pe_slice sl_list (pv 0) po_none (po_some (pv 3))))))))
  (pss_one (ps_ret (pv 0))))), ?_⟩
  refine ⟨_, rfl, a, _, rfl, .inl hA, fun r0 hr0 => ?_⟩
  have xl : xs.length = ss.length := by rw [hX.length, List.length_map]
  refine ⟨_, rfl, b, rfl, ⟨xs, sql_le (same_upd hr0) hB⟩, for_list (K := K) (a := b) (xs := xs) (fun i σ H' => ∃ (r : Addr) (z1 z2 : Option V), σ = [some (.ref r), some (.ref b), z1, z2] ∧ H r = none ∧ Same H H' ∧ H' r = some (.lst ((applied d (ss.take i)).map V.int)))
    ⟨r0, none, none, rfl, hr0, same_upd hr0, by simp [applied, upd_same]⟩ (fun i σ H' _ ⟨_, _, _, _, _, sm, _⟩ => sql_le sm hB) ?_ ?_⟩
  · rintro i x σ H1 hx ⟨r, z1, z2, rfl, nr, sm, h1⟩
    have hi : i < ss.length := by
      have := (List.getElem?_eq_some_iff.mp hx).1
      omega
    obtain ⟨dd, hd, hr1⟩ := hX.getV hx
    have hs : ss[i]? = some ss[i] := List.getElem?_eq_getElem hi
    rw [List.getElem?_map, hs] at hd
    generalize hsi : ss[i] = y at *
    have hle : (applied d (ss.take i)).length ≤ 4000000 := by
      have := applied_len (ss.take i) d
      simp at this
      omega
    have htk : ss.take (i + 1) = ss.take i ++ [y] := by rw [List.take_add_one, hs]; rfl
    obtain ⟨k, n⟩ := y
    cases Option.some.inj hd
    cases hr1 with
    | tup ht h2 =>
      cases h2 with
      | cons q1 h3 =>
        cases h3 with
        | cons q2 h4 =>
          cases h4
          cases q1
          cases q2
          refine ⟨_, _, rfl, sqt_le sm ht, rfl, _, _, rfl, _, _, rfl, rfl, ?_⟩
          cases k with
          | true =>
            refine ⟨_, rfl, rfl, _, rfl, brD (fun e => ?_) (fun e => absurd rfl e)⟩
            refine ⟨_, rfl, .inl ⟨rfl, _, SqL.of h1⟩, _, rfl, r, _, _, rfl, rfl, h1, szl _ (by rw [List.length_map]; omega), ?_⟩
            refine ⟨r, _, _, rfl, nr, fun c o z => ?_, ?_⟩
            · have hc : c ≠ r := ne_of_none z nr
              rw [upd_ne hc]
              exact sm _ _ z
            · rw [upd_same, htk, applied_snoc]
              simp
          | false =>
            refine ⟨_, rfl, rfl, _, rfl, brD (fun e => absurd e (by rw [int_inj]; simp)) (fun e => ?_)⟩
            have n0 : 0 ≤ n := hN (false, n) (by rw [← hsi]; exact List.getElem_mem hi) rfl
            refine ⟨_, rfl, _, rfl, _, rfl, r, _, rfl, SqL.of h1, fun r2 hr2 => ?_⟩
            refine ⟨r2, _, _, rfl, sm.free hr2, sm.trans (same_upd hr2), ?_⟩
            rw [upd_same, htk, applied_snoc, if_neg (show ¬ ((false, n).1 = true) from Bool.false_ne_true), cut_list n0, List.map_take]
  · rintro σ H1 ⟨r, z1, z2, rfl, nr, sm, h1⟩
    rw [List.take_of_length_le (by omega)] at h1
    exact ⟨_, rfl, q r H1 nr sm h1⟩
end

theorem nls : ¬ (("_lasting" : Str) = "_steps") := by decide +kernel
structure FileAt (K : PySem.W.Frag) (C : Addr) (O : List Addr) (H : Hp) (p sa : Addr) (la : List Int) (ss : List Stp) : Prop where
  op : p ∈ O
  ob : ∃ dx l, H p = some (.ins C dx (F2 "_lasting" "_steps" (.ref l) (.ref sa))) ∧ SqL K (wo H O) l (la.map V.int)
  st : ∃ acc, Acc K O sa (ss.map encF) acc H
theorem FileAt.le {K : PySem.W.Frag} {C : Addr} {O : List Addr} {H H' : Hp} {p sa : Addr} {la : List Int} {ss : List Stp} (h : FileAt K C O H p sa la ss) (s : Same H H') : FileAt K C O H' p sa la ss := by
  obtain ⟨h0, ⟨dx, l, h1, h2⟩, acc, h3⟩ := h
  exact ⟨h0, ⟨dx, l, s _ _ h1, sql_le (Same.wo s) h2⟩, acc, h3.le s⟩
theorem FileAt.up {K : PySem.W.Frag} {C : Addr} {O S : List Addr} {H H' : Hp} {p sa : Addr} {la : List Int} {ss : List Stp} (h : FileAt K C O H p sa la ss) (u : Up S H H') (s : ∀ a ∈ S, a ∈ O) (n1 : p ∉ S) (n2 : sa ∉ S) : FileAt K C O H' p sa la ss := by
  obtain ⟨h0, ⟨dx, l, h1, h2⟩, acc, h3⟩ := h
  exact ⟨h0, ⟨dx, l, u _ _ n1 h1, sql_le (u.mono s).wo h2⟩, acc, h3.own, u _ _ n2 h3.is, h3.it.le (u.mono s).wo⟩
theorem FileAt.grow {K : PySem.W.Frag} {C : Addr} {O S : List Addr} {H H' : Hp} {p sa q : Addr} {la : List Int} {ss : List Stp} (h : FileAt K C O H p sa la ss) (hq : H q = none) (u : Up S H H') (s : ∀ a ∈ S, a ∈ O) (n1 : p ∉ S) (n2 : sa ∉ S) : FileAt K C (q :: O) H' p sa la ss := by
  obtain ⟨h0, ⟨dx, l, h1, h2⟩, acc, h3⟩ := h
  exact ⟨List.mem_cons_of_mem _ h0, ⟨dx, l, u _ _ n1 h1, sql_le ((u.mono s).wo_new hq) h2⟩, acc, List.mem_cons_of_mem _ h3.own, u _ _ n2 h3.is, h3.it.le ((u.mono s).wo_new hq)⟩
structure TFile (K : PySem.W.Frag) (C : Addr) : Prop where
  cl : Cls K C
  nL : NoAttr K C "_lasting"
  nS : NoAttr K C "_steps"
def limN (n : Nat) : V → Option Nat
  | .non => some n
  | .int i => if 0 ≤ i then some (min i.toNat n) else none
  | _ => none
def spInit (K : PySem.W.Frag) (C : Addr) : Sp := fun vs H Q _ => ∃ (O : List Addr) (p dx : Addr), vs = [.ref p] ∧ H p = some (.ins C dx []) ∧ p ∈ O ∧ Own O H ∧
  ∀ (sa : Addr) (H' : Hp), H sa = none → Up [p] H H' → FileAt K C (sa :: O) H' p sa [] [] → Q .non H'
def spWrite (K : PySem.W.Frag) (C : Addr) : Sp := fun vs H Q _ => ∃ (O : List Addr) (p sa a : Addr) (lim : V) (la ns : List Int) (ss : List Stp) (n : Nat), vs = [.ref p, .ref a, lim] ∧ FileAt K C O H p sa la ss ∧ SqL K H a (ns.map V.int) ∧ limN ns.length lim = some n ∧ Own O H ∧
  ss.length + ns.length ≤ 4000000 ∧ ∀ H', Up [sa] H H' → FileAt K C O H' p sa la (ss ++ (ns.take n).map fun b => (true, b)) → Q (.int (n : Int)) H'
def spContent (K : PySem.W.Frag) (C : Addr) : Sp := fun vs H Q _ => ∃ (O : List Addr) (p sa : Addr) (la : List Int) (ss : List Stp), vs = [.ref p] ∧ FileAt K C O H p sa la ss ∧ NnS ss ∧ la.length + ss.length ≤ 4000000 ∧
  ∀ (r : Addr) (H' : Hp), H r = none → Same H H' → H' r = some (.lst ((applied la ss).map V.int)) → Q (.ref r) H'
def spPending (K : PySem.W.Frag) (C : Addr) : Sp := fun vs H Q _ => ∃ (O : List Addr) (p sa : Addr) (la : List Int) (ss : List Stp), vs = [.ref p] ∧ FileAt K C O H p sa la ss ∧ Q (.int (ss.length : Int)) H
def spLose (K : PySem.W.Frag) (C : Addr) : Sp := fun vs H Q _ => ∃ (O : List Addr) (p sa : Addr) (n : Nat) (la : List Int) (ss : List Stp), vs = [.ref p, .int (n : Int)] ∧ FileAt K C O H p sa la ss ∧ NnS ss ∧ Own O H ∧ la.length + ss.length ≤ 4000000 ∧
  ∀ (sb : Addr) (H' : Hp), H sb = none → Up [p] H H' → FileAt K C (sb :: O) H' p sb (applied la (ss.take n)) [] → Q .non H'
def spShorten (K : PySem.W.Frag) (C : Addr) : Sp := fun vs H Q _ => ∃ (O : List Addr) (p sa : Addr) (lim : V) (n m : Nat) (la : List Int) (ss : List Stp), vs = [.ref p, .int (n : Int), lim] ∧ FileAt K C O H p sa la ss ∧ limN 1 lim = some m ∧ Own O H ∧ ss.length < 4000000 ∧
  ∀ H', Up [sa] H H' → FileAt K C O H' p sa la (ss ++ if m = 0 then [] else [(false, (n : Int))]) → Q (.int (m : Int)) H'
def spFlush (K : PySem.W.Frag) (C : Addr) : Sp := fun vs H Q _ => ∃ (O : List Addr) (p sa : Addr) (lim : V) (m : Nat) (la : List Int) (ss : List Stp), vs = [.ref p, lim] ∧ FileAt K C O H p sa la ss ∧ NnS ss ∧ Own O H ∧ limN 1 lim = some m ∧ la.length + ss.length ≤ 4000000 ∧
  (m = 0 → Q (.int 0) H) ∧ (m ≠ 0 → ∀ (sb : Addr) (H' : Hp), H sb = none → Up [p] H H' → FileAt K C (sb :: O) H' p sb (applied la ss) [] → Q (.int 1) H')
section
variable {P : Program} {w : World} {K : PySem.W.Frag} {mg : Str → Option Value} {base : Heap} {C : Addr}
theorem ok_File_init {f : Addr} {fd : FuncData} (F : Fun K "__init__" "File.__init__" s_File___init__ f fd) (T : Txt K mg) (T_File : TFile K C) : FnOk P w K mg base CX0 1 f fd ["self"] (spInit K C) := by
  refine F.ok sc_File___init__ (fun vs H Q E h => ?_) (fun cdv A outer s H vs Q E hr h => ?_)
  · obtain ⟨_, _, _, rfl, _⟩ := h
    rfl
  obtain ⟨O, p, dx, rfl, hp, ho, hO, q⟩ := h
  refine ⟨_, (pss_cons (ps_fld (pv 0) (pe_lst pa_nil) rfl)
  (pss_one (ps_fld (pv 0) (pe_lst pa_nil) rfl))), ?_⟩
  refine ⟨Nat.zero_le _, fun l hl => ⟨_, rfl, p, C, dx, [], rfl, same_upd hl _ _ hp, T_File.cl, T_File.nL, by decide, ?_⟩⟩
  refine ⟨Nat.zero_le _, fun sa hsa => ⟨_, rfl, p, C, dx, _, rfl, same_upd hsa _ _ upd_same, T_File.cl, T_File.nS, by show 1 < 1000; decide, ?_⟩⟩
  have hlp : l ≠ p := fun e => by rw [e, hp] at hl; cases hl
  have hsp : sa ≠ p := fun e => by rw [e, upd_same] at hsa; cases hsa
  have hsl : sa ≠ l := fun e => by rw [e, upd_ne hlp, upd_same] at hsa; cases hsa
  have hs0 : H sa = none := by
    rw [upd_ne hsp, upd_ne hsl] at hsa
    exact hsa
  have u : Up [p] H (upd (upd (upd (upd H l (.lst [])) p (.ins C dx (putF "_lasting" (.ref l) []))) sa (.lst [])) p (.ins C dx (putF "_steps" (.ref sa) (putF "_lasting" (.ref l) [])))) :=
    (((Up.of (same_upd hl)).trans (Up.put (by simp))).trans (Up.of (same_upd hsa))).trans (Up.put (by simp))
  refine q sa _ hs0 u ⟨List.mem_cons_of_mem _ ho, ⟨dx, l, upd_same, SqL.of ?_⟩, [], List.mem_cons_self, ?_, .nil⟩
  · have hlo : l ∉ sa :: O := by simp [Ne.symm hsl, hO.out hl]
    rw [wo_out hlo, upd_ne hlp, upd_ne (Ne.symm hsl), upd_ne hlp, upd_same]
    rfl
  · rw [upd_ne hsp, upd_same]
theorem FileAt.flds {O : List Addr} {H : Hp} {p sa : Addr} {la : List Int} {ss : List Stp} (h : FileAt K C O H p sa la ss) : ∃ dx l, H p = some (.ins C dx (F2 "_lasting" "_steps" (.ref l) (.ref sa))) ∧ SqL K H l (la.map V.int) := by
  obtain ⟨dx, l, h1, h2⟩ := h.ob
  exact ⟨dx, l, h1, sql_le (wo_le _ _) h2⟩
theorem lim_min {m : Nat} {i : Int} {n : Nat} (h : limN m (.int i) = some n) : 0 ≤ i ∧ (if ((m : Nat) : Int) < i then ((m : Nat) : Int) else i) = (n : Int) ∧ n ≤ m := by
  simp only [limN] at h
  split at h
  · rename_i h0
    have e := Option.some.inj h
    refine ⟨h0, ?_, by omega⟩
    split <;> omega
  · cases h
theorem ok_File_pending {f : Addr} {fd : FuncData} (F : Fun K "pending" "File.pending" s_File_pending f fd) (T : Txt K mg) (T_File : TFile K C) : FnOk P w K mg base CX0 1 f fd ["self"] (spPending K C) := by
  refine F.ok sc_File_pending (fun vs H Q E h => ?_) (fun cdv A outer s H vs Q E hr h => ?_)
  · obtain ⟨_, _, _, _, _, rfl, _⟩ := h
    rfl
  obtain ⟨O, p, sa, la, ss, rfl, hF, q⟩ := h
  obtain ⟨dx, l, h1, h2⟩ := hF.flds
  obtain ⟨acc, hA⟩ := hF.st
  refine ⟨_, (pss_one (ps_ret (pe_callB call_len_seq (by rfl) T.b_len bt_len (pa_cons (pe_fld (pv 0) rfl) pa_nil)))), ?_⟩
  refine ⟨_, rfl, p, C, dx, _, _, rfl, h1, T_File.cl, T_File.nS, F2_b, sa, acc, rfl, .inl (SqL.of hA.is), ?_⟩
  rw [hA.len, List.length_map]
  exact q
theorem ok_File_content {f : Addr} {fd : FuncData} (F : Fun K "content" "File.content" s_File_content f fd) (T : Txt K mg) (T_File : TFile K C) (G_applied : GF P w K mg base CX0 "_applied" 1 ["data", "steps"] (spApp K encF)) : FnOk P w K mg base CX0 2 f fd ["self"] (spContent K C) := by
  refine F.ok sc_File_content (fun vs H Q E h => ?_) (fun cdv A outer s H vs Q E hr h => ?_)
  · obtain ⟨_, _, _, _, _, rfl, _⟩ := h
    rfl
  obtain ⟨O, p, sa, la, ss, rfl, hF, hN, hl, q⟩ := h
  obtain ⟨dx, l, h1, h2⟩ := hF.flds
  obtain ⟨acc, hA⟩ := hF.st
  refine ⟨_, (pss_one (ps_ret (pe_cg G_applied hr rfl (pa_cons (pe_fld (pv 0) rfl) (pa_cons (pe_fld (pv 0) rfl) pa_nil))))), ?_⟩
  exact ⟨_, rfl, p, C, dx, _, _, rfl, h1, T_File.cl, T_File.nL, F2_a nls, _, rfl, p, C, dx, _, _, rfl, h1, T_File.cl, T_File.nS, F2_b, l, sa, la, ss, acc, rfl, h2, SqL.of hA.is, hA.it.le (wo_le _ _), hN, hl, q⟩
theorem ok_File_write {f : Addr} {fd : FuncData} (F : Fun K "write" "File.write" s_File_write f fd) (T : Txt K mg) (T_File : TFile K C) : FnOk P w K mg base CX0 1 f fd ["self", "data", "steps"] (spWrite K C) := by
  refine F.ok sc_File_write (fun vs H Q E h => ?_) (fun cdv A outer s H vs Q E hr h => ?_)
  · obtain ⟨_, _, _, _, _, _, _, _, _, rfl, _⟩ := h
    rfl
  obtain ⟨O, p, sa, a, lim, la, ns, ss, n, rfl, hF, hA, hlim, hO, hl, q⟩ := h
  obtain ⟨dx, l, h1, h2⟩ := hF.flds
  obtain ⟨acc, hAc⟩ := hF.st
  have al : acc.length = ss.length := by rw [hAc.len, List.length_map]
  have nl : (ns.map V.int).length = ns.length := List.length_map _
  refine ⟨_, (Evl.pss_cut (ps_set (i := 3) sc_File_write.nd rfl (Or.inl rfl) (pe_ifExp (pt_cmp (pc_isN (pv 2))) (pe_callB call_len_seq (by rfl) T.b_len bt_len (pa_cons (pv 1) pa_nil)) (pe_callB (call_min2 rfl) (by rfl) T.b_min bt_min (pa_cons (pv 2) (pa_cons (pe_callB call_len_seq (by rfl) T.b_len bt_len (pa_cons (pv 1) pa_nil)) pa_nil)))))
  (pss_cons (ps_expr (pe_bm PySem.F.plainAttrs_list PySem.F.slot_list_extend PySem.F.type_list_extend mt_extend (pe_fld (pv 0) rfl) (pa_cons (pe_lc (own := [("byte", 4)]) (g := (gName 4)) (tt := tYes) rfl sc_File_write.nd (pi_list (pe_slice sl_list (pv 1) po_none (po_some (pv 3)))) (blkOk_by (N := ["self", "data", "steps", "count", "byte"]) (sc := defScope s_File_write) (by decide +kernel)) (fun _ _ _ _ _ => (pg_name (i := 4) sc_File_write.nd rfl (Or.inl rfl))) (fun _ _ _ _ _ => pts_nil) (fun _ _ _ _ _ => (pe_tup (pa_cons pe_str (pa_cons (pv 4) pa_nil))))) pa_nil)))
  (pss_one (ps_ret (pv 3))))), ?_⟩
  refine ⟨fun σ' H' => σ' = [some (.ref p), some (.ref a), some lim, some (.int (n : Int)), none] ∧ H' = H ∧ n ≤ ns.length, ?_, ?_⟩
  · -- count = ..
    refine ⟨_, rfl, _, rfl, ?_⟩
    cases lim with
    | non =>
      have e : ns.length = n := Option.some.inj hlim
      refine ⟨_, rfl, a, _, rfl, .inl hA, ?_⟩
      rw [nl, e]
      exact ⟨rfl, rfl, Nat.le_refl _⟩
    | int i =>
      obtain ⟨i0, i1, i2⟩ := lim_min hlim
      refine ⟨_, rfl, _, rfl, a, _, rfl, .inl hA, i, _, rfl, ?_⟩
      rw [nl, i1]
      exact ⟨rfl, rfl, i2⟩
    | _ => cases hlim
  rintro σ' H' ⟨rfl, rfl, hn⟩
  refine ⟨_, rfl, p, C, dx, _, _, rfl, h1, T_File.cl, T_File.nS, F2_b, .inl ⟨rfl, _, SqL.of hAc.is⟩, _, rfl, _, rfl, _, rfl, a, _, rfl, hA, fun c hc => ?_⟩
  rw [cut_list (by omega)]
  have s1 := same_upd (o := .lst (List.take (n : Int).toNat (ns.map V.int))) hc
  have hC := upd_same (H := H') (a := c) (o := .lst (List.take (n : Int).toNat (ns.map V.int)))
  generalize upd H' c (.lst (List.take (n : Int).toNat (ns.map V.int))) = H1 at *
  rw [Int.toNat_natCast, ← List.map_take] at hC
  refine ⟨c, rfl, ⟨_, SqL.of hC⟩, fun D hD => lc_list (xs := (ns.take n).map V.int) (fun i H2 => Same H1 H2 ∧ Own (D :: O) H2 ∧ ∃ acc, Acc K (D :: O) D (((ns.take n).take i).map fun b => encF (true, b)) acc H2) ⟨same_upd hD, ?_, [], ?_⟩ (fun i H2 _ z => sql_le z.1 (SqL.of hC)) ?_ ?_⟩
  · exact Own.cons ((hO.le s1).le (same_upd hD)) (some_ne upd_same)
  · exact Acc.new List.mem_cons_self
  · rintro i x H2 hx ⟨s2, O2, acc2, A2⟩
    rw [List.getElem?_map] at hx
    cases hb : (ns.take n)[i]? with
    | none =>
      rw [hb] at hx
      cases hx
    | some b =>
      rw [hb] at hx
      cases Option.some.inj hx
      refine ⟨rfl, _, rfl, sz 2 (by decide), fun t ht => ?_⟩
      have st := same_upd (o := .tup [.str (PySem.Str.ofString "append"), .int b]) ht
      have hi := (List.getElem?_eq_some_iff.mp hb).1
      have hl2 : (ns.take n).length ≤ ns.length := by
        rw [List.length_take]
        omega
      refine ⟨acc2, (A2.le st).is, szl _ (by rw [A2.len, List.length_map, List.length_take]; omega), fun q o z => ?_, (O2.le st).up (S := [D]) (Up.put (by simp)) (by simp [upd_same]), acc2 ++ [.ref t], ?_⟩
      · have hq : q ≠ D := ne_of_none z hD
        rw [upd_ne hq]
        exact st _ _ (s2 _ _ z)
      · rw [List.take_add_one, hb, List.map_append]
        exact (A2.le st).push (rp_newT ht (O2.out ht) (.cons (.str _) (.cons (.int _) .nil)))
  · rintro H2 ⟨s2, O2, acc2, A2⟩
    have hsa := s2 _ _ (s1 _ _ hAc.is)
    have hne : sa ≠ D := fun e => by
      rw [← e] at hD
      rw [s1 _ _ hAc.is] at hD
      cases hD
    rw [List.length_map, List.take_of_length_le (Nat.le_refl _)] at A2
    have al2 : acc2.length = (ns.take n).length := by rw [A2.len, List.length_map]
    have hl2 : (ns.take n).length ≤ ns.length := by
      rw [List.length_take]
      omega
    refine ⟨sa, D, acc, acc2, rfl, rfl, hsa, A2.is, sz _ (by omega), _, rfl, ?_⟩
    have sAll := s1.trans s2
    refine q _ ((Up.of sAll).trans (Up.put (by simp))) ?_
    have hF2 := hF.le sAll
    obtain ⟨hp, ⟨dx2, l2, g1, g2⟩, _⟩ := hF2
    have hps : p ≠ sa := fun e => by
      rw [e, hsa] at g1
      cases g1
    refine ⟨hp, ⟨dx2, l2, by rw [upd_ne hps]; exact g1, by rw [wo_upd_in hAc.own]; exact g2⟩, acc ++ acc2, hAc.own, upd_same, ?_⟩
    rw [wo_upd_in hAc.own, List.map_append, List.map_map]
    exact ((hAc.le sAll).it).append (A2.it.le wo_cons_le)
theorem ok_File_shorten {f : Addr} {fd : FuncData} (F : Fun K "shorten" "File.shorten" s_File_shorten f fd) (T : Txt K mg) (T_File : TFile K C) : FnOk P w K mg base CX0 1 f fd ["self", "size", "steps"] (spShorten K C) := by
  refine F.ok sc_File_shorten (fun vs H Q E h => ?_) (fun cdv A outer s H vs Q E hr h => ?_)
  · obtain ⟨_, _, _, _, _, _, _, _, rfl, _⟩ := h
    rfl
  obtain ⟨O, p, sa, lim, n, m, la, ss, rfl, hF, hlim, hO, hl, q⟩ := h
  obtain ⟨dx, l, h1, h2⟩ := hF.flds
  obtain ⟨acc, hAc⟩ := hF.st
  have al : acc.length = ss.length := by rw [hAc.len, List.length_map]
  refine ⟨_, (Evl.pss_cut (ps_if (pt_cmpR op_eq (pv 2) pe_int (nomark _)) (pss_one (ps_ret pe_int)) pss_nil)
  (pss_cons (ps_expr (pe_bm PySem.F.plainAttrs_list PySem.F.slot_list_append PySem.F.type_list_append mt_append (pe_fld (pv 0) rfl) (pa_cons (pe_tup (pa_cons pe_str (pa_cons (pv 1) pa_nil))) pa_nil)))
  (pss_one (ps_ret pe_int)))), ?_⟩
  refine ⟨fun σ' H' => σ' = [some (.ref p), some (.int (n : Int)), some lim] ∧ H' = H ∧ m = 1, ?_, ?_⟩
  · -- if steps == 0
    cases lim with
    | non =>
      have e : 1 = m := Option.some.inj hlim
      exact ⟨_, rfl, rfl, _, rfl, brD (fun z => nomatch z) fun _ => ⟨rfl, rfl, e.symm⟩⟩
    | int i =>
      obtain ⟨i0, i1, i2⟩ := lim_min hlim
      refine ⟨_, rfl, rfl, _, rfl, brD (fun z => ?_) fun z => ⟨rfl, rfl, ?_⟩⟩
      · rw [int_inj] at z
        have em : m = 0 := by
          rw [z] at i1
          simp at i1
          omega
        subst em
        have e2 := q H Up.rfl' (by simpa using hF)
        exact e2
      · rw [int_inj] at z
        have h0 : m ≠ 0 := fun z2 => by
          subst z2
          split at i1 <;> omega
        omega
    | _ => cases hlim
  rintro σ' H' ⟨rfl, rfl, rfl⟩
  refine ⟨_, rfl, p, C, dx, _, _, rfl, h1, T_File.cl, T_File.nS, F2_b, .inl ⟨rfl, _, SqL.of hAc.is⟩, _, rfl, sz 2 (by decide), fun t ht => ?_⟩
  have st := same_upd (o := .tup [.str (PySem.Str.ofString "truncate"), .int (n : Int)]) ht
  refine ⟨sa, acc, _, rfl, rfl, (hAc.le st).is, szl _ (by omega), ?_⟩
  have hF2 := hF.le st
  obtain ⟨hp, ⟨dx2, l2, g1, g2⟩, _⟩ := hF2
  have hps : p ≠ sa := fun e => by
    rw [e, (hAc.le st).is] at g1
    cases g1
  refine q _ ((Up.of st).trans (Up.put (by simp))) ⟨hp, ⟨dx2, l2, by rw [upd_ne hps]; exact g1, by rw [wo_upd_in hAc.own]; exact g2⟩, acc ++ [.ref t], ?_⟩
  rw [List.map_append]
  exact (hAc.le st).push (rp_newT ht (hO.out ht) (.cons (.str _) (.cons (.int _) .nil)))
theorem NnS.take {ss : List Stp} (h : NnS ss) (n : Nat) : NnS (ss.take n) := fun x hx => h x (List.mem_of_mem_take hx)
theorem ok_File_lose {f : Addr} {fd : FuncData} (F : Fun K "lose" "File.lose" s_File_lose f fd) (T : Txt K mg) (T_File : TFile K C) (G_applied : GF P w K mg base CX0 "_applied" 1 ["data", "steps"] (spApp K encF)) : FnOk P w K mg base CX0 2 f fd ["self", "steps"] (spLose K C) := by
  refine F.ok sc_File_lose (fun vs H Q E h => ?_) (fun cdv A outer s H vs Q E hr h => ?_)
  · obtain ⟨_, _, _, _, _, _, rfl, _⟩ := h
    rfl
  obtain ⟨O, p, sa, n, la, ss, rfl, hF, hN, hO, hl, q⟩ := h
  obtain ⟨dx, l, h1, h2⟩ := hF.flds
  obtain ⟨acc, hAc⟩ := hF.st
  have hps : p ≠ sa := fun e => by
    rw [e, hAc.is] at h1
    cases h1
  refine ⟨_, (pss_cons (ps_fld (pv 0) (pe_cg G_applied hr rfl (pa_cons (pe_fld (pv 0) rfl) (pa_cons (pe_slice sl_list (pe_fld (pv 0) rfl) po_none (po_some (pv 1))) pa_nil))) rfl)
  (pss_one (ps_fld (pv 0) (pe_lst pa_nil) rfl))), ?_⟩
  refine ⟨_, rfl, p, C, dx, _, _, rfl, h1, T_File.cl, T_File.nL, F2_a nls, _, rfl, p, C, dx, _, _, rfl, h1, T_File.cl, T_File.nS, F2_b, _, rfl, n, rfl, sa, acc, rfl, SqL.of hAc.is, fun c hc => ?_⟩
  have s1 := same_upd (o := .lst (cutV acc none (some (n : Int)))) hc
  have hC := upd_same (H := H) (a := c) (o := .lst (cutV acc none (some (n : Int))))
  have hlen : (ss.take n).length ≤ ss.length := by
    rw [List.length_take]
    omega
  refine ⟨l, c, la, ss.take n, _, rfl, sql_le s1 h2, SqL.of hC, ?_, hN.take n, by omega, fun r H1 nr s2 hr1 => ?_⟩
  · rw [cut_list (by omega), Int.toNat_natCast] at s1 ⊢
    rw [List.map_take]
    exact ((hAc.it.le (wo_le _ _)).le s1).take n
  have s12 := s1.trans s2
  have r0 : H r = none := s1.free nr
  have hp1 := s12 _ _ h1
  have hrp : r ≠ p := (ne_of hr1 hp1 (by intro z; cases z))
  refine ⟨_, rfl, p, C, dx, _, rfl, hp1, T_File.cl, T_File.nL, F2_len nls, ?_⟩
  rw [F2_puta nls]
  refine ⟨Nat.zero_le _, fun sb hsb => ?_⟩
  have hsp : sb ≠ p := fun e => by rw [e, upd_same] at hsb; cases hsb
  have hsb1 : H1 sb = none := by rw [upd_ne hsp] at hsb; exact hsb
  have hsr : sb ≠ r := fun e => by rw [e, hr1] at hsb1; cases hsb1
  refine ⟨_, rfl, p, C, dx, _, rfl, same_upd hsb _ _ upd_same, T_File.cl, T_File.nS, F2_len nls, ?_⟩
  rw [F2_putb nls]
  refine q sb _ (s12.free hsb1) ((((Up.of s12).trans (Up.put (by simp))).trans (Up.of (same_upd hsb))).trans (Up.put (by simp))) ⟨List.mem_cons_of_mem _ hF.op, ⟨dx, r, upd_same, SqL.of ?_⟩, [], List.mem_cons_self, ?_, .nil⟩
  · rw [wo_out (by simp [Ne.symm hsr, hO.out r0]), upd_ne hrp, upd_ne (Ne.symm hsr), upd_ne hrp]
    exact hr1
  · rw [upd_ne hsp, upd_same]
theorem ok_File_flush {f : Addr} {fd : FuncData} (F : Fun K "flush" "File.flush" s_File_flush f fd) (T : Txt K mg) (T_File : TFile K C) (M_lose : GM P w K mg base CX0 C "lose" 2 ["self", "steps"] (spLose K C)) : FnOk P w K mg base CX0 3 f fd ["self", "steps"] (spFlush K C) := by
  refine F.ok sc_File_flush (fun vs H Q E h => ?_) (fun cdv A outer s H vs Q E hr h => ?_)
  · obtain ⟨_, _, _, _, _, _, _, rfl, _⟩ := h
    rfl
  obtain ⟨O, p, sa, lim, m, la, ss, rfl, hF, hN, hO, hlim, hl, q0, q1⟩ := h
  obtain ⟨dx, l, h1, h2⟩ := hF.flds
  obtain ⟨acc, hAc⟩ := hF.st
  have al : acc.length = ss.length := by rw [hAc.len, List.length_map]
  refine ⟨_, (Evl.pss_cut (ps_if (pt_cmpR op_eq (pv 1) pe_int (nomark _)) (pss_one (ps_ret pe_int)) pss_nil)
  (pss_cons (ps_expr (pe_gm (pv 0) T_File.cl M_lose hr (pa_cons (pe_callB call_len_seq (by rfl) T.b_len bt_len (pa_cons (pe_fld (pv 0) rfl) pa_nil)) pa_nil)))
  (pss_one (ps_ret pe_int)))), ?_⟩
  refine ⟨fun σ' H' => σ' = [some (.ref p), some lim] ∧ H' = H ∧ m = 1, ?_, ?_⟩
  · -- if steps == 0
    cases lim with
    | non =>
      have e : 1 = m := Option.some.inj hlim
      exact ⟨_, rfl, rfl, _, rfl, brD (fun z => nomatch z) fun _ => ⟨rfl, rfl, e.symm⟩⟩
    | int i =>
      obtain ⟨i0, i1, i2⟩ := lim_min hlim
      refine ⟨_, rfl, rfl, _, rfl, brD (fun z => ?_) fun z => ⟨rfl, rfl, ?_⟩⟩
      · rw [int_inj] at z
        exact q0 (by
          rw [z] at i1
          simp at i1
          omega)
      · rw [int_inj] at z
        have h0 : m ≠ 0 := fun z2 => by
          subst z2
          split at i1 <;> omega
        omega
    | _ => cases hlim
  rintro σ' H' ⟨rfl, rfl, rfl⟩
  refine ⟨_, rfl, p, dx, _, rfl, h1, F2_no (by decide +kernel) (by decide +kernel), _, rfl, p, C, dx, _, _, rfl, h1, T_File.cl, T_File.nS, F2_b, sa, acc, rfl, .inl (SqL.of hAc.is), ?_⟩
  rw [al]
  refine ⟨O, p, sa, ss.length, la, ss, rfl, hF, hN, hO, hl, fun sb H' hsb u F2 => ?_⟩
  rw [List.take_of_length_le (Nat.le_refl _)] at F2
  exact q1 (by decide) sb H' hsb u F2
end

structure DJ (K : PySem.W.Frag) (C : Addr) (O : List Addr) (H : Hp) (st p sa vl vs : Addr) (La : List Int) (Ss : List Stp) : Prop where
  sA : StA K O H st
  fA : FileAt K C O H p sa La Ss
  la : wo H O vl = some (.lst (La.map V.int))
  ss : ∃ xs, wo H O vs = some (.lst xs) ∧ RpAll K (wo H O) xs (Ss.map encL)
  nn : NnS Ss
  ow : Own O H
section
variable {K : PySem.W.Frag} {C : Addr} {O O' S : List Addr} {H H' : Hp} {st p sa vl vs q : Addr} {La : List Int} {Ss : List Stp}
theorem DJ.le (h : DJ K C O H st p sa vl vs La Ss) (s : Same H H') : DJ K C O H' st p sa vl vs La Ss := by
  obtain ⟨xs, h1, h2⟩ := h.ss
  exact ⟨h.sA.le s, h.fA.le s, Same.wo s _ _ h.la, ⟨xs, Same.wo s _ _ h1, h2.le (Same.wo s)⟩, h.nn, h.ow.le s⟩
theorem DJ.nstp (h : DJ K C O H st p sa vl vs La Ss) : st ≠ p := fun e => by
  obtain ⟨xs, hx⟩ := h.sA.is
  obtain ⟨dx, l, hp, _⟩ := h.fA.ob
  rw [e, hp] at hx
  cases hx
theorem DJ.npsa (h : DJ K C O H st p sa vl vs La Ss) : p ≠ sa := fun e => by
  obtain ⟨dx, l, hp, _⟩ := h.fA.ob
  obtain ⟨acc, hA⟩ := h.fA.st
  rw [e, hA.is] at hp
  cases hp
theorem DJ.nx (h : DJ K C O H st p sa vl vs La Ss) (n : sa ≠ st) (u : Up [st] H H') (s : StA K O H' st) : DJ K C O H' st p sa vl vs La Ss := by
  obtain ⟨xs, h1, h2⟩ := h.ss
  have i : ∀ a ∈ [st], a ∈ O := by simpa using h.sA.1
  have w := (u.mono i).wo
  obtain ⟨ys, hy⟩ := s.is
  exact ⟨s, h.fA.up u i (by simpa using Ne.symm h.nstp) (by simpa using n), w _ _ h.la, ⟨xs, w _ _ h1, h2.le w⟩, h.nn, h.ow.up u (by simp [hy])⟩
theorem DJ.fl {sb : Addr} {La' : List Int} {Ss' : List Stp} (h : DJ K C O H st p sa vl vs La Ss) (w : Same (wo H O) (wo H' O')) (i : ∀ a ∈ O, a ∈ O') (u : Up [p, sa] H H') (n : sa ≠ st) (f : FileAt K C O' H' p sb La' Ss') (o : Own O' H')
    {wl ws : Addr} (l1 : wo H' O' wl = some (.lst (La'.map V.int))) (l2 : ∃ xs, wo H' O' ws = some (.lst xs) ∧ RpAll K (wo H' O') xs (Ss'.map encL)) (nn : NnS Ss') : DJ K C O' H' st p sb wl ws La' Ss' := by
  refine ⟨?_, f, l1, l2, nn, o⟩
  obtain ⟨h0, d, ds, k, h1, h2, h3⟩ := h.sA
  exact ⟨i _ h0, d, ds, k, u _ _ (by simp [h.nstp, Ne.symm n]) h1, sql_le w h2, h3⟩
theorem DJ.flS {sb : Addr} {La' : List Int} {Ss' : List Stp} (h : DJ K C O H st p sa vl vs La Ss) (w : Same (wo H O) (wo H' O')) (i : ∀ a ∈ O, a ∈ O') (u : Up S H H') (n : st ∉ S) (f : FileAt K C O' H' p sb La' Ss') (o : Own O' H')
    {wl ws : Addr} (l1 : wo H' O' wl = some (.lst (La'.map V.int))) (l2 : ∃ xs, wo H' O' ws = some (.lst xs) ∧ RpAll K (wo H' O') xs (Ss'.map encL)) (nn : NnS Ss') : DJ K C O' H' st p sb wl ws La' Ss' := by
  refine ⟨?_, f, l1, l2, nn, o⟩
  obtain ⟨h0, d, ds, k, h1, h2, h3⟩ := h.sA
  exact ⟨i _ h0, d, ds, k, u _ _ n h1, sql_le w h2, h3⟩
theorem FileAt.carry (h : FileAt K C O H p sa La Ss) (u : Up S H H') (w : Same (wo H O) (wo H' O')) (i : ∀ a ∈ O, a ∈ O') (n1 : p ∉ S) (n2 : sa ∉ S) : FileAt K C O' H' p sa La Ss := by
  obtain ⟨h0, ⟨dx, l, h1, h2⟩, acc, h3⟩ := h
  exact ⟨i _ h0, ⟨dx, l, u _ _ n1 h1, sql_le w h2⟩, acc, i _ h3.own, u _ _ n2 h3.is, h3.it.le w⟩
end
theorem DJ.grow {K : PySem.W.Frag} {C : Addr} {O : List Addr} {H : Hp} {st p sa vl vs q : Addr} {o : HO} {La : List Int} {Ss : List Stp} (h : DJ K C O H st p sa vl vs La Ss) (hq : H q = none) : DJ K C (q :: O) (upd H q o) st p sa vl vs La Ss := by
  obtain ⟨xs, h1, h2⟩ := h.ss
  exact ⟨h.sA.grow hq, h.fA.grow (S := []) hq (Up.of (same_upd hq)) (by simp) (by simp) (by simp), wo_new hq _ _ h.la, ⟨xs, wo_new hq _ _ h1, h2.le (wo_new hq)⟩, h.nn, (h.ow.le (same_upd hq)).cons (some_ne upd_same)⟩
theorem DJ.put {K : PySem.W.Frag} {C : Addr} {O : List Addr} {H : Hp} {st p sa vl vs q : Addr} {o : HO} {La : List Int} {Ss : List Stp} (h : DJ K C O H st p sa vl vs La Ss) (hq : q ∈ O) (n1 : q ≠ st) (n2 : q ≠ p) (n3 : q ≠ sa) : DJ K C O (upd H q o) st p sa vl vs La Ss := by
  obtain ⟨xs, h1, h2⟩ := h.ss
  have e : wo (upd H q o) O = wo H O := wo_upd_in hq
  have u : Up [q] H (upd H q o) := Up.put (by simp)
  exact ⟨h.sA.put hq n1, h.fA.up u (by simpa using hq) (by simpa using Ne.symm n2) (by simpa using Ne.symm n3), by rw [e]; exact h.la, ⟨xs, by rw [e]; exact h1, by rw [e]; exact h2⟩, h.nn, h.ow.up u (by simp [upd_same])⟩
def LimOk (lim : V) : Prop := lim = .non ∨ ∃ i : Int, lim = .int i ∧ 0 ≤ i
theorem LimOk.get {lim : V} (h : LimOk lim) (n : Nat) : ∃ m, limN n lim = some m ∧ m ≤ n := by
  rcases h with rfl | ⟨i, rfl, h⟩
  · exact ⟨n, rfl, Nat.le_refl _⟩
  · exact ⟨min i.toNat n, by simp [limN, h], by omega⟩
def spDeed (K : PySem.W.Frag) (C : Addr) : Sp := fun xs H Q _ => ∃ (O : List Addr) (st p sa vl vs : Addr) (La : List Int) (Ss : List Stp), xs = [.ref st, .ref p, .ref vl, .ref vs] ∧ DJ K C O H st p sa vl vs La Ss ∧ sa ≠ st ∧ La.length + Ss.length ≤ 3000000 ∧
  ∀ (O' : List Addr) (H' : Hp) (res sb wl ws : Addr) (La' : List Int) (Ss' : List Stp), DJ K C O' H' st p sb wl ws La' Ss' → Same (wo H O) (wo H' O') → (∀ a ∈ O, a ∈ O') → Up [st, p, sa] H H' → (sb = sa ∨ H sb = none) → La'.length + Ss'.length ≤ La.length + Ss.length + 100 →
    H' res = some (.lst [.bl true, .ref wl, .ref ws]) → Q (.ref res) H'
section
variable {P : Program} {w : World} {K : PySem.W.Frag} {mg : Str → Option Value} {base : Heap} {C : Addr}
theorem ok_law_deed {f : Addr} {fd : FuncData} (F : Fun K "_law_deed" "_law_deed" s_law_deed f fd) (T : Txt K mg) (T_File : TFile K C) (G_law_next : GF P w K mg base CX0 "_law_next" 3 ["state", "limit"] (spNextA K)) (G_law_same : GF P w K mg base CX0 "_law_same" 2 ["actual", "expected"] (spSame K 1))
    (G_law_after : GF P w K mg base CX0 "_law_after" 1 ["data", "steps"] (spApp K encL)) (M_write : GM P w K mg base CX0 C "write" 1 ["self", "data", "steps"] (spWrite K C)) (M_shorten : GM P w K mg base CX0 C "shorten" 1 ["self", "size", "steps"] (spShorten K C))
    (M_flush : GM P w K mg base CX0 C "flush" 3 ["self", "steps"] (spFlush K C)) (M_lose : GM P w K mg base CX0 C "lose" 2 ["self", "steps"] (spLose K C)) : FnOk P w K mg base CX0 4 f fd ["state", "file", "lasting", "steps"] (spDeed K C) := by
  refine F.ok sc_law_deed (fun vs H Q E h => ?_) (fun cdv A outer s H vs Q E hr h => ?_)
  · obtain ⟨_, _, _, _, _, _, _, _, rfl, _⟩ := h
    rfl
  obtain ⟨O, st, p, sa, vl, vs, La, Ss, rfl, J, nsa, hz, q⟩ := h
  have hu64 := hr.units
  refine ⟨_, (pss_cons (ps_set (i := 4) sc_law_deed.nd rfl (Or.inl rfl) (pe_cg G_law_next hr rfl (pa_cons (pv 0) (pa_cons pe_int pa_nil))))
  (pss_cons (ps_set (i := 5) sc_law_deed.nd rfl (Or.inl rfl) pe_non)
  (Evl.pss_cut (ps_if (pt_cmpR op_eq (pe_cg G_law_next hr rfl (pa_cons (pv 0) (pa_cons pe_int pa_nil))) pe_int (nomark _)) (pss_one (ps_set (i := 5) sc_law_deed.nd rfl (Or.inl rfl) (pe_ix ix_list (pe_lst (pa_cons (pe_cg G_law_next hr rfl (pa_cons (pv 0) (pa_cons pe_int pa_nil))) (pa_cons (pe_cg G_law_next hr rfl (pa_cons (pv 0) (pa_cons pe_int pa_nil))) pa_nil))) (pe_cg G_law_next hr rfl (pa_cons (pv 0) (pa_cons pe_int pa_nil))) (fun _ _ => rfl)))) pss_nil)
  (pss_cons (ps_if (pt_cmpR op_lt (pv 4) pe_int (nomark _)) (pss_cons (ps_setLc (i := 6) (own := [("k", 11)]) (g := (gName 11)) (tt := tYes) rfl sc_law_deed.nd rfl rfl (sw_true rfl rfl rfl (by decide +kernel)) (pi_range1 rfl T.b_range (pa_cons (pe_op op_add (pe_cg G_law_next hr rfl (pa_cons (pv 0) (pa_cons pe_int pa_nil))) (pe_op op_mul pe_int (pe_callTy call_int1 (by rfl) T.b_int bt_int (pa_cons (pe_cmpR op_eq (pe_cg G_law_next hr rfl (pa_cons (pv 0) (pa_cons pe_int pa_nil))) pe_int (nomark _)) pa_nil)))) pa_nil)) (blkOk_by (N := ["state", "file", "lasting", "steps", "pick", "limit", "data", "count", "passed", "done", "size", "k", "byte"]) (sc := defScope s_law_deed) (by decide +kernel)) (fun _ _ _ _ _ => (pg_name (i := 11) sc_law_deed.nd rfl (Or.inl rfl))) (fun _ _ _ _ _ => pts_nil) (fun _ _ _ _ _ => (pe_cg G_law_next hr rfl (pa_cons (pv 0) (pa_cons pe_int pa_nil)))))
  (pss_cons (ps_set (i := 7) sc_law_deed.nd rfl (Or.inl rfl) (pe_callB call_len_seq (by rfl) T.b_len bt_len (pa_cons (pv 6) pa_nil)))
  (Evl.pss_cut (ps_if (pt_cmp (pc_notN (pv 5))) (pss_one (ps_set (i := 7) sc_law_deed.nd rfl (Or.inl rfl) (pe_callB (call_min2 rfl) (by rfl) T.b_min bt_min (pa_cons (pv 7) (pa_cons (pv 5) pa_nil))))) pss_nil)
  (pss_cons (ps_set (i := 8) sc_law_deed.nd rfl (Or.inl rfl) (pe_callTy call_list_of (by rfl) T.b_list bt_list (pa_cons (pv 6) pa_nil)))
  (pss_cons (ps_set (i := 9) sc_law_deed.nd rfl (Or.inl rfl) (pe_gm (pv 1) T_File.cl M_write hr (pa_cons (pv 8) (pa_cons (pv 5) pa_nil))))
  (pss_cons (ps_if (pt_cmpR (op_neD hu64) (pv 8) (pv 6) (nomark _)) (pss_one (ps_ret (pe_lst (pa_cons pe_bl (pa_cons (pv 2) (pa_cons (pv 3) pa_nil)))))) pss_nil)
  (pss_cons (ps_expr (pe_bm PySem.F.plainAttrs_list PySem.F.slot_list_insert PySem.F.type_list_insert mt_insert (pv 8) (pa_cons pe_int (pa_cons pe_int pa_nil))))
  (pss_cons (ps_expr (pe_bm PySem.F.plainAttrs_list PySem.F.slot_list_append PySem.F.type_list_append mt_append (pv 8) (pa_cons pe_int pa_nil)))
  (pss_one (ps_ret (pe_lst (pa_cons (pe_cg G_law_same hr rfl (pa_cons (pv 9) (pa_cons (pv 7) pa_nil))) (pa_cons (pv 2) (pa_cons (pe_op op_cat (pv 3) (pe_lc (own := [("byte", 12)]) (g := (gName 12)) (tt := tYes) rfl sc_law_deed.nd (pi_list (pe_slice sl_list (pv 6) po_none (po_some (pv 7)))) (blkOk_by (N := ["state", "file", "lasting", "steps", "pick", "limit", "data", "count", "passed", "done", "size", "k", "byte"]) (sc := defScope s_law_deed) (by decide +kernel)) (fun _ _ _ _ _ => (pg_name (i := 12) sc_law_deed.nd rfl (Or.inl rfl))) (fun _ _ _ _ _ => pts_nil) (fun _ _ _ _ _ => (pe_tup (pa_cons pe_int (pa_cons (pv 12) pa_nil)))))) pa_nil)))))))))))))) pss_nil)
  (pss_cons (ps_if (pt_cmpR op_lt (pv 4) pe_int (nomark _)) (pss_cons (ps_set (i := 10) sc_law_deed.nd rfl (Or.inl rfl) (pe_cg G_law_next hr rfl (pa_cons (pv 0) (pa_cons (pe_op op_add (pe_callB call_len_seq (by rfl) T.b_len bt_len (pa_cons (pe_cg G_law_after hr rfl (pa_cons (pv 2) (pa_cons (pv 3) pa_nil))) pa_nil)) pe_int) pa_nil))))
  (pss_cons (ps_set (i := 9) sc_law_deed.nd rfl (Or.inl rfl) (pe_gm (pv 1) T_File.cl M_shorten hr (pa_cons (pv 10) (pa_cons (pv 5) pa_nil))))
  (pss_cons (ps_if (pt_cmpR op_eq (pv 5) pe_int (nomark _)) (pss_one (ps_ret (pe_lst (pa_cons (pe_cg G_law_same hr rfl (pa_cons (pv 9) (pa_cons pe_int pa_nil))) (pa_cons (pv 2) (pa_cons (pv 3) pa_nil)))))) pss_nil)
  (pss_one (ps_ret (pe_lst (pa_cons (pe_cg G_law_same hr rfl (pa_cons (pv 9) (pa_cons pe_int pa_nil))) (pa_cons (pv 2) (pa_cons (pe_op op_cat (pv 3) (pe_lst (pa_cons (pe_tup (pa_cons pe_int (pa_cons (pv 10) pa_nil))) pa_nil))) pa_nil))))))))) pss_nil)
  (pss_cons (ps_if (pt_cmpR op_lt (pv 4) pe_int (nomark _)) (pss_cons (ps_set (i := 9) sc_law_deed.nd rfl (Or.inl rfl) (pe_gm (pv 1) T_File.cl M_flush hr (pa_cons (pv 5) pa_nil)))
  (pss_cons (ps_if (pt_cmpR op_eq (pv 5) pe_int (nomark _)) (pss_one (ps_ret (pe_lst (pa_cons (pe_cg G_law_same hr rfl (pa_cons (pv 9) (pa_cons pe_int pa_nil))) (pa_cons (pv 2) (pa_cons (pv 3) pa_nil)))))) pss_nil)
  (pss_one (ps_ret (pe_lst (pa_cons (pe_cg G_law_same hr rfl (pa_cons (pv 9) (pa_cons pe_int pa_nil))) (pa_cons (pe_cg G_law_after hr rfl (pa_cons (pv 2) (pa_cons (pv 3) pa_nil))) (pa_cons (pe_lst pa_nil) pa_nil)))))))) pss_nil)
  (pss_cons (ps_set (i := 7) sc_law_deed.nd rfl (Or.inl rfl) (pe_cg G_law_next hr rfl (pa_cons (pv 0) (pa_cons (pe_op op_add (pe_callB call_len_seq (by rfl) T.b_len bt_len (pa_cons (pv 3) pa_nil)) pe_int) pa_nil))))
  (pss_cons (ps_expr (pe_gm (pv 1) T_File.cl M_lose hr (pa_cons (pv 7) pa_nil)))
  (pss_one (ps_ret (pe_lst (pa_cons pe_bl (pa_cons (pe_cg G_law_after hr rfl (pa_cons (pv 2) (pa_cons (pe_slice sl_list (pv 3) po_none (po_some (pv 7))) pa_nil))) (pa_cons (pe_lst pa_nil) pa_nil)))))))))))))), ?_⟩
  have nfl : ∀ {m : Str}, ¬ m = "_steps" → ¬ m = "_lasting" → ∀ {l s}, (F2 "_lasting" "_steps" (.ref l) (.ref s)).lookup m = none := fun h1 h2 => F2_no h1 h2
  have fin : ∀ (O' : List Addr) (H9 : Hp) (sb wl ws : Addr) (La' : List Int) (Ss' : List Stp), DJ K C O' H9 st p sb wl ws La' Ss' → Same (wo H O) (wo H9 O') → (∀ a ∈ O, a ∈ O') → Up [st, p, sa] H H9 → (sb = sa ∨ H sb = none) → La'.length + Ss'.length ≤ La.length + Ss.length + 100 →
      3 ≤ sizeLine ∧ ∀ res, H9 res = none → Q (.ref res) (upd H9 res (.lst [.bl true, .ref wl, .ref ws])) := fun O' H9 sb wl ws La' Ss' j w i u n l => by
    refine ⟨sz 3 (by decide), fun res hr => q O' _ res sb wl ws La' Ss' (j.le (same_upd hr)) (fun a o e => Same.wo (same_upd hr) _ _ (w a o e)) i (u.trans (Up.new hr)) n l upd_same⟩
  have hlim0 : ∀ {lim : V} {m : Nat}, LimOk lim → limN 1 lim = some m → (lim = .int 0 ↔ m = 0) ∧ m ≤ 1 ∧ scal lim (.int 0) = true := fun {lim m} h1 h2 => by
    rcases h1 with rfl | ⟨i, rfl, hi⟩
    · have e : 1 = m := Option.some.inj h2
      subst e
      simp [scal]
    · simp only [limN, hi, if_true] at h2
      have e := Option.some.inj h2
      refine ⟨?_, by omega, rfl⟩
      rw [int_inj]
      omega
  refine ⟨_, rfl, O, st, 8, rfl, by decide, J.sA, fun pick H1 p0 p1 _ u1 S1 => ?_⟩
  have J1 := J.nx nsa u1 S1
  refine ⟨fun σ' H' => ∃ lim, σ' = [some (.ref st), some (.ref p), some (.ref vl), some (.ref vs), some (.int pick), some lim, none, none, none, none, none, none, none] ∧ LimOk lim ∧ DJ K C O H' st p sa vl vs La Ss ∧ Up [st] H H', ?_, ?_⟩
  · refine ⟨_, rfl, O, st, 3, rfl, by decide, J1.sA, fun r H2 r0 r1 _ u2 S2 => ?_⟩
    have J2 := J1.nx nsa u2 S2
    refine ⟨rfl, _, rfl, brD (fun _ => ?_) (fun _ => ⟨.non, rfl, .inl rfl, J2, u1.trans u2⟩)⟩
    refine ⟨_, rfl, O, st, 7, rfl, by decide, J2.sA, fun a H3 a0 a1 _ u3 S3 => ?_⟩
    have J3 := J2.nx nsa u3 S3
    refine ⟨_, rfl, O, st, 60, rfl, by decide, J3.sA, fun b H4 b0 b1 _ u4 S4 => ⟨sz 2 (by decide), fun t ht => ?_⟩⟩
    have J4 := J3.nx nsa u4 S4
    have s5 := same_upd (o := .lst [.int a, .int b]) ht
    have J5 := J4.le s5
    refine ⟨_, rfl, O, st, 2, rfl, by decide, J5.sA, fun c H6 c0 c1 _ u6 S6 => ?_⟩
    have J6 := J5.nx nsa u6 S6
    have hts : t ≠ st := fun e => by
      obtain ⟨xs, hx⟩ := J4.sA.is
      rw [e, hx] at ht
      cases ht
    have hT : H6 t = some (.lst [.int a, .int b]) := u6 _ _ (by simpa using hts) upd_same
    obtain ⟨m, hm, m0⟩ : ∃ m : Int, atI [V.int a, .int b] c = some (.int m) ∧ 0 ≤ m := by
      have : c = 0 ∨ c = 1 := by omega
      rcases this with rfl | rfl
      · exact ⟨a, rfl, a0⟩
      · exact ⟨b, rfl, b0⟩
    refine ⟨t, _, c, _, rfl, rfl, SqL.of hT, hm, .int m, rfl, .inr ⟨m, rfl, m0⟩, J6, ?_⟩
    exact u1.trans (u2.trans (u3.trans (u4.trans ((Up.of s5).trans u6))))
  rintro σ' H2 ⟨lim, rfl, hlim, J2, u2⟩
  clear J1 S1 u1
  refine ⟨_, rfl, _, _, rfl, rfl, _, rfl, brD (fun e3 => ?_) (fun e3 => ?_)⟩
  · -- data = [_law_next(state, 256) for k in range(..)]
    refine ⟨_, rfl, O, st, 10, rfl, by decide, J2.sA, fun a H3 a0 a1 _ u3 S3 => ?_⟩
    have J3 := J2.nx nsa u3 S3
    refine ⟨_, rfl, O, st, 5, rfl, by decide, J3.sA, fun b H4 b0 b1 _ u4 S4 => ?_⟩
    have J4 := J3.nx nsa u4 S4
    refine ⟨rfl, .inr ⟨_, rfl, _, _, rfl, rfl, .inl ⟨by decide, by decide⟩, _, _, rfl, rfl, ?_⟩⟩
    obtain ⟨mm, hm⟩ : ∃ mm : Int, mm = a + 50 * (if decide (V.int b = V.int 0) = true then (1 : Int) else 0) := ⟨_, rfl⟩
    have m0 : 0 ≤ mm ∧ mm < 60 := by
      rw [hm]
      split <;> omega
    have u24 := u2.trans (u3.trans u4)
    refine ⟨mm, by rw [hm], by omega, by omega, fun D hD => lc_range (lo := 0) (n := mm.toNat) (fun i H' => ∃ ns : List Int, H' D = some (.lst (ns.map V.int)) ∧ ns.length = i ∧ Up [st] H4 H' ∧ StA K (D :: O) H' st) ⟨[], upd_same, rfl, Up.new hD, J4.sA.grow hD⟩ ?_ ?_⟩
    · rintro i H5 hi ⟨ns, e1, e2, e3, e4⟩
      refine ⟨rfl, _, rfl, D :: O, st, 256, rfl, by decide, e4, fun r H6 r0 r1 _ u6 S6 => ?_⟩
      have nD : D ≠ st := fun z => by
        obtain ⟨xs, hx⟩ := J4.sA.is
        rw [z, hx] at hD
        cases hD
      have e5 := u6 _ _ (by simpa using nD) e1
      refine ⟨_, e5, szl _ (by rw [List.length_map]; omega), ns ++ [r], by rw [upd_same]; simp, by simp [e2], fun q o hq z => ?_, S6.put List.mem_cons_self nD⟩
      have nq : q ≠ D := ne_of_none z hD
      rw [upd_ne nq]
      exact u6 _ _ hq (e3 _ _ hq z)
    · rintro H5 ⟨ns, e1, e2, e3, e4⟩
      have nl : ns.length ≤ 60 := by omega
      have nl2 : (ns.map V.int).length = ns.length := List.length_map _
      have J5 := J4.nx nsa e3 (e4.shrink J4.sA.1)
      have u25 := u24.trans e3
      obtain ⟨n, hn, hn1⟩ := hlim.get ns.length
      refine ⟨_, rfl, D, _, rfl, .inl (SqL.of e1), ?_⟩
      refine ⟨fun σ' H' => σ' = [some (.ref st), some (.ref p), some (.ref vl), some (.ref vs), some (.int pick), some lim, some (.ref D), some (.int (n : Int)), none, none, none, none, none] ∧ H' = H5, ?_, ?_⟩
      · refine ⟨_, rfl, _, rfl, ?_⟩
        rcases hlim with rfl | ⟨i, rfl, hi⟩
        · have en : ns.length = n := Option.some.inj hn
          refine iteF ⟨?_, rfl⟩
          rw [nl2, en]
          rfl
        · obtain ⟨i0, i1, i2⟩ := lim_min hn
          refine iteT ⟨_, rfl, _, rfl, _, _, rfl, ?_⟩
          rw [nl2]
          have i3 : (if i < (ns.length : Int) then i else (ns.length : Int)) = (n : Int) := by
            rw [← i1]
            split <;> split <;> omega
          rw [i3]
          exact ⟨rfl, rfl⟩
      rintro σ' H' ⟨rfl, rfl⟩
      refine ⟨_, rfl, D, _, rfl, .inl (SqL.of e1), fun pA hpA => ?_⟩
      have J6 := J5.grow (o := .lst (ns.map V.int)) hpA
      have s6 := same_upd (o := .lst (ns.map V.int)) hpA
      have hP := upd_same (H := H') (a := pA) (o := .lst (ns.map V.int))
      have hD6 := s6 _ _ e1
      have w06 : Same (wo H O) (wo (upd H' pA (.lst (ns.map V.int))) (pA :: O)) := (u25.mono (by simpa using J.sA.1)).wo_new (u25.back (by obtain ⟨ys, hy⟩ := J5.sA.is; simp [hy]) hpA) |> fun z => z.trans (by
        have := Same.wo (O := pA :: O) s6
        exact this)
      generalize upd H' pA (.lst (ns.map V.int)) = H6 at *
      have npst : pA ≠ st := fun z => by
        obtain ⟨xs, hx⟩ := J5.sA.is
        rw [z, hx] at hpA
        cases hpA
      have npp : pA ≠ p := fun z => by
        obtain ⟨dx, l, g1, _⟩ := J5.fA.ob
        rw [z, g1] at hpA
        cases hpA
      have npsa : pA ≠ sa := fun z => by
        obtain ⟨acc, hA⟩ := J5.fA.st
        rw [z, hA.is] at hpA
        cases hpA
      have nDp : D ≠ pA := ne_of_none e1 hpA
      obtain ⟨dx, l, g1, _⟩ := J6.fA.ob
      refine ⟨_, rfl, p, dx, _, rfl, g1, nfl (by decide +kernel) (by decide +kernel), _, rfl, _, rfl, ?_⟩
      refine ⟨pA :: O, p, sa, pA, lim, La, ns, Ss, n, rfl, J6.fA, SqL.of hP, hn, J6.ow, by omega, fun H7 u7 f7 => ?_⟩
      obtain ⟨xs, x1, x2⟩ := J6.ss
      have xl : xs.length = Ss.length := by rw [x2.length, List.length_map]
      have hsO : ∀ a ∈ [sa], a ∈ pA :: O := by
        obtain ⟨acc, hA⟩ := J6.fA.st
        simpa using hA.own
      have w7 : Same (wo H6 (pA :: O)) (wo H7 (pA :: O)) := (u7.mono hsO).wo
      have hP7 := u7 _ _ (by simpa using npsa) hP
      have nDsa : D ≠ sa := fun z => by
        obtain ⟨acc, hA⟩ := J4.fA.st
        rw [z, hA.is] at hD
        cases hD
      have hD7 := u7 _ _ (by simpa using nDsa) hD6
      have ow7 : Own (pA :: O) H7 := J6.ow.up u7 (by
        obtain ⟨acc, hA⟩ := f7.st
        simp [hA.is])
      refine ⟨_, rfl, _, rfl, _, _, dp_ints (SqL.of hP7), dp_ints (SqL.of hD7), shaped_ints ns, shaped_ints ns, _, rfl, br (fun z => ?_) (fun _ => ?_)⟩
      · rw [eqv_ints] at z
        simp at z
      refine ⟨_, rfl, .inl ⟨rfl, _, SqL.of hP7⟩, pA, _, 0, _, rfl, rfl, hP7, szl _ (by omega), by decide, by decide, ?_⟩
      refine ⟨_, rfl, .inl ⟨rfl, _, SqL.of upd_same⟩, pA, _, _, rfl, rfl, upd_same, szl _ (by simp; omega), ?_⟩
      rw [upd_upd]
      generalize hH9 : upd H7 pA _ = H9
      have u9 : Up [pA] H7 H9 := by rw [← hH9]; exact Up.put (by simp)
      have e9 : wo H9 (pA :: O) = wo H7 (pA :: O) := by rw [← hH9]; exact wo_upd_in List.mem_cons_self
      have ow9 : Own (pA :: O) H9 := ow7.up u9 (by rw [← hH9]; simp [upd_same])
      have f9 := f7.up u9 (by simp) (by simpa using Ne.symm npp) (by simpa using Ne.symm npsa)
      have hD9 := u9 _ _ (by simpa using nDp) hD7
      have w9 : Same (wo H6 (pA :: O)) (wo H9 (pA :: O)) := by rw [e9]; exact w7
      refine ⟨_, rfl, _, rfl, _, _, _, _, rfl, Rp.int (n : Int), Rp.int (n : Int), rfl, Nat.zero_lt_one, fun Ha sa1 => ⟨_, rfl, _, rfl, _, rfl, _, rfl, _, rfl, D, _, rfl, SqL.of (sa1 _ _ hD9), fun c hc => ?_⟩⟩
      rw [sameD_refl, cut_list (by omega), Int.toNat_natCast]
      have sb1 := same_upd (o := .lst ((ns.map V.int).take n)) hc
      have hC := upd_same (H := Ha) (a := c) (o := .lst ((ns.map V.int).take n))
      have owb := (ow9.le sa1).le sb1
      have s9b := sa1.trans sb1
      generalize upd Ha c (.lst ((ns.map V.int).take n)) = Hb at *
      rw [← List.map_take] at hC
      refine ⟨c, rfl, ⟨_, SqL.of hC⟩, fun D2 hD2 => lc_list (xs := (ns.take n).map V.int) (fun i Hc => Same Hb Hc ∧ Own (D2 :: pA :: O) Hc ∧ ∃ acc, Acc K (D2 :: pA :: O) D2 (((ns.take n).take i).map fun b => encL (true, b)) acc Hc) ⟨same_upd hD2, ?_, [], ?_⟩ (fun i Hc _ z => sql_le z.1 (SqL.of hC)) ?_ ?_⟩
      · exact Own.cons (owb.le (same_upd hD2)) (some_ne upd_same)
      · exact Acc.new List.mem_cons_self
      · rintro i x Hc hx ⟨s2, O2, acc2, A2⟩
        rw [List.getElem?_map] at hx
        cases hb : (ns.take n)[i]? with
        | none =>
          rw [hb] at hx
          cases hx
        | some b =>
          rw [hb] at hx
          cases Option.some.inj hx
          refine ⟨rfl, _, rfl, sz 2 (by decide), fun t ht => ?_⟩
          have st := same_upd (o := .tup [.int 0, .int b]) ht
          have hl2 : (ns.take n).length ≤ ns.length := by
            rw [List.length_take]
            omega
          refine ⟨acc2, (A2.le st).is, szl _ (by rw [A2.len, List.length_map, List.length_take]; omega), fun q o z => ?_, (O2.le st).up (S := [D2]) (Up.put (by simp)) (by simp [upd_same]), acc2 ++ [.ref t], ?_⟩
          · have hq : q ≠ D2 := ne_of_none z hD2
            rw [upd_ne hq]
            exact st _ _ (s2 _ _ z)
          · rw [List.take_add_one, hb, List.map_append]
            exact (A2.le st).push (rp_newT ht (O2.out ht) (.cons (.int _) (.cons (.int _) .nil)))
      · rintro Hc ⟨s2, O2, acc2, A2⟩
        rw [List.length_map, List.take_of_length_le (Nat.le_refl _)] at A2
        have al2 : acc2.length = (ns.take n).length := by rw [A2.len, List.length_map]
        have hl2 : (ns.take n).length ≤ ns.length := by
          rw [List.length_take]
          omega
        have s9c := s9b.trans s2
        have wc : Same (wo H6 (pA :: O)) (wo Hc (pA :: O)) := fun a o z => Same.wo s9c _ _ (w9 a o z)
        refine ⟨vs, D2, xs, acc2, rfl, rfl, wo_le _ _ _ _ (wc _ _ x1), A2.is, sz _ (by omega), fun r hr => ?_⟩
        have sr := same_upd (o := .lst (xs ++ acc2)) hr
        have s9r := s9c.trans sr
        have owc : Own (pA :: O) Hc := fun a ha => O2 a (List.mem_cons_of_mem _ ha)
        have Jr : DJ K C (pA :: O) (upd Hc r (.lst (xs ++ acc2))) st p sa vl r La (Ss ++ (ns.take n).map fun b => (true, b)) :=
          J6.flS (S := [sa, pA]) (fun a o z => Same.wo sr _ _ (wc a o z)) (fun _ z => z) (((u7.mono (by simp)).trans (u9.mono (by simp))).trans (Up.of s9r)) (by simp [Ne.symm nsa, Ne.symm npst]) (f9.le s9r) (owc.le sr)
            (Same.wo sr _ _ (wc _ _ J6.la)) ⟨xs ++ acc2, by rw [wo_out (owc.out hr), upd_same], by
              rw [List.map_append, List.map_map]
              exact ((x2.le wc).le (Same.wo sr)).append ((A2.it.le wo_cons_le).le (Same.wo sr))⟩ (fun x hx => by
              rcases List.mem_append.mp hx with hx | hx
              · exact J6.nn x hx
              · obtain ⟨b, _, rfl⟩ := List.mem_map.mp hx
                exact fun z => nomatch z)
        have uf : Up [st, p, sa] H (upd Hc r (.lst (xs ++ acc2))) := by
          have nH : H pA = none := u25.back (by obtain ⟨ys, hy⟩ := J5.sA.is; simp [hy]) hpA
          intro a o na ea
          have na2 : a ≠ pA := ne_of_none ea nH
          simp at na
          exact s9r _ _ (u9 _ _ (by simpa using na2) (u7 _ _ (by simpa using na.2.2) (s6 _ _ (u25 _ _ (by simpa using na.1) ea))))
        exact fin (pA :: O) _ sa vl r La _ Jr (fun a o z => Same.wo sr _ _ (wc _ _ (w06 a o z))) (fun _ z => List.mem_cons_of_mem _ z) uf (.inl rfl) (by simp; omega)
  refine ⟨_, rfl, _, _, rfl, rfl, _, rfl, brD (fun e5 => ?_) (fun e5 => ?_)⟩
  · -- size = _law_next(state, len(_law_after(lasting, steps)) + 3)
    obtain ⟨xs, x1, x2⟩ := J2.ss
    refine ⟨_, rfl, _, rfl, _, rfl, vl, vs, La, Ss, xs, rfl, SqL.of (wo_le _ _ _ _ J2.la), SqL.of (wo_le _ _ _ _ x1), x2.le (wo_le _ _), J2.nn, by omega, fun r H3 r0 s3 hr3 => ?_⟩
    have J3 := J2.le s3
    refine ⟨r, _, rfl, .inl (SqL.of hr3), _, _, rfl, rfl, ?_⟩
    refine ⟨O, st, _, rfl, by omega, J3.sA, fun z H4 z0 z1 _ u4 S4 => ?_⟩
    have J4 := J3.nx nsa u4 S4
    obtain ⟨m, hm, hm1⟩ := hlim.get 1
    have ez : z = ((z.toNat : Nat) : Int) := by omega
    obtain ⟨dx, l, g1, _⟩ := J4.fA.ob
    refine ⟨_, rfl, p, dx, _, rfl, g1, nfl (by decide +kernel) (by decide +kernel), _, rfl, _, rfl, ?_⟩
    refine ⟨O, p, sa, lim, z.toNat, m, La, Ss, by rw [← ez], J4.fA, hm, J4.ow, by omega, fun H5 u5 f5 => ?_⟩
    have hsO : ∀ a ∈ [sa], a ∈ O := by
      obtain ⟨acc, hA⟩ := J4.fA.st
      simpa using hA.own
    have w5 : Same (wo H4 O) (wo H5 O) := (u5.mono hsO).wo
    have O5 : Own O H5 := J4.ow.up u5 (by
      obtain ⟨acc, hA⟩ := f5.st
      simp [hA.is])
    obtain ⟨ys, y1, y2⟩ := J4.ss
    have u25 : Up [st, p, sa] H H5 := ((u2.trans ((Up.of s3).trans u4)).mono (by simp)).trans (u5.mono (by simp))
    have w25 : Same (wo H O) (wo H5 O) := (u25.mono (by
      intro a ha
      simp at ha
      rcases ha with rfl | rfl | rfl
      · exact J4.sA.1
      · exact J4.fA.op
      · exact hsO a (by simp))).wo
    have iA : ∀ a ∈ [st, p, sa], a ∈ O := by
      intro a ha
      simp at ha
      rcases ha with rfl | rfl | rfl
      · exact J4.sA.1
      · exact J4.fA.op
      · exact hsO a (by simp)
    obtain ⟨k1, k2, k3⟩ := hlim0 hlim hm
    refine ⟨_, rfl, k3, _, rfl, brD (fun e => ?_) (fun e => ?_)⟩
    · have m0 := k1.mp e
      subst m0
      refine ⟨_, rfl, _, _, _, _, rfl, Rp.int 0, Rp.int 0, rfl, by decide, fun H6 s6 => ⟨_, rfl, _, rfl, ?_⟩⟩
      rw [sameD_refl]
      have J5 : DJ K C O H5 st p sa vl vs La Ss := J4.fl w5 (fun _ z => z) (u5.mono (by simp)) nsa (by simpa using f5) O5 (w5 _ _ J4.la) ⟨ys, w5 _ _ y1, y2.le w5⟩ J4.nn
      exact fin O H6 sa vl vs La Ss (J5.le s6) (fun a o z => Same.wo s6 _ _ (w25 a o z)) (fun _ z => z) (u25.trans (Up.of s6)) (.inl rfl) (by omega)
    · have m1 : m = 1 := by
        have : m ≠ 0 := fun z => e (k1.mpr z)
        omega
      subst m1
      refine ⟨_, rfl, _, _, _, _, rfl, Rp.int 1, Rp.int 1, rfl, by decide, fun H6 s6 => ⟨_, rfl, _, rfl, _, rfl, sz 2 (by decide), fun t ht => ⟨sz 1 (by decide), fun c hc => ?_⟩⟩⟩
      rw [sameD_refl]
      have st1 := same_upd (o := .tup [.int 1, .int z]) ht
      have sc1 := same_upd (o := .lst [.ref t]) hc
      have s7 := s6.trans (st1.trans sc1)
      have O6 := O5.le s6
      have O7 := O6.le st1
      have yv := wo_le _ _ _ _ (Same.wo s7 _ _ (w5 _ _ y1))
      have yl : ys.length = Ss.length := by rw [y2.length, List.length_map]
      refine ⟨vs, c, ys, [.ref t], rfl, rfl, yv, upd_same, sz _ (by simp; omega), fun r hr => ?_⟩
      have sr := same_upd (o := .lst (ys ++ [.ref t])) hr
      have s8 := s7.trans sr
      have f8 := f5.le s8
      have O8 := (O7.le sc1)
      have hne : (if (1 : Nat) = 0 then ([] : List Stp) else [(false, ((z.toNat : Nat) : Int))]) = [(false, z)] := by rw [if_neg (by decide), ← ez]
      rw [hne] at f8
      have J8 : DJ K C O _ st p sa vl r La (Ss ++ [(false, z)]) := J4.fl (fun a o z => Same.wo s8 _ _ (w5 a o z)) (fun _ z => z) ((u5.mono (by simp)).trans (Up.of s8)) nsa f8 (O8.le sr) (Same.wo s8 _ _ (w5 _ _ J4.la))
        ⟨ys ++ [.ref t], by rw [wo_out (O8.out hr), upd_same], by
          rw [List.map_append]
          refine ((y2.le w5).le (Same.wo s8)).append (.cons ?_ .nil)
          have q1 : Rp K (wo (upd H6 t (.tup [.int 1, .int z])) O) (.ref t) (.tuple [.int 1, .int z]) := rp_newT ht (O6.out ht) (.cons (.int _) (.cons (.int _) .nil))
          exact (q1.le (Same.wo sc1)).le (Same.wo sr)⟩ (fun x hx => by
          rcases List.mem_append.mp hx with hx | hx
          · exact J4.nn x hx
          · simp at hx
            rw [hx]
            exact fun _ => z0)
      exact fin O _ sa vl r La _ J8 (fun a o z => Same.wo s8 _ _ (w25 a o z)) (fun _ z => z) (u25.trans (Up.of s8)) (.inl rfl) (by simp; omega)
  refine ⟨_, rfl, _, _, rfl, rfl, _, rfl, brD (fun e7 => ?_) (fun e7 => ?_)⟩
  · -- done = file.flush(limit)
    obtain ⟨m, hm, hm1⟩ := hlim.get 1
    obtain ⟨k1, k2, k3⟩ := hlim0 hlim hm
    obtain ⟨dx, l, g1, _⟩ := J2.fA.ob
    obtain ⟨xs, x1, x2⟩ := J2.ss
    have w2 : Same (wo H O) (wo H2 O) := (u2.mono (by simpa using J.sA.1)).wo
    refine ⟨_, rfl, p, dx, _, rfl, g1, nfl (by decide +kernel) (by decide +kernel), _, rfl, ?_⟩
    refine ⟨O, p, sa, lim, m, La, Ss, rfl, J2.fA, J2.nn, J2.ow, hm, by omega, fun e => ?_, fun e sb H5 hsb u5 f5 => ?_⟩
    · have el := k1.mpr e
      refine ⟨_, rfl, k3, _, rfl, brD (fun _ => ?_) (fun z => absurd el z)⟩
      refine ⟨_, rfl, _, _, _, _, rfl, Rp.int 0, Rp.int 0, rfl, by decide, fun H6 s6 => ⟨_, rfl, _, rfl, ?_⟩⟩
      rw [sameD_refl]
      exact fin O H6 sa vl vs La Ss (J2.le s6) (fun a o z => Same.wo s6 _ _ (w2 a o z)) (fun _ z => z) ((u2.mono (by simp)).trans (Up.of s6)) (.inl rfl) (by omega)
    · have nl : ¬ lim = .int 0 := fun z => e (k1.mp z)
      refine ⟨_, rfl, k3, _, rfl, brD (fun z => absurd z nl) (fun _ => ?_)⟩
      have hpO : ∀ a ∈ [p], a ∈ O := by simpa using J2.fA.op
      have w5 : Same (wo H2 O) (wo H5 (sb :: O)) := (u5.mono hpO).wo_new hsb
      refine ⟨_, rfl, _, _, _, _, rfl, Rp.int 1, Rp.int 1, rfl, by decide, fun H6 s6 => ?_⟩
      rw [sameD_refl]
      have w6 : Same (wo H2 O) (wo H6 (sb :: O)) := fun a o z => Same.wo s6 _ _ (w5 a o z)
      refine ⟨_, rfl, _, rfl, vl, vs, La, Ss, xs, rfl, SqL.of (wo_le _ _ _ _ (w6 _ _ J2.la)), SqL.of (wo_le _ _ _ _ (w6 _ _ x1)), (x2.le w6).le (wo_le _ _), J2.nn, by omega, fun r H7 r0 s7 hr7 => ⟨Nat.zero_le _, fun c hc => ?_⟩⟩
      have O5 : Own (sb :: O) H5 := by
        obtain ⟨acc, hA⟩ := f5.st
        obtain ⟨dx2, l2, hp2, _⟩ := f5.ob
        exact (J2.ow.up u5 (by simp [hp2])).cons (some_ne hA.is)
      have O6 := O5.le s6
      have O7 := O6.le s7
      have sc := same_upd (o := .lst []) hc
      have s8 := s6.trans (s7.trans sc)
      have al := applied_len Ss La
      have J8 : DJ K C (sb :: O) _ st p sb r c (applied La Ss) [] := J2.fl (fun a o z => Same.wo s8 _ _ (w5 a o z)) (fun _ z => List.mem_cons_of_mem _ z) ((u5.mono (by simp)).trans (Up.of s8)) nsa (f5.le s8) (O7.le sc)
        (by rw [wo_out (O6.out r0)]; exact sc _ _ hr7) ⟨[], by rw [wo_out (O7.out hc), upd_same], .nil⟩ (fun x hx => nomatch hx)
      exact fin (sb :: O) _ sb r c _ [] J8 (fun a o z => Same.wo s8 _ _ (w5 _ _ (w2 a o z))) (fun _ z => List.mem_cons_of_mem _ z) (((u2.mono (by simp)).trans (u5.mono (by simp))).trans (Up.of s8)) (.inr (u2.back (by obtain ⟨ys, hy⟩ := J2.sA.is; simp [hy]) hsb)) (by simp; omega)
  obtain ⟨xs, x1, x2⟩ := J2.ss
  have xl : xs.length = Ss.length := by rw [x2.length, List.length_map]
  refine ⟨_, rfl, _, rfl, vs, xs, rfl, .inl (SqL.of (wo_le _ _ _ _ x1)), _, _, rfl, rfl, O, st, _, rfl, by omega, J2.sA, fun z H4 z0 z1 _ u4 S4 => ?_⟩
  have J4 := J2.nx nsa u4 S4
  obtain ⟨ys, y1, y2⟩ := J4.ss
  have ez : z = ((z.toNat : Nat) : Int) := by omega
  obtain ⟨dx, l, g1, _⟩ := J4.fA.ob
  refine ⟨_, rfl, p, dx, _, rfl, g1, nfl (by decide +kernel) (by decide +kernel), _, rfl, ?_⟩
  refine ⟨O, p, sa, z.toNat, La, Ss, by rw [← ez], J4.fA, J4.nn, J4.ow, by omega, fun sb H5 hsb u5 f5 => ?_⟩
  have hpO : ∀ a ∈ [p], a ∈ O := by simpa using J4.fA.op
  have w5 : Same (wo H4 O) (wo H5 (sb :: O)) := (u5.mono hpO).wo_new hsb
  have u24 := u2.trans u4
  have w4 : Same (wo H O) (wo H4 O) := (u24.mono (by simpa using J.sA.1)).wo
  refine ⟨_, rfl, _, rfl, _, rfl, z, rfl, vs, ys, rfl, SqL.of (wo_le _ _ _ _ (w5 _ _ y1)), fun c0 hc0 => ?_⟩
  rw [cut_list z0]
  have s6 := same_upd (o := .lst (ys.take z.toNat)) hc0
  refine ⟨vl, c0, La, Ss.take z.toNat, ys.take z.toNat, rfl, SqL.of (s6 _ _ (wo_le _ _ _ _ (w5 _ _ J4.la))), SqL.of upd_same, ?_, J4.nn.take _, by simp; omega, fun r H7 r0 s7 hr7 => ⟨Nat.zero_le _, fun c hc => ?_⟩⟩
  · rw [List.map_take]
    exact (((y2.le w5).le (wo_le _ _)).le s6).take _
  have O5 : Own (sb :: O) H5 := by
    obtain ⟨acc, hA⟩ := f5.st
    obtain ⟨dx2, l2, hp2, _⟩ := f5.ob
    exact (J4.ow.up u5 (by simp [hp2])).cons (some_ne hA.is)
  have O6 := O5.le s6
  have O7 := O6.le s7
  have sc := same_upd (o := .lst []) hc
  have s8 := s6.trans (s7.trans sc)
  have al := applied_len (Ss.take z.toNat) La
  have tl : (Ss.take z.toNat).length ≤ Ss.length := by
    rw [List.length_take]
    omega
  have J8 : DJ K C (sb :: O) _ st p sb r c (applied La (Ss.take z.toNat)) [] := J4.fl (fun a o z => Same.wo s8 _ _ (w5 a o z)) (fun _ z => List.mem_cons_of_mem _ z) ((u5.mono (by simp)).trans (Up.of s8)) nsa (f5.le s8) (O7.le sc)
    (by rw [wo_out (O6.out r0)]; exact sc _ _ hr7) ⟨[], by rw [wo_out (O7.out hc), upd_same], .nil⟩ (fun x hx => nomatch hx)
  exact fin (sb :: O) _ sb r c _ [] J8 (fun a o z => Same.wo s8 _ _ (w5 _ _ (w4 a o z))) (fun _ z => List.mem_cons_of_mem _ z) (((u24.mono (by simp)).trans (u5.mono (by simp))).trans (Up.of s8)) (.inr (u24.back (by obtain ⟨ys, hy⟩ := J4.sA.is; simp [hy]) hsb)) (by simp; omega)
end

def spLaw (K : PySem.W.Frag) : Sp := fun vs H Q _ => ∃ (a : Addr) (ns : List Int), vs = [.ref a] ∧ SqL K H a (ns.map V.int) ∧ ns.length ≤ 63 ∧ ∀ H', Q (.bl true) H'
theorem FileAt.ne {K : PySem.W.Frag} {C : Addr} {O : List Addr} {H : Hp} {p sa l : Addr} {la : List Int} {ss : List Stp} {xs : List V} (h : FileAt K C O H p sa la ss) (hl : H l = some (.lst xs)) : p ≠ l := fun e => by
  obtain ⟨dx, m, g, _⟩ := h.ob
  rw [e, hl] at g
  cases g
theorem FileAt.sl {K : PySem.W.Frag} {C : Addr} {O : List Addr} {H : Hp} {p sa : Addr} {la : List Int} {ss : List Stp} (h : FileAt K C O H p sa la ss) : ∃ xs, H sa = some (.lst xs) := by
  obtain ⟨acc, hA⟩ := h.st
  exact ⟨_, hA.is⟩
theorem FileAt.ins {K : PySem.W.Frag} {C : Addr} {O : List Addr} {H : Hp} {p sa : Addr} {la : List Int} {ss : List Stp} (h : FileAt K C O H p sa la ss) : H p ≠ none := by
  obtain ⟨dx, m, g, _⟩ := h.ob
  exact some_ne g
theorem FileAt.so {K : PySem.W.Frag} {C : Addr} {O : List Addr} {H : Hp} {p sa : Addr} {la : List Int} {ss : List Stp} (h : FileAt K C O H p sa la ss) : sa ∈ O := by
  obtain ⟨acc, hA⟩ := h.st
  exact hA.own
structure LJ (K : PySem.W.Frag) (C : Addr) (O : List Addr) (H : Hp) (st p sa vl vs : Addr) (La : List Int) (Ss : List Stp) (po so ps ss : Addr) : Prop where
  j : DJ K C O H st p sa vl vs La Ss
  fo : FileAt K C O H po so [] []
  fs : FileAt K C O H ps ss [1, 2] [(true, 3)]
  n1 : sa ≠ st ∧ so ≠ st ∧ ss ≠ st ∧ so ≠ sa ∧ ss ≠ sa ∧ so ≠ ss
  n2 : po ≠ p ∧ ps ≠ p ∧ po ≠ ps
section
variable {K : PySem.W.Frag} {C : Addr} {O O' : List Addr} {H H' : Hp} {st p sa vl vs po so ps ss : Addr} {La : List Int} {Ss : List Stp}
theorem FileAt.ext (h : FileAt K C O H p sa La Ss) (s : Same H H') (w : Same (wo H O) (wo H' O')) (i : ∀ a ∈ O, a ∈ O') : FileAt K C O' H' p sa La Ss := h.carry (Up.of (O := []) s) w i (by simp) (by simp)
theorem DJ.ext (h : DJ K C O H st p sa vl vs La Ss) (s : Same H H') (w : Same (wo H O) (wo H' O')) (i : ∀ a ∈ O, a ∈ O') (o : Own O' H') : DJ K C O' H' st p sa vl vs La Ss := by
  obtain ⟨xs, h1, h2⟩ := h.ss
  exact h.flS (S := []) w i (Up.of s) (by simp) (h.fA.ext s w i) o (w _ _ h.la) ⟨xs, w _ _ h1, h2.le w⟩ h.nn
theorem LJ.le (h : LJ K C O H st p sa vl vs La Ss po so ps ss) (s : Same H H') : LJ K C O H' st p sa vl vs La Ss po so ps ss := ⟨h.j.le s, h.fo.le s, h.fs.le s, h.n1, h.n2⟩
theorem LJ.nx (h : LJ K C O H st p sa vl vs La Ss po so ps ss) (u : Up [st] H H') (s : StA K O H' st) : LJ K C O H' st p sa vl vs La Ss po so ps ss := by
  obtain ⟨xs, hx⟩ := h.j.sA.is
  have i : ∀ a ∈ [st], a ∈ O := by simpa using h.j.sA.1
  exact ⟨h.j.nx h.n1.1 u s, h.fo.up u i (by simpa using h.fo.ne hx) (by simpa using h.n1.2.1), h.fs.up u i (by simpa using h.fs.ne hx) (by simpa using h.n1.2.2.1), h.n1, h.n2⟩
end
section
variable {P : Program} {w : World} {K : PySem.W.Frag} {mg : Str → Option Value} {base : Heap} {C : Addr}
theorem mk_own {H : Hp} {O : List Addr} {x dx : Addr} (hO : Own O H) (hx : H x = none) (hdx : H dx = none) (hne : dx ≠ x) : Own (x :: O) (upd (upd H dx (.own x)) x (.ins C dx [])) :=
  (hO.le ((same_upd hdx).trans (same_upd (by rw [upd_ne (Ne.symm hne)]; exact hx)))).cons (some_ne upd_same)
theorem mk_file {K : PySem.W.Frag} {H H' : Hp} {O : List Addr} {x dx sa : Addr} (hO : Own O H) (hx : H x = none) (hdx : H dx = none) (hne : dx ≠ x) (hsa : (upd (upd H dx (.own x)) x (.ins C dx [])) sa = none)
    (u : Up [x] (upd (upd H dx (.own x)) x (.ins C dx [])) H') (f : FileAt K C (sa :: x :: O) H' x sa [] []) : H sa = none ∧ sa ≠ x ∧ Same H H' ∧ Own (sa :: x :: O) H' ∧ Same (wo H O) (wo H' (sa :: x :: O)) := by
  have s0 : Same H (upd (upd H dx (.own x)) x (.ins C dx [])) := (same_upd hdx).trans (same_upd (by rw [upd_ne (Ne.symm hne)]; exact hx))
  have s1 : Same H H' := fun a o e => u _ _ (by simpa using ne_of_none e hx) (s0 _ _ e)
  have hs0 : H sa = none := s0.free hsa
  have hsx : sa ≠ x := fun e => by rw [e, upd_same] at hsa; cases hsa
  obtain ⟨xs, hxs⟩ := f.sl
  refine ⟨hs0, hsx, s1, ((hO.le s1).cons f.ins).cons (some_ne hxs), fun a o e => ?_⟩
  have ha : a ∉ O := fun z => by rw [wo_in z] at e; cases e
  rw [wo_out ha] at e
  rw [wo_out (by simp [ha, ne_of_none e hx, ne_of_none e hs0])]
  exact s1 _ _ e
theorem nflF {m : Str} (h1 : ¬ m = "_steps") (h2 : ¬ m = "_lasting") {l s : V} : (F2 "_lasting" "_steps" l s).lookup m = none := F2_no h1 h2
theorem ok_law {f : Addr} {fd : FuncData} (F : Fun K "law" "law" s_law f fd) (T : Txt K mg) (T_File : TFile K C) (C_File : GC P w K mg base CX0 "File" C 1 ["self"] (spInit K C)) (G_law_draws : GF P w K mg base CX0 "_law_draws" 2 ["script"] (spDraws K)) (G_law_next : GF P w K mg base CX0 "_law_next" 3 ["state", "limit"] (spNextA K))
    (G_law_same : GF P w K mg base CX0 "_law_same" 3 ["actual", "expected"] (spSame K 2)) (G_law_after : GF P w K mg base CX0 "_law_after" 1 ["data", "steps"] (spApp K encL)) (G_law_deed : GF P w K mg base CX0 "_law_deed" 4 ["state", "file", "lasting", "steps"] (spDeed K C))
    (M_write : GM P w K mg base CX0 C "write" 1 ["self", "data", "steps"] (spWrite K C)) (M_flush : GM P w K mg base CX0 C "flush" 3 ["self", "steps"] (spFlush K C)) (M_lose : GM P w K mg base CX0 C "lose" 2 ["self", "steps"] (spLose K C))
    (M_content : GM P w K mg base CX0 C "content" 2 ["self"] (spContent K C)) (M_pending : GM P w K mg base CX0 C "pending" 1 ["self"] (spPending K C)) : FnOk P w K mg base CX0 5 f fd ["script"] (spLaw K) := by
  refine F.ok sc_law (fun vs H Q E h => ?_) (fun cdv A outer s H vs Q E hr h => ?_)
  · obtain ⟨_, _, rfl, _⟩ := h
    rfl
  obtain ⟨a, ns, rfl, hA, hlen, k⟩ := h
  have hu64 := hr.units
  refine ⟨_, (pss_cons (ps_set (i := 1) sc_law.nd rfl (Or.inl rfl) (pe_lst (pa_cons (pe_cg G_law_draws hr rfl (pa_cons (pv 0) pa_nil)) (pa_cons pe_int pa_nil))))
  (pss_cons (ps_set (i := 2) sc_law.nd rfl (Or.inl rfl) (pe_gk0 C_File hr rfl))
  (pss_cons (ps_set (i := 3) sc_law.nd rfl (Or.inl rfl) (pe_lst pa_nil))
  (pss_cons (ps_set (i := 4) sc_law.nd rfl (Or.inl rfl) (pe_lst pa_nil))
  (pss_cons (ps_set (i := 5) sc_law.nd rfl (Or.inl rfl) (pe_gk0 C_File hr rfl))
  (pss_cons (ps_set (i := 6) sc_law.nd rfl (Or.inl rfl) (pe_gk0 C_File hr rfl))
  (pss_cons (ps_expr (pe_gm (pv 6) T_File.cl M_write hr (pa_cons (pe_lst (pa_cons pe_int (pa_cons pe_int pa_nil))) (pa_cons pe_non pa_nil))))
  (pss_cons (ps_expr (pe_gm (pv 6) T_File.cl M_flush hr (pa_cons pe_non pa_nil)))
  (pss_cons (ps_expr (pe_gm (pv 6) T_File.cl M_write hr (pa_cons (pe_lst (pa_cons pe_int pa_nil)) (pa_cons pe_non pa_nil))))
  (pss_cons (ps_for PassesOwn.never rfl (pi_range1 rfl T.b_range (pa_cons (pe_cg G_law_next hr rfl (pa_cons (pv 1) (pa_cons pe_int pa_nil))) pa_nil)) (pg_name (i := 7) sc_law.nd rfl (Or.inl rfl)) (Evl.pss_cut (ps_if (pt_cmpR op_eq (pe_cg G_law_next hr rfl (pa_cons (pv 1) (pa_cons pe_int pa_nil))) pe_int (nomark _)) (pss_cons (ps_expr (pe_gm (pv 5) T_File.cl M_write hr (pa_cons (pe_lst (pa_cons (pv 7) (pa_cons (pe_op op_add (pv 7) pe_int) (pa_cons (pe_op op_add (pv 7) pe_int) pa_nil)))) (pa_cons pe_non pa_nil))))
  (pss_cons (ps_if (PW.pt (pw_or (pt_not (pt_val (pe_cg G_law_same hr rfl (pa_cons (pe_gm0 (pv 5) T_File.cl M_content hr) (pa_cons (pe_lst (pa_cons (pv 7) (pa_cons (pe_op op_add (pv 7) pe_int) (pa_cons (pe_op op_add (pv 7) pe_int) pa_nil)))) pa_nil))))) (pw_or1 (pt_not (pt_val (pe_cg G_law_same hr rfl (pa_cons (pe_gm0 (pv 5) T_File.cl M_pending hr) (pa_cons pe_int pa_nil)))))))) (pss_one (ps_ret pe_bl)) pss_nil)
  (pss_cons (ps_set (i := 5) sc_law.nd rfl (Or.inl rfl) (pe_gk0 C_File hr rfl))
  (pss_one (ps_if (PW.pt (pw_or (pt_cmpR (op_neD hu64) (pe_gm0 (pv 5) T_File.cl M_content hr) (pe_lst pa_nil) (nomark _)) (pw_or1 (pt_not (pt_val (pe_cg G_law_same hr rfl (pa_cons (pe_gm0 (pv 5) T_File.cl M_pending hr) (pa_cons pe_int pa_nil)))))))) (pss_one (ps_ret pe_bl)) pss_nil))))) pss_nil)
  (pss_cons (ps_asg (pe_cg G_law_deed hr rfl (pa_cons (pv 1) (pa_cons (pv 2) (pa_cons (pv 3) (pa_cons (pv 4) pa_nil))))) (pg_unl rfl (pgs_cons (pg_name (i := 8) sc_law.nd rfl (Or.inl rfl)) (pgs_cons (pg_name (i := 3) sc_law.nd rfl (Or.inl rfl)) (pgs_cons (pg_name (i := 4) sc_law.nd rfl (Or.inl rfl)) pgs_nil)))))
  (pss_cons (ps_if (PW.pt (pw_or (pt_not (pt_val (pv 8))) (pw_or1 (pt_not (pt_val (pe_cg G_law_same hr rfl (pa_cons (pe_gm0 (pv 2) T_File.cl M_content hr) (pa_cons (pe_cg G_law_after hr rfl (pa_cons (pv 3) (pa_cons (pv 4) pa_nil))) pa_nil)))))))) (pss_one (ps_ret pe_bl)) pss_nil)
  (pss_cons (ps_if (pt_not (pt_val (pe_cg G_law_same hr rfl (pa_cons (pe_gm0 (pv 2) T_File.cl M_pending hr) (pa_cons (pe_callB call_len_seq (by rfl) T.b_len bt_len (pa_cons (pv 4) pa_nil)) pa_nil))))) (pss_one (ps_ret pe_bl)) pss_nil)
  (pss_cons (ps_expr (pe_bm PySem.F.plainAttrs_list PySem.F.slot_list_append PySem.F.type_list_append mt_append (pe_gm0 (pv 2) T_File.cl M_content hr) (pa_cons pe_int pa_nil)))
  (pss_one (ps_if (PW.pt (pw_and (pt_cmpR op_eq (pe_cg G_law_next hr rfl (pa_cons (pv 1) (pa_cons pe_int pa_nil))) pe_int (nomark _)) (pw_and1 (pt_not (pt_val (pe_cg G_law_same hr rfl (pa_cons (pe_gm0 (pv 2) T_File.cl M_content hr) (pa_cons (pe_cg G_law_after hr rfl (pa_cons (pv 3) (pa_cons (pv 4) pa_nil))) pa_nil)))))))) (pss_one (ps_ret pe_bl)) pss_nil))))))))
  (pss_cons (ps_expr (pe_gm (pv 2) T_File.cl M_lose hr (pa_cons pe_int pa_nil)))
  (pss_cons (ps_if (PW.pt (pw_or (pt_not (pt_val (pe_cg G_law_same hr rfl (pa_cons (pe_gm0 (pv 6) T_File.cl M_content hr) (pa_cons (pe_lst (pa_cons pe_int (pa_cons pe_int (pa_cons pe_int pa_nil)))) pa_nil))))) (pw_or1 (pt_not (pt_val (pe_cg G_law_same hr rfl (pa_cons (pe_gm0 (pv 6) T_File.cl M_pending hr) (pa_cons pe_int pa_nil)))))))) (pss_one (ps_ret pe_bl)) pss_nil)
  (pss_one (ps_ret (pe_and (pe_cg G_law_same hr rfl (pa_cons (pe_gm0 (pv 2) T_File.cl M_content hr) (pa_cons (pv 3) pa_nil))) (pe_one (pe_cg G_law_same hr rfl (pa_cons (pe_gm0 (pv 2) T_File.cl M_pending hr) (pa_cons pe_int pa_nil))))))))))))))))))), ?_⟩
  refine ⟨_, rfl, a, ns, rfl, hA, hlen, fun d H1 ds hd s1 hd1 hR => ⟨sz 2 (by decide), fun st hst => ?_⟩⟩
  have S2 : StA K [st] (upd H1 st (.lst [.ref d, .int 20])) st := by
    have ne : d ≠ st := ne_of_none hd1 hst
    exact ⟨by simp, d, ds, 20, upd_same, SqL.of (by rw [wo_out (by simpa using ne)]; exact same_upd hst _ _ hd1), hR, by decide⟩
  have O2 : Own [st] (upd H1 st (.lst [.ref d, .int 20])) := by
    intro x hx
    simp at hx
    rw [hx, upd_same]
    exact fun z => nomatch z
  generalize upd H1 st (.lst [.ref d, .int 20]) = H2 at *
  obtain ⟨sxs, hsx⟩ := S2.is
  intro p dx np ndx hdx
  refine ⟨_, p, dx, rfl, upd_same, List.mem_cons_self, mk_own O2 np ndx hdx, fun sa H3 hsa u3 f3 => ⟨rfl, ?_⟩⟩
  obtain ⟨nsa, npsa, s3, O3, w3⟩ := mk_file O2 np ndx hdx hsa u3 f3
  refine ⟨Nat.zero_le _, fun vl hvl => ⟨Nat.zero_le _, fun vs hvs => ?_⟩⟩
  have sv1 := same_upd (o := .lst []) hvl
  have sv2 := same_upd (o := .lst []) hvs
  have O4 := (O3.le sv1).le sv2
  have f4 := (f3.le sv1).le sv2
  have lv : wo (upd (upd H3 vl (.lst [])) vs (.lst [])) [sa, p, st] vl = some (.lst []) := by
    rw [wo_out (O3.out hvl)]
    exact sv2 _ _ upd_same
  have ls : wo (upd (upd H3 vl (.lst [])) vs (.lst [])) [sa, p, st] vs = some (.lst []) := by
    rw [wo_out ((O3.le sv1).out hvs), upd_same]
  have s24 := s3.trans (sv1.trans sv2)
  generalize upd (upd H3 vl (.lst [])) vs (.lst []) = H4 at *
  have w24 : Same (wo H2 [st]) (wo H4 [sa, p, st]) := fun a o e => by
    have h := w3 a o e
    have ha : a ∉ [sa, p, st] := fun z => by rw [wo_in z] at h; cases h
    have hb : a ∉ [st] := fun z => ha (by simp at z; simp [z])
    rw [wo_out hb] at e
    rw [wo_out ha]
    exact s24 _ _ e
  have S4 : StA K [sa, p, st] H4 st := by
    obtain ⟨h0, d, ds, k, h1, h2, h3⟩ := S2
    exact ⟨by simp, d, ds, k, s24 _ _ h1, sql_le w24 h2, h3⟩
  have J4 : DJ K C [sa, p, st] H4 st p sa vl vs [] [] := ⟨S4, f4, lv, ⟨[], ls, .nil⟩, fun _ hx => (nomatch hx), O4⟩
  have nsast : sa ≠ st := Ne.symm (ne_of_none hsx nsa)
  intro po dxo npo ndxo hdxo
  refine ⟨_, po, dxo, rfl, upd_same, List.mem_cons_self, mk_own O4 npo ndxo hdxo, fun so H5 hso u5 fo => ⟨rfl, ?_⟩⟩
  obtain ⟨nso, npso, s5, O5, w5⟩ := mk_file O4 npo ndxo hdxo hso u5 fo
  have J5 : DJ K C [so, po, sa, p, st] H5 st p sa vl vs [] [] := J4.ext s5 w5 (by simp +contextual) O5
  intro ps dxs nps ndxs hdxs
  refine ⟨_, ps, dxs, rfl, upd_same, List.mem_cons_self, mk_own O5 nps ndxs hdxs, fun s0 H6 hs0 u6 fs => ⟨rfl, ?_⟩⟩
  obtain ⟨ns0, nps0, s6, O6, w6⟩ := mk_file O5 nps ndxs hdxs hs0 u6 fs
  have J6 : DJ K C [s0, ps, so, po, sa, p, st] H6 st p sa vl vs [] [] := J5.ext s6 w6 (by simp +contextual) O6
  have fo6 : FileAt K C [s0, ps, so, po, sa, p, st] H6 po so [] [] := fo.ext s6 w6 (by simp +contextual)
  have d1 : so ≠ st := Ne.symm (ne_of_none (s24 _ _ hsx) nso)
  have d2 : s0 ≠ st := Ne.symm (ne_of_none (s5 _ _ (s24 _ _ hsx)) ns0)
  obtain ⟨sxl, hsl⟩ := J4.fA.sl
  have d3 : so ≠ sa := Ne.symm (ne_of_none hsl nso)
  have d4 : s0 ≠ sa := Ne.symm (ne_of_none (s5 _ _ hsl) ns0)
  obtain ⟨oxl, hol⟩ := fo.sl
  have d5 : so ≠ s0 := ne_of_none hol ns0
  have d6 : po ≠ p := fun e => J4.fA.ins (e ▸ npo)
  have d7 : ps ≠ p := fun e => J5.fA.ins (e ▸ nps)
  have d8 : po ≠ ps := fun e => fo.ins (e ▸ nps)
  obtain ⟨dx1, l1, g1, _⟩ := fs.ob
  refine ⟨_, rfl, ps, dx1, _, rfl, g1, nflF (by decide +kernel) (by decide +kernel), sz 2 (by decide), fun a1 ha1 => ?_⟩
  have sa1 := same_upd (o := .lst [.int 1, .int 2]) ha1
  refine ⟨_, ps, s0, a1, .non, [], [1, 2], [], 2, rfl, fs.le sa1, SqL.of upd_same, rfl, O6.le sa1, by decide, fun H7 u7 f7 => ?_⟩
  have J6' := J6.le sa1
  have fo6' := fo6.le sa1
  have O6' := O6.le sa1
  generalize upd H6 a1 (.lst [.int 1, .int 2]) = H6' at *
  have i7 : ∀ a ∈ [s0], a ∈ [s0, ps, so, po, sa, p, st] := by simp
  have w7 := (u7.mono i7).wo
  obtain ⟨sxl6, hsl6⟩ := J6'.fA.sl
  obtain ⟨ssl6, hss6⟩ := fs.sl
  have nps0' : p ≠ s0 := J6.fA.ne hss6
  have npo0 : po ≠ s0 := fo6.ne hss6
  have O7 : Own [s0, ps, so, po, sa, p, st] H7 := O6'.up u7 (by obtain ⟨x, hx⟩ := f7.sl; simp [hx])
  have fo7 := fo6'.up u7 i7 (by simpa using npo0) (by simpa using d5)
  have J7 : DJ K C [s0, ps, so, po, sa, p, st] H7 st p sa vl vs [] [] := by
    obtain ⟨xs, y1, y2⟩ := J6'.ss
    exact J6'.flS (S := [s0]) w7 (fun _ z => z) u7 (by simpa using Ne.symm d2) (J6'.fA.up u7 i7 (by simpa using nps0') (by simpa using Ne.symm d4)) O7 (w7 _ _ J6'.la) ⟨xs, w7 _ _ y1, y2.le w7⟩ J6'.nn
  obtain ⟨dx2, l2, g2, _⟩ := f7.ob
  refine ⟨_, rfl, ps, dx2, _, rfl, g2, nflF (by decide +kernel) (by decide +kernel), ?_⟩
  refine ⟨_, ps, s0, .non, 1, [], _, rfl, f7, ?_, O7, rfl, by simp, fun z => absurd z (by decide), fun _ s9 H8 hs9 u8 f8 => ?_⟩
  · intro x hx
    simp at hx
    rcases hx with rfl | rfl <;> exact fun z => nomatch z
  have i8 : ∀ a ∈ [ps], a ∈ [s0, ps, so, po, sa, p, st] := by simp
  have w8 := (u8.mono i8).wo_new hs9
  have sub8 : ∀ a ∈ [s0, ps, so, po, sa, p, st], a ∈ [s9, s0, ps, so, po, sa, p, st] := fun _ z => List.mem_cons_of_mem _ z
  obtain ⟨f8l, hf8l⟩ := f8.sl
  have O8 : Own [s9, s0, ps, so, po, sa, p, st] H8 := (O7.up u8 (by simpa using f8.ins)).cons (some_ne hf8l)
  obtain ⟨oxl7, hol7⟩ := fo7.sl
  obtain ⟨pxl7, hpl7⟩ := J7.fA.sl
  obtain ⟨sxl7, hst7⟩ := J7.sA.is
  have fo8 : FileAt K C [s9, s0, ps, so, po, sa, p, st] H8 po so [] [] := fo7.carry u8 w8 sub8 (by simpa using d8) (by simpa using Ne.symm (f7.ne hol7))
  have J8 : DJ K C [s9, s0, ps, so, po, sa, p, st] H8 st p sa vl vs [] [] := by
    obtain ⟨xs, y1, y2⟩ := J7.ss
    exact J7.flS (S := [ps]) w8 sub8 u8 (by simpa using Ne.symm (f7.ne hst7)) (J7.fA.carry u8 w8 sub8 (by simpa using Ne.symm d7) (by simpa using Ne.symm (f7.ne hpl7))) O8 (w8 _ _ J7.la) ⟨xs, w8 _ _ y1, y2.le w8⟩ J7.nn
  have e1 : s9 ≠ st := Ne.symm (ne_of_none hst7 hs9)
  have e2 : so ≠ s9 := ne_of_none hol7 hs9
  have e3 : s9 ≠ sa := Ne.symm (ne_of_none hpl7 hs9)
  obtain ⟨dx3, l3, g3, _⟩ := f8.ob
  refine ⟨_, rfl, ps, dx3, _, rfl, g3, nflF (by decide +kernel) (by decide +kernel), sz 1 (by decide), fun a2 ha2 => ?_⟩
  have sa2 := same_upd (o := .lst [.int 3]) ha2
  refine ⟨_, ps, s9, a2, .non, _, [3], [], 1, rfl, f8.le sa2, SqL.of upd_same, rfl, O8.le sa2, by decide, fun H9 u9 f9 => ?_⟩
  have J8' := J8.le sa2
  have fo8' := fo8.le sa2
  have O8' := O8.le sa2
  generalize upd H8 a2 (.lst [.int 3]) = H8' at *
  have i9 : ∀ a ∈ [s9], a ∈ [s9, s0, ps, so, po, sa, p, st] := by simp
  have w9 := (u9.mono i9).wo
  have O9 : Own [s9, s0, ps, so, po, sa, p, st] H9 := O8'.up u9 (by obtain ⟨x, hx⟩ := f9.sl; simp [hx])
  have L9 : LJ K C [s9, s0, ps, so, po, sa, p, st] H9 st p sa vl vs [] [] po so ps s9 := by
    obtain ⟨xs, y1, y2⟩ := J8'.ss
    have fo9 := fo8'.up u9 i9 (by simpa using fo8.ne hf8l) (by simpa using e2)
    have J9 := J8'.flS (S := [s9]) w9 (fun _ z => z) u9 (by simpa using Ne.symm e1) (J8'.fA.up u9 i9 (by simpa using J8.fA.ne hf8l) (by simpa using Ne.symm e3)) O9 (w9 _ _ J8'.la) ⟨xs, w9 _ _ y1, y2.le w9⟩ J8'.nn
    exact ⟨J9, fo9, f9, ⟨nsast, d1, e1, d3, e3, e2⟩, ⟨d6, d7, d8⟩⟩
  clear J4 J5 J6 J6' J7 J8 J8'
  refine ⟨_, rfl, _, st, 31, rfl, by decide, L9.j.sA, fun kn Ha k0 k1 _ ua Sa => ?_⟩
  have La := L9.nx ua Sa
  have eint : ∀ ns : List Int, ns.length ≤ 4000000 → fit (.list (ns.map .int)) = true := fun ns h => fit_ints (by omega)
  have edep : ∀ ns : List Int, dep (.list (ns.map .int)) < 2 := fun ns => by
    have := dep_ints ns
    omega
  refine ⟨kn, rfl, by omega, by omega, for_range (fun i σ H' => ∃ (O : List Addr) (sa vl vs : Addr) (La : List Int) (Ss : List Stp) (po so ss : Addr) (z1 z2 : Option V), σ = [some (.ref a), some (.ref st), some (.ref p), some (.ref vl), some (.ref vs), some (.ref po), some (.ref ps), z1, z2] ∧
    LJ K C O H' st p sa vl vs La Ss po so ps ss ∧ La.length + Ss.length ≤ 100 * i) ⟨_, _, _, _, _, _, _, _, _, none, none, rfl, La, by simp⟩ ?_ ?_⟩
  · clear La
    rintro i σ Hb hi ⟨O, sa, vl, vs, La, Ss, po, so, ss, z1, z2, rfl, L, hsz⟩
    have hi31 : i ≤ 31 := by omega
    refine ⟨fun σ' H' => ∃ (O : List Addr) (po so : Addr), σ' = [some (.ref a), some (.ref st), some (.ref p), some (.ref vl), some (.ref vs), some (.ref po), some (.ref ps), some (.int (0 + (i : Int))), z2] ∧ LJ K C O H' st p sa vl vs La Ss po so ps ss, ?_, ?_⟩
    · -- if _law_next(state, 6) == 0
      refine ⟨_, rfl, O, st, 6, rfl, by decide, L.j.sA, fun r Hc r0 r1 _ uc Sc => ?_⟩
      have Lc := L.nx uc Sc
      refine ⟨rfl, _, rfl, brD (fun _ => ?_) (fun _ => ⟨O, po, so, rfl, Lc⟩)⟩
      clear L uc Sc
      obtain ⟨dx, l, g, _⟩ := Lc.fo.ob
      refine ⟨_, rfl, po, dx, _, rfl, g, nflF (by decide +kernel) (by decide +kernel), _, rfl, _, rfl, _, _, rfl, rfl, _, rfl, _, _, rfl, rfl, sz 3 (by decide), fun a1 ha1 => ?_⟩
      have sa1 := same_upd (o := .lst [.int (0 + (i : Int)), .int (0 + (i : Int) + 1), .int (0 + (i : Int) + 2)]) ha1
      have Ld := Lc.le sa1
      refine ⟨O, po, so, a1, .non, [], [0 + (i : Int), 0 + (i : Int) + 1, 0 + (i : Int) + 2], [], 3, rfl, Ld.fo, SqL.of upd_same, rfl, Ld.j.ow, by simp, fun Hd ud fd => ?_⟩
      generalize upd Hc a1 (.lst [.int (0 + (i : Int)), .int (0 + (i : Int) + 1), .int (0 + (i : Int) + 2)]) = Hc' at *
      obtain ⟨q1, q2, q3, q4, q5, q6⟩ := Ld.n1
      obtain ⟨n1, n2, n3⟩ := Ld.n2
      have ie : ∀ a ∈ [so], a ∈ O := by simpa using Ld.fo.so
      have we := (ud.mono ie).wo
      obtain ⟨sox, hsox⟩ := Ld.fo.sl
      have Oe : Own O Hd := Ld.j.ow.up ud (by obtain ⟨x, hx⟩ := fd.sl; simp [hx])
      obtain ⟨xs, y1, y2⟩ := Ld.j.ss
      have Je : DJ K C O Hd st p sa vl vs La Ss := Ld.j.flS (S := [so]) we (fun _ z => z) ud (by simpa using Ne.symm q2) (Ld.j.fA.up ud ie (by simpa using Ld.j.fA.ne hsox) (by simpa using Ne.symm q4)) Oe (we _ _ Ld.j.la) ⟨xs, we _ _ y1, y2.le we⟩ Ld.j.nn
      have fse := Ld.fs.up ud ie (by simpa using Ld.fs.ne hsox) (by simpa using Ne.symm q6)
      have nn3 : NnS ((List.take 3 [0 + (i : Int), 0 + (i : Int) + 1, 0 + (i : Int) + 2]).map fun b => (true, b)) := fun x hx => by
        obtain ⟨b, _, rfl⟩ := List.mem_map.mp hx
        exact fun z => nomatch z
      have fd' : FileAt K C O Hd po so [] ((List.take 3 [0 + (i : Int), 0 + (i : Int) + 1, 0 + (i : Int) + 2]).map fun b => (true, b)) := by simpa using fd
      obtain ⟨dx2, l2, g2, _⟩ := fd'.ob
      refine ⟨_, rfl, po, dx2, _, rfl, g2, nflF (by decide +kernel) (by decide +kernel), O, po, so, _, _, rfl, fd', nn3, by simp, fun r He nr se hr1 => ?_⟩
      refine ⟨_, rfl, _, rfl, _, _, rfl, rfl, _, rfl, _, _, rfl, rfl, sz 3 (by decide), fun c hc => ?_⟩
      have sc := same_upd (o := .lst [.int (0 + (i : Int)), .int (0 + (i : Int) + 1), .int (0 + (i : Int) + 2)]) hc
      refine ⟨_, _, _, _, rfl, rp_ints (SqL.of (sc _ _ hr1)), rp_ints (a := [0 + (i : Int), 0 + (i : Int) + 1, 0 + (i : Int) + 2]) (SqL.of upd_same), eint _ (by simp), edep _, fun Hf sf => ⟨_, rfl, ?_⟩⟩
      have ea : applied [] ((List.take 3 [0 + (i : Int), 0 + (i : Int) + 1, 0 + (i : Int) + 2]).map fun b => (true, b)) = [0 + (i : Int), 0 + (i : Int) + 1, 0 + (i : Int) + 2] := rfl
      rw [ea, sameD_refl]
      have s3 := se.trans (sc.trans sf)
      obtain ⟨dx3, l3, g3, _⟩ := (fd'.le s3).ob
      refine ⟨_, rfl, po, dx3, _, rfl, g3, nflF (by decide +kernel) (by decide +kernel), O, po, so, _, _, rfl, fd'.le s3, _, _, _, _, rfl, Rp.int _, Rp.int 3, rfl, Nat.zero_lt_two, fun Hg sg => ⟨_, rfl, ?_⟩⟩
      have e3 : sameD (PyData.int ((((List.take 3 [0 + (i : Int), 0 + (i : Int) + 1, 0 + (i : Int) + 2]).map fun b => ((true, b) : Stp)).length : Nat) : Int)) (.int 3) = true := sameD_refl _
      rw [e3]
      have s4 := s3.trans sg
      have Jg := Je.le s4
      have fsg := fse.le s4
      intro pn dn hpn hdn hne
      refine ⟨_, pn, dn, rfl, upd_same, List.mem_cons_self, mk_own Jg.ow hpn hdn hne, fun sn Hh hsn un fn => ⟨rfl, ?_⟩⟩
      obtain ⟨nsn, npn, sh, Oh, wh⟩ := mk_file Jg.ow hpn hdn hne hsn un fn
      have ih : ∀ a ∈ O, a ∈ sn :: pn :: O := fun a z => by simp [z]
      have Jh := Jg.ext sh wh ih Oh
      have fsh := fsg.ext sh wh ih
      obtain ⟨stx, hstx⟩ := Jg.sA.is
      obtain ⟨sax, hsax⟩ := Jg.fA.sl
      obtain ⟨ssx, hssx⟩ := fsg.sl
      have Lh : LJ K C (sn :: pn :: O) Hh st p sa vl vs La Ss pn sn ps ss := ⟨Jh, fn, fsh, ⟨q1, Ne.symm (ne_of_none hstx nsn), q3, Ne.symm (ne_of_none hsax nsn), q5, Ne.symm (ne_of_none hssx nsn)⟩, fun e => Jg.fA.ins (e ▸ hpn), n2, fun e => fsg.ins (e ▸ hpn)⟩
      obtain ⟨dx4, l4, g4, _⟩ := Lh.fo.ob
      refine ⟨_, rfl, pn, dx4, _, rfl, g4, nflF (by decide +kernel) (by decide +kernel), _, pn, sn, _, _, rfl, Lh.fo, fun x hx => (nomatch hx), by decide, fun r4 Hi nr4 si hr4 => ⟨Nat.zero_le _, fun c4 hc4 => ?_⟩⟩
      have sc4 := same_upd (o := .lst []) hc4
      refine ⟨_, _, dp_ints (SqL.of (sc4 _ _ hr4)), dp_ints (a := []) (SqL.of upd_same), shaped_ints _, shaped_ints _, _, rfl, ?_⟩
      have e0 : (!PyData.eqv (.list ((applied [] []).map .int)) (.list (([] : List Int).map .int))) = false := by
        rw [eqv_ints]
        rfl
      rw [e0]
      have s6 := si.trans sc4
      obtain ⟨dx5, l5, g5, _⟩ := (Lh.fo.le s6).ob
      refine ⟨_, rfl, pn, dx5, _, rfl, g5, nflF (by decide +kernel) (by decide +kernel), _, pn, sn, _, _, rfl, Lh.fo.le s6, _, _, _, _, rfl, Rp.int 0, Rp.int 0, rfl, Nat.zero_lt_two, fun Hj sj => ⟨_, rfl, ?_⟩⟩
      rw [sameD_refl]
      exact ⟨_, pn, sn, rfl, Lh.le (s6.trans sj)⟩
    rintro σ' Hc ⟨O2, po2, so2, rfl, Lc⟩
    refine ⟨_, rfl, _, rfl, _, rfl, _, rfl, O2, st, p, sa, vl, vs, La, Ss, rfl, Lc.j, Lc.n1.1, by omega, fun O3 Hd res sb wl ws La' Ss' Jd wd id3 ud hsb hszd hres => ?_⟩
    refine ⟨res, _, rfl, SqL.of hres, rfl, _, _, rfl, _, _, rfl, _, _, rfl, rfl, ?_⟩
    have Ld : LJ K C O3 Hd st p sb wl ws La' Ss' po2 so2 ps ss := by
      obtain ⟨q1, q2, q3, q4, q5, q6⟩ := Lc.n1
      obtain ⟨r1, r2, r3⟩ := Lc.n2
      obtain ⟨stx, hstx⟩ := Lc.j.sA.is
      obtain ⟨sax, hsax⟩ := Lc.j.fA.sl
      obtain ⟨sox, hsox⟩ := Lc.fo.sl
      obtain ⟨ssx, hssx⟩ := Lc.fs.sl
      have fo := Lc.fo.carry ud wd id3 (by simp [Lc.fo.ne hstx, r1, Lc.fo.ne hsax]) (by simp [q2, Ne.symm (Lc.j.fA.ne hsox), q4])
      have fs := Lc.fs.carry ud wd id3 (by simp [Lc.fs.ne hstx, r2, Lc.fs.ne hsax]) (by simp [q3, Ne.symm (Lc.j.fA.ne hssx), q5])
      refine ⟨Jd, fo, fs, ?_, r1, r2, r3⟩
      rcases hsb with rfl | hsb
      · exact ⟨q1, q2, q3, q4, q5, q6⟩
      · exact ⟨Ne.symm (ne_of_none hstx hsb), q2, q3, ne_of_none hsox hsb, ne_of_none hssx hsb, q6⟩
    have szd : La'.length + Ss'.length ≤ 100 * (i + 1) := by omega
    have al := applied_len Ss' La'
    clear Lc Jd wd id3 ud hsb hszd
    obtain ⟨dx, l, g, _⟩ := Ld.j.fA.ob
    obtain ⟨xs, x1, x2⟩ := Ld.j.ss
    refine ⟨_, rfl, _, rfl, _, rfl, p, dx, _, rfl, g, nflF (by decide +kernel) (by decide +kernel), O3, p, sb, La', Ss', rfl, Ld.j.fA, Ld.j.nn, by omega, fun r He nr se hr1 => ?_⟩
    refine ⟨_, rfl, _, rfl, wl, ws, La', Ss', xs, rfl, SqL.of (se _ _ (wo_le _ _ _ _ Ld.j.la)), SqL.of (se _ _ (wo_le _ _ _ _ x1)), (x2.le (wo_le _ _)).le se, Ld.j.nn, by omega, fun r2 Hf nr2 sf hr2 => ?_⟩
    refine ⟨_, _, _, _, rfl, rp_ints (SqL.of (sf _ _ hr1)), rp_ints (SqL.of hr2), eint _ (by omega), edep _, fun Hg sg => ⟨_, rfl, ?_⟩⟩
    rw [sameD_refl]
    have Lg := ((Ld.le se).le sf).le sg
    clear Ld se sf sg hr1 hr2
    obtain ⟨dx, l, g, _⟩ := Lg.j.fA.ob
    obtain ⟨xs, x1, x2⟩ := Lg.j.ss
    have xl : xs.length = Ss'.length := by rw [x2.length, List.length_map]
    refine ⟨_, rfl, p, dx, _, rfl, g, nflF (by decide +kernel) (by decide +kernel), O3, p, sb, La', Ss', rfl, Lg.j.fA, _, rfl, ws, xs, rfl, .inl (SqL.of (wo_le _ _ _ _ x1)), ?_⟩
    rw [xl]
    refine ⟨_, _, _, _, rfl, Rp.int _, Rp.int _, rfl, Nat.zero_lt_two, fun Hh sh => ⟨_, rfl, ?_⟩⟩
    rw [sameD_refl]
    have Lh := Lg.le sh
    clear Lg sh
    obtain ⟨dx, l, g, _⟩ := Lh.j.fA.ob
    refine ⟨_, rfl, p, dx, _, rfl, g, nflF (by decide +kernel) (by decide +kernel), O3, p, sb, La', Ss', rfl, Lh.j.fA, Lh.j.nn, by omega, fun r Hi nr si hr1 => ?_⟩
    refine ⟨.inl ⟨rfl, _, SqL.of hr1⟩, r, _, _, rfl, rfl, hr1, szl _ (by rw [List.length_map]; omega), ?_⟩
    have sj : Same Hh (upd Hi r (.lst ((applied La' Ss').map V.int ++ [.int 7]))) := fun b o e => by
      rw [upd_ne (ne_of_none e nr)]
      exact si _ _ e
    have Lj := Lh.le sj
    clear Lh sj si
    refine ⟨_, rfl, O3, st, 4, rfl, by decide, Lj.j.sA, fun r3 Hk r30 r31 _ uk Sk => ?_⟩
    have Lk := Lj.nx uk Sk
    refine ⟨rfl, _, rfl, brD (fun _ => ?_) (fun _ => ⟨O3, sb, wl, ws, La', Ss', po2, so2, ss, _, _, rfl, Lk, szd⟩)⟩
    obtain ⟨dx, l, g, _⟩ := Lk.j.fA.ob
    obtain ⟨xs, x1, x2⟩ := Lk.j.ss
    refine ⟨_, rfl, p, dx, _, rfl, g, nflF (by decide +kernel) (by decide +kernel), O3, p, sb, La', Ss', rfl, Lk.j.fA, Lk.j.nn, by omega, fun r He nr se hr1 => ?_⟩
    refine ⟨_, rfl, _, rfl, wl, ws, La', Ss', xs, rfl, SqL.of (se _ _ (wo_le _ _ _ _ Lk.j.la)), SqL.of (se _ _ (wo_le _ _ _ _ x1)), (x2.le (wo_le _ _)).le se, Lk.j.nn, by omega, fun r2 Hf nr2 sf hr2 => ?_⟩
    refine ⟨_, _, _, _, rfl, rp_ints (SqL.of (sf _ _ hr1)), rp_ints (SqL.of hr2), eint _ (by omega), edep _, fun Hg sg => ⟨_, rfl, ?_⟩⟩
    rw [sameD_refl]
    exact ⟨O3, sb, wl, ws, La', Ss', po2, so2, ss, _, _, rfl, ((Lk.le se).le sf).le sg, szd⟩
  · clear La
    rintro σ Hb ⟨O, sa, vl, vs, La, Ss, po, so, ss, z1, z2, rfl, L, hsz⟩
    have hk : La.length + Ss.length ≤ 3100 := by omega
    obtain ⟨dx, l, g, _⟩ := L.j.fA.ob
    refine ⟨_, rfl, p, dx, _, rfl, g, nflF (by decide +kernel) (by decide +kernel), O, p, sa, 0, La, Ss, rfl, L.j.fA, L.j.nn, L.j.ow, by omega, fun sb Hc hsb uc fc => ?_⟩
    have ipO : ∀ a ∈ [p], a ∈ O := by simpa using L.j.fA.op
    have wc := (uc.mono ipO).wo_new hsb
    obtain ⟨ssx, hssx⟩ := L.fs.sl
    have fs := L.fs.carry uc wc (fun _ z => List.mem_cons_of_mem _ z) (by simpa using L.n2.2.1) (by simpa using Ne.symm (L.j.fA.ne hssx))
    have lc := wo_le _ _ _ _ (wc _ _ L.j.la)
    have n2 : NnS [(true, (3 : Int))] := fun x hx => by
      simp at hx
      rw [hx]
      exact fun z => nomatch z
    obtain ⟨dx2, l2, g2, _⟩ := fs.ob
    refine ⟨_, rfl, ps, dx2, _, rfl, g2, nflF (by decide +kernel) (by decide +kernel), _, ps, ss, _, _, rfl, fs, n2, by decide, fun r Hd nr sd hr1 => ⟨sz 3 (by decide), fun c hc => ?_⟩⟩
    have sc := same_upd (o := .lst [.int 1, .int 2, .int 3]) hc
    refine ⟨_, _, _, _, rfl, rp_ints (SqL.of (sc _ _ hr1)), rp_ints (a := [1, 2, 3]) (SqL.of upd_same), eint _ (by decide), edep _, fun He se => ⟨_, rfl, ?_⟩⟩
    have e123 : applied [1, 2] [(true, (3 : Int))] = [1, 2, 3] := rfl
    rw [e123, sameD_refl]
    have s3 := sd.trans (sc.trans se)
    obtain ⟨dx3, l3, g3, _⟩ := (fs.le s3).ob
    refine ⟨_, rfl, ps, dx3, _, rfl, g3, nflF (by decide +kernel) (by decide +kernel), _, ps, ss, _, _, rfl, fs.le s3, _, _, _, _, rfl, Rp.int 1, Rp.int 1, rfl, Nat.zero_lt_two, fun Hf sf => ⟨_, rfl, ?_⟩⟩
    rw [sameD_refl]
    have s4 := s3.trans sf
    obtain ⟨dx4, l4, g4, _⟩ := (fc.le s4).ob
    refine ⟨_, rfl, p, dx4, _, rfl, g4, nflF (by decide +kernel) (by decide +kernel), _, p, sb, _, _, rfl, fc.le s4, fun x hx => (nomatch hx), by simp [applied]; omega, fun r5 Hg nr5 sg hr5 => ?_⟩
    refine ⟨_, rfl, _, _, _, _, rfl, rp_ints (SqL.of hr5), rp_ints (SqL.of (sg _ _ (s4 _ _ lc))), eint _ (by omega), edep _, fun Hh sh => ⟨_, rfl, ?_⟩⟩
    have e0 : applied (applied La (Ss.take 0)) [] = La := by simp [applied]
    rw [e0, sameD_refl]
    have s5 := s4.trans (sg.trans sh)
    obtain ⟨dx6, l6, g6, _⟩ := (fc.le s5).ob
    refine ⟨_, rfl, p, dx6, _, rfl, g6, nflF (by decide +kernel) (by decide +kernel), _, p, sb, _, _, rfl, fc.le s5, _, _, _, _, rfl, Rp.int 0, Rp.int 0, rfl, Nat.zero_lt_two, fun Hi si => ?_⟩
    rw [sameD_refl]
    exact k Hi
end

theorem all_mk {l : PySem.W.OpenLaw} {w : World} {K : PySem.W.Frag} {h : Heap} {mg : Str → Option Value} {fa f1 f2 f3 f4 f5 f6 f7 f8 f9 f10 f11 f12 f13 f14 f15 f16 f17 K_File : Addr} (X : K.In h) (G : h.Ns mainGlobals mg) (hfa : mg "law" = some (.ref fa))
    {od1 od2 od3 od4 od5 od6 od7 od8 od9 od10 od11 od12 od13 od14 od15 od16 od17 an1 an2 an3 an4 an5 an6 an7 an8 an9 an10 an11 an12 an13 an14 an15 an16 an17 : Option Addr} {sl1 sl2 sl3 sl4 sl5 sl6 sl7 sl8 sl9 sl10 sl11 sl12 sl13 sl14 sl15 sl16 sl17 : Array (Option Value)} {oc1 oc2 oc3 oc4 oc5 oc6 oc7 oc8 oc9 oc10 oc11 oc12 oc13 oc14 oc15 oc16 oc17 kV1 kV2 kV3 kV4 kV5 kV6 kV7 kV8 kV9 kV10 kV11 kV12 kV13 kV14 kV15 kV16 kV17 dc1 dc2 dc3 dc4 dc5 dc6 dc7 dc8 dc9 dc10 dc11 dc12 dc13 dc14 dc15 dc16 dc17 pm1 pm2 pm3 pm4 pm5 pm6 pm7 pm8 pm9 pm10 pm11 pm12 pm13 pm14 pm15 pm16 pm17 cd1 cd2 cd3 cd4 cd5 cd6 cd7 cd8 cd9 cd10 cd11 cd12 cd13 cd14 cd15 cd16 cd17 ct1 ct2 ct3 ct4 ct5 ct6 ct7 ct8 ct9 ct10 ct11 ct12 ct13 ct14 ct15 ct16 ct17 : Value}
    (q_File : PySem.W.nsIn K mainGlobals "File" = some (some (.ref K_File)))
    (pg_File : PySem.W.plainGet K K_File Str.empty = true)
    (hd_File : PySem.W.hasDictIn K K_File = true)
    (po_File : PySem.W.plainOver K K_File = true)
    (sa_File : PySem.W.findIn K (.ref K_File) "__setattr__" = some (some (.builtin "object.__setattr__")))
    (mk_File : PySem.W.makesIn K K_File = true)
    (kc_File : PySem.W.keepIn K (.ref K_File) = true)
    (n_File__lasting : PySem.W.findIn K (.ref K_File) "_lasting" = some none)
    (n_File__steps : PySem.W.findIn K (.ref K_File) "_steps" = some none)
    (a1 : PySem.W.nsIn K mainGlobals "_law_mix" = some (some (.ref f1)))
    (l1 : K.lookup f1 = some ⟨oc1, od1, .func (PySem.W.fnOf "_law_mix" "_law_mix" (defArgs s_law_mix) (defBody s_law_mix) (defScope s_law_mix) .none kV1 dc1 pm1 an1 cd1 ct1), sl1⟩)
    (c1 : PySem.W.codeIn K cd1 "_law_mix" = true)
    (k1 : PySem.W.keepIn K (.ref f1) = true)
    (a2 : PySem.W.nsIn K mainGlobals "_law_draws" = some (some (.ref f2)))
    (l2 : K.lookup f2 = some ⟨oc2, od2, .func (PySem.W.fnOf "_law_draws" "_law_draws" (defArgs s_law_draws) (defBody s_law_draws) (defScope s_law_draws) .none kV2 dc2 pm2 an2 cd2 ct2), sl2⟩)
    (c2 : PySem.W.codeIn K cd2 "_law_draws" = true)
    (k2 : PySem.W.keepIn K (.ref f2) = true)
    (a3 : PySem.W.nsIn K mainGlobals "_law_at" = some (some (.ref f3)))
    (l3 : K.lookup f3 = some ⟨oc3, od3, .func (PySem.W.fnOf "_law_at" "_law_at" (defArgs s_law_at) (defBody s_law_at) (defScope s_law_at) .none kV3 dc3 pm3 an3 cd3 ct3), sl3⟩)
    (c3 : PySem.W.codeIn K cd3 "_law_at" = true)
    (k3 : PySem.W.keepIn K (.ref f3) = true)
    (a4 : PySem.W.nsIn K mainGlobals "_law_next" = some (some (.ref f4)))
    (l4 : K.lookup f4 = some ⟨oc4, od4, .func (PySem.W.fnOf "_law_next" "_law_next" (defArgs s_law_next) (defBody s_law_next) (defScope s_law_next) .none kV4 dc4 pm4 an4 cd4 ct4), sl4⟩)
    (c4 : PySem.W.codeIn K cd4 "_law_next" = true)
    (k4 : PySem.W.keepIn K (.ref f4) = true)
    (a5 : PySem.W.nsIn K mainGlobals "_law_is_integer" = some (some (.ref f5)))
    (l5 : K.lookup f5 = some ⟨oc5, od5, .func (PySem.W.fnOf "_law_is_integer" "_law_is_integer" (defArgs s_law_is_integer) (defBody s_law_is_integer) (defScope s_law_is_integer) .none kV5 dc5 pm5 an5 cd5 ct5), sl5⟩)
    (c5 : PySem.W.codeIn K cd5 "_law_is_integer" = true)
    (k5 : PySem.W.keepIn K (.ref f5) = true)
    (a6 : PySem.W.nsIn K mainGlobals "_law_same" = some (some (.ref f6)))
    (l6 : K.lookup f6 = some ⟨oc6, od6, .func (PySem.W.fnOf "_law_same" "_law_same" (defArgs s_law_same) (defBody s_law_same) (defScope s_law_same) .none kV6 dc6 pm6 an6 cd6 ct6), sl6⟩)
    (c6 : PySem.W.codeIn K cd6 "_law_same" = true)
    (k6 : PySem.W.keepIn K (.ref f6) = true)
    (a7 : PySem.W.nsIn K mainGlobals "_applied" = some (some (.ref f7)))
    (l7 : K.lookup f7 = some ⟨oc7, od7, .func (PySem.W.fnOf "_applied" "_applied" (defArgs s_applied) (defBody s_applied) (defScope s_applied) .none kV7 dc7 pm7 an7 cd7 ct7), sl7⟩)
    (c7 : PySem.W.codeIn K cd7 "_applied" = true)
    (k7 : PySem.W.keepIn K (.ref f7) = true)
    (a8 : PySem.W.nsIn K mainGlobals "_law_after" = some (some (.ref f8)))
    (l8 : K.lookup f8 = some ⟨oc8, od8, .func (PySem.W.fnOf "_law_after" "_law_after" (defArgs s_law_after) (defBody s_law_after) (defScope s_law_after) .none kV8 dc8 pm8 an8 cd8 ct8), sl8⟩)
    (c8 : PySem.W.codeIn K cd8 "_law_after" = true)
    (k8 : PySem.W.keepIn K (.ref f8) = true)
    (a9 : PySem.W.findIn K (.ref K_File) "__init__" = some (some (.ref f9)))
    (i9 : PySem.W.isFn K (.ref f9) = true)
    (l9 : K.lookup f9 = some ⟨oc9, od9, .func (PySem.W.fnOf "__init__" "File.__init__" (defArgs s_File___init__) (defBody s_File___init__) (defScope s_File___init__) .none kV9 dc9 pm9 an9 cd9 ct9), sl9⟩)
    (c9 : PySem.W.codeIn K cd9 "File.__init__" = true)
    (k9 : PySem.W.keepIn K (.ref f9) = true)
    (a10 : PySem.W.findIn K (.ref K_File) "write" = some (some (.ref f10)))
    (i10 : PySem.W.isFn K (.ref f10) = true)
    (l10 : K.lookup f10 = some ⟨oc10, od10, .func (PySem.W.fnOf "write" "File.write" (defArgs s_File_write) (defBody s_File_write) (defScope s_File_write) .none kV10 dc10 pm10 an10 cd10 ct10), sl10⟩)
    (c10 : PySem.W.codeIn K cd10 "File.write" = true)
    (k10 : PySem.W.keepIn K (.ref f10) = true)
    (a11 : PySem.W.findIn K (.ref K_File) "shorten" = some (some (.ref f11)))
    (i11 : PySem.W.isFn K (.ref f11) = true)
    (l11 : K.lookup f11 = some ⟨oc11, od11, .func (PySem.W.fnOf "shorten" "File.shorten" (defArgs s_File_shorten) (defBody s_File_shorten) (defScope s_File_shorten) .none kV11 dc11 pm11 an11 cd11 ct11), sl11⟩)
    (c11 : PySem.W.codeIn K cd11 "File.shorten" = true)
    (k11 : PySem.W.keepIn K (.ref f11) = true)
    (a12 : PySem.W.findIn K (.ref K_File) "lose" = some (some (.ref f12)))
    (i12 : PySem.W.isFn K (.ref f12) = true)
    (l12 : K.lookup f12 = some ⟨oc12, od12, .func (PySem.W.fnOf "lose" "File.lose" (defArgs s_File_lose) (defBody s_File_lose) (defScope s_File_lose) .none kV12 dc12 pm12 an12 cd12 ct12), sl12⟩)
    (c12 : PySem.W.codeIn K cd12 "File.lose" = true)
    (k12 : PySem.W.keepIn K (.ref f12) = true)
    (a13 : PySem.W.findIn K (.ref K_File) "flush" = some (some (.ref f13)))
    (i13 : PySem.W.isFn K (.ref f13) = true)
    (l13 : K.lookup f13 = some ⟨oc13, od13, .func (PySem.W.fnOf "flush" "File.flush" (defArgs s_File_flush) (defBody s_File_flush) (defScope s_File_flush) .none kV13 dc13 pm13 an13 cd13 ct13), sl13⟩)
    (c13 : PySem.W.codeIn K cd13 "File.flush" = true)
    (k13 : PySem.W.keepIn K (.ref f13) = true)
    (a14 : PySem.W.findIn K (.ref K_File) "content" = some (some (.ref f14)))
    (i14 : PySem.W.isFn K (.ref f14) = true)
    (l14 : K.lookup f14 = some ⟨oc14, od14, .func (PySem.W.fnOf "content" "File.content" (defArgs s_File_content) (defBody s_File_content) (defScope s_File_content) .none kV14 dc14 pm14 an14 cd14 ct14), sl14⟩)
    (c14 : PySem.W.codeIn K cd14 "File.content" = true)
    (k14 : PySem.W.keepIn K (.ref f14) = true)
    (a15 : PySem.W.findIn K (.ref K_File) "pending" = some (some (.ref f15)))
    (i15 : PySem.W.isFn K (.ref f15) = true)
    (l15 : K.lookup f15 = some ⟨oc15, od15, .func (PySem.W.fnOf "pending" "File.pending" (defArgs s_File_pending) (defBody s_File_pending) (defScope s_File_pending) .none kV15 dc15 pm15 an15 cd15 ct15), sl15⟩)
    (c15 : PySem.W.codeIn K cd15 "File.pending" = true)
    (k15 : PySem.W.keepIn K (.ref f15) = true)
    (a16 : PySem.W.nsIn K mainGlobals "_law_deed" = some (some (.ref f16)))
    (l16 : K.lookup f16 = some ⟨oc16, od16, .func (PySem.W.fnOf "_law_deed" "_law_deed" (defArgs s_law_deed) (defBody s_law_deed) (defScope s_law_deed) .none kV16 dc16 pm16 an16 cd16 ct16), sl16⟩)
    (c16 : PySem.W.codeIn K cd16 "_law_deed" = true)
    (k16 : PySem.W.keepIn K (.ref f16) = true)
    (a17 : PySem.W.nsIn K mainGlobals "law" = some (some (.ref f17)))
    (l17 : K.lookup f17 = some ⟨oc17, od17, .func (PySem.W.fnOf "law" "law" (defArgs s_law) (defBody s_law) (defScope s_law) .none kV17 dc17 pm17 an17 cd17 ct17), sl17⟩)
    (c17 : PySem.W.codeIn K cd17 "law" = true)
    (k17 : PySem.W.keepIn K (.ref f17) = true)
    (z1 : PySem.W.nsIn K mainGlobals "bool" = some none)
    (z2 : PySem.W.nsIn K mainGlobals "int" = some none)
    (z3 : PySem.W.nsIn K mainGlobals "isinstance" = some none)
    (z4 : PySem.W.nsIn K mainGlobals "len" = some none)
    (z5 : PySem.W.nsIn K mainGlobals "list" = some none)
    (z6 : PySem.W.nsIn K mainGlobals "min" = some none)
    (z7 : PySem.W.nsIn K mainGlobals "range" = some none)
    (z8 : PySem.W.nsIn K mainGlobals "str" = some none)
    (z9 : PySem.W.nsIn K mainGlobals "tuple" = some none)
    : ∃ fd : FuncData, (∀ (s : Shared) (v : Value), BindsTo s fd ⟨[v], []⟩ [("script", v)]) ∧ ∀ base : Heap, K.In base → base.Ns mainGlobals mg → FnOk l.prog w K mg base CX0 5 fa fd ["script"] (spLaw K) := by
  have e := hfa.symm.trans (PySem.W.mg_of X G a17)
  cases e
  have T : Txt K mg := ⟨PySem.W.mg_none_of X G z1, PySem.W.mg_none_of X G z2, PySem.W.mg_none_of X G z3, PySem.W.mg_none_of X G z4, PySem.W.mg_none_of X G z5, PySem.W.mg_none_of X G z6, PySem.W.mg_none_of X G z7, PySem.W.mg_none_of X G z8, PySem.W.mg_none_of X G z9⟩
  have T_File : TFile K K_File := ⟨⟨pg_File, hd_File, po_File, sa_File⟩, n_File__lasting, n_File__steps⟩
  have F_law_mix := fun_mk (st := s_law_mix) l1 c1 k1
  have b_law_mix := F_law_mix.binds (ps := ["cell", "k"]) fun _ _ _ _ _ _ us hl => match us, hl with | [_, _], _ => rfl
  have m_law_mix := PySem.W.mg_of X G a1
  have F_law_draws := fun_mk (st := s_law_draws) l2 c2 k2
  have b_law_draws := F_law_draws.binds (ps := ["script"]) fun _ _ _ _ _ _ us hl => match us, hl with | [_], _ => rfl
  have m_law_draws := PySem.W.mg_of X G a2
  have F_law_at := fun_mk (st := s_law_at) l3 c3 k3
  have b_law_at := F_law_at.binds (ps := ["draws", "index"]) fun _ _ _ _ _ _ us hl => match us, hl with | [_, _], _ => rfl
  have m_law_at := PySem.W.mg_of X G a3
  have F_law_next := fun_mk (st := s_law_next) l4 c4 k4
  have b_law_next := F_law_next.binds (ps := ["state", "limit"]) fun _ _ _ _ _ _ us hl => match us, hl with | [_, _], _ => rfl
  have m_law_next := PySem.W.mg_of X G a4
  have F_law_is_integer := fun_mk (st := s_law_is_integer) l5 c5 k5
  have b_law_is_integer := F_law_is_integer.binds (ps := ["actual"]) fun _ _ _ _ _ _ us hl => match us, hl with | [_], _ => rfl
  have m_law_is_integer := PySem.W.mg_of X G a5
  have F_law_same := fun_mk (st := s_law_same) l6 c6 k6
  have b_law_same := F_law_same.binds (ps := ["actual", "expected"]) fun _ _ _ _ _ _ us hl => match us, hl with | [_, _], _ => rfl
  have m_law_same := PySem.W.mg_of X G a6
  have F_applied := fun_mk (st := s_applied) l7 c7 k7
  have b_applied := F_applied.binds (ps := ["data", "steps"]) fun _ _ _ _ _ _ us hl => match us, hl with | [_, _], _ => rfl
  have m_applied := PySem.W.mg_of X G a7
  have F_law_after := fun_mk (st := s_law_after) l8 c8 k8
  have b_law_after := F_law_after.binds (ps := ["data", "steps"]) fun _ _ _ _ _ _ us hl => match us, hl with | [_, _], _ => rfl
  have m_law_after := PySem.W.mg_of X G a8
  have F_File___init__ := fun_mk (st := s_File___init__) l9 c9 k9
  have b_File___init__ := F_File___init__.binds (ps := ["self"]) fun _ _ _ _ _ _ us hl => match us, hl with | [_], _ => rfl
  have F_File_write := fun_mk (st := s_File_write) l10 c10 k10
  have b_File_write := F_File_write.binds (ps := ["self", "data", "steps"]) fun _ _ _ _ _ _ us hl => match us, hl with | [_, _, _], _ => rfl
  have F_File_shorten := fun_mk (st := s_File_shorten) l11 c11 k11
  have b_File_shorten := F_File_shorten.binds (ps := ["self", "size", "steps"]) fun _ _ _ _ _ _ us hl => match us, hl with | [_, _, _], _ => rfl
  have F_File_lose := fun_mk (st := s_File_lose) l12 c12 k12
  have b_File_lose := F_File_lose.binds (ps := ["self", "steps"]) fun _ _ _ _ _ _ us hl => match us, hl with | [_, _], _ => rfl
  have F_File_flush := fun_mk (st := s_File_flush) l13 c13 k13
  have b_File_flush := F_File_flush.binds (ps := ["self", "steps"]) fun _ _ _ _ _ _ us hl => match us, hl with | [_, _], _ => rfl
  have F_File_content := fun_mk (st := s_File_content) l14 c14 k14
  have b_File_content := F_File_content.binds (ps := ["self"]) fun _ _ _ _ _ _ us hl => match us, hl with | [_], _ => rfl
  have F_File_pending := fun_mk (st := s_File_pending) l15 c15 k15
  have b_File_pending := F_File_pending.binds (ps := ["self"]) fun _ _ _ _ _ _ us hl => match us, hl with | [_], _ => rfl
  have F_law_deed := fun_mk (st := s_law_deed) l16 c16 k16
  have b_law_deed := F_law_deed.binds (ps := ["state", "file", "lasting", "steps"]) fun _ _ _ _ _ _ us hl => match us, hl with | [_, _, _, _], _ => rfl
  have m_law_deed := PySem.W.mg_of X G a16
  have F_law := fun_mk (st := s_law) l17 c17 k17
  have b_law := F_law.binds (ps := ["script"]) fun _ _ _ _ _ _ us hl => match us, hl with | [_], _ => rfl
  have m_law := PySem.W.mg_of X G a17
  refine ⟨PySem.W.fnOf "law" "law" (defArgs s_law) (defBody s_law) (defScope s_law) .none kV17 dc17 pm17 an17 cd17 ct17, fun s v => .of_eq rfl, fun base _ _ => ?_⟩
  have G_law_mix : GF l.prog w K mg base CX0 "_law_mix" 1 ["cell", "k"] (spMix) := ⟨f1, _, ok_law_mix F_law_mix T, m_law_mix, k1, b_law_mix⟩
  have G_law_draws : GF l.prog w K mg base CX0 "_law_draws" 2 ["script"] (spDraws K) := ⟨f2, _, ok_law_draws F_law_draws T G_law_mix, m_law_draws, k2, b_law_draws⟩
  have G_law_at : GF l.prog w K mg base CX0 "_law_at" 2 ["draws", "index"] (spAt K) := ⟨f3, _, ok_law_at F_law_at T G_law_mix, m_law_at, k3, b_law_at⟩
  have G_law_next : GF l.prog w K mg base CX0 "_law_next" 3 ["state", "limit"] (spNextA K) := ⟨f4, _, ok_law_nextA F_law_next T G_law_at, m_law_next, k4, b_law_next⟩
  have G_law_is_integer : GF l.prog w K mg base CX0 "_law_is_integer" 1 ["actual"] (spIsInt K) := ⟨f5, _, ok_law_is_integer F_law_is_integer T, m_law_is_integer, k5, b_law_is_integer⟩
  have G_law_same : GF l.prog w K mg base CX0 "_law_same" 3 ["actual", "expected"] (spSame K 2) := gf_law_same F_law_same T G_law_is_integer m_law_same b_law_same 2
  have G_applied : GF l.prog w K mg base CX0 "_applied" 1 ["data", "steps"] (spApp K encF) := ⟨f7, _, ok_applied F_applied T, m_applied, k7, b_applied⟩
  have G_law_after : GF l.prog w K mg base CX0 "_law_after" 1 ["data", "steps"] (spApp K encL) := ⟨f8, _, ok_law_after F_law_after T, m_law_after, k8, b_law_after⟩
  have C_File : GC l.prog w K mg base CX0 "File" K_File 1 ["self"] (spInit K K_File) := ⟨f9, _, ok_File_init F_File___init__ T T_File, ⟨mk_File, a9, i9, kc_File⟩, PySem.W.mg_of X G q_File, b_File___init__⟩
  have M_write : GM l.prog w K mg base CX0 K_File "write" 1 ["self", "data", "steps"] (spWrite K K_File) := ⟨f10, _, ok_File_write F_File_write T T_File, ⟨a10, i10, k10⟩, b_File_write⟩
  have M_shorten : GM l.prog w K mg base CX0 K_File "shorten" 1 ["self", "size", "steps"] (spShorten K K_File) := ⟨f11, _, ok_File_shorten F_File_shorten T T_File, ⟨a11, i11, k11⟩, b_File_shorten⟩
  have M_lose : GM l.prog w K mg base CX0 K_File "lose" 2 ["self", "steps"] (spLose K K_File) := ⟨f12, _, ok_File_lose F_File_lose T T_File G_applied, ⟨a12, i12, k12⟩, b_File_lose⟩
  have M_flush : GM l.prog w K mg base CX0 K_File "flush" 3 ["self", "steps"] (spFlush K K_File) := ⟨f13, _, ok_File_flush F_File_flush T T_File M_lose, ⟨a13, i13, k13⟩, b_File_flush⟩
  have M_content : GM l.prog w K mg base CX0 K_File "content" 2 ["self"] (spContent K K_File) := ⟨f14, _, ok_File_content F_File_content T T_File G_applied, ⟨a14, i14, k14⟩, b_File_content⟩
  have M_pending : GM l.prog w K mg base CX0 K_File "pending" 1 ["self"] (spPending K K_File) := ⟨f15, _, ok_File_pending F_File_pending T T_File, ⟨a15, i15, k15⟩, b_File_pending⟩
  have G_law_deed : GF l.prog w K mg base CX0 "_law_deed" 4 ["state", "file", "lasting", "steps"] (spDeed K K_File) := ⟨f16, _, ok_law_deed F_law_deed T T_File G_law_next (gf_law_same F_law_same T G_law_is_integer m_law_same b_law_same 1) G_law_after M_write M_shorten M_flush M_lose, m_law_deed, k16, b_law_deed⟩
  exact ok_law F_law T T_File C_File G_law_draws G_law_next G_law_same G_law_after G_law_deed M_write M_flush M_lose M_content M_pending
theorem walk {l : PySem.W.OpenLaw} {q : Program} {loose : List Str} {XP : (Str → Option Value) → Heap → Prop} {YP : World → Heap → Prop} {d : DefRec} {K : Params → PySem.W.Frag} (hn : l.most = some 63) (hdf : d.params.defaults = [])
    (hY : ∀ (w : World) (h : Heap), YP w h → (K w.params).In h)
    (F : ∀ (w : World) (mg : Str → Option Value) (fa : Addr) (h : Heap), (K w.params).In h → h.Ns mainGlobals mg → mg d.name = some (.ref fa) →
      ∃ fd : FuncData, (∀ (s : Shared) (u : Value), BindsTo s fd ⟨[u], []⟩ [("script", u)]) ∧ ∀ base : Heap, (K w.params).In base → base.Ns mainGlobals mg → FnOk l.prog w (K w.params) mg base CX0 5 fa fd ["script"] (spLaw (K w.params))) :
    PySem.W.WalkO q loose XP YP l.row.toRowW d [] (fun f vs => PySem.call f vs) :=
  L2.walk_of (n := 63) (k := 5) (x := "script") (CX := fun _ => CX0) (sp := fun w => spLaw (K w.params)) hn (by decide) hdf ⟨rfl, by decide, by decide⟩ hY F (fun _ _ a ns hl _ hS => ⟨a, ns, rfl, hS, hl, fun _ => rfl⟩) fun _ _ _ _ _ z => z
end SW
open PySem PySem.W PyProof.Rows
set_option maxRecDepth 100000 in
set_option maxHeartbeats 0 in
theorem PySem.Challenge.cw_shapewhole_k10_files_keep_a_beginning_holds : PySem.Challenge.rw_shapewhole_k10_files_keep_a_beginning.Holds := by
  w_on; o_law; k_head; (case hw => w_witness2)
  k_fill
  refine SW.walk (l := PySem.Challenge.rw_shapewhole_k10_files_keep_a_beginning) rfl rfl (fun w h Y => PySem.W.kIn_of Y) ?F
  case F =>
    intro w mg fa h KX G hmg
    refine' SW.all_mk KX G hmg ?q_File ?pg_File ?hd_File ?po_File ?sa_File ?mk_File ?kc_File ?n_File__lasting ?n_File__steps ?a1 ?l1 ?c1 ?k1 ?a2 ?l2 ?c2 ?k2 ?a3 ?l3 ?c3 ?k3 ?a4 ?l4 ?c4 ?k4 ?a5 ?l5 ?c5 ?k5 ?a6 ?l6 ?c6 ?k6 ?a7 ?l7 ?c7 ?k7 ?a8 ?l8 ?c8 ?k8 ?a9 ?i9 ?l9 ?c9 ?k9 ?a10 ?i10 ?l10 ?c10 ?k10 ?a11 ?i11 ?l11 ?c11 ?k11 ?a12 ?i12 ?l12 ?c12 ?k12 ?a13 ?i13 ?l13 ?c13 ?k13 ?a14 ?i14 ?l14 ?c14 ?k14 ?a15 ?i15 ?l15 ?c15 ?k15 ?a16 ?l16 ?c16 ?k16 ?a17 ?l17 ?c17 ?k17 ?z1 ?z2 ?z3 ?z4 ?z5 ?z6 ?z7 ?z8 ?z9
    (case q_File => k_is)
    (case pg_File => k_is)
    (case hd_File => k_is)
    (case po_File => k_is)
    (case sa_File => k_is)
    (case mk_File => k_is)
    (case kc_File => k_is)
    (case n_File__lasting => k_is)
    (case n_File__steps => k_is)
    (case a1 => k_is)
    (case l1 => k_is)
    (case c1 => k_is)
    (case k1 => k_is)
    (case a2 => k_is)
    (case l2 => k_is)
    (case c2 => k_is)
    (case k2 => k_is)
    (case a3 => k_is)
    (case l3 => k_is)
    (case c3 => k_is)
    (case k3 => k_is)
    (case a4 => k_is)
    (case l4 => k_is)
    (case c4 => k_is)
    (case k4 => k_is)
    (case a5 => k_is)
    (case l5 => k_is)
    (case c5 => k_is)
    (case k5 => k_is)
    (case a6 => k_is)
    (case l6 => k_is)
    (case c6 => k_is)
    (case k6 => k_is)
    (case a7 => k_is)
    (case l7 => k_is)
    (case c7 => k_is)
    (case k7 => k_is)
    (case a8 => k_is)
    (case l8 => k_is)
    (case c8 => k_is)
    (case k8 => k_is)
    (case a9 => k_is)
    (case i9 => k_is)
    (case l9 => k_is)
    (case c9 => k_is)
    (case k9 => k_is)
    (case a10 => k_is)
    (case i10 => k_is)
    (case l10 => k_is)
    (case c10 => k_is)
    (case k10 => k_is)
    (case a11 => k_is)
    (case i11 => k_is)
    (case l11 => k_is)
    (case c11 => k_is)
    (case k11 => k_is)
    (case a12 => k_is)
    (case i12 => k_is)
    (case l12 => k_is)
    (case c12 => k_is)
    (case k12 => k_is)
    (case a13 => k_is)
    (case i13 => k_is)
    (case l13 => k_is)
    (case c13 => k_is)
    (case k13 => k_is)
    (case a14 => k_is)
    (case i14 => k_is)
    (case l14 => k_is)
    (case c14 => k_is)
    (case k14 => k_is)
    (case a15 => k_is)
    (case i15 => k_is)
    (case l15 => k_is)
    (case c15 => k_is)
    (case k15 => k_is)
    (case a16 => k_is)
    (case l16 => k_is)
    (case c16 => k_is)
    (case k16 => k_is)
    (case a17 => k_is)
    (case l17 => k_is)
    (case c17 => k_is)
    (case k17 => k_is)
    (case z1 => k_is)
    (case z2 => k_is)
    (case z3 => k_is)
    (case z4 => k_is)
    (case z5 => k_is)
    (case z6 => k_is)
    (case z7 => k_is)
    (case z8 => k_is)
    (case z9 => k_is)
