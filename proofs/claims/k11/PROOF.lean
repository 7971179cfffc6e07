import PyProof.Rows.All
import Wide.All
import OpenK.AllK
import Wide.FinOn
import HandS.ForMost
import HandS.Wide
import HandS.Deep
import HandS.IsInst
import HandS.TupAny
import HandS.SortInts
import HandS.Flow
import HandS.Walk
import HandS.Zip
import HandS.Codes
import HandS.Evl
import HandS.More
import HandS.NoneIn
import HandS.Text
import HandS.ForExc
import HandS.TryOnly
import HandS.TryMany
import HandS.ExcIs
import PySem.Challenge.RW_shapewhole_k11_records
set_option Elab.async false
set_option linter.all false
set_option maxRecDepth 100000
namespace SW
open PySem L2

structure GF (P : Program) (w : World) (K : PySem.W.Frag) (mg : Str → Option Value) (base : Heap) (CX : CXT) (x : Str) (k : Nat) (ps : List Str) (sp : Sp) : Prop where
  ex : ∃ (f : Addr) (fd : FuncData), FnOk P w K mg base CX k f fd ps sp ∧ mg x = some (.ref f) ∧ PySem.W.keepIn K (.ref f) = true ∧ Binds K fd ps []
section
variable {X : Cx} {x : Str} {k j : Nat} {ps : List Str} {sp : Sp} {e : Expr} {es : List Expr} {t : TA} {p pos : Pos}
def tCg (sp : Sp) (t : TA) : TE := fun σ H Q => t σ H fun vs H1 => sp vs H1 Q E0
theorem pe_cg (G : GF X.prog X.w X.K X.mg X.base CX0 x k ps sp) (hr : Room j X.A) (hg : Gl X x) (ha : PA X (e :: es) t) (hk : k ≤ j := by first | decide | omega)
    (hdb : (x == ("__debug__" : Str)) = false := by decide) (he : starEach (e :: es) X.env = (false, eval e X.env) :: starEach es X.env := by rfl) (hpl : (backTo pos (starEach es X.env)).any (·.1) = false := by rfl) :
    PE X (.Call (.Name x p) (e :: es) [] pos) (tCg sp t) := by
  obtain ⟨f, fd, F, hm, hkp, hb⟩ := G.ex
  have h := pe_call (p := p) (pos := pos) F (hr.mono hk) hg hm hkp hb .nil (pass0 (X := X)) ha hdb he hpl
  refine ⟨fun pins s σ H Q I q => h.run pins s σ H Q I ?_⟩
  have e1 : tCall sp [] E0 t = tCg sp t := by
    funext σ H Q
    show (t σ H fun vs H1 => sp (vs ++ []) H1 Q E0) = (t σ H fun vs H1 => sp vs H1 Q E0)
    simp only [List.append_nil]
  rw [e1]
  exact q
theorem pe_cg0 (G : GF X.prog X.w X.K X.mg X.base CX0 x k ps sp) (hr : Room j X.A) (hg : Gl X x) (hk : k ≤ j := by first | decide | omega)
    (hdb : (x == ("__debug__" : Str)) = false := by decide) : PE X (.Call (.Name x p) [] [] pos) (tCg sp tNil) := by
  obtain ⟨f, fd, F, hm, hkp, hb⟩ := G.ex
  have h := pe_call0 (pos := pos) (p := p) F (hr.mono hk) hg hm hkp hb .nil (pass0 (X := X)) hdb
  refine ⟨fun pins s σ H Q I q => h.run pins s σ H Q I ?_⟩
  exact q
end

structure GM (P : Program) (w : World) (K : PySem.W.Frag) (mg : Str → Option Value) (base : Heap) (CX : CXT) (C : Addr) (m : Str) (k : Nat) (ps : List Str) (sp : Sp) : Prop where
  ex : ∃ (f : Addr) (fd : FuncData), FnOk P w K mg base CX k f fd ps sp ∧ Meth K C m f ∧ Binds K fd ps []
structure GC (P : Program) (w : World) (K : PySem.W.Frag) (mg : Str → Option Value) (base : Heap) (CX : CXT) (x : Str) (C : Addr) (k : Nat) (ps : List Str) (sp : Sp) : Prop where
  ex : ∃ (f : Addr) (fd : FuncData), FnOk P w K mg base CX k f fd ps sp ∧ Mk K C f ∧ mg x = some (.ref C) ∧ Binds K fd ps []
section
variable {X : Cx} {x m : Str} {C : Addr} {k j : Nat} {ps : List Str} {sp : Sp} {o e : Expr} {es : List Expr} {ta : TE} {t : TA} {p pos apos : Pos}
def tGm (C : Addr) (m : Str) (sp : Sp) (ta : TE) (t : TA) : TE := fun σ H Q => ta σ H fun x H1 => ∃ a dx fs, x = .ref a ∧ H1 a = some (.ins C dx fs) ∧ fs.lookup m = none ∧ t σ H1 fun vs H2 => sp (x :: vs) H2 Q E0
def tGk (C : Addr) (sp : Sp) (t : TA) : TE := fun σ H Q => t σ H fun vs H1 => ∀ x dx, H1 x = none → H1 dx = none → dx ≠ x → sp (.ref x :: vs) (upd (upd H1 dx (.own x)) x (.ins C dx [])) (fun v H2 => v = .non ∧ Q (.ref x) H2) E0
theorem pe_gm {pl : Sem Bool} (he : PE X o ta) (c : Cls X.K C) (G : GM X.prog X.w X.K X.mg X.base CX0 C m k ps sp) (hr : Room j X.A) (ha : PA X (e :: es) t) (hk : k ≤ j := by first | decide | omega)
    (hst : starEach (e :: es) X.env = (false, eval e X.env) :: starEach es X.env := by rfl) (hpl : (backTo pos (starEach es X.env)).any (·.1) = false := by rfl)
    (ht : eval (.Call (.Attribute o m apos) (e :: es) [] pos) X.env = (do
      let ov ← eval o X.env
      standAt apos.atName
      let (f, first) ← holding [ov] (getMethod ov m pl)
      callWith pos f first (backTo pos (starEach (e :: es) X.env)) (backToKw pos (keywordEach [] X.env))) := by rfl) :
    PE X (.Call (.Attribute o m apos) (e :: es) [] pos) (tGm C m sp ta t) := by
  obtain ⟨f, fd, F, hm, hb⟩ := G.ex
  have h := pe_meth (pos := pos) (apos := apos) he c hm F (hr.mono hk) hb .nil (pass0 (X := X)) ha hst hpl ht
  refine ⟨fun pins s σ H Q I q => h.run pins s σ H Q I ?_⟩
  have e1 : tMeth C m sp [] E0 ta t = tGm C m sp ta t := by
    unfold tMeth tGm
    simp only [List.append_nil]
  rw [e1]
  exact q
theorem pe_gm0 {pl : Sem Bool} (he : PE X o ta) (c : Cls X.K C) (G : GM X.prog X.w X.K X.mg X.base CX0 C m k ps sp) (hr : Room j X.A) (hk : k ≤ j := by first | decide | omega)
    (ht : eval (.Call (.Attribute o m apos) [] [] pos) X.env = (do
      let ov ← eval o X.env
      standAt apos.atName
      let (f, first) ← holding [ov] (getMethod ov m pl)
      callWith pos f first (backTo pos (starEach [] X.env)) (backToKw pos (keywordEach [] X.env))) := by rfl) :
    PE X (.Call (.Attribute o m apos) [] [] pos) (tGm C m sp ta tNil) := by
  obtain ⟨f, fd, F, hm, hb⟩ := G.ex
  have h := pe_meth0 (pos := pos) (apos := apos) he c hm F (hr.mono hk) hb .nil (pass0 (X := X)) ht
  refine ⟨fun pins s σ H Q I q => h.run pins s σ H Q I ?_⟩
  have e1 : tMeth C m sp [] E0 ta tNil = tGm C m sp ta tNil := by
    unfold tMeth tGm
    simp only [List.append_nil]
  rw [e1]
  exact q
theorem pe_gk (G : GC X.prog X.w X.K X.mg X.base CX0 x C k ps sp) (hr : Room j X.A) (hg : Gl X x) (ha : PA X (e :: es) t) (hk : k + 1 ≤ j := by first | decide | omega)
    (hdb : (x == ("__debug__" : Str)) = false := by decide) (he : starEach (e :: es) X.env = (false, eval e X.env) :: starEach es X.env := by rfl) (hpl : (backTo pos (starEach es X.env)).any (·.1) = false := by rfl) :
    PE X (.Call (.Name x p) (e :: es) [] pos) (tGk C sp t) := by
  obtain ⟨f, fd, F, M, hm, hb⟩ := G.ex
  have h := pe_make (p := p) (pos := pos) M F (hr.mono hk) hg hm hb .nil (pass0 (X := X)) ha hdb he hpl
  refine ⟨fun pins s σ H Q I q => h.run pins s σ H Q I ?_⟩
  have e1 : tMake C sp [] E0 t = tGk C sp t := by
    unfold tMake tGk
    simp only [List.append_nil]
  rw [e1]
  exact q
theorem pe_gk0 (G : GC X.prog X.w X.K X.mg X.base CX0 x C k ps sp) (hr : Room j X.A) (hg : Gl X x) (hk : k + 1 ≤ j := by first | decide | omega)
    (hdb : (x == ("__debug__" : Str)) = false := by decide) : PE X (.Call (.Name x p) [] [] pos) (tGk C sp tNil) := by
  obtain ⟨f, fd, F, M, hm, hb⟩ := G.ex
  have h := pe_make0 (p := p) (pos := pos) M F (hr.mono hk) hg hm hb .nil (pass0 (X := X)) hdb
  refine ⟨fun pins s σ H Q I q => h.run pins s σ H Q I ?_⟩
  have e1 : tMake C sp [] E0 tNil = tGk C sp tNil := by
    unfold tMake tGk
    simp only [List.append_nil]
  rw [e1]
  exact q
end

section
variable {X : Cx}
def rGetL (K : PySem.W.Frag) : V → V → Hp → VK → Prop := fun o i H Q => ∃ a xs j v, o = .ref a ∧ i = .int ((j : Nat) : Int) ∧ SqL K H a xs ∧ xs[j]? = some v ∧ j < 4000000 ∧ Q v H
theorem get_list : PGet X (rGetL X.K) := by
  intro pins s σ H o i ov iv Q I ro ri h
  obtain ⟨a, xs, j, v, rfl, rfl, hs, hv, hj, q⟩ := h
  cases ro
  obtain ⟨t, rfl⟩ := ri
  obtain ⟨its, r, pl, hz⟩ := I.list hs
  obtain ⟨u, eu, ru⟩ := r.get hv
  refine wpAny_getItem_list (x := u) pl.isList (by omega) (by omega) ?_ ⟨v, H, I, ru, q⟩
  simpa using eu
end

def wo (H : Hp) (O : List Addr) : Hp := fun a => if a ∈ O then none else H a
theorem wo_nil (H : Hp) : wo H [] = H := by
  funext a
  simp [wo]
theorem wo_in {H : Hp} {O : List Addr} {a : Addr} (h : a ∈ O) : wo H O a = none := by simp [wo, h]
theorem wo_out {H : Hp} {O : List Addr} {a : Addr} (h : a ∉ O) : wo H O a = H a := by simp [wo, h]
theorem wo_le (H : Hp) (O : List Addr) : Same (wo H O) H := fun a o h => by
  unfold wo at h
  split at h
  · cases h
  · exact h
def Up (O : List Addr) (H H' : Hp) : Prop := ∀ a o, a ∉ O → H a = some o → H' a = some o
section
variable {O O' : List Addr} {H H' H1 H2 : Hp} {a p : Addr} {o u : HO}
theorem Up.rfl' : Up O H H := fun _ _ _ h => h
theorem Up.of (h : Same H H') : Up O H H' := fun a o _ e => h a o e
theorem Up.same (h : Up [] H H') : Same H H' := fun a o e => h a o (by simp) e
theorem Up.trans (h : Up O H H1) (h' : Up O H1 H2) : Up O H H2 := fun a o n e => h' a o n (h a o n e)
theorem Up.mono (h : Up O H H') (s : ∀ a ∈ O, a ∈ O') : Up O' H H' := fun a o n e => h a o (fun z => n (s a z)) e
theorem Up.wo (h : Up O H H') : Same (wo H O) (wo H' O) := fun a o e => by
  unfold SW.wo at e ⊢
  split at e
  · cases e
  · rename_i n
    rw [if_neg n]
    exact h a o n e
theorem same_upd (h : H p = none) : Same H (upd H p o) := fun b x e => by
  rw [upd_ne (ne_of_none e h)]
  exact e
theorem Up.put (h : a ∈ O) : Up O H (upd H a o) := fun b x n e => by
  have hb : b ≠ a := fun z => n (by rw [z]; exact h)
  rw [upd_ne hb]
  exact e
theorem Up.new (h : H p = none) : Up O H (upd H p o) := Up.of (same_upd h)
theorem Same.wo (h : Same H H') : Same (wo H O) (wo H' O) := Up.wo (Up.of h)
theorem wo_upd_in (h : a ∈ O) : wo (upd H a o) O = wo H O := by
  funext b
  unfold SW.wo
  by_cases hb : b ∈ O
  · rw [if_pos hb, if_pos hb]
  · have hn : b ≠ a := fun z => hb (by rw [z]; exact h)
    rw [if_neg hb, if_neg hb, upd_ne hn]
theorem wo_sub (s : ∀ a ∈ O, a ∈ O') : Same (wo H O') (wo H O) := fun a o e => by
  unfold SW.wo at e ⊢
  split at e
  · cases e
  · rename_i n
    rw [if_neg (fun z => n (s a z))]
    exact e
theorem wo_cons_le : Same (wo H (a :: O)) (wo H O) := wo_sub fun _ h => List.mem_cons_of_mem _ h
end
theorem wo_new {H : Hp} {O : List Addr} {p : Addr} {o : HO} (hp : H p = none) : Same (wo H O) (wo (upd H p o) (p :: O)) := fun a u e => by
  have ha : a ∉ O := fun z => by rw [wo_in z] at e; cases e
  rw [wo_out ha] at e
  have hn : a ≠ p := ne_of_none e hp
  rw [wo_out (by simp [ha, hn]), upd_ne hn]
  exact e
theorem Up.wo_new {H H' : Hp} {O : List Addr} {q : Addr} (u : Up O H H') (hq : H q = none) : Same (SW.wo H O) (SW.wo H' (q :: O)) := fun a o e => by
  have ha : a ∉ O := fun z => by rw [wo_in z] at e; cases e
  rw [wo_out ha] at e
  have hn : a ≠ q := ne_of_none e hq
  rw [wo_out (by simp [ha, hn])]
  exact u _ _ ha e
def Own (O : List Addr) (H : Hp) : Prop := ∀ a ∈ O, H a ≠ none
theorem Own.out {O : List Addr} {H : Hp} {t : Addr} (h : Own O H) (ht : H t = none) : t ∉ O := fun z => h t z ht
theorem Own.up {O S : List Addr} {H H' : Hp} (h : Own O H) (u : Up S H H') (hs : ∀ a ∈ S, H' a ≠ none) : Own O H' := fun a ha => by
  by_cases hS : a ∈ S
  · exact hs a hS
  · cases e : H a with
    | none => exact absurd e (h a ha)
    | some o =>
      rw [u a o hS e]
      exact fun z => nomatch z
theorem Own.le {O : List Addr} {H H' : Hp} (h : Own O H) (u : Same H H') : Own O H' := h.up (S := []) (Up.of u) (by simp)
theorem Own.cons {O : List Addr} {H : Hp} {q : Addr} (h : Own O H) (hq : H q ≠ none) : Own (q :: O) H := fun a ha => by
  rcases List.mem_cons.mp ha with rfl | ha
  · exact hq
  · exact h a ha
theorem some_ne {H : Hp} {a : Addr} {o : HO} (h : H a = some o) : H a ≠ none := by
  rw [h]
  exact fun z => nomatch z
theorem Up.back {S : List Addr} {H H' : Hp} {q : Addr} (u : Up S H H') (hS : ∀ a ∈ S, H' a ≠ none) (hq : H' q = none) : H q = none := by
  have n : q ∉ S := fun z => hS q z hq
  cases e : H q with
  | none => rfl
  | some o =>
    rw [u q o n e] at hq
    cases hq
theorem Rd.le {H H' : Hp} (e : Same H H') {a : Addr} {u : HO} (h : Rd H a u) : Rd H' a u := by
  rcases h with h | ⟨o, h⟩
  · exact Or.inl (e a _ h)
  · exact Or.inr ⟨o, e a _ h⟩
theorem sqt_le {K : PySem.W.Frag} {H H' : Hp} (e : Same H H') {a : Addr} {xs : List V} (h : SqT K H a xs) : SqT K H' a xs := by
  rcases h with h | h
  · exact Or.inl (Rd.le e h)
  · exact Or.inr h
theorem sql_le {K : PySem.W.Frag} {H H' : Hp} (e : Same H H') {a : Addr} {xs : List V} (h : SqL K H a xs) : SqL K H' a xs := by
  rcases h with h | h
  · exact Or.inl (Rd.le e h)
  · exact Or.inr h
mutual
theorem Dp.le {K : PySem.W.Frag} {H H' : Hp} (e : Same H H') : ∀ {v : V} {d : PyData}, Dp K H v d → Dp K H' v d
  | _, _, .non => .non
  | _, _, .bl b => .bl b
  | _, _, .int i => .int i
  | _, _, .str x => .str x
  | _, _, .lst h1 h2 => .lst (sql_le e h1) (DpAll.le e h2)
  | _, _, .tup h1 h2 => .tup (sqt_le e h1) (DpAll.le e h2)
theorem DpAll.le {K : PySem.W.Frag} {H H' : Hp} (e : Same H H') : ∀ {vs : List V} {ds : List PyData}, DpAll K H vs ds → DpAll K H' vs ds
  | _, _, .nil => .nil
  | _, _, .cons h1 h2 => .cons (Dp.le e h1) (DpAll.le e h2)
end
theorem DpAll.length {K : PySem.W.Frag} {H : Hp} : ∀ {vs : List V} {ds : List PyData}, DpAll K H vs ds → vs.length = ds.length
  | _, _, .nil => rfl
  | _, _, .cons _ h => congrArg (· + 1) (DpAll.length h)
theorem DpAll.get {K : PySem.W.Frag} {H : Hp} : ∀ {vs : List V} {ds : List PyData} {i : Nat} {d : PyData}, DpAll K H vs ds → ds[i]? = some d → ∃ v, vs[i]? = some v ∧ Dp K H v d
  | _, _, _, _, .nil, h => by simp at h
  | _, _, 0, _, .cons h _, e => by
    simp at e
    subst e
    exact ⟨_, rfl, h⟩
  | _, _, i + 1, _, .cons _ h, e => by
    obtain ⟨v, h1, h2⟩ := DpAll.get (i := i) h (by simpa using e)
    exact ⟨v, by simpa using h1, h2⟩
theorem DpAll.append {K : PySem.W.Frag} {H : Hp} : ∀ {vs : List V} {ds : List PyData} {us : List V} {es : List PyData}, DpAll K H vs ds → DpAll K H us es → DpAll K H (vs ++ us) (ds ++ es)
  | _, _, _, _, .nil, h => h
  | _, _, _, _, .cons a b, h => .cons a (DpAll.append b h)
theorem DpAll.take {K : PySem.W.Frag} {H : Hp} : ∀ {vs : List V} {ds : List PyData} (n : Nat), DpAll K H vs ds → DpAll K H (vs.take n) (ds.take n)
  | _, _, 0, _ => by simpa using DpAll.nil
  | _, _, _ + 1, .nil => .nil
  | _, _, n + 1, .cons a b => .cons a (DpAll.take n b)
theorem DpAll.drop {K : PySem.W.Frag} {H : Hp} : ∀ {vs : List V} {ds : List PyData} (n : Nat), DpAll K H vs ds → DpAll K H (vs.drop n) (ds.drop n)
  | _, _, 0, h => by simpa using h
  | _, _, _ + 1, .nil => .nil
  | _, _, n + 1, .cons _ b => DpAll.drop n b
theorem DpAll.map {K : PySem.W.Frag} {H : Hp} {α : Type} (f : α → V) (g : α → PyData) (h : ∀ x, Dp K H (f x) (g x)) : ∀ l : List α, DpAll K H (l.map f) (l.map g)
  | [] => .nil
  | x :: l => .cons (h x) (DpAll.map f g h l)
theorem DpAll.set {K : PySem.W.Frag} {H : Hp} {v : V} {d : PyData} (r : Dp K H v d) : ∀ {vs : List V} {ds : List PyData} (i : Nat), DpAll K H vs ds → DpAll K H (vs.set i v) (ds.set i d)
  | _, _, _, .nil => .nil
  | _, _, 0, .cons _ t => .cons r t
  | _, _, i + 1, .cons q t => .cons q (DpAll.set r i t)

theorem bt_range : bootBuiltins "range" = some (.type "range") := by decide +kernel
theorem bt_int : bootBuiltins "int" = some (.type "int") := by decide +kernel
theorem bt_list : bootBuiltins "list" = some (.type "list") := by decide +kernel
theorem bt_tuple : bootBuiltins "tuple" = some (.type "tuple") := by decide +kernel
theorem bt_bool : bootBuiltins "bool" = some (.type "bool") := by decide +kernel
theorem bt_str : bootBuiltins "str" = some (.type "str") := by decide +kernel
theorem bt_set : bootBuiltins "set" = some (.type "set") := by decide +kernel
theorem bt_len : bootBuiltins "len" = some (.builtin "len") := by decide +kernel
theorem bt_min : bootBuiltins "min" = some (.builtin "min") := by decide +kernel
theorem bt_max : bootBuiltins "max" = some (.builtin "max") := by decide +kernel
theorem bt_sum : bootBuiltins "sum" = some (.builtin "sum") := by decide +kernel
theorem bt_all : bootBuiltins "all" = some (.builtin "all") := by decide +kernel
theorem bt_sorted : bootBuiltins "sorted" = some (.builtin "sorted") := by decide +kernel
theorem bt_isinstance : bootBuiltins "isinstance" = some (.builtin "isinstance") := by decide +kernel
theorem bt_repr : bootBuiltins "repr" = some (.builtin "repr") := by decide +kernel
theorem bt_ord : bootBuiltins "ord" = some (.builtin "ord") := by decide +kernel
theorem bt_abs : bootBuiltins "abs" = some (.builtin "abs") := by decide +kernel

def rLn (K : PySem.W.Frag) : List V → Hp → VK → Prop := fun xs H Q => ∃ p ys, xs = [.ref p] ∧ (SqL K H p ys ∨ SqT K H p ys) ∧ Q (.int ys.length) H
def F2 (a b : Str) (x y : V) : List (Str × V) := putF b y (putF a x [])
section
variable {a b m : Str} {x y z : V}
theorem F2_eq (h : ¬ a = b) : F2 a b x y = [(a, x), (b, y)] := by
  show (if a = b then [(a, y)] else (a, x) :: putF b y []) = _
  rw [if_neg h]
  rfl
theorem F2_a (h : ¬ a = b) : (F2 a b x y).lookup a = some x := by
  unfold F2
  rw [lookup_putF, if_neg h, lookup_putF, if_pos rfl]
theorem F2_b : (F2 a b x y).lookup b = some y := by
  unfold F2
  rw [lookup_putF, if_pos rfl]
theorem F2_no (h1 : ¬ m = b) (h2 : ¬ m = a) : (F2 a b x y).lookup m = none := by
  unfold F2
  rw [lookup_putF, if_neg h1, lookup_putF, if_neg h2]
  rfl
theorem F2_putb (h : ¬ a = b) : putF b z (F2 a b x y) = F2 a b x z := by
  rw [F2_eq h, F2_eq h]
  show (if a = b then [(a, z), (b, y)] else (a, x) :: (if b = b then [(b, z)] else (b, y) :: putF b z [])) = _
  rw [if_neg h, if_pos rfl]
theorem F2_puta (h : ¬ a = b) : putF a z (F2 a b x y) = F2 a b z y := by
  rw [F2_eq h, F2_eq h]
  show (if a = a then [(a, z), (b, y)] else _) = _
  rw [if_pos rfl]
theorem F2_len (h : ¬ a = b) : (F2 a b x y).length < 1000 := by
  rw [F2_eq h]
  show 2 < 1000
  decide
end
theorem br {b : Bool} {A B : Prop} (h1 : b = true → A) (h2 : b = false → B) : if b = true then A else B := by
  cases b with
  | true => exact (if_pos rfl).mpr (h1 rfl)
  | false => exact (if_neg (by decide)).mpr (h2 rfl)
theorem brD {p : Prop} [Decidable p] {A B : Prop} (h1 : p → A) (h2 : ¬ p → B) : if decide p = true then A else B :=
  br (fun h => h1 (of_decide_eq_true h)) (fun h => h2 (of_decide_eq_false h))
theorem brN {p : Prop} [Decidable p] {A B : Prop} (h1 : ¬ p → A) (h2 : p → B) : if (!decide p) = true then A else B :=
  br (fun h => h1 (by simpa using h)) (fun h => h2 (by simpa using h))
theorem int_inj {i j : Int} : (V.int i = V.int j) ↔ i = j := ⟨fun h => V.int.inj h, fun h => by rw [h]⟩
theorem str_inj {i j : Str} : (V.str i = V.str j) ↔ i = j := ⟨fun h => V.str.inj h, fun h => by rw [h]⟩

theorem sz (n : Nat) (h : n ≤ 16777216) : n ≤ sizeLine := by
  rw [sizeLine_eq]
  exact h
theorem szl (n : Nat) (h : n < 16777216) : n < sizeLine := by
  rw [sizeLine_eq]
  exact h
end SW

set_option Elab.async false
set_option linter.all false
set_option maxRecDepth 100000
namespace SW
open PySem L2
mutual
inductive Rp (K : PySem.W.Frag) (H : Hp) : V → PyData → Prop
  | non : Rp K H .non .none
  | bl (b : Bool) : Rp K H (.bl b) (.bool b)
  | int (i : Int) : Rp K H (.int i) (.int i)
  | str (x : Str) : Rp K H (.str x) (.str x)
  | lst {a : Addr} {xs : List V} {ds : List PyData} : SqL K H a xs → RpAll K H xs ds → Rp K H (.ref a) (.list ds)
  | tup {a : Addr} {xs : List V} {ds : List PyData} : SqT K H a xs → RpAll K H xs ds → Rp K H (.ref a) (.tuple ds)
  | dict0 {a : Addr} : H a = some (.dK []) → Rp K H (.ref a) (.dict [])
inductive RpAll (K : PySem.W.Frag) (H : Hp) : List V → List PyData → Prop
  | nil : RpAll K H [] []
  | cons {v : V} {vs : List V} {d : PyData} {ds : List PyData} : Rp K H v d → RpAll K H vs ds → RpAll K H (v :: vs) (d :: ds)
end
mutual
theorem Rp.le {K : PySem.W.Frag} {H H' : Hp} (e : Same H H') : ∀ {v : V} {d : PyData}, Rp K H v d → Rp K H' v d
  | _, _, .non => .non
  | _, _, .bl b => .bl b
  | _, _, .int i => .int i
  | _, _, .str x => .str x
  | _, _, .lst h1 h2 => .lst (sql_le e h1) (RpAll.le e h2)
  | _, _, .tup h1 h2 => .tup (sqt_le e h1) (RpAll.le e h2)
  | _, _, .dict0 h => .dict0 (e _ _ h)
theorem RpAll.le {K : PySem.W.Frag} {H H' : Hp} (e : Same H H') : ∀ {vs : List V} {ds : List PyData}, RpAll K H vs ds → RpAll K H' vs ds
  | _, _, .nil => .nil
  | _, _, .cons h1 h2 => .cons (Rp.le e h1) (RpAll.le e h2)
end
section
variable {K : PySem.W.Frag} {H : Hp}
theorem RpAll.length : ∀ {vs : List V} {ds : List PyData}, RpAll K H vs ds → vs.length = ds.length
  | _, _, .nil => rfl
  | _, _, .cons _ h => congrArg (· + 1) (RpAll.length h)
theorem RpAll.get : ∀ {vs : List V} {ds : List PyData} {i : Nat} {d : PyData}, RpAll K H vs ds → ds[i]? = some d → ∃ v, vs[i]? = some v ∧ Rp K H v d
  | _, _, _, _, .nil, h => by simp at h
  | _, _, 0, _, .cons h _, e => by
    simp at e
    subst e
    exact ⟨_, rfl, h⟩
  | _, _, i + 1, _, .cons _ h, e => by
    obtain ⟨v, h1, h2⟩ := RpAll.get (i := i) h (by simpa using e)
    exact ⟨v, by simpa using h1, h2⟩
theorem RpAll.getV : ∀ {vs : List V} {ds : List PyData} {i : Nat} {v : V}, RpAll K H vs ds → vs[i]? = some v → ∃ d, ds[i]? = some d ∧ Rp K H v d
  | _, _, _, _, .nil, h => by simp at h
  | _, _, 0, _, .cons h _, e => by
    simp at e
    subst e
    exact ⟨_, rfl, h⟩
  | _, _, i + 1, _, .cons _ h, e => by
    obtain ⟨v, h1, h2⟩ := RpAll.getV (i := i) h (by simpa using e)
    exact ⟨v, by simpa using h1, h2⟩
theorem RpAll.append : ∀ {vs : List V} {ds : List PyData} {us : List V} {es : List PyData}, RpAll K H vs ds → RpAll K H us es → RpAll K H (vs ++ us) (ds ++ es)
  | _, _, _, _, .nil, h => h
  | _, _, _, _, .cons a b, h => .cons a (RpAll.append b h)
theorem RpAll.take : ∀ {vs : List V} {ds : List PyData} (n : Nat), RpAll K H vs ds → RpAll K H (vs.take n) (ds.take n)
  | _, _, 0, _ => by simpa using RpAll.nil
  | _, _, _ + 1, .nil => .nil
  | _, _, n + 1, .cons a b => .cons a (RpAll.take n b)
theorem RpAll.drop : ∀ {vs : List V} {ds : List PyData} (n : Nat), RpAll K H vs ds → RpAll K H (vs.drop n) (ds.drop n)
  | _, _, 0, h => by simpa using h
  | _, _, _ + 1, .nil => .nil
  | _, _, n + 1, .cons _ b => RpAll.drop n b
theorem RpAll.map {α : Type} (f : α → V) (g : α → PyData) (h : ∀ x, Rp K H (f x) (g x)) : ∀ l : List α, RpAll K H (l.map f) (l.map g)
  | [] => .nil
  | x :: l => .cons (h x) (RpAll.map f g h l)
theorem RpAll.set {v : V} {d : PyData} (r : Rp K H v d) : ∀ {vs : List V} {ds : List PyData} (i : Nat), RpAll K H vs ds → RpAll K H (vs.set i v) (ds.set i d)
  | _, _, _, .nil => .nil
  | _, _, 0, .cons _ t => .cons r t
  | _, _, i + 1, .cons q t => .cons q (RpAll.set r i t)
end
mutual
theorem Rp.dp {K : PySem.W.Frag} {H : Hp} : ∀ {v : V} {d : PyData}, Rp K H v d → d.canLay0 = true → Dp K H v d
  | _, _, .non, _ => .non
  | _, _, .bl b, _ => .bl b
  | _, _, .int i, _ => .int i
  | _, _, .str x, _ => .str x
  | _, _, .lst h1 h2, e => .lst h1 (RpAll.dp h2 (by simpa [PyData.canLay0] using e))
  | _, _, .tup h1 h2, e => .tup h1 (RpAll.dp h2 (by simpa [PyData.canLay0] using e))
  | _, _, .dict0 h, e => by simp [PyData.canLay0] at e
theorem RpAll.dp {K : PySem.W.Frag} {H : Hp} : ∀ {vs : List V} {ds : List PyData}, RpAll K H vs ds → PyData.canLayAll0 ds = true → DpAll K H vs ds
  | _, _, .nil, _ => .nil
  | _, _, .cons h1 h2, e => by
    simp only [PyData.canLayAll0, Bool.and_eq_true] at e
    exact .cons (Rp.dp h1 e.1) (RpAll.dp h2 e.2)
end
def tyD : PyData → String
  | .none => "NoneType" | .bool _ => "bool" | .int _ => "int" | .str _ => "str" | .list _ => "list" | .tuple _ => "tuple" | .dict _ => "dict"
theorem sql_ty {K : PySem.W.Frag} {H : Hp} {a : Addr} {xs : List V} (h : SqL K H a xs) : TyX K H (.ref a) (.type "list") := by
  rcases h with (h | ⟨o, h⟩) | ⟨o, its, n, h, c, _⟩
  · exact .base (.lst h)
  · exact .base (.frz h)
  · exact .kList h c
theorem sqt_ty {K : PySem.W.Frag} {H : Hp} {a : Addr} {xs : List V} (h : SqT K H a xs) : TyX K H (.ref a) (.type "tuple") := by
  rcases h with (h | ⟨o, h⟩) | ⟨o, its, n, h, c, _⟩
  · exact .base (.tup h)
  · exact .fTuple h
  · exact .kTuple h c
theorem Rp.ty {K : PySem.W.Frag} {H : Hp} {v : V} {d : PyData} (h : Rp K H v d) : TyX K H v (.type (tyD d)) := by
  cases h with
  | non => exact .base .non
  | bl b => exact .base (.bl b)
  | int i => exact .base (.int i)
  | str x => exact .base (.str x)
  | lst h _ => exact sql_ty h
  | tup h _ => exact sqt_ty h
  | dict0 h => exact .base (.dK h)
def isBoolD : PyData → Bool | .bool _ => true | _ => false
def isIntD : PyData → Bool | .bool _ => true | .int _ => true | _ => false
def isStrD : PyData → Bool | .str _ => true | _ => false
def isTupD : PyData → Bool | .tuple _ => true | _ => false
def isLstD : PyData → Bool | .list _ => true | _ => false
theorem kit_bool (d : PyData) : kitB (tyD d) "bool" = some (isBoolD d) := by
  cases d <;> first | (show kitB "NoneType" "bool" = some false; decide +kernel) | (show kitB "bool" "bool" = some true; decide +kernel) | (show kitB "int" "bool" = some false; decide +kernel) | (show kitB "str" "bool" = some false; decide +kernel) | (show kitB "list" "bool" = some false; decide +kernel) | (show kitB "tuple" "bool" = some false; decide +kernel) | (show kitB "dict" "bool" = some false; decide +kernel)
theorem kit_int (d : PyData) : kitB (tyD d) "int" = some (isIntD d) := by
  cases d <;> first | (show kitB "NoneType" "int" = some false; decide +kernel) | (show kitB "bool" "int" = some true; decide +kernel) | (show kitB "int" "int" = some true; decide +kernel) | (show kitB "str" "int" = some false; decide +kernel) | (show kitB "list" "int" = some false; decide +kernel) | (show kitB "tuple" "int" = some false; decide +kernel) | (show kitB "dict" "int" = some false; decide +kernel)
theorem kit_str (d : PyData) : kitB (tyD d) "str" = some (isStrD d) := by
  cases d <;> first | (show kitB "NoneType" "str" = some false; decide +kernel) | (show kitB "bool" "str" = some false; decide +kernel) | (show kitB "int" "str" = some false; decide +kernel) | (show kitB "str" "str" = some true; decide +kernel) | (show kitB "list" "str" = some false; decide +kernel) | (show kitB "tuple" "str" = some false; decide +kernel) | (show kitB "dict" "str" = some false; decide +kernel)
theorem kit_tup (d : PyData) : kitB (tyD d) "tuple" = some (isTupD d) := by
  cases d <;> first | (show kitB "NoneType" "tuple" = some false; decide +kernel) | (show kitB "bool" "tuple" = some false; decide +kernel) | (show kitB "int" "tuple" = some false; decide +kernel) | (show kitB "str" "tuple" = some false; decide +kernel) | (show kitB "list" "tuple" = some false; decide +kernel) | (show kitB "tuple" "tuple" = some true; decide +kernel) | (show kitB "dict" "tuple" = some false; decide +kernel)
theorem kit_lst (d : PyData) : kitB (tyD d) "list" = some (isLstD d) := by
  cases d <;> first | (show kitB "NoneType" "list" = some false; decide +kernel) | (show kitB "bool" "list" = some false; decide +kernel) | (show kitB "int" "list" = some false; decide +kernel) | (show kitB "str" "list" = some false; decide +kernel) | (show kitB "list" "list" = some true; decide +kernel) | (show kitB "tuple" "list" = some false; decide +kernel) | (show kitB "dict" "list" = some false; decide +kernel)
theorem kitAny_2 {K : PySem.W.Frag} {d : PyData} {A B : String} {x y : Bool} (h1 : kitB (tyD d) A = some x) (h2 : kitB (tyD d) B = some y) : PySem.W.kitAny K (.type (tyD d)) [.type A, .type B] = some (x || y) :=
  kitAny_cons (kit_ty h1) (fun hx => by
    subst hx
    exact kitAny_cons (kit_ty h2) (fun hy => by subst hy; exact kitAny_nil) (fun hy => by subst hy; rfl)) (fun hx => by subst hx; rfl)
theorem isi {K : PySem.W.Frag} {H : Hp} {v : V} {d : PyData} {T : String} {b : Bool} {Q : VK} (h : Rp K H v d) (e : kitB (tyD d) T = some b) (q : Q (.bl b) H) : rIsi K [v, .ty T] H Q :=
  ⟨v, .ty T, _, _, b, rfl, .ty T, h.ty, kit_ty e, q⟩

noncomputable def sameD (d e : PyData) : Bool := @decide (d = e) (Classical.propDecidable _)
theorem sameD_iff {d e : PyData} : sameD d e = true ↔ d = e := by
  unfold sameD
  exact @decide_eq_true_iff _ (Classical.propDecidable _)
theorem sameD_refl (d : PyData) : sameD d d = true := sameD_iff.mpr rfl
theorem sameD_ne {d e : PyData} (h : d ≠ e) : sameD d e = false := by
  cases q : sameD d e with
  | true => exact absurd (sameD_iff.mp q) h
  | false => rfl
theorem sameD_eq {d e : PyData} {b : Bool} (h : b = true ↔ d = e) : sameD d e = b := by
  rw [Bool.eq_iff_iff, sameD_iff, h]
mutual
def fit : PyData → Bool
  | .dict _ => false
  | .list xs => decide (xs.length ≤ 16777216) && fitAll xs
  | .tuple xs => decide (xs.length ≤ 16777216) && fitAll xs
  | _ => true
def fitAll : List PyData → Bool
  | [] => true
  | x :: xs => fit x && fitAll xs
end
mutual
def dep : PyData → Nat
  | .list xs => depAll xs + 1
  | .tuple xs => depAll xs + 1
  | _ => 0
def depAll : List PyData → Nat
  | [] => 0
  | x :: xs => max (dep x) (depAll xs)
end
theorem fitAll_get : ∀ {ds : List PyData} {i : Nat} {d : PyData}, fitAll ds = true → ds[i]? = some d → fit d = true
  | [], _, _, _, h => by simp at h
  | x :: xs, 0, d, h, e => by
    simp only [fitAll, Bool.and_eq_true] at h
    simp at e
    rw [← e]
    exact h.1
  | x :: xs, i + 1, d, h, e => by
    simp only [fitAll, Bool.and_eq_true] at h
    exact fitAll_get (i := i) h.2 (by simpa using e)
theorem fitAll_of : ∀ {ds : List PyData}, (∀ d ∈ ds, fit d = true) → fitAll ds = true
  | [], _ => rfl
  | x :: xs, h => by
    simp only [fitAll, Bool.and_eq_true]
    exact ⟨h x (by simp), fitAll_of fun d hd => h d (by simp [hd])⟩
theorem depAll_le : ∀ {ds : List PyData} {n : Nat}, (∀ d ∈ ds, dep d ≤ n) → depAll ds ≤ n
  | [], n, _ => Nat.zero_le n
  | x :: xs, n, h => by
    have h1 := h x (by simp)
    have h2 := depAll_le (ds := xs) (n := n) fun d hd => h d (by simp [hd])
    simp only [depAll]
    omega
theorem depAll_get : ∀ {ds : List PyData} {i : Nat} {d : PyData}, ds[i]? = some d → dep d ≤ depAll ds
  | [], _, _, h => by simp at h
  | x :: xs, 0, d, e => by
    simp at e
    rw [← e]
    simp only [depAll]
    omega
  | x :: xs, i + 1, d, e => by
    have := depAll_get (i := i) (ds := xs) (d := d) (by simpa using e)
    simp only [depAll]
    omega
theorem pre_eq {α : Type} : ∀ {xs ys : List α}, xs.length = ys.length → (∀ j, j < ys.length → xs[j]? = ys[j]?) → xs = ys := by
  intro xs ys hl h
  apply List.ext_getElem? 
  intro j
  by_cases hj : j < ys.length
  · exact h j hj
  · rw [List.getElem?_eq_none (by omega), List.getElem?_eq_none (by omega)]
end SW
namespace SW
open PySem L2
structure Acc (K : PySem.W.Frag) (O : List Addr) (D : Addr) (ds : List PyData) (acc : List V) (H : Hp) : Prop where
  own : D ∈ O
  is : H D = some (.lst acc)
  it : RpAll K (wo H O) acc ds
theorem Acc.le {K : PySem.W.Frag} {O : List Addr} {D : Addr} {ds : List PyData} {acc : List V} {H H' : Hp} (h : Acc K O D ds acc H) (s : Same H H') : Acc K O D ds acc H' :=
  ⟨h.own, s _ _ h.is, h.it.le (Same.wo s)⟩
theorem Acc.push {K : PySem.W.Frag} {O : List Addr} {D : Addr} {ds : List PyData} {acc : List V} {H : Hp} {v : V} {d : PyData} (h : Acc K O D ds acc H) (r : Rp K (wo H O) v d) : Acc K O D (ds ++ [d]) (acc ++ [v]) (upd H D (.lst (acc ++ [v]))) :=
  ⟨h.own, upd_same, by rw [wo_upd_in h.own]; exact h.it.append (.cons r .nil)⟩
theorem Acc.new {K : PySem.W.Frag} {O : List Addr} {D : Addr} {H : Hp} (h : D ∈ O) : Acc K O D [] [] (upd H D (.lst [])) := ⟨h, upd_same, .nil⟩
theorem Acc.len {K : PySem.W.Frag} {O : List Addr} {D : Addr} {ds : List PyData} {acc : List V} {H : Hp} (h : Acc K O D ds acc H) : acc.length = ds.length := h.it.length
theorem Acc.rp {K : PySem.W.Frag} {O : List Addr} {D : Addr} {ds : List PyData} {acc : List V} {H : Hp} (h : Acc K O D ds acc H) : Rp K H (.ref D) (.list ds) := .lst (SqL.of h.is) (h.it.le (wo_le _ _))
theorem Acc.rpI {K : PySem.W.Frag} {O : List Addr} {D : Addr} {acc : List V} {H : Hp} {v : V} : ∀ {ds : List PyData}, Acc K O D ds acc H → Same H H := fun _ => Same.refl _
theorem rp_newT {K : PySem.W.Frag} {O : List Addr} {H : Hp} {t : Addr} {xs : List V} {ds : List PyData} (ht : H t = none) (n : t ∉ O) (h : RpAll K (wo H O) xs ds) : Rp K (wo (upd H t (.tup xs)) O) (.ref t) (.tuple ds) :=
  .tup (SqT.of (by rw [wo_out n, upd_same])) (h.le (Same.wo (same_upd ht)))
theorem rp_newL {K : PySem.W.Frag} {O : List Addr} {H : Hp} {t : Addr} {xs : List V} {ds : List PyData} (ht : H t = none) (n : t ∉ O) (h : RpAll K (wo H O) xs ds) : Rp K (wo (upd H t (.lst xs)) O) (.ref t) (.list ds) :=
  .lst (SqL.of (by rw [wo_out n, upd_same])) (h.le (Same.wo (same_upd ht)))
theorem not_own {H : Hp} {O : List Addr} {t : Addr} (ht : H t = none) (h : ∀ a ∈ O, H a ≠ none) : t ∉ O := fun z => h t z ht
end SW
namespace SW
open PySem L2
theorem eqvAll_ints : ∀ a b : List Int, PyData.eqvAll (a.map .int) (b.map .int) = decide (a = b)
  | [], [] => by simp [PyData.eqvAll]
  | [], _ :: _ => by simp [PyData.eqvAll]
  | _ :: _, [] => by simp [PyData.eqvAll]
  | x :: a, y :: b => by
    simp only [List.map_cons, PyData.eqvAll, eqvAll_ints a b, PyData.eqv]
    by_cases h1 : x = y
    · subst h1
      simp
    · simp [h1]
theorem eqv_ints (a b : List Int) : PyData.eqv (.list (a.map .int)) (.list (b.map .int)) = decide (a = b) := by
  simp only [PyData.eqv]
  exact eqvAll_ints a b
theorem lay_ints : ∀ a : List Int, PyData.canLayAll0 (a.map .int) = true
  | [] => rfl
  | x :: a => by simp [PyData.canLayAll0, PyData.canLay0, lay_ints a]
theorem depth_ints : ∀ a : List Int, PyData.depthAll (a.map .int) = 0
  | [] => rfl
  | x :: a => by simp [PyData.depthAll, PyData.depth, depth_ints a]
theorem shaped_ints (a : List Int) : SeqAt.shaped (.list (a.map .int)) = true := by
  show ((PyData.list (a.map .int)).canLay0 && decide ((PyData.list (a.map .int)).depth ≤ 64)) = true
  simp [PyData.canLay0, lay_ints, PyData.depth, depth_ints]
theorem rpAll_ints {K : PySem.W.Frag} {H : Hp} (a : List Int) : RpAll K H (a.map V.int) (a.map .int) := RpAll.map _ _ (fun i => .int i) a
theorem dp_ints {K : PySem.W.Frag} {H : Hp} {p : Addr} {a : List Int} (h : SqL K H p (a.map V.int)) : Dp K H (.ref p) (.list (a.map .int)) := .lst h (DpAll.map _ _ (fun i => .int i) a)
theorem rp_ints {K : PySem.W.Frag} {H : Hp} {p : Addr} {a : List Int} (h : SqL K H p (a.map V.int)) : Rp K H (.ref p) (.list (a.map .int)) := .lst h (rpAll_ints a)
theorem fit_ints {a : List Int} (h : a.length ≤ 16777216) : fit (.list (a.map .int)) = true := by
  simp only [fit, Bool.and_eq_true, decide_eq_true_eq, List.length_map]
  refine ⟨h, fitAll_of fun d hd => ?_⟩
  obtain ⟨i, _, rfl⟩ := List.mem_map.mp hd
  rfl
theorem dep_ints (a : List Int) : dep (.list (a.map .int)) ≤ 1 := by
  simp only [dep]
  have : depAll (a.map PyData.int) ≤ 0 := depAll_le fun d hd => by
    obtain ⟨i, _, rfl⟩ := List.mem_map.mp hd
    exact Nat.le_refl _
  omega
end SW

set_option Elab.async false
set_option linter.all false
set_option maxRecDepth 100000
namespace SW
open PySem L2
theorem len_S (l : List Nat) : (SX.S l).length = l.length := SX.S_len l
theorem cps_S (l : List Nat) : (SX.S l).cps.toList = l := rfl
theorem S_inj' {a b : List Nat} : SX.S a = SX.S b ↔ a = b := ⟨SX.S_inj, fun h => by rw [h]⟩
theorem six_nat {n a : Nat} (h : a ≤ n) (d : Nat) : HT.sIx n d (some (a : Int)) = a := by
  rw [HT.sIx_nat]
  omega
theorem cut_S {l : List Nat} {a b : Nat} (ha : a ≤ l.length) (hb : b ≤ l.length) : cutS (SX.S l) (some (a : Int)) (some (b : Int)) = SX.S ((l.drop a).take (b - a)) := by
  unfold cutS
  rw [len_S, six_nat ha, six_nat hb, cps_S]
theorem cut_to {l : List Nat} {b : Nat} (hb : b ≤ l.length) : cutS (SX.S l) none (some (b : Int)) = SX.S (l.take b) := by
  unfold cutS
  rw [len_S, six_nat hb, cps_S, HT.sIx_none]
  simp
theorem cut_from {l : List Nat} {a : Nat} (ha : a ≤ l.length) : cutS (SX.S l) (some (a : Int)) none = SX.S (l.drop a) := by
  unfold cutS
  rw [len_S, six_nat ha, cps_S, HT.sIx_none, List.take_of_length_le (by simp)]
theorem joinL_nil : ∀ ls : List (List Nat), TL.joinL [] ls = ls.flatten
  | [] => rfl
  | [x] => by simp [TL.joinL]
  | x :: y :: r => by
    have ih := joinL_nil (y :: r)
    simp only [TL.joinL, ih, List.flatten_cons, List.nil_append]
theorem join_flat (ls : List (List Nat)) : Txt.join (SX.S []) (ls.map SX.S) = SX.S ls.flatten := by
  rw [SX.join_S, joinL_nil]
theorem inV_str (c : List Nat) (ws : List (List Nat)) : inV (.str (SX.S c)) (ws.map fun w => .str (SX.S w)) = ws.any fun w => decide (w = c) := by
  unfold inV
  rw [List.any_map]
  congr 1
  funext w
  show (SX.S w == SX.S c) = _
  exact SX.S_beq_eq
theorem all_flat_str (ws : List (List Nat)) : (ws.map fun w => V.str (SX.S w)).all flatV = true := by
  rw [List.all_map]
  exact List.all_eq_true.mpr fun _ _ => rfl
theorem sum_len (ls : List (List Nat)) : ((ls.map SX.S).map (·.length)).sum = ls.flatten.length := by
  rw [SX.lens]
  exact List.length_flatten.symm
end SW

set_option Elab.async false
set_option linter.all false
set_option maxRecDepth 100000
namespace SW
open PySem L2
structure ExF (K : PySem.W.Frag) (mg : Str → Option Value) (x : Str) (C : Addr) : Prop where
  g : mg x = some (.ref C)
  x : PySem.W.excIn K C [.type "ValueError", .type "Exception", .type "BaseException", .type "object"] "ValueError.__new__" = true
  k : PySem.W.keepIn K (.ref C) = true
  b : PySem.W.subIn K (.ref C) (.type "BaseException") = some true
  t : PySem.W.typeIn K (.ref C) = some (.type "type")
  e : PySem.W.exmOne K (.ref C) (.ref C) = some true
section
variable {X : Cx} {x m : Str} {C : Addr} {k j : Nat} {ps : List Str} {sp : Sp} {W : WX} {o e : Expr} {es : List Expr} {ta : TE} {t : TA} {p pos apos : Pos}
def tCgS (sp : Sp) (W : WX) (t : TA) : TE := fun σ H Q => t σ H fun vs H1 => sp vs H1 Q (fun cls d H' => W cls d σ H')
theorem pe_cgS (G : GF X.prog X.w X.K X.mg X.base (L2.CX X.prog X.w) x k ps sp) (hr : Room j X.A) (hg : Gl X x) (tk : Takes X W) (ha : PA X (e :: es) t) (hk : k ≤ j := by first | decide | omega)
    (hdb : (x == ("__debug__" : Str)) = false := by decide) (he : starEach (e :: es) X.env = (false, eval e X.env) :: starEach es X.env := by rfl) (hpl : (backTo pos (starEach es X.env)).any (·.1) = false := by rfl) :
    PE X (.Call (.Name x p) (e :: es) [] pos) (tCgS sp W t) := by
  obtain ⟨f, fd, F, hm, hkp, hb⟩ := G.ex
  exact pe_callS (E := fun σ => WE W σ) F (hr.mono hk) hg hm hkp hb (fun σ => passAt tk σ) ha hdb he hpl
def tGmS (C : Addr) (m : Str) (sp : Sp) (W : WX) (ta : TE) (t : TA) : TE := fun σ H Q => ta σ H fun x H1 => ∃ a dx fs, x = .ref a ∧ H1 a = some (.ins C dx fs) ∧ fs.lookup m = none ∧ t σ H1 fun vs H2 => sp (x :: vs) H2 Q (fun cls d H' => W cls d σ H')
theorem pe_gmS {pl : Sem Bool} (he : PE X o ta) (c : Cls X.K C) (G : GM X.prog X.w X.K X.mg X.base (L2.CX X.prog X.w) C m k ps sp) (hr : Room j X.A) (tk : Takes X W) (ha : PA X (e :: es) t) (hk : k ≤ j := by first | decide | omega)
    (hst : starEach (e :: es) X.env = (false, eval e X.env) :: starEach es X.env := by rfl) (hpl : (backTo pos (starEach es X.env)).any (·.1) = false := by rfl)
    (ht : eval (.Call (.Attribute o m apos) (e :: es) [] pos) X.env = (do
      let ov ← eval o X.env
      standAt apos.atName
      let (f, first) ← holding [ov] (getMethod ov m pl)
      callWith pos f first (backTo pos (starEach (e :: es) X.env)) (backToKw pos (keywordEach [] X.env))) := by rfl) :
    PE X (.Call (.Attribute o m apos) (e :: es) [] pos) (tGmS C m sp W ta t) := by
  obtain ⟨f, fd, F, hm, hb⟩ := G.ex
  refine ⟨fun pins s σ H Q I h => ?_⟩
  refine PySem.W.methodCall_KW (pl := pl) (thn (he.run pins s σ H _ I h) fun u s1 ⟨x, H1, I1, rx, a, dx, fs, ex, ea, l, q⟩ => ?_) ht
  subst ex
  obtain rfl : u = Value.ref a := rx
  refine getmeth_ok I1 ea c hm l ?_
  refine PySem.W.callWith_K (first := [.ref a]) (h₀ := X.base) I.ok.mod.kin hm.kp (thn (ha.run pos pins s1 σ H1 _ I1 q) fun us s2 ⟨vs, H2, I2, r, q2⟩ => ⟨I2.kIn, ?_⟩) hst hpl
  exact run_fnS (us := .ref a :: us) (vs := .ref a :: vs) F (hr.mono hk) hb (passAt tk σ) I2 (.cons rfl r) q2
theorem pe_gmS0 {pl : Sem Bool} (he : PE X o ta) (c : Cls X.K C) (G : GM X.prog X.w X.K X.mg X.base (L2.CX X.prog X.w) C m k ps sp) (hr : Room j X.A) (tk : Takes X W) (hk : k ≤ j := by first | decide | omega)
    (ht : eval (.Call (.Attribute o m apos) [] [] pos) X.env = (do
      let ov ← eval o X.env
      standAt apos.atName
      let (f, first) ← holding [ov] (getMethod ov m pl)
      callWith pos f first (backTo pos (starEach [] X.env)) (backToKw pos (keywordEach [] X.env))) := by rfl) :
    PE X (.Call (.Attribute o m apos) [] [] pos) (tGmS C m sp W ta tNil) := by
  obtain ⟨f, fd, F, hm, hb⟩ := G.ex
  refine ⟨fun pins s σ H Q I h => ?_⟩
  refine PySem.W.methodCall_KW (pl := pl) (thn (he.run pins s σ H _ I h) fun u s1 ⟨x, H1, I1, rx, a, dx, fs, ex, ea, l, q⟩ => ?_) ht
  subst ex
  obtain rfl : u = Value.ref a := rx
  refine getmeth_ok I1 ea c hm l ?_
  refine PySem.W.callWith_K0 (first := [.ref a]) I1.kIn hm.kp ?_
  exact run_fnS (us := [.ref a]) (vs := [.ref a]) F (hr.mono hk) hb (passAt tk σ) I1 (.cons rfl .nil) q
theorem pe_gi {i : Int} (h : ∃ t, X.mg x = some (.int i t)) (hg : Gl X x) (hd : (x == ("__debug__" : Str)) = false := by decide) : PE X (.Name x pos) (tC (.int i)) := by
  obtain ⟨t, h⟩ := h
  exact pe_glob hg h ⟨t, rfl⟩ hd
end
theorem mk_own {H : Hp} {O : List Addr} {C x dx : Addr} (hO : Own O H) (hx : H x = none) (hdx : H dx = none) (hne : dx ≠ x) : Own (x :: O) (upd (upd H dx (.own x)) x (.ins C dx [])) :=
  (hO.le ((same_upd hdx).trans (same_upd (by rw [upd_ne (Ne.symm hne)]; exact hx)))).cons (some_ne upd_same)
theorem mk_same {H : Hp} {C x dx : Addr} (hx : H x = none) (hdx : H dx = none) (hne : dx ≠ x) : Same H (upd (upd H dx (.own x)) x (.ins C dx [])) :=
  (same_upd hdx).trans (same_upd (by rw [upd_ne (Ne.symm hne)]; exact hx))
theorem Up.mk {H H' H1 : Hp} {x : Addr} (s : Same H H1) (hx : H x = none) (u : Up [x] H1 H') : Same H H' := fun a o e => u _ _ (by simpa using ne_of_none e hx) (s _ _ e)
theorem cut_mid {xs : List V} {a b : Nat} (h : a ≤ b) : cutV xs (some (a : Int)) (some (b : Int)) = (xs.drop a).take (b - a) := by
  unfold cutV
  rw [HT.sIx_nat, HT.sIx_nat]
  by_cases c : a ≤ xs.length
  · rw [Nat.min_eq_left c]
    by_cases d : b ≤ xs.length
    · rw [Nat.min_eq_left d]
    · rw [Nat.min_eq_right (by omega), List.take_of_length_le (by rw [List.length_drop]; omega), List.take_of_length_le (by rw [List.length_drop]; omega)]
  · rw [Nat.min_eq_right (by omega), Nat.min_eq_right (by omega), List.drop_eq_nil_of_le (Nat.le_refl _), List.drop_eq_nil_of_le (by omega)]
    simp
theorem cut_fr {xs : List V} {a : Nat} : cutV xs (some (a : Int)) none = xs.drop a := by
  unfold cutV
  rw [HT.sIx_nat, HT.sIx_none]
  by_cases c : a ≤ xs.length
  · rw [Nat.min_eq_left c, List.take_of_length_le (by rw [List.length_drop]; omega)]
  · rw [Nat.min_eq_right (by omega), List.drop_eq_nil_of_le (Nat.le_refl _), List.drop_eq_nil_of_le (by omega)]
    simp
theorem cut_up {xs : List V} {b : Nat} : cutV xs none (some (b : Int)) = xs.take b := by
  unfold cutV
  rw [HT.sIx_nat, HT.sIx_none]
  by_cases c : b ≤ xs.length
  · rw [Nat.min_eq_left c]
    simp
  · rw [Nat.min_eq_right (by omega), List.drop_zero, Nat.sub_zero, List.take_length, List.take_of_length_le (i := b) (by omega)]
end SW

set_option Elab.async false
set_option linter.all false
set_option maxRecDepth 100000
namespace SW
open PySem L2
def wnum (n : Nat) : List Int := if n < 128 then [(n : Int)] else ((n : Int) % 128 + 128) :: wnum (n / 128)
termination_by n
decreasing_by omega
theorem wnum_lt {n : Nat} (h : n < 128) : wnum n = [(n : Int)] := by rw [wnum, if_pos h]
theorem wnum_ge {n : Nat} (h : 128 ≤ n) : wnum n = ((n : Int) % 128 + 128) :: wnum (n / 128) := by rw [wnum, if_neg (by omega)]
def csum (bs : List Int) : Int := bs.foldl (fun t b => (31 * t + b + 1) % 4294967296) 7
def tail4 (t : Int) : List Int := [t / 16777216, t / 65536 % 256, t / 256 % 256, t % 256]
def wrec (bs : List Int) : List Int := wnum bs.length ++ bs ++ tail4 (csum bs)
def rnum : Nat → Bool → List Int → Option (Int × Nat)
  | 0, _, _ => none
  | _ + 1, _, [] => none
  | f + 1, first, b :: r => if b < 128 then (if b = 0 ∧ first = false then none else some (b % 128, 1)) else (rnum f false r).map fun z => (b % 128 + 128 * z.1, z.2 + 1)
theorem rnum_nn : ∀ {f : Nat} {first : Bool} {l : List Int} {v : Int} {k : Nat}, rnum f first l = some (v, k) → 0 ≤ v ∧ k ≤ l.length ∧ k ≤ f ∧ 0 < k
  | 0, _, _, _, _, h => by simp [rnum] at h
  | _ + 1, _, [], _, _, h => by simp [rnum] at h
  | f + 1, first, b :: r, v, k, h => by
    rw [rnum] at h
    split at h
    · split at h
      · cases h
      · cases Option.some.inj h
        simp
        omega
    · cases e : rnum f false r with
      | none => rw [e] at h; cases h
      | some z =>
        obtain ⟨v1, k1⟩ := z
        rw [e] at h
        cases Option.some.inj h
        obtain ⟨h1, h2, h3, h4⟩ := rnum_nn e
        simp
        omega
theorem rnum_wnum : ∀ {f n : Nat} {first : Bool} {r : List Int}, (wnum n).length ≤ f → (first = false → 0 < n) → rnum f first (wnum n ++ r) = some ((n : Int), (wnum n).length)
  | 0, n, _, _, h, _ => by
    by_cases c : n < 128
    · rw [wnum_lt c] at h
      simp at h
    · rw [wnum_ge (by omega)] at h
      simp at h
  | f + 1, n, first, r, h, h0 => by
    by_cases c : n < 128
    · rw [wnum_lt c]
      simp only [List.cons_append, List.nil_append, rnum]
      rw [if_pos (by omega), if_neg (by intro z; have := h0 z.2; omega)]
      have : (n : Int) % 128 = n := by omega
      simp [this]
    · rw [wnum_ge (by omega)] at h ⊢
      simp only [List.cons_append, rnum]
      rw [if_neg (by omega), rnum_wnum (f := f) (by simpa using h) (by intro _; omega)]
      simp
      omega
theorem wnum_pos (n : Nat) : 0 < (wnum n).length := by
  by_cases c : n < 128
  · rw [wnum_lt c]
    simp
  · rw [wnum_ge (by omega)]
    simp
theorem wnum_len {n : Nat} (h : n < 2097152) : (wnum n).length ≤ 3 := by
  by_cases c : n < 128
  · rw [wnum_lt c]
    simp
  · rw [wnum_ge (by omega)]
    by_cases c2 : n / 128 < 128
    · rw [wnum_lt c2]
      simp
    · rw [wnum_ge (by omega), wnum_lt (by omega)]
      simp
theorem rnum_cut : ∀ {f n k : Nat} {first : Bool}, k < (wnum n).length → rnum f first ((wnum n).take k) = none
  | 0, _, _, _, _ => rfl
  | f + 1, n, 0, _, _ => by simp [rnum]
  | f + 1, n, k + 1, first, h => by
    by_cases c : n < 128
    · rw [wnum_lt c] at h
      simp at h
    · rw [wnum_ge (by omega)] at h ⊢
      simp only [List.take_succ_cons, rnum]
      rw [if_neg (by omega), rnum_cut (by simpa using h)]
      rfl
theorem rnum_rep (f j : Nat) (X : List Int) : rnum f false (List.replicate j 128 ++ 0 :: X) = none := by
  induction j generalizing f with
  | zero =>
    cases f with
    | zero => rfl
    | succ f => simp [rnum]
  | succ j ih =>
    cases f with
    | zero => rfl
    | succ f =>
      rw [List.replicate_succ]
      simp only [List.cons_append, rnum]
      rw [if_neg (by omega), ih]
      rfl
theorem rnum_needless : ∀ {f n j : Nat} {first : Bool} {X : List Int} {i : List Int} {z : Int}, wnum n = i ++ [z] → rnum f first (i ++ ((z + 128) :: (List.replicate j 128 ++ 0 :: X))) = none
  | 0, _, _, _, _, _, _, _ => rfl
  | f + 1, n, j, first, X, i, z, h => by
    by_cases c : n < 128
    · rw [wnum_lt c] at h
      cases i with
      | nil =>
        simp at h
        subst h
        simp only [List.nil_append, rnum]
        rw [if_neg (by omega), rnum_rep]
        rfl
      | cons a i =>
        simp at h
    · rw [wnum_ge (by omega)] at h
      cases i with
      | nil =>
        have := wnum_pos (n / 128)
        simp at h
        rw [h.2] at this
        simp at this
      | cons a i =>
        simp at h
        obtain ⟨h1, h2⟩ := h
        subst h1
        simp only [List.cons_append, rnum]
        rw [if_neg (by omega), rnum_needless h2]
        rfl
def parse1 (l : List Int) : Option (List Int × Nat) :=
  match rnum 60 true (l.take 60) with
  | none => none
  | some (v, k) => if l.length < k + v.toNat + 4 ∨ tail4 (csum ((l.drop k).take v.toNat)) ≠ (l.drop (k + v.toNat)).take 4 then none else some ((l.drop k).take v.toNat, k + v.toNat + 4)
theorem tail4_len (t : Int) : (tail4 t).length = 4 := rfl
theorem wrec_len (r : List Int) : (wrec r).length = (wnum r.length).length + r.length + 4 := by
  unfold wrec
  rw [List.length_append, List.length_append, tail4_len]
theorem rnum_60 {n : Nat} (h : n < 2097152) (r : List Int) : rnum 60 true ((wnum n ++ r).take 60) = some ((n : Int), (wnum n).length) := by
  have h2 := wnum_len h
  rw [List.take_append, List.take_of_length_le (by omega)]
  exact rnum_wnum (by omega) (by simp)
theorem parse_form {r' t' X : List Int} (h : r'.length < 2097152) (ht : t'.length = 4) : parse1 (wnum r'.length ++ (r' ++ (t' ++ X))) = if tail4 (csum r') = t' then some (r', (wnum r'.length).length + r'.length + 4) else none := by
  unfold parse1
  rw [rnum_60 h]
  simp only [Int.toNat_natCast]
  have e1 : (wnum r'.length ++ (r' ++ (t' ++ X))).drop (wnum r'.length).length = r' ++ (t' ++ X) := List.drop_left' rfl
  have e2 : (r' ++ (t' ++ X)).take r'.length = r' := List.take_left' rfl
  have e3 : (wnum r'.length ++ (r' ++ (t' ++ X))).drop ((wnum r'.length).length + r'.length) = t' ++ X := by
    rw [← List.drop_drop, e1]
    exact List.drop_left' rfl
  have e4 : (t' ++ X).take 4 = t' := List.take_left' ht
  rw [e1, e2, e3, e4]
  by_cases c : tail4 (csum r') = t'
  · rw [if_pos c, if_neg]
    rintro (z | z)
    · simp only [List.length_append] at z
      omega
    · exact z c
  · rw [if_neg c, if_pos (Or.inr c)]
theorem parse_wrec {r X : List Int} (h : r.length < 2097152) : parse1 (wrec r ++ X) = some (r, (wrec r).length) := by
  have e : wrec r ++ X = wnum r.length ++ (r ++ (tail4 (csum r) ++ X)) := by simp [wrec]
  rw [e, parse_form h (tail4_len _), if_pos rfl, wrec_len]
theorem parse_cut {r : List Int} {k : Nat} (h : r.length < 2097152) (hk : k < (wrec r).length) : parse1 ((wrec r).take k) = none := by
  have h2 := wnum_len h
  have e : wrec r = wnum r.length ++ (r ++ tail4 (csum r)) := by simp [wrec]
  rw [wrec_len] at hk
  by_cases c : k < (wnum r.length).length
  · unfold parse1
    rw [e, List.take_append_of_le_length (by omega), List.take_of_length_le (by rw [List.length_take]; omega), rnum_cut c]
  · have e5 : (wrec r).take k = wnum r.length ++ (r ++ tail4 (csum r)).take (k - (wnum r.length).length) := by
      rw [e, List.take_append, List.take_of_length_le (by omega)]
    unfold parse1
    rw [e5, rnum_60 h]
    simp only [Int.toNat_natCast]
    rw [if_pos (Or.inl ?_)]
    simp only [List.length_append, List.length_take, tail4_len]
    omega
theorem parse_nil : parse1 [] = none := rfl
theorem parse_needless {n j : Nat} {i : List Int} {z : Int} {X : List Int} (h : n < 2097152) (hj : j < 20) (e : wnum n = i ++ [z]) : parse1 (i ++ ((z + 128) :: (List.replicate j 128 ++ 0 :: X))) = none := by
  have h2 := wnum_len h
  rw [e] at h2
  simp at h2
  unfold parse1
  have : (i ++ ((z + 128) :: (List.replicate j 128 ++ 0 :: X))).take 60 = i ++ ((z + 128) :: (List.replicate j 128 ++ 0 :: X.take (60 - (i.length + 1 + j + 1)))) := by
    have e1 : i ++ ((z + 128) :: (List.replicate j 128 ++ 0 :: X)) = (i ++ ((z + 128) :: (List.replicate j 128 ++ [0]))) ++ X := by simp
    rw [e1, List.take_append, List.take_of_length_le (by simp; omega)]
    simp
    congr 1
    omega
  rw [this, rnum_needless e]
theorem step_inj {t u b : Int} (ht : 0 ≤ t ∧ t < 4294967296) (hu : 0 ≤ u ∧ u < 4294967296) (h : (31 * t + b + 1) % 4294967296 = (31 * u + b + 1) % 4294967296) : t = u := by omega
theorem fold_in : ∀ (bs : List Int) {t : Int}, 0 ≤ t ∧ t < 4294967296 → 0 ≤ bs.foldl (fun t b => (31 * t + b + 1) % 4294967296) t ∧ bs.foldl (fun t b => (31 * t + b + 1) % 4294967296) t < 4294967296
  | [], t, h => h
  | b :: bs, t, h => fold_in bs ⟨Int.emod_nonneg _ (by decide), Int.emod_lt_of_pos _ (by decide)⟩
theorem csum_in (bs : List Int) : 0 ≤ csum bs ∧ csum bs < 4294967296 := fold_in bs (by decide)
theorem fold_inj : ∀ (bs : List Int) {t u : Int}, 0 ≤ t ∧ t < 4294967296 → 0 ≤ u ∧ u < 4294967296 → bs.foldl (fun t b => (31 * t + b + 1) % 4294967296) t = bs.foldl (fun t b => (31 * t + b + 1) % 4294967296) u → t = u
  | [], _, _, _, _, h => h
  | b :: bs, t, u, ht, hu, h => step_inj ht hu (fold_inj bs ⟨Int.emod_nonneg _ (by decide), Int.emod_lt_of_pos _ (by decide)⟩ ⟨Int.emod_nonneg _ (by decide), Int.emod_lt_of_pos _ (by decide)⟩ h)
theorem csum_ne {a b : List Int} {x y : Int} (hx : 0 ≤ x ∧ x < 256) (hy : 0 ≤ y ∧ y < 256) (h : x ≠ y) : csum (a ++ x :: b) ≠ csum (a ++ y :: b) := by
  intro e
  unfold csum at e
  rw [List.foldl_append, List.foldl_append] at e
  simp only [List.foldl_cons] at e
  have e2 := fold_inj b ⟨Int.emod_nonneg _ (by decide), Int.emod_lt_of_pos _ (by decide)⟩ ⟨Int.emod_nonneg _ (by decide), Int.emod_lt_of_pos _ (by decide)⟩ e
  omega
theorem tail4_inj {s t : Int} (hs : 0 ≤ s ∧ s < 4294967296) (ht : 0 ≤ t ∧ t < 4294967296) (h : tail4 s = tail4 t) : s = t := by
  unfold tail4 at h
  simp only [List.cons.injEq, and_true] at h
  obtain ⟨h1, h2, h3, h4⟩ := h
  omega
theorem parse_data {r : List Int} {i : Nat} {v : Int} {X : List Int} (h : r.length < 2097152) (hi : i < r.length) (hr : ∀ b ∈ r, 0 ≤ b ∧ b < 256) (hv : 0 ≤ v ∧ v < 256) (hne : v ≠ r[i]) : parse1 ((wrec r).set ((wnum r.length).length + i) v ++ X) = none := by
  have e : (wrec r).set ((wnum r.length).length + i) v ++ X = wnum (r.set i v).length ++ (r.set i v ++ (tail4 (csum r) ++ X)) := by
    unfold wrec
    rw [List.append_assoc, List.set_append_right _ _ (by omega), List.set_append_left _ _ (by omega)]
    simp
  rw [e, parse_form (by simpa using h) (tail4_len _), if_neg]
  intro z
  have z2 := tail4_inj (csum_in _) (csum_in _) z
  have e1 : r = r.take i ++ r[i] :: r.drop (i + 1) := by simp
  have e2 : r.set i v = r.take i ++ v :: r.drop (i + 1) := List.set_eq_take_append_cons_drop ▸ by simp [hi]
  rw [e2] at z2
  have z3 : csum (r.take i ++ v :: r.drop (i + 1)) = csum (r.take i ++ r[i] :: r.drop (i + 1)) := by rw [← e1]; exact z2
  exact csum_ne hv (hr _ (List.getElem_mem hi)) hne z3
theorem parse_sum {r : List Int} {i : Nat} {v : Int} {X : List Int} (h : r.length < 2097152) (hi : i < 4) (hne : (tail4 (csum r))[i]? ≠ some v) : parse1 ((wrec r).set ((wnum r.length).length + r.length + i) v ++ X) = none := by
  have e : (wrec r).set ((wnum r.length).length + r.length + i) v ++ X = wnum r.length ++ (r ++ ((tail4 (csum r)).set i v ++ X)) := by
    unfold wrec
    rw [List.set_append_right _ _ (by simp), ]
    simp
  rw [e, parse_form h (by simp [tail4_len]), if_neg]
  intro z
  rw [z] at hne
  rw [List.getElem?_set_self (by simp [tail4_len]; exact hi)] at hne
  exact hne rfl
inductive Recs : List Int → List (List Int) → Nat → Prop
  | stop {l : List Int} : parse1 l = none → Recs l [] 0
  | step {l r : List Int} {n m : Nat} {rs : List (List Int)} : parse1 l = some (r, n) → Recs (l.drop n) rs m → Recs l (r :: rs) (n + m)
def wrecs (rs : List (List Int)) : List Int := (rs.map wrec).flatten
theorem recs_whole : ∀ {rs : List (List Int)} {X : List Int}, (∀ r ∈ rs, r.length < 2097152) → parse1 X = none → Recs (wrecs rs ++ X) rs (wrecs rs).length
  | [], X, _, h => .stop h
  | r :: rs, X, hr, h => by
    have ih := recs_whole (rs := rs) (fun r hr' => hr r (by simp [hr'])) h
    have e : wrecs (r :: rs) ++ X = wrec r ++ (wrecs rs ++ X) := by simp [wrecs]
    have el : (wrecs (r :: rs)).length = (wrec r).length + (wrecs rs).length := by simp [wrecs]
    rw [e, el]
    refine .step (parse_wrec (hr r (by simp))) ?_
    rw [List.drop_left' rfl]
    exact ih
def sizesOf : Nat → List (List Int) → List Nat
  | n, [] => [n]
  | n, r :: rs => n :: sizesOf (n + (wrec r).length) rs
theorem sizesOf_len : ∀ (n : Nat) (rs : List (List Int)), (sizesOf n rs).length = rs.length + 1
  | _, [] => rfl
  | n, r :: rs => by simp [sizesOf, sizesOf_len _ rs]
theorem sizesOf_ge : ∀ {n : Nat} {rs : List (List Int)} {x : Nat}, x ∈ sizesOf n rs → n ≤ x
  | n, [], x, h => by simp [sizesOf] at h; omega
  | n, r :: rs, x, h => by
    simp [sizesOf] at h
    rcases h with rfl | h
    · omega
    · have := sizesOf_ge h
      omega
theorem sizesOf_snoc : ∀ (n : Nat) (rs : List (List Int)) (r : List Int), sizesOf n (rs ++ [r]) = sizesOf n rs ++ [n + (wrecs rs).length + (wrec r).length]
  | n, [], r => by simp [sizesOf, wrecs]
  | n, q :: rs, r => by
    simp only [List.cons_append, sizesOf, sizesOf_snoc _ rs r]
    congr 3
    simp [wrecs]
    omega
theorem recs_cut : ∀ {rs : List (List Int)} {e s : Nat}, (∀ r ∈ rs, r.length < 2097152) → e ≤ (wrecs rs).length →
    Recs ((wrecs rs).take e) (rs.take (((sizesOf s rs).filter fun x => decide (x ≤ s + e)).length - 1)) ((sizesOf s rs).getD (((sizesOf s rs).filter fun x => decide (x ≤ s + e)).length - 1) 0 - s)
  | [], e, s, _, h => by
    have : e = 0 := by simpa [wrecs] using h
    subst this
    simp [sizesOf, wrecs]
    exact .stop parse_nil
  | r :: rs, e, s, hr, h => by
    have er : wrecs (r :: rs) = wrec r ++ wrecs rs := by simp [wrecs]
    rw [er] at h ⊢
    simp only [sizesOf, List.filter_cons]
    rw [if_pos (by simp)]
    by_cases c : (wrec r).length ≤ e
    · have ih := recs_cut (rs := rs) (e := e - (wrec r).length) (s := s + (wrec r).length) (fun r hr' => hr r (by simp [hr'])) (by simp at h; omega)
      have ee : s + (wrec r).length + (e - (wrec r).length) = s + e := by omega
      rw [ee] at ih
      have hpos : 0 < ((sizesOf (s + (wrec r).length) rs).filter fun x => decide (x ≤ s + e)).length := by
        have hm : s + (wrec r).length ∈ (sizesOf (s + (wrec r).length) rs).filter fun x => decide (x ≤ s + e) := by
          rw [List.mem_filter]
          refine ⟨?_, by simp; omega⟩
          cases rs <;> simp [sizesOf]
        exact List.length_pos_of_mem hm
      generalize hc : ((sizesOf (s + (wrec r).length) rs).filter fun x => decide (x ≤ s + e)).length = cnt at ih hpos
      have e1 : (s :: (sizesOf (s + (wrec r).length) rs).filter fun x => decide (x ≤ s + e)).length - 1 = cnt - 1 + 1 := by
        rw [List.length_cons, hc]
        omega
      rw [e1, List.take_succ_cons, List.getD_cons_succ]
      have e2 : (wrec r ++ wrecs rs).take e = wrec r ++ (wrecs rs).take (e - (wrec r).length) := by
        rw [List.take_append, List.take_of_length_le c]
      rw [e2]
      have hg : s + (wrec r).length ≤ (sizesOf (s + (wrec r).length) rs).getD (cnt - 1) 0 := by
        have hl : cnt - 1 < (sizesOf (s + (wrec r).length) rs).length := by
          have := List.length_filter_le (fun x => decide (x ≤ s + e)) (sizesOf (s + (wrec r).length) rs)
          omega
        rw [List.getD_eq_getElem?_getD, List.getElem?_eq_getElem hl]
        exact sizesOf_ge (List.getElem_mem hl)
      have e3 : (sizesOf (s + (wrec r).length) rs).getD (cnt - 1) 0 - s = (wrec r).length + ((sizesOf (s + (wrec r).length) rs).getD (cnt - 1) 0 - (s + (wrec r).length)) := by omega
      rw [e3]
      refine .step (parse_wrec (hr r (by simp))) ?_
      rw [List.drop_left' rfl]
      exact ih
    · have e0 : ((sizesOf (s + (wrec r).length) rs).filter fun x => decide (x ≤ s + e)) = [] := by
        rw [List.filter_eq_nil_iff]
        intro x hx
        have := sizesOf_ge hx
        simp
        omega
      rw [e0]
      simp
      rw [List.take_append_of_le_length (by omega)]
      exact .stop (parse_cut (hr r (by simp)) (by omega))
end SW

set_option Elab.async false
set_option linter.all false
set_option maxRecDepth 100000
set_option maxHeartbeats 4000000
namespace SW
open PySem L2
def top (i : Nat) : Stmt := PySem.Challenge.pw_shapewhole_k11_records.main.body.getD i (.Pass ⟨0, 0, 0, 0⟩)
abbrev s_law_mix : Stmt := top 16
theorem sc_law_mix : FnScope ["cell", "k", "value"] ["cell", "k"] (defScope s_law_mix) := ⟨rfl, rfl, rfl, by decide +kernel, rfl, by decide +kernel, by decide +kernel⟩
abbrev s_law_draws : Stmt := top 17
theorem sc_law_draws : FnScope ["script", "draws", "k", "cell", "place"] ["script"] (defScope s_law_draws) := ⟨rfl, rfl, rfl, by decide +kernel, rfl, by decide +kernel, by decide +kernel⟩
abbrev s_law_at : Stmt := top 18
theorem sc_law_at : FnScope ["draws", "index"] ["draws", "index"] (defScope s_law_at) := ⟨rfl, rfl, rfl, by decide +kernel, rfl, by decide +kernel, by decide +kernel⟩
abbrev s_law_next : Stmt := top 21
theorem sc_law_next : FnScope ["state", "limit"] ["state", "limit"] (defScope s_law_next) := ⟨rfl, rfl, rfl, by decide +kernel, rfl, by decide +kernel, by decide +kernel⟩
abbrev s_law_is_integer : Stmt := top 19
theorem sc_law_is_integer : FnScope ["actual"] ["actual"] (defScope s_law_is_integer) := ⟨rfl, rfl, rfl, by decide +kernel, rfl, by decide +kernel, by decide +kernel⟩
abbrev s_law_same : Stmt := top 20
theorem sc_law_same : FnScope ["actual", "expected", "k"] ["actual", "expected"] (defScope s_law_same) := ⟨rfl, rfl, rfl, by decide +kernel, rfl, by decide +kernel, by decide +kernel⟩
abbrev s_write_number : Stmt := top 8
theorem sc_write_number : FnScope ["number", "data"] ["number"] (defScope s_write_number) := ⟨rfl, rfl, rfl, by decide +kernel, rfl, by decide +kernel, by decide +kernel⟩
abbrev s_checksum : Stmt := top 11
theorem sc_checksum : FnScope ["data", "total", "byte"] ["data"] (defScope s_checksum) := ⟨rfl, rfl, rfl, by decide +kernel, rfl, by decide +kernel, by decide +kernel⟩
abbrev s_write_record : Stmt := top 12
theorem sc_write_record : FnScope ["data", "total", "tail"] ["data"] (defScope s_write_record) := ⟨rfl, rfl, rfl, by decide +kernel, rfl, by decide +kernel, by decide +kernel⟩
abbrev s_Reader___init__ : Stmt := inClass (top 6) 0
theorem sc_Reader___init__ : FnScope ["self", "data"] ["self", "data"] (defScope s_Reader___init__) := ⟨rfl, rfl, rfl, by decide +kernel, rfl, by decide +kernel, by decide +kernel⟩
abbrev s_Reader_read_byte : Stmt := inClass (top 6) 1
theorem sc_Reader_read_byte : FnScope ["self"] ["self"] (defScope s_Reader_read_byte) := ⟨rfl, rfl, rfl, by decide +kernel, rfl, by decide +kernel, by decide +kernel⟩
abbrev s_Reader_read_number : Stmt := inClass (top 6) 4
theorem sc_Reader_read_number : FnScope ["self", "total", "factor", "index", "byte"] ["self"] (defScope s_Reader_read_number) := ⟨rfl, rfl, rfl, by decide +kernel, rfl, by decide +kernel, by decide +kernel⟩
abbrev s_read_size : Stmt := top 13
theorem sc_read_size : FnScope ["data", "start", "reader", "size"] ["data", "start"] (defScope s_read_size) := ⟨rfl, rfl, rfl, by decide +kernel, rfl, by decide +kernel, by decide +kernel⟩
abbrev s_read_records : Stmt := top 14
theorem sc_read_records : FnScope ["data", "records", "start", "found", "begin", "size", "record", "end"] ["data"] (defScope s_read_records) := ⟨rfl, rfl, rfl, by decide +kernel, rfl, by decide +kernel, by decide +kernel⟩
abbrev s_law_number : Stmt := top 22
theorem sc_law_number : FnScope ["number", "data"] ["number"] (defScope s_law_number) := ⟨rfl, rfl, rfl, by decide +kernel, rfl, by decide +kernel, by decide +kernel⟩
abbrev s_law_checksum : Stmt := top 23
theorem sc_law_checksum : FnScope ["data", "total", "byte"] ["data"] (defScope s_law_checksum) := ⟨rfl, rfl, rfl, by decide +kernel, rfl, by decide +kernel, by decide +kernel⟩
abbrev s_law_record : Stmt := top 24
theorem sc_law_record : FnScope ["data", "total"] ["data"] (defScope s_law_record) := ⟨rfl, rfl, rfl, by decide +kernel, rfl, by decide +kernel, by decide +kernel⟩
abbrev s_law_bytes : Stmt := top 25
theorem sc_law_bytes : FnScope ["state", "count", "pick", "start", "k"] ["state"] (defScope s_law_bytes) := ⟨rfl, rfl, rfl, by decide +kernel, rfl, by decide +kernel, by decide +kernel⟩
abbrev s_law_behind : Stmt := top 26
theorem sc_law_behind : FnScope ["state", "data", "record", "further", "pick", "at", "size", "needless"] ["state"] (defScope s_law_behind) := ⟨rfl, rfl, rfl, by decide +kernel, rfl, by decide +kernel, by decide +kernel⟩
abbrev s_law : Stmt := top 27
theorem sc_law : FnScope ["script", "state", "records", "data", "sizes", "record", "passed", "whole", "k", "end", "count", "size"] ["script"] (defScope s_law) := ⟨rfl, rfl, rfl, by decide +kernel, rfl, by decide +kernel, by decide +kernel⟩
structure Txt (K : PySem.W.Frag) (mg : Str → Option Value) : Prop where
  b_bool : mg "bool" = none
  b_int : mg "int" = none
  b_isinstance : mg "isinstance" = none
  b_len : mg "len" = none
  b_list : mg "list" = none
  b_min : mg "min" = none
  b_range : mg "range" = none
  b_str : mg "str" = none
  b_tuple : mg "tuple" = none
  c_CHECKSUM_LIMIT : ∃ t, mg "CHECKSUM_LIMIT" = some (.int 4294967296 t)
  c_NUMBER_BYTES : ∃ t, mg "NUMBER_BYTES" = some (.int 60 t)
structure TReader (K : PySem.W.Frag) (C : Addr) : Prop where
  cl : Cls K C
  n_data : NoAttr K C "data"
  n_at : NoAttr K C "at"
def CZ : Int := 9973
def InR (ds : List Int) : Prop := (∀ d ∈ ds, 0 ≤ d ∧ d < 9973) ∧ ds.length ≤ 3780
def spMix : Sp := fun vs H Q _ => ∃ c k : Int, vs = [.int c, .int k] ∧ ∀ r : Int, 0 ≤ r → r < 9973 → Q (.int r) H
def spDraws (K : PySem.W.Frag) : Sp := fun vs H Q _ => ∃ (a : Addr) (ns : List Int), vs = [.ref a] ∧ SqL K H a (ns.map V.int) ∧ ns.length ≤ 63 ∧ ∀ (p : Addr) (H' : Hp) (ds : List Int), H p = none → Same H H' → H' p = some (.lst (ds.map V.int)) → InR ds → Q (.ref p) H'
def spAt (K : PySem.W.Frag) : Sp := fun vs H Q _ => ∃ (a : Addr) (ds : List Int) (i : Int), vs = [.ref a, .int i] ∧ SqL K H a (ds.map V.int) ∧ InR ds ∧ 0 ≤ i ∧ ∀ r : Int, 0 ≤ r → r < 9973 → Q (.int r) H
section
variable {P : Program} {w : World} {K : PySem.W.Frag} {mg : Str → Option Value} {base : Heap}
theorem pz {a : Int} (h : 0 < a) : (fun (_ j : Int) => 0 < j) a a := h
theorem ok_law_mix {f : Addr} {fd : FuncData} (F : Fun K "_law_mix" "_law_mix" s_law_mix f fd) (T : Txt K mg) : FnOk P w K mg base CX0 1 f fd ["cell", "k"] spMix := by
  refine F.ok sc_law_mix (fun vs H Q E h => ?_) (fun cdv A outer s H vs Q E hr h => ?_)
  · obtain ⟨_, _, rfl, _⟩ := h
    rfl
  obtain ⟨c, k, rfl, q⟩ := h
  refine ⟨_, (pss_cons (ps_set (i := 2) sc_law_mix.nd rfl (Or.inl rfl) (pe_op op_mod (pe_callTy call_int1 (by rfl) T.b_int bt_int (pa_cons (pe_op op_add (pe_op op_add (pe_op op_mul (pe_callTy call_int1 (by rfl) T.b_int bt_int (pa_cons (pv 0) pa_nil)) pe_int) (pe_op op_mul (pv 1) pe_int)) pe_int) pa_nil)) pe_int))
  (pss_cons (ps_set (i := 2) sc_law_mix.nd rfl (Or.inl rfl) (pe_op op_mod (pe_callTy call_int1 (by rfl) T.b_int bt_int (pa_cons (pe_op op_add (pe_op op_add (pe_op op_mul (pv 2) (pv 2)) (pe_op op_mul (pv 1) pe_int)) pe_int) pa_nil)) pe_int))
  (pss_one (ps_ret (pe_op op_mod (pe_op op_fdiv (pv 2) pe_int) pe_int))))), ?_⟩
  refine ⟨_, rfl, .inl ⟨_, rfl, _, _, rfl, rfl, .inr ⟨by decide, by decide⟩, _, rfl, _, _, rfl, rfl, .inr ⟨by decide, by decide⟩, _, _, rfl, rfl, _, _, rfl, rfl, .inl ⟨_, rfl, _, _, rfl, rfl, (by show (0 : Int) < 2147483647; decide), ?_⟩⟩⟩
  generalize hv : (c * 48271 + k * 69621 + 12345) % 2147483647 = v
  have v0 : 0 ≤ v := by rw [← hv]; exact Int.emod_nonneg _ (by decide)
  have v1 : v < 2147483647 := by rw [← hv]; exact Int.emod_lt_of_pos _ (by decide)
  refine ⟨_, rfl, _, rfl, _, _, rfl, rfl, .inl ⟨by omega, by omega⟩, _, rfl, _, _, rfl, rfl, .inr ⟨by decide, by decide⟩, _, _, rfl, rfl, _, _, rfl, rfl, .inl ⟨_, rfl, _, _, rfl, rfl, (by show (0 : Int) < 2147483399; decide), ?_⟩⟩
  refine ⟨_, rfl, _, _, rfl, rfl, ⟨by decide, by decide⟩, _, _, rfl, rfl, (by show (0 : Int) < 9973; decide), ?_⟩
  exact q _ (Int.emod_nonneg _ (by decide)) (Int.emod_lt_of_pos _ (by decide))
theorem ok_law_draws {f : Addr} {fd : FuncData} (F : Fun K "_law_draws" "_law_draws" s_law_draws f fd) (T : Txt K mg) (G_law_mix : GF P w K mg base CX0 "_law_mix" 1 ["cell", "k"] spMix) : FnOk P w K mg base CX0 2 f fd ["script"] (spDraws K) := by
  refine F.ok sc_law_draws (fun vs H Q E h => ?_) (fun cdv A outer s H vs Q E hr h => ?_)
  · obtain ⟨_, _, rfl, _⟩ := h
    rfl
  obtain ⟨a, ns, rfl, hA, hl, q⟩ := h
  refine ⟨_, (pss_cons (ps_set (i := 1) sc_law_draws.nd rfl (Or.inl rfl) (pe_lst pa_nil))
  (pss_cons (ps_for PassesOwn.never rfl (pi_range1 rfl T.b_range (pa_cons (pe_callB (call_min2 rfl) (by rfl) T.b_min bt_min (pa_cons pe_int (pa_cons (pe_callB call_len_seq (by rfl) T.b_len bt_len (pa_cons (pv 0) pa_nil)) pa_nil))) pa_nil)) (pg_name (i := 2) sc_law_draws.nd rfl (Or.inl rfl)) (pss_cons (ps_set (i := 3) sc_law_draws.nd rfl (Or.inl rfl) (pe_callTy call_int1 (by rfl) T.b_int bt_int (pa_cons (pe_ix ix_list (pv 0) (pv 2) (fun _ _ => rfl)) pa_nil)))
  (pss_one (ps_if (pt_cmpR op_lt (pv 3) (pe_op op_pow pe_int pe_int) (nomark _)) (pss_one (ps_expr (pe_bm PySem.F.plainAttrs_list PySem.F.slot_list_append PySem.F.type_list_append mt_append (pv 1) (pa_cons (pe_cg G_law_mix hr rfl (pa_cons (pv 3) (pa_cons (pv 2) pa_nil))) pa_nil)))) (pss_one (ps_for PassesOwn.never rfl (pi_range1 rfl T.b_range (pa_cons pe_int pa_nil)) (pg_name (i := 4) sc_law_draws.nd rfl (Or.inl rfl)) (pss_one (ps_if (pt_cmpR op_gt (pv 3) pe_int (nomark _)) (pss_cons (ps_expr (pe_bm PySem.F.plainAttrs_list PySem.F.slot_list_append PySem.F.type_list_append mt_append (pv 1) (pa_cons (pe_op op_mod (pe_callTy call_int1 (by rfl) T.b_int bt_int (pa_cons (pv 3) pa_nil)) pe_int) pa_nil)))
  (pss_one (ps_set (i := 3) sc_law_draws.nd rfl (Or.inl rfl) (pe_op op_fdiv (pv 3) pe_int)))) pss_nil))))))))
  (pss_one (ps_ret (pv 1))))), ?_⟩
  refine ⟨Nat.zero_le _, fun p hp => ?_⟩
  have eln : (ns.map V.int).length = ns.length := List.length_map _
  refine ⟨_, rfl, a, _, rfl, .inl (sql_le (same_upd hp) hA), 63, _, rfl, ?_⟩
  have emin : (if (((ns.map V.int).length : Nat) : Int) < 63 then (((ns.map V.int).length : Nat) : Int) else 63) = (ns.length : Int) := by
    rw [eln]
    split <;> omega
  rw [emin]
  refine ⟨_, rfl, by omega, by omega, for_range (fun i σ H' => ∃ (ds : List Int) (z1 z2 z3 : Option V), σ = [some (.ref a), some (.ref p), z1, z2, z3] ∧ Same H H' ∧ H' p = some (.lst (ds.map V.int)) ∧ (∀ d ∈ ds, 0 ≤ d ∧ d < 9973) ∧ ds.length ≤ 60 * i) ⟨[], none, none, none, rfl, same_upd hp, upd_same, by simp, by simp⟩ ?_ ?_⟩
  · rintro i σ H1 hi ⟨ds, z1, z2, z3, rfl, s1, h1, hd, hdl⟩
    have hi' : i < ns.length := by omega
    have hc : (ns.map V.int)[i]? = some (.int ns[i]) := by rw [List.getElem?_map, List.getElem?_eq_getElem hi']; rfl
    have ix : atI (ns.map V.int) (0 + (i : Int)) = some (.int ns[i]) := by
      rw [Int.zero_add]
      exact atI_nat hc
    refine ⟨_, rfl, _, rfl, a, _, _, _, rfl, rfl, s1.seq hA, ix, .inl ⟨_, rfl, ?_⟩⟩
    refine ⟨_, rfl, _, _, rfl, rfl, ⟨by decide, by decide, by decide⟩, _, _, rfl, rfl, _, rfl, brD (fun e => ?_) (fun e => ?_)⟩
    · refine ⟨_, rfl, .inl ⟨rfl, _, SqL.of h1⟩, _, rfl, _, rfl, _, _, rfl, fun r r0 r1 => ⟨p, _, _, rfl, rfl, h1, szl _ (by rw [List.length_map]; omega), ?_⟩⟩
      refine ⟨ds ++ [r], _, _, z3, rfl, fun b o z => ?_, by rw [upd_same]; simp, ?_, by simp; omega⟩
      · have hb : b ≠ p := ne_of_none z hp
        rw [upd_ne hb]
        exact s1 _ _ z
      · intro d hd'
        rcases List.mem_append.mp hd' with hd' | hd'
        · exact hd d hd'
        · simp at hd'
          rw [hd']
          exact ⟨r0, r1⟩
    · -- the places of a great cell
      have e60 : ((60 : Int).toNat) = 60 := rfl
      refine ⟨60, rfl, by decide, by decide, for_range (fun j σ H' => ∃ (ds2 : List Int) (cell : Int) (z2 z3 : Option V), σ = [some (.ref a), some (.ref p), some (.int (0 + (i : Int))), some (.int cell), z3] ∧ Same H H' ∧ H' p = some (.lst (ds2.map V.int)) ∧ (∀ d ∈ ds2, 0 ≤ d ∧ d < 9973) ∧ ds2.length ≤ ds.length + j) ⟨ds, ns[i], none, z3, rfl, s1, h1, hd, by omega⟩ ?_ ?_⟩
      · rintro j σ H2 hj ⟨ds2, cell, z2, z3, rfl, s2, h2, hd2, hdl2⟩
        refine ⟨_, rfl, _, _, rfl, rfl, _, rfl, brD (fun e1 => ?_) (fun e1 => ?_)⟩
        · refine ⟨_, rfl, .inl ⟨rfl, _, SqL.of h2⟩, _, rfl, .inl ⟨_, rfl, _, _, rfl, rfl, (by show (0 : Int) < 9973; decide), p, _, _, rfl, rfl, h2, szl _ (by rw [List.length_map]; omega), ?_⟩⟩
          refine ⟨_, rfl, _, _, rfl, rfl, ⟨by decide, by decide⟩, ?_⟩
          refine ⟨ds2 ++ [cell % 9973], cell / 9973, none, _, rfl, fun b o z => ?_, by rw [upd_same]; simp, ?_, by simp; omega⟩
          · have hb : b ≠ p := ne_of_none z hp
            rw [upd_ne hb]
            exact s2 _ _ z
          · intro d hd'
            rcases List.mem_append.mp hd' with hd' | hd'
            · exact hd2 d hd'
            · simp at hd'
              rw [hd']
              exact ⟨Int.emod_nonneg _ (by decide), Int.emod_lt_of_pos _ (by decide)⟩
        · exact ⟨ds2, cell, none, _, rfl, s2, h2, hd2, by omega⟩
      · rintro σ H2 ⟨ds2, cell, z2, z3, rfl, s2, h2, hd2, hdl2⟩
        exact ⟨ds2, _, _, _, rfl, s2, h2, hd2, by omega⟩
  · rintro σ H1 ⟨ds, z1, z2, z3, rfl, s1, h1, hd, hdl⟩
    exact ⟨_, rfl, q p H1 ds hp s1 h1 ⟨hd, by omega⟩⟩
theorem ok_law_at {f : Addr} {fd : FuncData} (F : Fun K "_law_at" "_law_at" s_law_at f fd) (T : Txt K mg) (G_law_mix : GF P w K mg base CX0 "_law_mix" 1 ["cell", "k"] spMix) : FnOk P w K mg base CX0 2 f fd ["draws", "index"] (spAt K) := by
  refine F.ok sc_law_at (fun vs H Q E h => ?_) (fun cdv A outer s H vs Q E hr h => ?_)
  · obtain ⟨_, _, _, rfl, _⟩ := h
    rfl
  obtain ⟨a, ds, i, rfl, hA, ⟨hR, hl⟩, h0, q⟩ := h
  refine ⟨_, (pss_cons (ps_if (pt_cmpR op_lt (pv 1) (pe_callB call_len_seq (by rfl) T.b_len bt_len (pa_cons (pv 0) pa_nil)) (nomark _)) (pss_one (ps_ret (pe_ix ix_list (pv 0) (pv 1) (fun _ _ => rfl)))) pss_nil)
  (pss_cons (ps_if (pt_cmpR op_eq (pe_callB call_len_seq (by rfl) T.b_len bt_len (pa_cons (pv 0) pa_nil)) pe_int (nomark _)) (pss_one (ps_ret (pe_cg G_law_mix hr rfl (pa_cons (pv 1) (pa_cons pe_int pa_nil))))) pss_nil)
  (pss_one (ps_ret (pe_cg G_law_mix hr rfl (pa_cons (pe_op op_add (pe_ix ix_list (pv 0) (pe_op op_mod (pe_callTy call_int1 (by rfl) T.b_int bt_int (pa_cons (pv 1) pa_nil)) (pe_callB call_len_seq (by rfl) T.b_len bt_len (pa_cons (pv 0) pa_nil))) (fun _ _ => rfl)) (pe_op op_mul (pv 1) pe_int)) (pa_cons (pv 1) pa_nil))))))), ?_⟩
  have eln : (ds.map V.int).length = ds.length := List.length_map _
  have at_ : ∀ j : Int, 0 ≤ j → j < ds.length → ∃ v, atI (ds.map V.int) j = some (.int v) ∧ 0 ≤ v ∧ v < 9973 := fun j j0 j1 => by
    have hj : j.toNat < ds.length := by omega
    refine ⟨ds[j.toNat], ?_, hR _ (List.getElem_mem hj)⟩
    have e : ((j.toNat : Nat) : Int) = j := by omega
    have g : atI (ds.map V.int) ((j.toNat : Nat) : Int) = some (.int ds[j.toNat]) := atI_nat (by rw [List.getElem?_map, List.getElem?_eq_getElem hj]; rfl)
    rw [e] at g
    exact g
  refine ⟨_, rfl, _, rfl, a, _, rfl, .inl hA, _, _, rfl, rfl, _, rfl, brD (fun e => ?_) (fun e => ?_)⟩
  · rw [eln] at e
    obtain ⟨v, hv, v0, v1⟩ := at_ i h0 e
    exact ⟨_, rfl, _, rfl, a, _, _, _, rfl, rfl, hA, hv, q v v0 v1⟩
  · refine ⟨_, rfl, a, _, rfl, .inl hA, rfl, _, rfl, brD (fun e1 => ?_) (fun e1 => ?_)⟩
    · exact ⟨_, rfl, _, _, rfl, q⟩
    · rw [int_inj, eln] at e1
      have hpos : (0 : Int) < ds.length := by omega
      obtain ⟨v, hv, v0, v1⟩ := at_ (i % ds.length) (Int.emod_nonneg _ (by omega)) (Int.emod_lt_of_pos _ hpos)
      refine ⟨_, rfl, _, rfl, .inl ⟨_, rfl, _, rfl, a, _, rfl, .inl hA, _, _, rfl, rfl, (by rw [eln]; exact hpos), ?_⟩⟩
      refine ⟨a, _, _, .int v, rfl, rfl, hA, by rw [eln]; exact hv, _, rfl, _, _, rfl, rfl, .inr ⟨by decide, by decide⟩, _, _, rfl, rfl, _, rfl, ?_⟩
      exact ⟨_, _, rfl, q⟩
def StA (K : PySem.W.Frag) (O : List Addr) (H : Hp) (st : Addr) : Prop := st ∈ O ∧ ∃ (d : Addr) (ds : List Int) (i : Int), H st = some (.lst [.ref d, .int i]) ∧ SqL K (wo H O) d (ds.map V.int) ∧ InR ds ∧ 0 ≤ i
section
variable {O : List Addr} {H H' : Hp} {st p : Addr} {o : HO}
theorem StA.to (h : StA K O H st) (e : H' st = H st) (u : Same (wo H O) (wo H' O)) : StA K O H' st := by
  obtain ⟨h0, d, ds, i, h1, h2, h3⟩ := h
  exact ⟨h0, d, ds, i, e.trans h1, sql_le u h2, h3⟩
theorem StA.is (h : StA K O H st) : ∃ xs, H st = some (.lst xs) := by
  obtain ⟨_, _, _, _, h1, _⟩ := h
  exact ⟨_, h1⟩
theorem StA.le (h : StA K O H st) (u : Same H H') : StA K O H' st := by
  obtain ⟨xs, hx⟩ := h.is
  exact h.to (by rw [u _ _ hx, hx]) (Same.wo u)
theorem StA.put (h : StA K O H st) (hp : p ∈ O) (n : p ≠ st) : StA K O (upd H p o) st :=
  h.to (upd_ne (Ne.symm n)) (by rw [wo_upd_in hp]; exact Same.refl _)
theorem StA.grow (h : StA K O H st) (hp : H p = none) : StA K (p :: O) (upd H p o) st := by
  obtain ⟨xs, hx⟩ := h.is
  obtain ⟨h0, d, ds, i, h1, h2, h3⟩ := h
  have n : st ≠ p := ne_of_none hx hp
  refine ⟨List.mem_cons_of_mem _ h0, d, ds, i, by rw [upd_ne n]; exact h1, ?_, h3⟩
  exact sql_le (wo_new hp) h2
theorem StA.shrink (h : StA K (p :: O) H st) (hs : st ∈ O) : StA K O H st := by
  obtain ⟨_, d, ds, i, h1, h2, h3⟩ := h
  exact ⟨hs, d, ds, i, h1, sql_le wo_cons_le h2, h3⟩
end
def spNextA (K : PySem.W.Frag) : Sp := fun vs H Q _ => ∃ (O : List Addr) (st : Addr) (lim : Int), vs = [.ref st, .int lim] ∧ 0 < lim ∧ StA K O H st ∧ ∀ (r : Int) (H' : Hp), 0 ≤ r → r < lim → r < 9973 → Up [st] H H' → StA K O H' st → Q (.int r) H'
theorem ok_law_nextA {f : Addr} {fd : FuncData} (F : Fun K "_law_next" "_law_next" s_law_next f fd) (T : Txt K mg) (G_law_at : GF P w K mg base CX0 "_law_at" 2 ["draws", "index"] (spAt K)) : FnOk P w K mg base CX0 3 f fd ["state", "limit"] (spNextA K) := by
  refine F.ok sc_law_next (fun vs H Q E h => ?_) (fun cdv A outer s H vs Q E hr h => ?_)
  · obtain ⟨_, _, _, rfl, _⟩ := h
    rfl
  obtain ⟨O, st, lim, rfl, l0, ⟨h0, d, ds, i, h1, h2, h3, h4⟩, q⟩ := h
  refine ⟨_, (pss_cons (ps_augS (pv 0) pe_int get_list pe_int ip_add set_list)
  (pss_one (ps_ret (pe_op op_mod (pe_cg G_law_at hr rfl (pa_cons (pe_ix ix_list (pv 0) pe_int (fun _ _ => rfl)) (pa_cons (pe_ix ix_list (pv 0) pe_int (fun _ _ => rfl)) pa_nil))) (pv 1))))), ?_⟩
  refine ⟨_, rfl, st, _, 1, _, rfl, rfl, SqL.of h1, rfl, by decide, _, _, rfl, rfl, st, _, 1, 1, rfl, rfl, h1, rfl, ?_⟩
  have g1 : (upd H st (.lst [.ref d, .int (i + 1)])) st = some (.lst [.ref d, .int (i + 1)]) := upd_same
  refine ⟨_, rfl, st, _, 0, _, rfl, rfl, SqL.of g1, rfl, _, rfl, st, _, 1, _, rfl, rfl, SqL.of g1, rfl, ?_⟩
  refine ⟨d, ds, i + 1, rfl, sql_le (wo_le _ O) (by rw [wo_upd_in h0]; exact h2), h3, by omega, fun r r0 r1 => ⟨_, rfl, _, _, rfl, rfl, l0, ?_⟩⟩
  have hle : r % lim ≤ r := by
    have hq := Int.ediv_nonneg r0 (Int.le_of_lt l0)
    have := Int.emod_add_mul_ediv r lim
    have hm : 0 ≤ lim * (r / lim) := Int.mul_nonneg (Int.le_of_lt l0) hq
    omega
  exact q _ _ (Int.emod_nonneg _ (by omega)) (Int.emod_lt_of_pos _ l0) (by omega) (Up.put (by simp)) ⟨h0, d, ds, i + 1, g1, by rw [wo_upd_in h0]; exact h2, h3, by omega⟩
end

def spSame (K : PySem.W.Frag) (n : Nat) : Sp := fun vs H Q _ => ∃ (va ve : V) (d e : PyData), vs = [va, ve] ∧ Rp K H va d ∧ Rp K H ve e ∧ fit e = true ∧ dep e < n ∧ ∀ H', Same H H' → Q (.bl (sameD d e)) H'
def spIsInt (K : PySem.W.Frag) : Sp := fun vs H Q _ => ∃ (v : V) (d : PyData), vs = [v] ∧ Rp K H v d ∧ Q (.bl (isIntD d && !isBoolD d)) H
section
variable {P : Program} {w : World} {K : PySem.W.Frag} {mg : Str → Option Value} {base : Heap}
theorem ok_law_is_integer {f : Addr} {fd : FuncData} (F : Fun K "_law_is_integer" "_law_is_integer" s_law_is_integer f fd) (T : Txt K mg) : FnOk P w K mg base CX0 1 f fd ["actual"] (spIsInt K) := by
  refine F.ok sc_law_is_integer (fun vs H Q E h => ?_) (fun cdv A outer s H vs Q E hr h => ?_)
  · obtain ⟨_, _, rfl, _⟩ := h
    rfl
  obtain ⟨v, d, rfl, r, k⟩ := h
  refine ⟨_, (pss_one (ps_ret (pe_and (pe_callB call_isi (by rfl) T.b_isinstance bt_isinstance (pa_cons (pv 0) (pa_cons (pe_bltn (v := .ty "int") (by rfl) T.b_int bt_int rfl) pa_nil))) (pe_one (pe_not (pe_callB call_isi (by rfl) T.b_isinstance bt_isinstance (pa_cons (pv 0) (pa_cons (pe_bltn (v := .ty "bool") (by rfl) T.b_bool bt_bool rfl) pa_nil)))))))), ?_⟩
  refine ⟨_, rfl, _, _, _, _, _, rfl, .ty _, (r).ty, kit_ty (kit_int _), _, rfl, br (fun e => ?_) (fun e => ?_)⟩
  · rw [e, Bool.true_and] at k
    exact ⟨_, rfl, _, _, _, _, _, rfl, .ty _, (r).ty, kit_ty (kit_bool _), _, rfl, k⟩
  · rw [e, Bool.false_and] at k
    exact k
def SameMid (K : PySem.W.Frag) (n : Nat) (va ve : V) (d e : PyData) (H : Hp) : L2.St → Hp → Prop := fun σ' H' => σ' = [some va, some ve, none] ∧ H' = H ∧
  ∃ (xs ys : List V) (ds es : List PyData) (pa pe : Addr), va = .ref pa ∧ ve = .ref pe ∧ RpAll K H xs ds ∧ RpAll K H ys es ∧ (SqL K H pa xs ∨ SqT K H pa xs) ∧ (SqL K H pe ys ∨ SqT K H pe ys) ∧ es.length ≤ 16777216 ∧ fitAll es = true ∧ depAll es < n ∧ (d = e ↔ ds = es)
theorem ok_law_same {f : Addr} {fd : FuncData} {n : Nat} (F : Fun K "_law_same" "_law_same" s_law_same f fd) (T : Txt K mg) (G_law_is_integer : GF P w K mg base CX0 "_law_is_integer" 1 ["actual"] (spIsInt K))
    (G_law_same : GF P w K mg base CX0 "_law_same" (n + 1) ["actual", "expected"] (spSame K n)) : FnOk P w K mg base CX0 (n + 2) f fd ["actual", "expected"] (spSame K (n + 1)) := by
  refine F.ok sc_law_same (fun vs H Q E h => ?_) (fun cdv A outer s H vs Q E hr h => ?_)
  · obtain ⟨_, _, _, _, rfl, _⟩ := h
    rfl
  obtain ⟨va, ve, d, e, rfl, ra, re, hn, hd, k⟩ := h
  refine ⟨_, (pss_cons (ps_if (pt_val (pe_callB call_isiT (by rfl) T.b_isinstance bt_isinstance (pa_cons (pv 1) (pa_cons (pe_tup (pa_cons (pe_bltn (v := .ty "list") (by rfl) T.b_list bt_list rfl) (pa_cons (pe_bltn (v := .ty "tuple") (by rfl) T.b_tuple bt_tuple rfl) pa_nil))) pa_nil)))) (Evl.pss_cut (ps_if (PW.pt (pw_or (pt_cmpR op_ne (pe_callB call_isi (by rfl) T.b_isinstance bt_isinstance (pa_cons (pv 1) (pa_cons (pe_bltn (v := .ty "list") (by rfl) T.b_list bt_list rfl) pa_nil))) (pe_callB call_isi (by rfl) T.b_isinstance bt_isinstance (pa_cons (pv 0) (pa_cons (pe_bltn (v := .ty "list") (by rfl) T.b_list bt_list rfl) pa_nil))) (nomark _)) (pw_or1 (pt_cmpR op_ne (pe_callB call_isi (by rfl) T.b_isinstance bt_isinstance (pa_cons (pv 1) (pa_cons (pe_bltn (v := .ty "tuple") (by rfl) T.b_tuple bt_tuple rfl) pa_nil))) (pe_callB call_isi (by rfl) T.b_isinstance bt_isinstance (pa_cons (pv 0) (pa_cons (pe_bltn (v := .ty "tuple") (by rfl) T.b_tuple bt_tuple rfl) pa_nil))) (nomark _))))) (pss_one (ps_ret pe_bl)) pss_nil)
  (pss_cons (ps_if (pt_cmpR op_ne (pe_callB call_len_seq (by rfl) T.b_len bt_len (pa_cons (pv 0) pa_nil)) (pe_callB call_len_seq (by rfl) T.b_len bt_len (pa_cons (pv 1) pa_nil)) (nomark _)) (pss_one (ps_ret pe_bl)) pss_nil)
  (pss_cons (ps_for PassesOwn.never rfl (pi_range1 rfl T.b_range (pa_cons (pe_callB call_len_seq (by rfl) T.b_len bt_len (pa_cons (pv 1) pa_nil)) pa_nil)) (pg_name (i := 2) sc_law_same.nd rfl (Or.inl rfl)) (pss_one (ps_if (pt_not (pt_val (pe_cg G_law_same hr rfl (pa_cons (pe_ix ix_seq (pv 0) (pv 2) (fun _ _ => rfl)) (pa_cons (pe_ix ix_seq (pv 1) (pv 2) (fun _ _ => rfl)) pa_nil))))) (pss_one (ps_ret pe_bl)) pss_nil)))
  (pss_one (ps_ret pe_bl))))) pss_nil)
  (pss_cons (ps_if (pt_cmp (pc_isN (pv 1))) (pss_one (ps_ret (pe_cmp (pc_isN (pv 0))))) pss_nil)
  (pss_cons (ps_if (pt_val (pe_callB call_isi (by rfl) T.b_isinstance bt_isinstance (pa_cons (pv 1) (pa_cons (pe_bltn (v := .ty "bool") (by rfl) T.b_bool bt_bool rfl) pa_nil)))) (pss_one (ps_ret (pe_and (pe_callB call_isi (by rfl) T.b_isinstance bt_isinstance (pa_cons (pv 0) (pa_cons (pe_bltn (v := .ty "bool") (by rfl) T.b_bool bt_bool rfl) pa_nil))) (pe_one (pe_cmpR op_eq (pv 0) (pv 1) (nomark _)))))) pss_nil)
  (pss_cons (ps_if (pt_val (pe_callB call_isi (by rfl) T.b_isinstance bt_isinstance (pa_cons (pv 1) (pa_cons (pe_bltn (v := .ty "int") (by rfl) T.b_int bt_int rfl) pa_nil)))) (pss_one (ps_ret (pe_and (pe_cg G_law_is_integer hr rfl (pa_cons (pv 0) pa_nil)) (pe_one (pe_cmpR op_eq (pv 0) (pv 1) (nomark _)))))) pss_nil)
  (pss_one (ps_ret (pe_and (pe_callB call_isi (by rfl) T.b_isinstance bt_isinstance (pa_cons (pv 0) (pa_cons (pe_bltn (v := .ty "str") (by rfl) T.b_str bt_str rfl) pa_nil))) (pe_one (pe_cmpR op_eq (pv 0) (pv 1) (nomark _)))))))))), ?_⟩
  have tail : ∀ (va ve : V) (d e : PyData) (H : Hp), (∀ (H' : Hp), Same H H' → Q (V.bl (sameD d e)) H') → ∀ σ' H', SameMid K n va ve d e H σ' H' → tSeq (tIfS (tTest (tOp rNe (tCB (rLn K) (tCons (tVar 0) tNil)) (tCB (rLn K) (tCons (tVar 1) tNil)))) (tRet (tC (.bl false))) tNext)
      (tSeq (tFor (iRng1 (tCons (tCB (rLn K) (tCons (tVar 1) tNil)) tNil)) (gName 2) (tIfS (tNot (tB (tCg (spSame K n) (tCons (tOp (rIx K) (tVar 0) (tVar 2)) (tCons (tOp (rIx K) (tVar 1) (tVar 2)) tNil))))) (tRet (tC (.bl false))) tNext)) (tRet (tC (.bl true)))) { nx := fun _ H' => Q .non H', rt := Q } σ' H' := by
    rintro va ve d e H k σ' H' ⟨rfl, rfl, xs, ys, ds, es, pa, pe, rfl, rfl, ga, ge, sa, se, hz, hn, hd, hde⟩
    have la := ga.length
    have le := ge.length
    refine ⟨_, rfl, pa, xs, rfl, sa, _, rfl, pe, ys, rfl, se, rfl, _, rfl, brN (fun e1 => ?_) (fun e1 => ?_)⟩
    · have h : d ≠ e := fun z => by
        have z1 := hde.mp z
        rw [int_inj] at e1
        rw [z1] at la
        omega
      have q := k H' (Same.refl _)
      rw [sameD_ne h] at q
      exact q
    rw [int_inj] at e1
    have l2 : ds.length = es.length := by omega
    refine ⟨_, rfl, pe, ys, rfl, se, _, rfl, by omega, by omega, for_range (fun i σ2 H2 => ∃ z, σ2 = [some (.ref pa), some (.ref pe), z] ∧ Same H' H2 ∧ ∀ j, j < i → ds[j]? = es[j]?) ⟨none, rfl, Same.refl _, fun j hj => absurd hj (Nat.not_lt_zero j)⟩ ?_ ?_⟩
    · rintro i σ2 H2 hi ⟨z, rfl, sm, hj⟩
      have hi1 : i < es.length := by omega
      have hi2 : i < ds.length := by omega
      have he : es[i]? = some es[i] := List.getElem?_eq_getElem hi1
      have hda : ds[i]? = some ds[i] := List.getElem?_eq_getElem hi2
      obtain ⟨ve, v1, v2⟩ := ge.get he
      obtain ⟨va, w1, w2⟩ := ga.get hda
      have ix : ∀ {p : Addr} {us : List V} {u : V} {Q' : VK}, (SqL K H' p us ∨ SqT K H' p us) → us[i]? = some u → Q' u H2 → rIx K (.ref p) (.int (0 + (i : Int))) H2 Q' := fun {p us u Q'} hp hu q => by
        have ea : atI us (0 + (i : Int)) = some u := by
          rw [Int.zero_add]
          exact atI_nat hu
        rcases hp with hp | hp
        · exact .inl ⟨p, us, _, u, rfl, rfl, sql_le sm hp, ea, q⟩
        · exact .inr (.inl ⟨p, us, _, u, rfl, rfl, sqt_le sm hp, ea, q⟩)
      refine ⟨_, rfl, _, rfl, ix sa w1 ⟨_, rfl, _, rfl, ix se v1 ?_⟩⟩
      refine ⟨va, ve, ds[i], es[i], rfl, w2.le sm, v2.le sm, fitAll_get hn he, Nat.lt_of_le_of_lt (depAll_get he) hd, fun H3 s3 => ⟨_, rfl, ?_⟩⟩
      refine br (fun e2 => ?_) (fun e2 => ?_)
      · have h : d ≠ e := fun z => by
          have z1 := hde.mp z
          subst z1
          rw [sameD_refl] at e2
          cases e2
        have q := k H3 (sm.trans s3)
        rw [sameD_ne h] at q
        exact q
      · refine ⟨_, rfl, sm.trans s3, fun j hj2 => ?_⟩
        by_cases ej : j = i
        · subst ej
          have e3 : sameD ds[j] es[j] = true := by simpa using e2
          rw [hda, he, sameD_iff.mp e3]
        · exact hj j (by omega)
    · rintro σ2 H2 ⟨z, rfl, sm, hj⟩
      have h : d = e := hde.mpr (pre_eq l2 fun j hj2 => hj j (by omega))
      have q := k H2 sm
      rw [h, sameD_refl] at q
      exact q
  have fin : ∀ {H1 : Hp}, (∃ (xs ys : List V) (ds es : List PyData) (pa pe : Addr), va = .ref pa ∧ ve = .ref pe ∧ RpAll K H1 xs ds ∧ RpAll K H1 ys es ∧ (SqL K H1 pa xs ∨ SqT K H1 pa xs) ∧ (SqL K H1 pe ys ∨ SqT K H1 pe ys) ∧ es.length ≤ 16777216 ∧ fitAll es = true ∧ depAll es < n ∧ (d = e ↔ ds = es)) → SameMid K n va ve d e H1 [some va, some ve, none] H1 := fun z => ⟨rfl, rfl, z⟩
  refine ⟨_, rfl, sz 2 (by decide), fun t ht => ?_⟩
  have s1 := same_upd (o := .tup [.ty "list", .ty "tuple"]) ht
  generalize hH1 : upd H t (.tup [.ty "list", .ty "tuple"]) = H1 at *
  have hT : H1 t = some (.tup [.ty "list", .ty "tuple"]) := by rw [← hH1]; exact upd_same
  replace ra := ra.le s1
  replace re := re.le s1
  have k0 : ∀ b, b = sameD d e → Q (.bl b) H1 := fun b e => by rw [e]; exact k H1 s1
  have k1 : ∀ (H' : Hp), Same H1 H' → Q (V.bl (sameD d e)) H' := fun H' z => k H' (s1.trans z)
  refine ⟨ve, t, _, _, _, _, rfl, hT, .cons (.ty _) (.cons (.ty _) .nil), re.ty, kitAny_2 (kit_lst _) (kit_tup _), _, rfl, ?_⟩
  cases re with
  | non =>
    refine ⟨_, rfl, _, rfl, _, rfl, k0 _ ?_⟩
    cases ra <;> first | exact (sameD_refl _).symm | exact (sameD_ne (fun z => by cases z)).symm
  | bl b =>
    refine ⟨_, rfl, _, rfl, iteF ⟨_, rfl, _, _, _, _, _, rfl, .ty _, (Rp.bl b).ty, kit_ty (kit_bool _), _, rfl, iteT ⟨_, rfl, _, _, _, _, _, rfl, .ty _, (ra).ty, kit_ty (kit_bool _), _, rfl, ?_⟩⟩⟩
    cases ra with
    | bl c =>
      refine iteT ⟨_, rfl, _, rfl, rfl, k0 _ (sameD_eq ?_).symm⟩
      simp
    | _ => exact iteF (k0 _ (sameD_ne (fun z => by cases z)).symm)
  | int i =>
    refine ⟨_, rfl, _, rfl, iteF ⟨_, rfl, _, _, _, _, _, rfl, .ty _, (Rp.int i).ty, kit_ty (kit_bool _), _, rfl, iteF ⟨_, rfl, _, _, _, _, _, rfl, .ty _, (Rp.int i).ty, kit_ty (kit_int _), _, rfl, iteT ⟨_, rfl, va, d, rfl, ra, _, rfl, ?_⟩⟩⟩⟩
    cases ra with
    | int j =>
      refine iteT ⟨_, rfl, _, rfl, rfl, k0 _ (sameD_eq ?_).symm⟩
      simp
    | _ => exact iteF (k0 _ (sameD_ne (fun z => by cases z)).symm)
  | str x =>
    refine ⟨_, rfl, _, rfl, iteF ⟨_, rfl, _, _, _, _, _, rfl, .ty _, (Rp.str x).ty, kit_ty (kit_bool _), _, rfl, iteF ⟨_, rfl, _, _, _, _, _, rfl, .ty _, (Rp.str x).ty, kit_ty (kit_int _), _, rfl, iteF ⟨_, rfl, _, _, _, _, _, rfl, .ty _, (ra).ty, kit_ty (kit_str _), _, rfl, ?_⟩⟩⟩⟩
    cases ra with
    | str y =>
      refine iteT ⟨_, rfl, _, rfl, rfl, k0 _ (sameD_eq ?_).symm⟩
      simp
    | _ => exact iteF (k0 _ (sameD_ne (fun z => by cases z)).symm)
  | dict0 h => simp [fit] at hn
  | @tup pe ys es h1 h2 =>
    simp only [fit, Bool.and_eq_true, decide_eq_true_eq] at hn
    refine iteT ⟨SameMid K n va (.ref pe) d (.tuple es) H1, ⟨_, rfl, _, _, _, _, _, rfl, .ty _, (Rp.tup h1 h2).ty, kit_ty (kit_lst _), _, rfl, _, _, _, _, _, rfl, .ty _, (ra).ty, kit_ty (kit_lst _), rfl, _, rfl, ?_⟩, tail _ _ _ _ _ k1⟩
    have ra1 := ra
    cases ra with
    | @tup pa xs ds g1 g2 =>
      refine iteF ⟨_, rfl, _, _, _, _, _, rfl, .ty _, (Rp.tup h1 h2).ty, kit_ty (kit_tup _), _, rfl, _, _, _, _, _, rfl, .ty _, (Rp.tup g1 g2).ty, kit_ty (kit_tup _), rfl, _, rfl, iteF (fin ⟨xs, ys, ds, es, pa, pe, rfl, rfl, g2, h2, .inr g1, .inr h1, hn.1, hn.2, ?_, ?_⟩)⟩
      · simp only [dep] at hd
        omega
      · exact ⟨fun z => by cases z; rfl, fun z => by rw [z]⟩
    | @lst pa xs ds g1 g2 => exact iteT (k0 _ (sameD_ne (fun z => by cases z)).symm)
    | _ => exact iteF ⟨_, rfl, _, _, _, _, _, rfl, .ty _, (Rp.tup h1 h2).ty, kit_ty (kit_tup _), _, rfl, _, _, _, _, _, rfl, .ty _, (ra1).ty, kit_ty (kit_tup _), rfl, _, rfl, iteT (k0 _ (sameD_ne (fun z => by cases z)).symm)⟩
  | @lst pe ys es h1 h2 =>
    simp only [fit, Bool.and_eq_true, decide_eq_true_eq] at hn
    refine iteT ⟨SameMid K n va (.ref pe) d (.list es) H1, ⟨_, rfl, _, _, _, _, _, rfl, .ty _, (Rp.lst h1 h2).ty, kit_ty (kit_lst _), _, rfl, _, _, _, _, _, rfl, .ty _, (ra).ty, kit_ty (kit_lst _), rfl, _, rfl, ?_⟩, tail _ _ _ _ _ k1⟩
    cases ra with
    | @lst pa xs ds g1 g2 =>
      refine iteF ⟨_, rfl, _, _, _, _, _, rfl, .ty _, (Rp.lst h1 h2).ty, kit_ty (kit_tup _), _, rfl, _, _, _, _, _, rfl, .ty _, (Rp.lst g1 g2).ty, kit_ty (kit_tup _), rfl, _, rfl, iteF (fin ⟨xs, ys, ds, es, pa, pe, rfl, rfl, g2, h2, .inl g1, .inl h1, hn.1, hn.2, ?_, ?_⟩)⟩
      · simp only [dep] at hd
        omega
      · exact ⟨fun z => by cases z; rfl, fun z => by rw [z]⟩
    | _ => exact iteT (k0 _ (sameD_ne (fun z => by cases z)).symm)
theorem gf_law_same {f : Addr} {fd : FuncData} (F : Fun K "_law_same" "_law_same" s_law_same f fd) (T : Txt K mg) (G_law_is_integer : GF P w K mg base CX0 "_law_is_integer" 1 ["actual"] (spIsInt K)) (hm : mg "_law_same" = some (.ref f)) (b : Binds K fd ["actual", "expected"] []) : ∀ n, GF P w K mg base CX0 "_law_same" (n + 1) ["actual", "expected"] (spSame K n)
  | 0 => by
    have no : ∀ vs H Q E, ¬ spSame K 0 vs H Q E := fun vs H Q E h => by
      obtain ⟨_, _, _, _, _, _, _, _, h, _⟩ := h
      omega
    exact ⟨f, fd, ⟨fun vs H Q E h => absurd h (no vs H Q E), fun A outer s H args us vs Q E _ _ _ _ h => absurd h (no vs H Q E)⟩, hm, F.kp, b⟩
  | n + 1 => ⟨f, fd, ok_law_same F T G_law_is_integer (gf_law_same F T G_law_is_integer hm b n), hm, F.kp, b⟩
end

def spWnum : Sp := fun vs H Q _ => ∃ n : Nat, vs = [.int (n : Int)] ∧ n < 2097152 ∧ ∀ (r : Addr) (H' : Hp), H r = none → Same H H' → H' r = some (.lst ((wnum n).map V.int)) → Q (.ref r) H'
def spCsum (K : PySem.W.Frag) : Sp := fun vs H Q _ => ∃ (a : Addr) (bs : List Int), vs = [.ref a] ∧ SqL K H a (bs.map V.int) ∧ bs.length ≤ 4000000 ∧ Q (.int (csum bs)) H
def spWrec (K : PySem.W.Frag) : Sp := fun vs H Q _ => ∃ (a : Addr) (bs : List Int), vs = [.ref a] ∧ SqL K H a (bs.map V.int) ∧ bs.length < 2097152 ∧ ∀ (r : Addr) (H' : Hp), H r = none → Same H H' → H' r = some (.lst ((wrec bs).map V.int)) → Q (.ref r) H'
theorem wnum_sz {n : Nat} (h : n < 2097152) : (wnum n).length ≤ 3 := wnum_len h
theorem csum_snoc (bs : List Int) (b : Int) : csum (bs ++ [b]) = (31 * csum bs + b + 1) % 4294967296 := by
  unfold csum
  rw [List.foldl_append]
  rfl
theorem ints_get {bs : List Int} {i : Nat} {x : V} (h : (bs.map V.int)[i]? = some x) : ∃ hi : i < bs.length, x = .int bs[i] ∧ bs.take (i + 1) = bs.take i ++ [bs[i]] := by
  rw [List.getElem?_map] at h
  have hi : i < bs.length := by
    rcases Nat.lt_or_ge i bs.length with c | c
    · exact c
    · rw [List.getElem?_eq_none c] at h
      cases h
  rw [List.getElem?_eq_getElem hi] at h
  refine ⟨hi, (Option.some.inj h).symm, by simp⟩
section
variable {P : Program} {w : World} {K : PySem.W.Frag} {mg : Str → Option Value} {base : Heap} {C CD : Addr}
theorem ok_write_number {f : Addr} {fd : FuncData} (F : Fun K "write_number" "write_number" s_write_number f fd) (T : Txt K mg) : FnOk P w K mg base CX0 1 f fd ["number"] spWnum := by
  refine F.ok sc_write_number (fun vs H Q E h => ?_) (fun cdv A outer s H vs Q E hr h => ?_)
  · obtain ⟨_, rfl, _⟩ := h
    rfl
  obtain ⟨n, rfl, hn, q⟩ := h
  refine ⟨_, (pss_cons (ps_set (i := 1) sc_write_number.nd rfl (Or.inl rfl) (pe_lst pa_nil))
  (pss_cons (ps_while PassesOwn.never (pt_cmpR op_ge (pv 0) pe_int (nomark _)) (pss_cons (ps_expr (pe_bm PySem.F.plainAttrs_list PySem.F.slot_list_append PySem.F.type_list_append mt_append (pv 1) (pa_cons (pe_op op_add (pe_op op_mod (pv 0) pe_int) pe_int) pa_nil)))
  (pss_one (ps_set (i := 0) sc_write_number.nd rfl (Or.inl rfl) (pe_op op_fdiv (pv 0) pe_int)))))
  (pss_one (ps_ret (pe_op op_cat (pv 1) (pe_lst (pa_cons (pv 0) pa_nil))))))), ?_⟩
  refine ⟨Nat.zero_le _, fun p hp => ?_⟩
  refine ⟨fun k σ H' => ∃ (m : Nat) (ds : List Int), σ = [some (.int (m : Int)), some (.ref p)] ∧ k = m ∧ Same H H' ∧ H' p = some (.lst (ds.map V.int)) ∧ wnum n = ds ++ wnum m ∧ m < 2097152 ∧ ds.length + (wnum m).length ≤ 3, ⟨n, n, [], rfl, rfl, same_upd hp, upd_same, rfl, hn, by simpa using wnum_sz hn⟩, ?_⟩
  rintro k σ H1 ⟨m, ds, rfl, rfl, s1, h1, e, hm, hl⟩
  refine ⟨_, rfl, _, _, rfl, rfl, _, rfl, brD (fun e1 => ?_) (fun e1 => ?_)⟩
  · have e1' : 128 ≤ k := by
      have : (128 : Int) ≤ (k : Int) := e1
      omega
    rw [wnum_ge e1'] at e hl
    refine ⟨_, fun _ _ z => z, ?_⟩
    refine ⟨_, rfl, .inl ⟨rfl, _, SqL.of h1⟩, _, rfl, _, _, rfl, rfl, (by show (0 : Int) < 128; decide), _, _, rfl, rfl, p, _, _, rfl, rfl, h1, szl _ (by rw [List.length_map]; simp at hl; omega), ?_⟩
    refine ⟨_, rfl, _, _, rfl, rfl, ⟨by decide, by decide⟩, ?_⟩
    refine ⟨k / 128, by omega, k / 128, ds ++ [(k : Int) % 128 + 128], rfl, rfl, fun b o z => ?_, by rw [upd_same]; simp, by rw [e]; simp, by omega, by simp at hl ⊢; omega⟩
    rw [upd_ne (ne_of_none z hp)]
    exact s1 _ _ z
  · have e1' : k < 128 := by
      have : ¬ (128 : Int) ≤ (k : Int) := e1
      omega
    rw [wnum_lt e1'] at e hl
    simp at hl
    refine ⟨_, rfl, _, rfl, sz 1 (by decide), fun c hc => ?_⟩
    have sc := same_upd (o := .lst [.int (k : Int)]) hc
    refine ⟨p, c, _, _, rfl, rfl, sc _ _ h1, upd_same, sz _ (by simp; omega), fun r hr => ?_⟩
    have s2 := s1.trans (sc.trans (same_upd (o := .lst (ds.map V.int ++ [.int (k : Int)])) hr))
    refine q r _ ((s1.trans sc).free hr) s2 ?_
    rw [upd_same, e]
    simp
theorem ok_law_number {f : Addr} {fd : FuncData} (F : Fun K "_law_number" "_law_number" s_law_number f fd) (T : Txt K mg) : FnOk P w K mg base CX0 1 f fd ["number"] spWnum := by
  refine F.ok sc_law_number (fun vs H Q E h => ?_) (fun cdv A outer s H vs Q E hr h => ?_)
  · obtain ⟨_, rfl, _⟩ := h
    rfl
  obtain ⟨n, rfl, hn, q⟩ := h
  refine ⟨_, (pss_cons (ps_set (i := 1) sc_law_number.nd rfl (Or.inl rfl) (pe_lst pa_nil))
  (pss_cons (ps_while PassesOwn.never (pt_cmpR op_gt (pv 0) pe_int (nomark _)) (pss_cons (ps_expr (pe_bm PySem.F.plainAttrs_list PySem.F.slot_list_append PySem.F.type_list_append mt_append (pv 1) (pa_cons (pe_op op_add pe_int (pe_op op_mod (pv 0) pe_int)) pa_nil)))
  (pss_one (ps_set (i := 0) sc_law_number.nd rfl (Or.inl rfl) (pe_op op_fdiv (pv 0) pe_int)))))
  (pss_one (ps_ret (pe_op op_cat (pv 1) (pe_lst (pa_cons (pv 0) pa_nil))))))), ?_⟩
  refine ⟨Nat.zero_le _, fun p hp => ?_⟩
  refine ⟨fun k σ H' => ∃ (m : Nat) (ds : List Int), σ = [some (.int (m : Int)), some (.ref p)] ∧ k = m ∧ Same H H' ∧ H' p = some (.lst (ds.map V.int)) ∧ wnum n = ds ++ wnum m ∧ m < 2097152 ∧ ds.length + (wnum m).length ≤ 3, ⟨n, n, [], rfl, rfl, same_upd hp, upd_same, rfl, hn, by simpa using wnum_sz hn⟩, ?_⟩
  rintro k σ H1 ⟨m, ds, rfl, rfl, s1, h1, e, hm, hl⟩
  refine ⟨_, rfl, _, _, rfl, rfl, _, rfl, brD (fun e1 => ?_) (fun e1 => ?_)⟩
  · have e1' : 128 ≤ k := by
      have : (127 : Int) < (k : Int) := e1
      omega
    rw [wnum_ge e1'] at e hl
    refine ⟨_, fun _ _ z => z, ?_⟩
    refine ⟨_, rfl, .inl ⟨rfl, _, SqL.of h1⟩, _, rfl, _, _, rfl, rfl, (by show (0 : Int) < 128; decide), _, _, rfl, rfl, p, _, _, rfl, rfl, h1, szl _ (by rw [List.length_map]; simp at hl; omega), ?_⟩
    refine ⟨_, rfl, _, _, rfl, rfl, ⟨by decide, by decide⟩, ?_⟩
    refine ⟨k / 128, by omega, k / 128, ds ++ [(k : Int) % 128 + 128], rfl, rfl, fun b o z => ?_, by rw [upd_same, Int.add_comm]; simp, by rw [e]; simp, by omega, by simp at hl ⊢; omega⟩
    rw [upd_ne (ne_of_none z hp)]
    exact s1 _ _ z
  · have e1' : k < 128 := by
      have : ¬ (127 : Int) < (k : Int) := e1
      omega
    rw [wnum_lt e1'] at e hl
    simp at hl
    refine ⟨_, rfl, _, rfl, sz 1 (by decide), fun c hc => ?_⟩
    have sc := same_upd (o := .lst [.int (k : Int)]) hc
    refine ⟨p, c, _, _, rfl, rfl, sc _ _ h1, upd_same, sz _ (by simp; omega), fun r hr => ?_⟩
    have s2 := s1.trans (sc.trans (same_upd (o := .lst (ds.map V.int ++ [.int (k : Int)])) hr))
    refine q r _ ((s1.trans sc).free hr) s2 ?_
    rw [upd_same, e]
    simp
theorem ok_checksum {f : Addr} {fd : FuncData} (F : Fun K "checksum" "checksum" s_checksum f fd) (T : Txt K mg) : FnOk P w K mg base CX0 1 f fd ["data"] (spCsum K) := by
  refine F.ok sc_checksum (fun vs H Q E h => ?_) (fun cdv A outer s H vs Q E hr h => ?_)
  · obtain ⟨_, _, rfl, _⟩ := h
    rfl
  obtain ⟨a, bs, rfl, hA, hl, q⟩ := h
  refine ⟨_, (pss_cons (ps_set (i := 1) sc_checksum.nd rfl (Or.inl rfl) pe_int)
  (pss_cons (ps_for PassesOwn.never rfl (pi_list (pv 0)) (pg_name (i := 2) sc_checksum.nd rfl (Or.inl rfl)) (pss_one (ps_set (i := 1) sc_checksum.nd rfl (Or.inl rfl) (pe_op op_mod (pe_op op_add (pe_op op_add (pe_op op_mul pe_int (pv 1)) (pv 2)) pe_int) (pe_gi T.c_CHECKSUM_LIMIT rfl)))))
  (pss_one (ps_ret (pv 1))))), ?_⟩
  refine ⟨_, rfl, a, rfl, ⟨_, hA⟩, for_list (K := K) (a := a) (xs := bs.map V.int) (fun i σ H' => ∃ z, σ = [some (.ref a), some (.int (csum (bs.take i))), z] ∧ H' = H) ⟨none, rfl, rfl⟩ (fun _ _ _ _ z => z.choose_spec.2 ▸ hA) ?_ ?_⟩
  · rintro i x σ H1 hx ⟨z, rfl, rfl⟩
    obtain ⟨hi, rfl, e⟩ := ints_get hx
    refine ⟨_, rfl, _, _, rfl, rfl, .inl ⟨by decide, by decide⟩, _, rfl, _, _, rfl, rfl, _, _, rfl, rfl, _, _, rfl, rfl, (by show (0 : Int) < 4294967296; decide), some (.int bs[i]), ?_, rfl⟩
    rw [e, csum_snoc]
    rfl
  · rintro σ H1 ⟨z, rfl, rfl⟩
    rw [List.length_map, List.take_of_length_le (Nat.le_refl _)]
    exact ⟨_, rfl, q⟩
theorem ok_law_checksum {f : Addr} {fd : FuncData} (F : Fun K "_law_checksum" "_law_checksum" s_law_checksum f fd) (T : Txt K mg) : FnOk P w K mg base CX0 1 f fd ["data"] (spCsum K) := by
  refine F.ok sc_law_checksum (fun vs H Q E h => ?_) (fun cdv A outer s H vs Q E hr h => ?_)
  · obtain ⟨_, _, rfl, _⟩ := h
    rfl
  obtain ⟨a, bs, rfl, hA, hl, q⟩ := h
  refine ⟨_, (pss_cons (ps_set (i := 1) sc_law_checksum.nd rfl (Or.inl rfl) pe_int)
  (pss_cons (ps_for PassesOwn.never rfl (pi_list (pv 0)) (pg_name (i := 2) sc_law_checksum.nd rfl (Or.inl rfl)) (pss_one (ps_set (i := 1) sc_law_checksum.nd rfl (Or.inl rfl) (pe_op op_mod (pe_op op_add (pe_op op_add (pe_op op_mul pe_int (pv 1)) (pv 2)) pe_int) pe_int))))
  (pss_one (ps_ret (pv 1))))), ?_⟩
  refine ⟨_, rfl, a, rfl, ⟨_, hA⟩, for_list (K := K) (a := a) (xs := bs.map V.int) (fun i σ H' => ∃ z, σ = [some (.ref a), some (.int (csum (bs.take i))), z] ∧ H' = H) ⟨none, rfl, rfl⟩ (fun _ _ _ _ z => z.choose_spec.2 ▸ hA) ?_ ?_⟩
  · rintro i x σ H1 hx ⟨z, rfl, rfl⟩
    obtain ⟨hi, rfl, e⟩ := ints_get hx
    refine ⟨_, rfl, _, _, rfl, rfl, .inl ⟨by decide, by decide⟩, _, rfl, _, _, rfl, rfl, _, _, rfl, rfl, _, _, rfl, rfl, (by show (0 : Int) < 4294967296; decide), some (.int bs[i]), ?_, rfl⟩
    rw [e, csum_snoc]
    rfl
  · rintro σ H1 ⟨z, rfl, rfl⟩
    rw [List.length_map, List.take_of_length_le (Nat.le_refl _)]
    exact ⟨_, rfl, q⟩
theorem ok_write_record {f : Addr} {fd : FuncData} (F : Fun K "write_record" "write_record" s_write_record f fd) (T : Txt K mg) (G_write_number : GF P w K mg base CX0 "write_number" 1 ["number"] spWnum) (G_checksum : GF P w K mg base CX0 "checksum" 1 ["data"] (spCsum K)) : FnOk P w K mg base CX0 2 f fd ["data"] (spWrec K) := by
  refine F.ok sc_write_record (fun vs H Q E h => ?_) (fun cdv A outer s H vs Q E hr h => ?_)
  · obtain ⟨_, _, rfl, _⟩ := h
    rfl
  obtain ⟨a, bs, rfl, hA, hl, q⟩ := h
  refine ⟨_, (pss_cons (ps_set (i := 1) sc_write_record.nd rfl (Or.inl rfl) (pe_cg G_checksum hr rfl (pa_cons (pv 0) pa_nil)))
  (pss_cons (ps_set (i := 2) sc_write_record.nd rfl (Or.inl rfl) (pe_lst (pa_cons (pe_op op_fdiv (pv 1) pe_int) (pa_cons (pe_op op_mod (pe_op op_fdiv (pv 1) pe_int) pe_int) (pa_cons (pe_op op_mod (pe_op op_fdiv (pv 1) pe_int) pe_int) (pa_cons (pe_op op_mod (pv 1) pe_int) pa_nil))))))
  (pss_one (ps_ret (pe_op op_cat (pe_op op_cat (pe_cg G_write_number hr rfl (pa_cons (pe_callB call_len_seq (by rfl) T.b_len bt_len (pa_cons (pv 0) pa_nil)) pa_nil)) (pe_callTy call_list_of (by rfl) T.b_list bt_list (pa_cons (pv 0) pa_nil))) (pv 2)))))), ?_⟩
  refine ⟨_, rfl, a, bs, rfl, hA, by omega, ?_⟩
  refine ⟨_, rfl, _, _, rfl, rfl, ⟨by decide, by decide⟩, _, rfl, _, _, rfl, rfl, ⟨by decide, by decide⟩, _, _, rfl, rfl, (by show (0 : Int) < 256; decide), ?_⟩
  refine ⟨_, rfl, _, _, rfl, rfl, ⟨by decide, by decide⟩, _, _, rfl, rfl, (by show (0 : Int) < 256; decide), _, rfl, _, _, rfl, rfl, (by show (0 : Int) < 256; decide), sz 4 (by decide), fun t ht => ?_⟩
  have st := same_upd (o := .lst ((tail4 (csum bs)).map V.int)) ht
  have hT : upd H t (.lst ((tail4 (csum bs)).map V.int)) t = _ := upd_same
  refine ⟨_, rfl, a, _, rfl, .inl (sql_le st hA), bs.length, by simp, hl, fun n H1 nn sn hn => ?_⟩
  have s1 := st.trans sn
  refine ⟨_, rfl, a, _, rfl, .inl (sql_le s1 hA), fun c hc => ?_⟩
  have sc := same_upd (o := .lst (bs.map V.int)) hc
  have wl := wnum_sz hl
  refine ⟨n, c, _, _, rfl, rfl, sc _ _ hn, upd_same, sz _ (by simp; omega), fun u hu => ?_⟩
  have su := same_upd (o := .lst ((wnum bs.length).map V.int ++ bs.map V.int)) hu
  refine ⟨_, rfl, u, t, _, _, rfl, rfl, upd_same, su _ _ (sc _ _ (sn _ _ hT)), sz _ (by simp [tail4]; omega), fun r hr => ?_⟩
  have s2 := s1.trans (sc.trans su)
  refine q r _ (s2.free hr) (s2.trans (same_upd hr)) ?_
  rw [upd_same]
  simp [wrec, tail4]
def spWrecL (K : PySem.W.Frag) : Sp := fun vs H Q _ => ∃ (a : Addr) (bs : List Int), vs = [.ref a] ∧ H a = some (.lst (bs.map V.int)) ∧ bs.length < 2097152 ∧ ∀ (r : Addr) (H' : Hp), H r = none → Same H H' → H' r = some (.lst ((wrec bs).map V.int)) → Q (.ref r) H'
theorem ok_law_record {f : Addr} {fd : FuncData} (F : Fun K "_law_record" "_law_record" s_law_record f fd) (T : Txt K mg) (G_law_number : GF P w K mg base CX0 "_law_number" 1 ["number"] spWnum) (G_law_checksum : GF P w K mg base CX0 "_law_checksum" 1 ["data"] (spCsum K)) : FnOk P w K mg base CX0 2 f fd ["data"] (spWrecL K) := by
  refine F.ok sc_law_record (fun vs H Q E h => ?_) (fun cdv A outer s H vs Q E hr h => ?_)
  · obtain ⟨_, _, rfl, _⟩ := h
    rfl
  obtain ⟨a, bs, rfl, hA, hl, q⟩ := h
  refine ⟨_, (pss_cons (ps_set (i := 1) sc_law_record.nd rfl (Or.inl rfl) (pe_cg G_law_checksum hr rfl (pa_cons (pv 0) pa_nil)))
  (pss_one (ps_ret (pe_op op_cat (pe_op op_cat (pe_cg G_law_number hr rfl (pa_cons (pe_callB call_len_seq (by rfl) T.b_len bt_len (pa_cons (pv 0) pa_nil)) pa_nil)) (pv 0)) (pe_lst (pa_cons (pe_op op_fdiv (pv 1) pe_int) (pa_cons (pe_op op_mod (pe_op op_fdiv (pv 1) pe_int) pe_int) (pa_cons (pe_op op_mod (pe_op op_fdiv (pv 1) pe_int) pe_int) (pa_cons (pe_op op_mod (pv 1) pe_int) pa_nil))))))))), ?_⟩
  refine ⟨_, rfl, a, bs, rfl, SqL.of hA, by omega, ?_⟩
  refine ⟨_, rfl, a, _, rfl, .inl (SqL.of hA), bs.length, by simp, hl, fun n H1 nn sn hn => ?_⟩
  have wl := wnum_sz hl
  refine ⟨_, rfl, n, a, _, _, rfl, rfl, hn, sn _ _ hA, sz _ (by simp; omega), fun u hu => ?_⟩
  have su := same_upd (o := .lst ((wnum bs.length).map V.int ++ bs.map V.int)) hu
  refine ⟨_, rfl, _, _, rfl, rfl, ⟨by decide, by decide⟩, _, rfl, _, _, rfl, rfl, ⟨by decide, by decide⟩, _, _, rfl, rfl, (by show (0 : Int) < 256; decide), ?_⟩
  refine ⟨_, rfl, _, _, rfl, rfl, ⟨by decide, by decide⟩, _, _, rfl, rfl, (by show (0 : Int) < 256; decide), _, rfl, _, _, rfl, rfl, (by show (0 : Int) < 256; decide), sz 4 (by decide), fun t ht => ?_⟩
  have st := same_upd (o := .lst ((tail4 (csum bs)).map V.int)) ht
  refine ⟨u, t, _, _, rfl, rfl, st _ _ upd_same, upd_same, sz _ (by simp [tail4]; omega), fun r hr => ?_⟩
  have s2 := sn.trans (su.trans st)
  refine q r _ (s2.free hr) (s2.trans (same_upd hr)) ?_
  rw [upd_same]
  simp [wrec, tail4]
end
structure RdAt (K : PySem.W.Frag) (C : Addr) (O : List Addr) (H : Hp) (p : Addr) (l : List Int) (i : Nat) : Prop where
  op : p ∈ O
  ob : ∃ dx a, H p = some (.ins C dx (F2 "data" "at" (.ref a) (.int (i : Int)))) ∧ SqL K (wo H O) a (l.map V.int)
def spRInit (K : PySem.W.Frag) (C : Addr) : Sp := fun vs H Q _ => ∃ (O : List Addr) (p a dx : Addr) (l : List Int), vs = [.ref p, .ref a] ∧ H p = some (.ins C dx []) ∧ p ∈ O ∧ Own O H ∧ SqL K H a (l.map V.int) ∧ ∀ H', Up [p] H H' → RdAt K C O H' p l 0 → Q .non H'
def spRByte (K : PySem.W.Frag) (C CD : Addr) : Sp := fun vs H Q E => ∃ (O : List Addr) (p : Addr) (l : List Int) (i : Nat), vs = [.ref p] ∧ RdAt K C O H p l i ∧ (l.length ≤ i → E (.ref CD) none H) ∧ (∀ (b : Int) (H' : Hp), l[i]? = some b → Up [p] H H' → RdAt K C O H' p l (i + 1) → Q (.int b) H')
def spRNum (K : PySem.W.Frag) (C CD : Addr) : Sp := fun vs H Q E => ∃ (O : List Addr) (p : Addr) (l : List Int) (i : Nat), vs = [.ref p] ∧ RdAt K C O H p l i ∧
  (∀ (H' : Hp) (j : Nat), rnum 60 true (l.drop i) = none → Up [p] H H' → RdAt K C O H' p l j → E (.ref CD) none H') ∧ (∀ (v : Int) (n : Nat) (H' : Hp), rnum 60 true (l.drop i) = some (v, n) → Up [p] H H' → RdAt K C O H' p l (i + n) → Q (.int v) H')
theorem nda : ¬ ("data" : Str) = "at" := by decide +kernel
section
variable {P : Program} {w : World} {K : PySem.W.Frag} {mg : Str → Option Value} {base : Heap} {C CD : Addr}
theorem ok_Reader_init {f : Addr} {fd : FuncData} (F : Fun K "__init__" "Reader.__init__" s_Reader___init__ f fd) (T : Txt K mg) (T_Reader : TReader K C) : FnOk P w K mg base CX0 1 f fd ["self", "data"] (spRInit K C) := by
  refine F.ok sc_Reader___init__ (fun vs H Q E h => ?_) (fun cdv A outer s H vs Q E hr h => ?_)
  · obtain ⟨_, _, _, _, _, rfl, _⟩ := h
    rfl
  obtain ⟨O, p, a, dx, l, rfl, hp, ho, hO, hA, q⟩ := h
  refine ⟨_, (pss_cons (ps_fld (pv 0) (pe_callTy call_list_of (by rfl) T.b_list bt_list (pa_cons (pv 1) pa_nil)) rfl)
  (pss_one (ps_fld (pv 0) pe_int rfl))), ?_⟩
  refine ⟨_, rfl, a, _, rfl, .inl hA, fun c hc => ⟨_, rfl, p, C, dx, [], rfl, same_upd hc _ _ hp, T_Reader.cl, T_Reader.n_data, by decide, ?_⟩⟩
  refine ⟨_, rfl, p, C, dx, _, rfl, upd_same, T_Reader.cl, T_Reader.n_at, (by show 1 < 1000; decide), ?_⟩
  rw [upd_upd]
  have hcp : c ≠ p := fun e => by rw [e, hp] at hc; cases hc
  refine q _ ((Up.of (same_upd hc)).trans (Up.put (by simp))) ⟨ho, dx, c, upd_same, SqL.of ?_⟩
  rw [wo_out (hO.out hc), upd_ne hcp, upd_same]
theorem ok_Reader_read_byte {f : Addr} {fd : FuncData} (F : Fun K "read_byte" "Reader.read_byte" s_Reader_read_byte f fd) (T : Txt K mg) (T_Reader : TReader K C) (X_DamagedPacket : ExF K mg "DamagedPacket" CD) : FnOk P w K mg base (L2.CX P w) 1 f fd ["self"] (spRByte K C CD) := by
  refine F.okX sc_Reader_read_byte (fun vs H Q E h => ?_) (fun cdv A outer s H vs Q E hr h => ?_)
  · obtain ⟨_, _, _, _, rfl, _⟩ := h
    rfl
  obtain ⟨O, p, l, i, rfl, ⟨hp, dx, a, h1, h2⟩, hE, hQ⟩ := h
  refine ⟨_, (pss_cons (ps_if (pt_cmpR op_ge (pe_fld (pv 0) rfl) (pe_callB call_len_seq (by rfl) T.b_len bt_len (pa_cons (pe_fld (pv 0) rfl) pa_nil)) (nomark _)) (pss_one (ps_raise rfl (takes_of rfl rfl rfl rfl) (pmk_own PySem.F.excBase_ValueError X_DamagedPacket.x X_DamagedPacket.g X_DamagedPacket.k (raises_own X_DamagedPacket.b X_DamagedPacket.t) rfl))) pss_nil)
  (pss_cons (ps_fldaug (pv 0) pe_int in_add)
  (pss_one (ps_ret (pe_ix ix_list (pe_fld (pv 0) rfl) (pe_op op_sub (pe_fld (pv 0) rfl) pe_int) (fun _ _ => rfl)))))), ?_⟩
  have h3 := sql_le (wo_le _ _) h2
  refine ⟨_, rfl, p, C, dx, _, _, rfl, h1, T_Reader.cl, T_Reader.n_at, F2_b, _, rfl, p, C, dx, _, _, rfl, h1, T_Reader.cl, T_Reader.n_data, F2_a nda, a, _, rfl, .inl h3, _, _, rfl, rfl, _, rfl, brD (fun e => ?_) (fun e => ?_)⟩
  · rw [List.length_map] at e
    exact hE (by omega)
  · rw [List.length_map] at e
    have hi : i < l.length := by omega
    refine ⟨_, rfl, p, C, dx, _, _, rfl, h1, T_Reader.cl, T_Reader.n_at, F2_b, _, _, rfl, rfl, dx, _, h1, F2_len nda, ?_⟩
    rw [F2_putb nda]
    have e1 : wo (upd H p (.ins C dx (F2 "data" "at" (.ref a) (.int ((i : Int) + 1))))) O = wo H O := wo_upd_in hp
    have g2 : SqL K (wo (upd H p (.ins C dx (F2 "data" "at" (.ref a) (.int ((i : Int) + 1))))) O) a (l.map V.int) := by rw [e1]; exact h2
    refine ⟨_, rfl, p, C, dx, _, _, rfl, upd_same, T_Reader.cl, T_Reader.n_data, F2_a nda, _, rfl, p, C, dx, _, _, rfl, upd_same, T_Reader.cl, T_Reader.n_at, F2_b, _, _, rfl, rfl, a, _, _, .int l[i], rfl, rfl, sql_le (wo_le _ _) g2, ?_, ?_⟩
    · have e2 : (i : Int) + 1 - 1 = (i : Int) := by omega
      rw [e2]
      exact atI_nat (by rw [List.getElem?_map, List.getElem?_eq_getElem hi]; rfl)
    · exact hQ _ _ (List.getElem?_eq_getElem hi) (Up.put (by simp)) ⟨hp, dx, a, upd_same, g2⟩
end
theorem rnum_step {f : Nat} {first : Bool} {b : Int} {r : List Int} : rnum (f + 1) first (b :: r) = if b < 128 then (if b = 0 ∧ first = false then none else some (b % 128, 1)) else (rnum f false r).map fun z => (b % 128 + 128 * z.1, z.2 + 1) := by rw [rnum]
section
variable {P : Program} {w : World} {K : PySem.W.Frag} {mg : Str → Option Value} {base : Heap} {C CD : Addr}
theorem ok_Reader_read_number {f : Addr} {fd : FuncData} (F : Fun K "read_number" "Reader.read_number" s_Reader_read_number f fd) (T : Txt K mg) (T_Reader : TReader K C) (X_DamagedPacket : ExF K mg "DamagedPacket" CD)
    (M_read_byte : GM P w K mg base (L2.CX P w) C "read_byte" 1 ["self"] (spRByte K C CD)) : FnOk P w K mg base (L2.CX P w) 2 f fd ["self"] (spRNum K C CD) := by
  refine F.okX sc_Reader_read_number (fun vs H Q E h => ?_) (fun cdv A outer s H vs Q E hr h => ?_)
  · obtain ⟨_, _, _, _, rfl, _⟩ := h
    rfl
  obtain ⟨O, p, l, i0, rfl, hR, hE, hQ⟩ := h
  refine ⟨_, (pss_cons (ps_set (i := 1) sc_Reader_read_number.nd rfl (Or.inl rfl) pe_int)
  (pss_cons (ps_set (i := 2) sc_Reader_read_number.nd rfl (Or.inl rfl) pe_int)
  (pss_cons (ps_for (passes_of rfl) rfl (pi_range1 rfl T.b_range (pa_cons (pe_gi T.c_NUMBER_BYTES rfl) pa_nil)) (pg_name (i := 3) sc_Reader_read_number.nd rfl (Or.inl rfl)) (pss_cons (ps_set (i := 4) sc_Reader_read_number.nd rfl (Or.inl rfl) (pe_gmS0 (pv 0) T_Reader.cl M_read_byte hr (takes_of rfl rfl rfl rfl)))
  (pss_cons (ps_aug (i := 1) sc_Reader_read_number.nd rfl (.inl rfl) (pe_op op_mul (pe_op op_mod (pv 4) pe_int) (pv 2)) ip_add)
  (pss_cons (ps_if (pt_cmpR op_lt (pv 4) pe_int (nomark _)) (pss_cons (ps_if (PW.pt (pw_and (pt_cmpR op_eq (pv 4) pe_int (nomark _)) (pw_and1 (pt_cmpR op_gt (pv 3) pe_int (nomark _))))) (pss_one (ps_raise rfl (takes_of rfl rfl rfl rfl) (pmk_own PySem.F.excBase_ValueError X_DamagedPacket.x X_DamagedPacket.g X_DamagedPacket.k (raises_own X_DamagedPacket.b X_DamagedPacket.t) rfl))) pss_nil)
  (pss_one (ps_ret (pv 1)))) pss_nil)
  (pss_one (ps_set (i := 2) sc_Reader_read_number.nd rfl (Or.inl rfl) (pe_op op_mul (pv 2) pe_int)))))))
  (pss_one (ps_raise rfl (takes_of rfl rfl rfl rfl) (pmk_own PySem.F.excBase_ValueError X_DamagedPacket.x X_DamagedPacket.g X_DamagedPacket.k (raises_own X_DamagedPacket.b X_DamagedPacket.t) rfl)))))), ?_⟩
  refine ⟨60, rfl, by decide, by decide, for_range (fun i σ H' => ∃ (t : Int) (z1 z2 : Option V), σ = [some (.ref p), some (.int t), some (.int (128 ^ i)), z1, z2] ∧ Up [p] H H' ∧ RdAt K C O H' p l (i0 + i) ∧
    rnum 60 true (l.drop i0) = (rnum (60 - i) (decide (i = 0)) (l.drop (i0 + i))).map fun z => (t + 128 ^ i * z.1, z.2 + i)) ⟨0, none, none, rfl, Up.rfl', hR, by rw [Nat.add_zero]; cases h : rnum 60 true (l.drop i0) <;> simp [h]⟩ ?_ ?_⟩
  · rintro i σ H1 hi ⟨t, z1, z2, rfl, u1, R1, e⟩
    have hi' : i < 60 := hi
    obtain ⟨g, hg⟩ : ∃ g, 60 - i = g + 1 := ⟨59 - i, by omega⟩
    rw [hg] at e
    obtain ⟨_, dx, a, h1, _⟩ := id R1
    refine ⟨_, rfl, p, dx, _, rfl, h1, F2_no (by decide +kernel) (by decide +kernel), O, p, l, i0 + i, rfl, R1, fun hl => ?_, fun b H2 hb u2 R2 => ?_⟩
    · refine hE _ _ ?_ u1 R1
      rw [e, List.drop_eq_nil_of_le hl]
      rfl
    · have hd : l.drop (i0 + i) = b :: l.drop (i0 + i + 1) := by
        obtain ⟨h, e2⟩ := List.getElem?_eq_some_iff.mp hb
        rw [List.drop_eq_getElem_cons h, e2]
      rw [hd, rnum_step] at e
      refine ⟨_, rfl, _, rfl, _, _, rfl, rfl, (by show (0 : Int) < 128; decide), _, rfl, _, _, rfl, rfl, .inl ⟨by show -(2 ^ 64) < b % 128; omega, by show b % 128 < 2 ^ 64; omega⟩, ?_⟩
      refine ⟨_, _, rfl, rfl, _, rfl, _, _, rfl, rfl, _, rfl, brD (fun c => ?_) (fun c => ?_)⟩
      · rw [if_pos c] at e
        have fin : ¬ (b = 0 ∧ decide (i = 0) = false) → Q (.int (t + b % 128 * 128 ^ i)) H2 := fun n => by
          rw [if_neg n] at e
          have e3 : t + b % 128 * 128 ^ i = t + 128 ^ i * (b % 128) := by rw [Int.mul_comm]
          rw [e3]
          refine hQ _ (1 + i) _ e (u1.trans u2) ?_
          rw [Nat.add_comm 1 i, ← Nat.add_assoc]
          exact R2
        refine ⟨_, rfl, rfl, _, rfl, brD (fun c0 => ?_) (fun c0 => ?_)⟩
        · rw [int_inj] at c0
          refine ⟨_, rfl, _, _, rfl, rfl, _, rfl, brD (fun ci => ?_) (fun ci => ?_)⟩
          · have hi0 : i ≠ 0 := by omega
            refine hE _ _ ?_ (u1.trans u2) R2
            rw [e, if_pos ⟨c0, by simp [hi0]⟩]
            rfl
          · have hi0 : i = 0 := by omega
            exact ⟨_, rfl, fin fun z => by simp [hi0] at z⟩
        · rw [int_inj] at c0
          exact ⟨_, rfl, fin fun z => c0 z.1⟩
      · rw [if_neg c] at e
        refine ⟨_, rfl, _, _, rfl, rfl, .inr ⟨by decide, by decide⟩, t + b % 128 * 128 ^ i, some (.int (0 + (i : Int))), some (.int b), ?_, u1.trans u2, R2, ?_⟩
        · have e4 : (128 : Int) ^ (i + 1) = 128 ^ i * 128 := Int.pow_succ 128 i
          rw [e4]
          rfl
        · have e5 : 60 - (i + 1) = g := by omega
          have e6 : (decide (i + 1 = 0)) = false := by simp
          rw [e5, e6, e, Option.map_map]
          congr 1
          funext z
          show (t + 128 ^ i * (b % 128 + 128 * z.1), z.2 + 1 + i) = (t + b % 128 * 128 ^ i + 128 ^ (i + 1) * z.1, z.2 + (i + 1))
          rw [Int.mul_add, Int.pow_succ, Int.mul_comm (128 ^ i) (b % 128), Int.mul_assoc, Int.add_assoc]
          congr 1
          omega
  · rintro σ H1 ⟨t, z1, z2, rfl, u1, R1, e⟩
    refine hE _ _ ?_ u1 R1
    rw [e]
    rfl
end
def spRSize (K : PySem.W.Frag) : Sp := fun vs H Q _ => ∃ (a : Addr) (l : List Int) (st : Nat), vs = [.ref a, .int (st : Int)] ∧ SqL K H a (l.map V.int) ∧
  (∀ H', rnum 60 true ((l.drop st).take 60) = none → Same H H' → Q .non H') ∧ (∀ (v : Int) (n : Nat) (t : Addr) (H' : Hp), rnum 60 true ((l.drop st).take 60) = some (v, n) → Same H H' → H' t = some (.tup [.int ((st : Int) + (n : Int)), .int v]) → Q (.ref t) H')
section
variable {P : Program} {w : World} {K : PySem.W.Frag} {mg : Str → Option Value} {base : Heap} {C CD : Addr}
theorem ok_read_size {f : Addr} {fd : FuncData} (F : Fun K "_read_size" "_read_size" s_read_size f fd) (T : Txt K mg) (T_Reader : TReader K C) (X_DamagedPacket : ExF K mg "DamagedPacket" CD)
    (C_Reader : GC P w K mg base CX0 "Reader" C 1 ["self", "data"] (spRInit K C)) (M_read_number : GM P w K mg base (L2.CX P w) C "read_number" 2 ["self"] (spRNum K C CD)) : FnOk P w K mg base CX0 3 f fd ["data", "start"] (spRSize K) := by
  refine F.ok sc_read_size (fun vs H Q E h => ?_) (fun cdv A outer s H vs Q E hr h => ?_)
  · obtain ⟨_, _, _, rfl, _⟩ := h
    rfl
  obtain ⟨a, l, st, rfl, hA, q1, q2⟩ := h
  refine ⟨_, (pss_cons (ps_set (i := 2) sc_read_size.nd rfl (Or.inl rfl) (pe_gk C_Reader hr rfl (pa_cons (pe_slice sl_list (pv 0) (po_some (pv 1)) (po_some (pe_op op_add (pv 1) pe_int))) pa_nil)))
  (pss_cons (ps_try_only rfl rfl ⟨rfl, by decide, .inl X_DamagedPacket.g⟩ takes0 (fun W pn xe tk po => (pss_one (ps_set (i := 3) sc_read_size.nd rfl (Or.inl rfl) (pe_gmS0 (pv 2) T_Reader.cl M_read_number hr tk)))) (fun a oe cls d pn _ _ => (pss_one (ps_ret pe_non))))
  (pss_one (ps_ret (pe_tup (pa_cons (pe_op op_add (pv 1) (pe_fld (pv 2) rfl)) (pa_cons (pv 3) pa_nil))))))), ?_⟩
  refine ⟨_, rfl, _, rfl, _, rfl, _, rfl, _, _, rfl, rfl, _, rfl, a, _, rfl, hA, fun c hc => ?_⟩
  have ec : cutV (l.map V.int) (some (st : Int)) (some ((st : Int) + 60)) = ((l.drop st).take 60).map V.int := by
    have e1 : ((st : Int) + 60) = ((st + 60 : Nat) : Int) := by simp
    rw [e1, cut_mid (by omega), List.map_take, List.map_drop]
    congr 1
    omega
  rw [ec]
  have sc := same_upd (o := .lst (((l.drop st).take 60).map V.int)) hc
  have hC := upd_same (H := H) (a := c) (o := .lst (((l.drop st).take 60).map V.int))
  generalize upd H c (.lst (((l.drop st).take 60).map V.int)) = H1 at sc hC ⊢
  intro x dx hx hdx hne
  have s1 := mk_same (C := C) hx hdx hne
  refine ⟨[x], x, c, dx, (l.drop st).take 60, rfl, upd_same, by simp, mk_own (O := []) (by intro a z; cases z) hx hdx hne, SqL.of (s1 _ _ hC), fun H2 u2 R => ⟨rfl, ?_⟩⟩
  have s2 : Same H H2 := sc.trans (Up.mk s1 hx u2)
  have hx0 : H x = none := sc.free hx
  obtain ⟨_, dx2, a2, g1, _⟩ := id R
  refine ⟨_, rfl, x, dx2, _, rfl, g1, F2_no (by decide +kernel) (by decide +kernel), [x], x, _, 0, rfl, R, fun H3 j e u3 R3 => ?_, fun v n H3 e u3 R3 => ?_⟩
  · refine ⟨true, X_DamagedPacket.e, fun _ a ha => ?_, fun z => nomatch z⟩
    exact q1 _ (by simpa using e) (Up.mk s2 hx0 u3)
  · obtain ⟨_, dx3, a3, g3, _⟩ := id R3
    refine ⟨_, rfl, _, rfl, x, C, dx3, _, _, rfl, g3, T_Reader.cl, T_Reader.n_at, F2_b, _, _, rfl, rfl, _, rfl, sz 2 (by decide), fun t ht => ?_⟩
    refine q2 v n t _ (by simpa using e) ((Up.mk s2 hx0 u3).trans (same_upd ht)) ?_
    rw [upd_same]
    simp
end
def spRRecs (K : PySem.W.Frag) : Sp := fun vs H Q _ => ∃ (a : Addr) (l : List Int) (rs : List (List Int)) (m : Nat), vs = [.ref a] ∧ SqL K H a (l.map V.int) ∧ l.length ≤ 1000000 ∧ Recs l rs m ∧
  ∀ (r : Addr) (H' : Hp), H r = none → Same H H' → Rp K H' (.ref r) (.tuple [.list (rs.map fun x => .list (x.map .int)), .int (m : Int)]) → Q (.ref r) H'
theorem cut_last4 (n b : List Int) (t : Int) : cutV ((n ++ b ++ tail4 t).map V.int) (some (-4)) none = (tail4 t).map V.int := by
  unfold cutV
  rw [HT.sIx_none]
  have e1 : HT.sIx ((n ++ b ++ tail4 t).map V.int).length 0 (some (-4)) = (n ++ b).length := by
    show (if (-4 : Int) < 0 then ((-4 : Int) + (((n ++ b ++ tail4 t).map V.int).length : Nat)).toNat else 0) = _
    rw [if_pos (by decide), List.length_map, List.length_append, tail4_len]
    omega
  rw [e1, List.map_append, List.drop_left' (by simp)]
  exact List.take_of_length_le (by simp [tail4_len]; omega)
def FoundAt (l : List Int) (s : Nat) (fv : V) (H : Hp) : Prop := (fv = .non ∧ rnum 60 true ((l.drop s).take 60) = none) ∨ ∃ (t : Addr) (v : Int) (n : Nat), fv = .ref t ∧ rnum 60 true ((l.drop s).take 60) = some (v, n) ∧ H t = some (.tup [.int ((s : Int) + (n : Int)), .int v])
section
variable {P : Program} {w : World} {K : PySem.W.Frag} {mg : Str → Option Value} {base : Heap} {C CD : Addr}
theorem ok_read_records {f : Addr} {fd : FuncData} (F : Fun K "read_records" "read_records" s_read_records f fd) (T : Txt K mg) (G_read_size : GF P w K mg base CX0 "_read_size" 3 ["data", "start"] (spRSize K)) (G_write_record : GF P w K mg base CX0 "write_record" 2 ["data"] (spWrec K)) : FnOk P w K mg base CX0 4 f fd ["data"] (spRRecs K) := by
  refine F.ok sc_read_records (fun vs H Q E h => ?_) (fun cdv A outer s H vs Q E hr h => ?_)
  · obtain ⟨_, _, _, _, rfl, _⟩ := h
    rfl
  obtain ⟨a, l, rs, m, rfl, hA, hl, hrs, q⟩ := h
  have hu64 := hr.units
  refine ⟨_, (pss_cons (ps_set (i := 1) sc_read_records.nd rfl (Or.inl rfl) (pe_lst pa_nil))
  (pss_cons (ps_set (i := 2) sc_read_records.nd rfl (Or.inl rfl) pe_int)
  (Evl.pss_cut (ps_set (i := 3) sc_read_records.nd rfl (Or.inl rfl) (pe_cg G_read_size hr rfl (pa_cons (pv 0) (pa_cons (pv 2) pa_nil))))
  (pss_cons (ps_while PassesOwn.never (pt_cmp (pc_notN (pv 3))) (pss_cons (ps_asg (pv 3) (pg_tup rfl (pgs_cons (pg_name (i := 4) sc_read_records.nd rfl (Or.inl rfl)) (pgs_cons (pg_name (i := 5) sc_read_records.nd rfl (Or.inl rfl)) pgs_nil))))
  (pss_cons (ps_set (i := 6) sc_read_records.nd rfl (Or.inl rfl) (pe_slice sl_list (pv 0) (po_some (pv 4)) (po_some (pe_op op_add (pv 4) (pv 5)))))
  (pss_cons (ps_set (i := 7) sc_read_records.nd rfl (Or.inl rfl) (pe_op op_add (pe_op op_add (pv 4) (pv 5)) pe_int))
  (pss_cons (ps_if (PW.pt (pw_or (pt_cmpR op_gt (pv 7) (pe_callB call_len_seq (by rfl) T.b_len bt_len (pa_cons (pv 0) pa_nil)) (nomark _)) (pw_or1 (pt_cmpR (op_neD hu64) (pe_slice sl_list (pe_cg G_write_record hr rfl (pa_cons (pv 6) pa_nil)) (po_some (pe_un un_neg pe_int)) po_none) (pe_slice sl_list (pv 0) (po_some (pe_op op_sub (pv 7) pe_int)) (po_some (pv 7))) (nomark _))))) (pss_one ps_break) pss_nil)
  (pss_cons (ps_expr (pe_bm PySem.F.plainAttrs_list PySem.F.slot_list_append PySem.F.type_list_append mt_append (pv 1) (pa_cons (pv 6) pa_nil)))
  (pss_cons (ps_set (i := 2) sc_read_records.nd rfl (Or.inl rfl) (pv 7))
  (pss_one (ps_set (i := 3) sc_read_records.nd rfl (Or.inl rfl) (pe_cg G_read_size hr rfl (pa_cons (pv 0) (pa_cons (pv 2) pa_nil))))))))))))
  (pss_one (ps_ret (pe_tup (pa_cons (pv 1) (pa_cons (pv 2) pa_nil))))))))), ?_⟩
  refine ⟨Nat.zero_le _, fun D hD => ?_⟩
  have s0 := same_upd (o := .lst []) hD
  have A0 : Acc K [D] D [] [] (upd H D (.lst [])) := ⟨List.mem_cons_self, upd_same, .nil⟩
  refine ⟨fun σ' H' => ∃ fv, σ' = [some (.ref a), some (.ref D), some (.int 0), some fv, none, none, none, none] ∧ Same (upd H D (.lst [])) H' ∧ FoundAt l 0 fv H', ?_, ?_⟩
  · refine ⟨_, rfl, _, rfl, a, l, 0, rfl, sql_le s0 hA, fun H1 e s1 => ⟨_, rfl, s1, .inl ⟨rfl, e⟩⟩, fun v n t H1 e s1 ht => ⟨_, rfl, s1, .inr ⟨t, v, n, rfl, e, ht⟩⟩⟩
  rintro σ' H1 ⟨fv, rfl, s1, hF⟩
  refine ⟨fun k σ H' => ∃ (st m' : Nat) (done todo : List (List Int)) (acc : List V) (fv : V) (z4 z5 z6 z7 : Option V), σ = [some (.ref a), some (.ref D), some (.int (st : Int)), some fv, z4, z5, z6, z7] ∧ k = todo.length ∧ done ++ todo = rs ∧ Recs (l.drop st) todo m' ∧ st + m' = m ∧
    Acc K [D] D (done.map fun x => .list (x.map .int)) acc H' ∧ Same H H' ∧ FoundAt l st fv H' ∧ done.length ≤ st, ⟨_, 0, m, [], rs, [], fv, none, none, none, none, rfl, rfl, rfl, by simpa using hrs, by simp, A0.le s1, s0.trans s1, hF, Nat.zero_le _⟩, ?_⟩
  clear hF s1 A0
  rintro k σ H2 ⟨st, m', done, todo, acc, fv, z4, z5, z6, z7, rfl, rfl, ers, hR, em, hAc, s2, hF, hds⟩
  have hA2 := sql_le s2 hA
  have fin : ∀ H3, parse1 (l.drop st) = none → Same H2 H3 → 2 ≤ sizeLine ∧ ∀ t, H3 t = none → Q (.ref t) (upd H3 t (.tup [.ref D, .int (st : Int)])) := fun H3 e s3 => by
    refine ⟨sz 2 (by decide), fun t ht => ?_⟩
    cases hR with
    | step h _ => rw [e] at h; cases h
    | stop _ =>
      have s4 := s2.trans s3
      have A3 := (hAc.le s3).le (same_upd (o := .tup [.ref D, .int (st : Int)]) ht)
      refine q t _ (s4.free ht) (s4.trans (same_upd ht)) (.tup (SqT.of upd_same) (.cons ?_ (.cons ?_ .nil)))
      · have := A3.rp
        rw [List.append_nil] at ers
        rw [← ers]
        exact this
      · rw [← em]
        exact .int _
  rcases hF with ⟨rfl, e⟩ | ⟨t, v, n, rfl, e, ht⟩
  · refine ⟨_, rfl, _, rfl, iteF ?_⟩
    refine ⟨_, rfl, _, rfl, fin H2 ?_ (Same.refl _)⟩
    unfold parse1
    rw [e]
  · refine ⟨_, rfl, _, rfl, iteT ?_⟩
    obtain ⟨v0, nl, _, npos⟩ := rnum_nn e
    obtain ⟨vn, rfl⟩ : ∃ vn : Nat, v = (vn : Int) := ⟨v.toNat, by omega⟩
    refine ⟨_, fun _ _ z => z, _, rfl, t, _, rfl, SqT.of ht, rfl, _, _, rfl, _, _, rfl, rfl, ?_⟩
    refine ⟨_, rfl, _, rfl, _, rfl, _, rfl, _, rfl, _, _, rfl, rfl, _, rfl, a, _, rfl, hA2, fun c hc => ?_⟩
    have ec : cutV (l.map V.int) (some ((st : Int) + (n : Int))) (some ((st : Int) + (n : Int) + (vn : Int))) = (((l.drop st).drop n).take vn).map V.int := by
      have e1 : ((st : Int) + (n : Int)) = ((st + n : Nat) : Int) := by simp
      have e2 : (((st + n : Nat) : Int) + (vn : Int)) = ((st + n + vn : Nat) : Int) := by simp
      rw [e1, e2, cut_mid (by omega), List.drop_drop, List.map_take, List.map_drop]
      congr 1
      omega
    rw [ec]
    generalize hrec : ((l.drop st).drop n).take vn = rec
    have sc := same_upd (o := .lst (rec.map V.int)) hc
    have hC := upd_same (H := H2) (a := c) (o := .lst (rec.map V.int))
    generalize upd H2 c (.lst (rec.map V.int)) = H3 at sc hC ⊢
    have rl : rec.length ≤ l.length := by
      rw [← hrec, List.length_take, List.length_drop, List.length_drop]
      omega
    refine ⟨_, rfl, _, rfl, _, _, rfl, rfl, _, _, rfl, rfl, ?_⟩
    refine ⟨_, rfl, _, rfl, a, _, rfl, .inl (sql_le sc hA2), _, _, rfl, rfl, _, rfl, brD (fun e1 => ?_) (fun e1 => ?_)⟩
    · refine ⟨_, rfl, _, rfl, fin H3 ?_ sc⟩
      rw [List.length_map] at e1
      unfold parse1
      rw [e]
      simp only [Int.toNat_natCast]
      rw [if_pos]
      left
      rw [List.length_drop]
      omega
    · rw [List.length_map] at e1
      have s3 := s2.trans sc
      refine ⟨_, rfl, c, rec, rfl, SqL.of hC, by omega, fun r H4 nr s4 hr => ?_⟩
      refine ⟨4, rfl, _, rfl, r, _, rfl, SqL.of hr, fun c2 hc2 => ?_⟩
      have s5 := same_upd (o := .lst (cutV ((wrec rec).map V.int) (some (-4)) none)) hc2
      have hC2 := upd_same (H := H4) (a := c2) (o := .lst (cutV ((wrec rec).map V.int) (some (-4)) none))
      have e4 : cutV ((wrec rec).map V.int) (some (-4)) none = (tail4 (csum rec)).map V.int := cut_last4 (wnum rec.length) rec (csum rec)
      rw [e4] at s5 hC2 ⊢
      generalize upd H4 c2 (.lst ((tail4 (csum rec)).map V.int)) = H5 at s5 hC2 ⊢
      have s6 := (s3.trans s4).trans s5
      refine ⟨_, rfl, _, rfl, _, _, rfl, rfl, _, rfl, _, rfl, _, rfl, a, _, rfl, sql_le s6 hA, fun c3 hc3 => ?_⟩
      have e5 : cutV (l.map V.int) (some ((st : Int) + (n : Int) + (vn : Int) + 4 - 4)) (some ((st : Int) + (n : Int) + (vn : Int) + 4)) = (((l.drop st).drop (n + vn)).take 4).map V.int := by
        have e1 : ((st : Int) + (n : Int) + (vn : Int) + 4 - 4) = ((st + (n + vn) : Nat) : Int) := by omega
        have e2 : ((st : Int) + (n : Int) + (vn : Int) + 4) = ((st + (n + vn) + 4 : Nat) : Int) := by omega
        rw [e1, e2, cut_mid (by omega), List.drop_drop, List.map_take, List.map_drop]
        congr 1
        omega
      have s7 := same_upd (o := .lst (cutV (l.map V.int) (some ((st : Int) + (n : Int) + (vn : Int) + 4 - 4)) (some ((st : Int) + (n : Int) + (vn : Int) + 4)))) hc3
      have hC3 := upd_same (H := H5) (a := c3) (o := .lst (cutV (l.map V.int) (some ((st : Int) + (n : Int) + (vn : Int) + 4 - 4)) (some ((st : Int) + (n : Int) + (vn : Int) + 4))))
      replace hC3 := hC3.trans (congrArg (fun z => some (HO.lst z)) e5)
      refine ⟨_, _, dp_ints (SqL.of (s7 _ _ hC2)), dp_ints (SqL.of hC3), shaped_ints _, shaped_ints _, _, rfl, ?_⟩
      rw [eqv_ints]
      have s8 := s6.trans s7
      generalize upd H5 c3 _ = H6 at s7 s8 hC3 ⊢
      have hp1 : parse1 (l.drop st) = if tail4 (csum rec) = (((l.drop st).drop (n + vn)).take 4) then some (rec, n + vn + 4) else none := by
        unfold parse1
        rw [e]
        simp only [Int.toNat_natCast]
        rw [hrec, List.length_drop]
        by_cases c : tail4 (csum rec) = (((l.drop st).drop (n + vn)).take 4)
        · rw [if_pos c, if_neg]
          rintro (z | z)
          · omega
          · exact z c
        · rw [if_neg c, if_pos (Or.inr c)]
      refine brN (fun z => ?_) (fun z => ?_)
      · rw [if_neg z] at hp1
        have s9 : Same H2 H6 := ((sc.trans s4).trans s5).trans s7
        exact ⟨_, rfl, _, rfl, fin H6 hp1 s9⟩
      · rw [if_pos z] at hp1
        have s9 : Same H2 H6 := ((sc.trans s4).trans s5).trans s7
        cases hR with
        | stop h => rw [h] at hp1; cases hp1
        | step h hR2 =>
          rw [hp1] at h
          cases h
          have A6 := hAc.le s9
          have hC6 := ((s4.trans s5).trans s7) _ _ hC
          have hcD : c ∉ [D] := by
            simp
            intro z2
            rw [z2, hAc.is] at hc
            cases hc
          have al := A6.len
          rw [List.length_map] at al
          have rpc : Rp K (wo H6 [D]) (.ref c) (.list (rec.map .int)) := rp_ints (SqL.of (by rw [wo_out hcD]; exact hC6))
          have A7 := A6.push rpc
          have hDn : H6 D ≠ none := some_ne A6.is
          refine ⟨_, rfl, .inl ⟨rfl, _, SqL.of A6.is⟩, _, rfl, D, acc, _, rfl, rfl, A6.is, szl _ (by omega), ?_⟩
          have sD : Same H (upd H6 D (.lst (acc ++ [.ref c]))) := fun b o q => by
            rw [upd_ne (ne_of_none q hD)]
            exact s8 _ _ q
          generalize upd H6 D (.lst (acc ++ [.ref c])) = H7 at A7 sD ⊢
          have e9 : (done ++ [rec]).map (fun x => PyData.list (x.map .int)) = done.map (fun x => PyData.list (x.map .int)) ++ [.list (rec.map .int)] := by simp
          rw [← e9] at A7
          have e10 : l.drop (st + n + vn + 4) = (l.drop st).drop (n + vn + 4) := by
            rw [List.drop_drop]
            congr 1
            omega
          rw [← e10] at hR2
          refine ⟨_, rfl, _, rfl, _, rfl, a, l, st + n + vn + 4, rfl, sql_le sD hA, fun H8 e8 s10 => ?_, fun v2 n2 t2 H8 e8 s10 ht2 => ?_⟩
          · exact ⟨_, Nat.lt_succ_self _, st + n + vn + 4, _, done ++ [rec], _, _, _, _, _, _, _, rfl, rfl, by simp [ers], hR2, by omega, A7.le s10, sD.trans s10, .inl ⟨rfl, e8⟩, by simp; omega⟩
          · exact ⟨_, Nat.lt_succ_self _, st + n + vn + 4, _, done ++ [rec], _, _, _, _, _, _, _, rfl, rfl, by simp [ers], hR2, by omega, A7.le s10, sD.trans s10, .inr ⟨t2, v2, n2, rfl, e8, ht2⟩, by simp; omega⟩
end
def Byts (ns : List Int) : Prop := ∀ b ∈ ns, 0 ≤ b ∧ b < 256
def spBehind (K : PySem.W.Frag) : Sp := fun vs H Q _ => ∃ (O : List Addr) (st : Addr), vs = [.ref st] ∧ StA K O H st ∧ Own O H ∧ ∀ (r : Addr) (ns : List Int) (H' : Hp), H r = none → Up [st] H H' → StA K O H' st → H' r = some (.lst (ns.map V.int)) → parse1 ns = none → ns.length ≤ 10000 → Q (.ref r) H'
def spBytes (K : PySem.W.Frag) : Sp := fun vs H Q _ => ∃ (O : List Addr) (st : Addr), vs = [.ref st] ∧ StA K O H st ∧ ∀ (r : Addr) (ns : List Int) (H' : Hp), H r = none → Up [st] H H' → StA K O H' st → H' r = some (.lst (ns.map V.int)) → Byts ns → ns.length ≤ 2001 → Q (.ref r) H'
theorem StA.ints {K : PySem.W.Frag} {O : List Addr} {H : Hp} {st a : Addr} {o : List Int} (h : StA K O H st) (e : H a = some (.lst (o.map V.int))) : a ≠ st := fun z => by
  obtain ⟨_, d, _, i, hy, _⟩ := h
  rw [z, hy] at e
  cases o with
  | nil => cases e
  | cons x o => injection e with e; injection e with e; injection e with e _; cases e
theorem ints_at {l : List Int} {i : Nat} (h : i < l.length) : atI (l.map V.int) (i : Int) = some (.int l[i]) := atI_nat (by rw [List.getElem?_map, List.getElem?_eq_getElem h]; rfl)
theorem tail4_bytes {t : Int} (h : 0 ≤ t ∧ t < 4294967296) : Byts (tail4 t) := by
  intro b hb
  simp only [tail4, List.mem_cons, List.not_mem_nil, or_false] at hb
  rcases hb with rfl | rfl | rfl | rfl <;> omega
theorem other_byte {b e : Int} (h : 0 ≤ b ∧ b < 256) (h0 : 0 ≤ e) (h1 : e < 255) : 0 ≤ (b + 1 + e) % 256 ∧ (b + 1 + e) % 256 < 256 ∧ (b + 1 + e) % 256 ≠ b := by omega
theorem rep_flat (x : Int) : ∀ n : Nat, (List.replicate n [V.int x]).flatten = (List.replicate n x).map V.int
  | 0 => rfl
  | n + 1 => by rw [List.replicate_succ, List.replicate_succ, List.flatten_cons, rep_flat x n]; rfl
theorem set_form {l X : List Int} {i : Nat} {v : Int} (h : i < l.length) : (l.take i ++ [v]) ++ l.drop (i + 1) ++ X = l.set i v ++ X := by
  rw [List.set_eq_take_append_cons_drop, if_pos h]
  simp
section
variable {P : Program} {w : World} {K : PySem.W.Frag} {mg : Str → Option Value} {base : Heap} {C CD : Addr}
theorem ok_law_bytes {f : Addr} {fd : FuncData} (F : Fun K "_law_bytes" "_law_bytes" s_law_bytes f fd) (T : Txt K mg) (G_law_next : GF P w K mg base CX0 "_law_next" 3 ["state", "limit"] (spNextA K)) : FnOk P w K mg base CX0 4 f fd ["state"] (spBytes K) := by
  refine F.ok sc_law_bytes (fun vs H Q E h => ?_) (fun cdv A outer s H vs Q E hr h => ?_)
  · obtain ⟨_, _, rfl, _⟩ := h
    rfl
  obtain ⟨O, st, rfl, hS, q⟩ := h
  refine ⟨_, (pss_cons (ps_set (i := 1) sc_law_bytes.nd rfl (Or.inl rfl) (pe_cg G_law_next hr rfl (pa_cons (pv 0) (pa_cons pe_int pa_nil))))
  (pss_cons (ps_set (i := 2) sc_law_bytes.nd rfl (Or.inl rfl) (pe_cg G_law_next hr rfl (pa_cons (pv 0) (pa_cons pe_int pa_nil))))
  (Evl.pss_cut (ps_if (pt_cmpR op_lt (pv 2) pe_int (nomark _)) (pss_one (ps_set (i := 1) sc_law_bytes.nd rfl (Or.inl rfl) (pe_op op_add pe_int (pe_cg G_law_next hr rfl (pa_cons (pv 0) (pa_cons pe_int pa_nil)))))) (pss_one (ps_if (pt_cmpR op_lt (pv 2) pe_int (nomark _)) (pss_one (ps_set (i := 1) sc_law_bytes.nd rfl (Or.inl rfl) (pe_op op_add pe_int (pe_cg G_law_next hr rfl (pa_cons (pv 0) (pa_cons pe_int pa_nil)))))) (pss_one (ps_if (pt_cmpR op_eq (pv 2) pe_int (nomark _)) (pss_one (ps_set (i := 1) sc_law_bytes.nd rfl (Or.inl rfl) (pe_op op_add pe_int (pe_cg G_law_next hr rfl (pa_cons (pv 0) (pa_cons pe_int pa_nil)))))) pss_nil)))))
  (pss_cons (ps_set (i := 3) sc_law_bytes.nd rfl (Or.inr rfl) (pe_cg G_law_next hr rfl (pa_cons (pv 0) (pa_cons pe_int pa_nil))))
  (pss_one (ps_ret (pe_lc (own := [("k", 4)]) (g := (gName 4)) (tt := tYes) rfl sc_law_bytes.nd (pi_range1 rfl T.b_range (pa_cons (pv 1) pa_nil)) (blkOk_by (N := ["state", "count", "pick", "start", "k"]) (sc := defScope s_law_bytes) (by decide +kernel)) (fun _ _ _ _ _ => (pg_name (i := 4) sc_law_bytes.nd rfl (Or.inl rfl))) (fun _ _ _ _ _ => pts_nil) (fun _ _ _ _ _ => (pe_op op_mod (pe_op op_add (pv 3) (pe_op op_mul (pe_op op_mul pe_int (pv 4)) (pv 4))) pe_int))))))))), ?_⟩
  refine ⟨_, rfl, O, st, 6, rfl, by decide, hS, fun c H1 c0 c1 _ u1 S1 => ?_⟩
  refine ⟨_, rfl, O, st, 24, rfl, by decide, S1, fun pk H2 p0 p1 _ u2 S2 => ?_⟩
  refine ⟨fun σ' H' => ∃ cnt : Int, σ' = [some (.ref st), some (.int cnt), some (.int pk), none, none] ∧ Up [st] H H' ∧ StA K O H' st ∧ 0 ≤ cnt ∧ cnt ≤ 2001, ?_, ?_⟩
  · have u12 := u1.trans u2
    refine ⟨_, rfl, _, _, rfl, rfl, _, rfl, brD (fun _ => ?_) (fun _ => ?_)⟩
    · exact ⟨_, rfl, O, st, 181, rfl, by decide, S2, fun r H3 r0 r1 _ u3 S3 => ⟨_, _, rfl, rfl, _, rfl, u12.trans u3, S3, by omega, by omega⟩⟩
    refine ⟨_, rfl, _, _, rfl, rfl, _, rfl, brD (fun _ => ?_) (fun _ => ?_)⟩
    · exact ⟨_, rfl, O, st, 114, rfl, by decide, S2, fun r H3 r0 r1 _ u3 S3 => ⟨_, _, rfl, rfl, _, rfl, u12.trans u3, S3, by omega, by omega⟩⟩
    refine ⟨_, rfl, rfl, _, rfl, brD (fun _ => ?_) (fun _ => ?_)⟩
    · exact ⟨_, rfl, O, st, 1700, rfl, by decide, S2, fun r H3 r0 r1 _ u3 S3 => ⟨_, _, rfl, rfl, _, rfl, u12.trans u3, S3, by omega, by omega⟩⟩
    · exact ⟨_, rfl, u12, S2, by omega, by omega⟩
  rintro σ' H3 ⟨cnt, rfl, u3, S3, n0, n1⟩
  refine ⟨_, rfl, O, st, 256, rfl, by decide, S3, fun sv H4 v0 v1 _ u4 S4 => ?_⟩
  refine ⟨_, rfl, cnt, rfl, by omega, by omega, fun D hD => lc_range (lo := 0) (n := cnt.toNat) (fun i H' => ∃ ns : List Int, H' D = some (.lst (ns.map V.int)) ∧ ns.length = i ∧ Byts ns ∧ Same H4 H') ⟨[], upd_same, rfl, fun b hb => (by cases hb), same_upd hD⟩ ?_ ?_⟩
  · rintro i H5 hi ⟨ns, e1, e2, e3, e4⟩
    have hi2 : i < 2001 := by omega
    refine ⟨rfl, _, rfl, _, rfl, _, _, rfl, rfl, .inl ⟨by decide, by decide⟩, _, rfl, _, _, rfl, rfl, .inr ⟨by show -(2 ^ 64) < (0 + (i : Int)); omega, by show (0 + (i : Int)) < 2 ^ 64; omega⟩, _, _, rfl, rfl, _, _, rfl, rfl, (by show (0 : Int) < 256; decide), ?_⟩
    refine ⟨_, e1, szl _ (by rw [List.length_map]; omega), ns ++ [(sv + 41 * (0 + (i : Int)) * (0 + (i : Int))) % 256], by rw [upd_same]; simp, by simp [e2], fun b hb => ?_, fun b o z => ?_⟩
    · rcases List.mem_append.mp hb with hb | hb
      · exact e3 b hb
      · simp only [List.mem_singleton] at hb
        rw [hb]
        exact ⟨Int.emod_nonneg _ (by decide), Int.emod_lt_of_pos _ (by decide)⟩
    · rw [upd_ne (ne_of_none z hD)]
      exact e4 _ _ z
  · rintro H5 ⟨ns, e1, e2, e3, e4⟩
    have u5 := (u3.trans u4).trans (Up.of e4)
    exact q D ns H5 ((u3.trans u4).back (by obtain ⟨ys, hy⟩ := S4.is; simp [hy]) hD) u5 (S4.le e4) e1 e3 (by omega)
theorem ok_law_behind {f : Addr} {fd : FuncData} (F : Fun K "_law_behind" "_law_behind" s_law_behind f fd) (T : Txt K mg) (G_law_next : GF P w K mg base CX0 "_law_next" 3 ["state", "limit"] (spNextA K)) (G_law_number : GF P w K mg base CX0 "_law_number" 1 ["number"] spWnum)
    (G_law_record : GF P w K mg base CX0 "_law_record" 2 ["data"] (spWrecL K)) (G_law_bytes : GF P w K mg base CX0 "_law_bytes" 4 ["state"] (spBytes K)) : FnOk P w K mg base CX0 5 f fd ["state"] (spBehind K) := by
  refine F.ok sc_law_behind (fun vs H Q E h => ?_) (fun cdv A outer s H vs Q E hr h => ?_)
  · obtain ⟨_, _, rfl, _⟩ := h
    rfl
  obtain ⟨O, st, rfl, hS, hO, q⟩ := h
  refine ⟨_, (pss_cons (ps_set (i := 1) sc_law_behind.nd rfl (Or.inl rfl) (pe_cg G_law_bytes hr rfl (pa_cons (pv 0) pa_nil)))
  (pss_cons (ps_set (i := 2) sc_law_behind.nd rfl (Or.inl rfl) (pe_cg G_law_record hr rfl (pa_cons (pv 1) pa_nil)))
  (Evl.pss_cut (ps_set (i := 3) sc_law_behind.nd rfl (Or.inl rfl) (pe_ix ix_list (pe_lst (pa_cons (pe_lst pa_nil) (pa_cons (pe_op op_cat (pe_cg G_law_record hr rfl (pa_cons (pe_lst (pa_cons pe_int (pa_cons pe_int (pa_cons pe_int pa_nil)))) pa_nil)) (pe_cg G_law_record hr rfl (pa_cons (pe_lst pa_nil) pa_nil))) pa_nil))) (pe_cg G_law_next hr rfl (pa_cons (pv 0) (pa_cons pe_int pa_nil))) (fun _ _ => rfl)))
  (pss_cons (ps_set (i := 4) sc_law_behind.nd rfl (Or.inl rfl) (pe_cg G_law_next hr rfl (pa_cons (pv 0) (pa_cons pe_int pa_nil))))
  (pss_cons (ps_if (pt_cmpR op_eq (pv 4) pe_int (nomark _)) (pss_one (ps_ret (pe_lst pa_nil))) pss_nil)
  (pss_cons (ps_if (pt_cmpR op_eq (pv 4) pe_int (nomark _)) (pss_one (ps_ret (pe_slice sl_list (pv 2) po_none (po_some (pe_cg G_law_next hr rfl (pa_cons (pv 0) (pa_cons (pe_callB call_len_seq (by rfl) T.b_len bt_len (pa_cons (pv 2) pa_nil)) pa_nil))))))) pss_nil)
  (pss_cons (ps_if (pt_cmpR op_eq (pv 4) pe_int (nomark _)) (Evl.pss_cut (ps_set (i := 5) sc_law_behind.nd rfl (Or.inl rfl) (pe_op op_sub (pe_op op_sub (pe_callB call_len_seq (by rfl) T.b_len bt_len (pa_cons (pv 2) pa_nil)) pe_int) (pe_cg G_law_next hr rfl (pa_cons (pv 0) (pa_cons pe_int pa_nil)))))
  (pss_one (ps_ret (pe_op op_cat (pe_op op_cat (pe_op op_cat (pe_slice sl_list (pv 2) po_none (po_some (pv 5))) (pe_lst (pa_cons (pe_op op_mod (pe_op op_add (pe_op op_add (pe_ix ix_list (pv 2) (pv 5) (fun _ _ => rfl)) pe_int) (pe_cg G_law_next hr rfl (pa_cons (pv 0) (pa_cons pe_int pa_nil)))) pe_int) pa_nil))) (pe_slice sl_list (pv 2) (po_some (pe_op op_add (pv 5) pe_int)) po_none)) (pv 3))))) pss_nil)
  (Evl.pss_cut (ps_if (PW.pt (pw_and (pt_cmpR op_eq (pv 4) pe_int (nomark _)) (pw_and1 (pt_cmpR op_gt (pe_callB call_len_seq (by rfl) T.b_len bt_len (pa_cons (pv 1) pa_nil)) pe_int (nomark _))))) (Evl.pss_cut (ps_set (i := 5) sc_law_behind.nd rfl (Or.inl rfl) (pe_op op_sub (pe_op op_sub (pe_callB call_len_seq (by rfl) T.b_len bt_len (pa_cons (pv 2) pa_nil)) pe_int) (pe_cg G_law_next hr rfl (pa_cons (pv 0) (pa_cons (pe_callB call_len_seq (by rfl) T.b_len bt_len (pa_cons (pv 1) pa_nil)) pa_nil)))))
  (pss_one (ps_ret (pe_op op_cat (pe_op op_cat (pe_op op_cat (pe_slice sl_list (pv 2) po_none (po_some (pv 5))) (pe_lst (pa_cons (pe_op op_mod (pe_op op_add (pe_op op_add (pe_ix ix_list (pv 2) (pv 5) (fun _ _ => rfl)) pe_int) (pe_cg G_law_next hr rfl (pa_cons (pv 0) (pa_cons pe_int pa_nil)))) pe_int) pa_nil))) (pe_slice sl_list (pv 2) (po_some (pe_op op_add (pv 5) pe_int)) po_none)) (pv 3))))) pss_nil)
  (pss_cons (ps_set (i := 6) sc_law_behind.nd rfl (Or.inl rfl) (pe_cg G_law_number hr rfl (pa_cons (pe_callB call_len_seq (by rfl) T.b_len bt_len (pa_cons (pv 1) pa_nil)) pa_nil)))
  (Evl.pss_cut (ps_set (i := 7) sc_law_behind.nd rfl (Or.inl rfl) (pe_op op_cat (pe_op op_cat (pe_lst (pa_cons (pe_op op_add (pe_ix ix_list (pv 6) (pe_op op_sub (pe_callB call_len_seq (by rfl) T.b_len bt_len (pa_cons (pv 6) pa_nil)) pe_int) (fun _ _ => rfl)) pe_int) pa_nil)) (pe_op op_rep (pe_lst (pa_cons pe_int pa_nil)) (pe_cg G_law_next hr rfl (pa_cons (pv 0) (pa_cons pe_int pa_nil))))) (pe_lst (pa_cons pe_int pa_nil))))
  (pss_one (ps_ret (pe_op op_cat (pe_op op_cat (pe_op op_cat (pe_slice sl_list (pv 6) po_none (po_some (pe_op op_sub (pe_callB call_len_seq (by rfl) T.b_len bt_len (pa_cons (pv 6) pa_nil)) pe_int))) (pv 7)) (pe_slice sl_list (pv 2) (po_some (pe_callB call_len_seq (by rfl) T.b_len bt_len (pa_cons (pv 6) pa_nil))) po_none)) (pv 3)))))))))))))), ?_⟩
  have hst : ∀ {H' : Hp}, StA K O H' st → ∀ a ∈ [st], H' a ≠ none := fun h => by obtain ⟨ys, hy⟩ := h.is; simp [hy]
  refine ⟨_, rfl, O, st, rfl, hS, fun dt ds H1 nd u1 S1 hd hb hl => ?_⟩
  refine ⟨_, rfl, dt, ds, rfl, hd, by omega, fun rc H2 nr s2 hr => ?_⟩
  have wl := wrec_len ds
  have w3 := wnum_sz (n := ds.length) (by omega)
  refine ⟨fun σ' H' => ∃ (fr : Addr) (fs : List Int), σ' = [some (.ref st), some (.ref dt), some (.ref rc), some (.ref fr), none, none, none, none] ∧ Up [st] H H' ∧ StA K O H' st ∧ H' dt = some (.lst (ds.map V.int)) ∧ H' rc = some (.lst ((wrec ds).map V.int)) ∧
    H' fr = some (.lst (fs.map V.int)) ∧ fs.length ≤ 100, ?_, ?_⟩
  · refine ⟨Nat.zero_le _, fun x1 hx1 => ?_⟩
    have s3 := same_upd (o := .lst []) hx1; have h3 := upd_same (H := H2) (a := x1) (o := .lst []); generalize upd H2 x1 (.lst []) = H3 at s3 h3 ⊢
    refine ⟨sz 3 (by decide), fun x2 hx2 => ?_⟩
    have s4 := same_upd (o := .lst [.int 1, .int 2, .int 3]) hx2; have h4 := upd_same (H := H3) (a := x2) (o := .lst [.int 1, .int 2, .int 3]); generalize upd H3 x2 (.lst [.int 1, .int 2, .int 3]) = H4 at s4 h4 ⊢
    refine ⟨x2, [1, 2, 3], rfl, h4, by decide, fun x3 H5 nx3 s5 h5 => ?_⟩
    refine ⟨Nat.zero_le _, fun x4 hx4 => ?_⟩
    have s6 := same_upd (o := .lst []) hx4; have h6 := upd_same (H := H5) (a := x4) (o := .lst []); generalize upd H5 x4 (.lst []) = H6 at s6 h6 ⊢
    refine ⟨x4, [], rfl, h6, by decide, fun x5 H7 nx5 s7 h7 => ?_⟩
    have l3 : (wrec [1, 2, 3]).length = 8 := by rw [wrec_len, wnum_lt (by decide)]; rfl
    have l0 : (wrec []).length = 5 := by rw [wrec_len, wnum_lt (by decide)]; rfl
    refine ⟨x3, x5, _, _, rfl, rfl, s7 _ _ (s6 _ _ h5), h7, sz _ (by rw [List.length_map, List.length_map, l3, l0]; decide), fun x6 hx6 => ?_⟩
    rw [← List.map_append]
    have s8 := same_upd (o := .lst ((wrec [1, 2, 3] ++ wrec []).map V.int)) hx6; have h8 := upd_same (H := H7) (a := x6) (o := .lst ((wrec [1, 2, 3] ++ wrec []).map V.int)); generalize upd H7 x6 (.lst ((wrec [1, 2, 3] ++ wrec []).map V.int)) = H8 at s8 h8 ⊢
    refine ⟨sz 2 (by decide), fun x7 hx7 => ?_⟩
    have s9 := same_upd (o := .lst [.ref x1, .ref x6]) hx7; have h9 := upd_same (H := H8) (a := x7) (o := .lst [.ref x1, .ref x6]); generalize upd H8 x7 (.lst [.ref x1, .ref x6]) = H9 at s9 h9 ⊢
    have sA : Same H2 H9 := s3.trans (s4.trans (s5.trans (s6.trans (s7.trans (s8.trans s9)))))
    have S9 := (S1.le s2).le sA
    refine ⟨_, rfl, O, st, 2, rfl, by decide, S9, fun r Ha r0 r1 _ ua Sa => ?_⟩
    have n7 : x7 ≠ st := fun e => by
      obtain ⟨ys, hy⟩ := S9.is
      obtain ⟨zs, hz⟩ := ((S1.le s2).le (s3.trans (s4.trans (s5.trans (s6.trans (s7.trans s8)))))).is
      rw [e, hz] at hx7
      cases hx7
    have hns : ∀ {a : Addr} {o : HO}, H9 a = some o → a ≠ st → Ha a = some o := fun h n => ua _ _ (by simpa using n) h
    have hst2 : ∀ {a : Addr}, H2 a = none → a ≠ st := fun h e => by
      obtain ⟨ys, hy⟩ := (S1.le s2).is
      rw [e, hy] at h
      cases h
    have hst1 : ∀ {a : Addr}, H a = none → a ≠ st := fun h e => by
      obtain ⟨ys, hy⟩ := hS.is
      rw [e, hy] at h
      cases h
    have hx6' : H2 x6 = none := (s3.trans (s4.trans (s5.trans (s6.trans s7)))).free hx6
    have hr1 : rc ≠ st := fun e => by
      obtain ⟨ys, hy⟩ := S1.is
      rw [e, hy] at nr
      cases nr
    have u9 : Up [st] H Ha := u1.trans ((Up.of (s2.trans sA)).trans ua)
    have hd9 := hns (sA _ _ (s2 _ _ hd)) (hst1 nd)
    have hr9 := hns (sA _ _ hr) hr1
    have h71 := hns h9 n7
    have r01 : r = 0 ∨ r = 1 := by omega
    rcases r01 with rfl | rfl
    · exact ⟨x7, _, 0, _, rfl, rfl, SqL.of h71, rfl, x1, [], rfl, u9, Sa, hd9, hr9, hns ((s4.trans (s5.trans (s6.trans (s7.trans (s8.trans s9))))) _ _ h3) (hst2 hx1), by simp⟩
    · exact ⟨x7, _, 1, _, rfl, rfl, SqL.of h71, rfl, x6, _, rfl, u9, Sa, hd9, hr9, hns (s9 _ _ h8) (hst2 hx6'), by rw [List.length_append, l3, l0]; decide⟩
  rintro σ' H3 ⟨fr, fs, rfl, u3, S3, hd3, hr3, hf3, fl⟩
  clear nd u1 S1 hd nr s2 hr
  refine ⟨_, rfl, O, st, 5, rfl, by decide, S3, fun pk H4 p0 p1 _ u4 S4 => ?_⟩
  have hd4 := u4 _ _ (by simpa using S3.ints hd3) hd3
  have hr4 := u4 _ _ (by simpa using S3.ints hr3) hr3
  have hf4 := u4 _ _ (by simpa using S3.ints hf3) hf3
  have u4' := u3.trans u4
  refine ⟨_, rfl, rfl, _, rfl, brD (fun _ => ?_) (fun _ => ?_)⟩
  · -- []
    refine ⟨Nat.zero_le _, fun r hr => ?_⟩
    exact q r [] _ (u4'.back (hst S4) hr) (u4'.trans (Up.new hr)) (S4.le (same_upd hr)) upd_same parse_nil (Nat.zero_le _)
  refine ⟨_, rfl, rfl, _, rfl, brD (fun _ => ?_) (fun _ => ?_)⟩
  · -- a beginning
    refine ⟨_, rfl, _, rfl, _, rfl, rc, _, rfl, .inl (SqL.of hr4), ?_⟩
    refine ⟨O, st, ((wrec ds).length : Nat), by rw [List.length_map], by omega, S4, fun r H5 r0 r1 _ u5 S5 => ?_⟩
    have hr5 := u5 _ _ (by simpa using S4.ints hr4) hr4
    obtain ⟨rn, rfl⟩ : ∃ rn : Nat, r = (rn : Int) := ⟨r.toNat, by omega⟩
    refine ⟨_, rfl, rc, _, rfl, SqL.of hr5, fun c hc => ?_⟩
    rw [cut_up, ← List.map_take]
    have u5' := u4'.trans u5
    exact q c _ _ (u5'.back (hst S5) hc) (u5'.trans (Up.new hc)) (S5.le (same_upd hc)) upd_same (parse_cut (by omega) (by omega)) (by rw [List.length_take]; omega)
  refine ⟨_, rfl, rfl, _, rfl, brD (fun _ => ?_) (fun _ => ?_)⟩
  · -- a byte of the checksum
    refine ⟨fun σ' H' => ∃ atn i : Nat, σ' = [some (.ref st), some (.ref dt), some (.ref rc), some (.ref fr), some (.int pk), some (.int (atn : Int)), none, none] ∧ Up [st] H H' ∧ StA K O H' st ∧ H' rc = some (.lst ((wrec ds).map V.int)) ∧ H' fr = some (.lst (fs.map V.int)) ∧ i < 4 ∧ atn = (wnum ds.length).length + ds.length + i, ?_, ?_⟩
    · refine ⟨_, rfl, rc, _, rfl, .inl (SqL.of hr4), _, _, rfl, rfl, _, rfl, O, st, 4, rfl, by decide, S4, fun j H5 j0 j1 _ u5 S5 => ⟨_, _, rfl, rfl, (wnum ds.length).length + ds.length + (3 - j.toNat), 3 - j.toNat, ?_, u4'.trans u5, S5, u5 _ _ (by simpa using S4.ints hr4) hr4, u5 _ _ (by simpa using S4.ints hf4) hf4, by omega, rfl⟩⟩
      have e : ((((wrec ds).map V.int).length : Nat) : Int) - 1 - j = (((wnum ds.length).length + ds.length + (3 - j.toNat) : Nat) : Int) := by rw [List.length_map]; omega
      rw [← e]
      rfl
    rintro σ' H5 ⟨atn, i, rfl, u5, S5, hr5, hf5, i4, han⟩
    have hat : atn < (wrec ds).length := by omega
    refine ⟨_, rfl, _, rfl, _, rfl, rc, _, rfl, SqL.of hr5, fun c1 hc1 => ?_⟩
    rw [cut_up, ← List.map_take]
    have s6 := same_upd (o := .lst (((wrec ds).take atn).map V.int)) hc1; have h6 := upd_same (H := H5) (a := c1) (o := .lst (((wrec ds).take atn).map V.int)); generalize upd H5 c1 (.lst (((wrec ds).take atn).map V.int)) = H6 at s6 h6 ⊢
    have S6 := S5.le s6
    refine ⟨_, rfl, _, rfl, rc, _, _, _, rfl, rfl, SqL.of (s6 _ _ hr5), ints_at hat, _, _, rfl, rfl, ?_⟩
    refine ⟨_, rfl, O, st, 255, rfl, by decide, S6, fun e H7 e0 e1 _ u7 S7 => ?_⟩
    have k7 : ∀ {a : Addr} {o : List Int}, H6 a = some (.lst (o.map V.int)) → H7 a = some (.lst (o.map V.int)) := fun h => u7 _ _ (by simpa using S6.ints h) h
    refine ⟨_, _, rfl, rfl, _, _, rfl, rfl, (by show (0 : Int) < 256; decide), sz 1 (by decide), fun c2 hc2 => ?_⟩
    obtain ⟨v, hv⟩ : ∃ v, v = ((wrec ds)[atn] + 1 + e) % 256 := ⟨_, rfl⟩
    show rCat (V.ref c1) (V.ref c2) (upd H7 c2 (.lst [.int (((wrec ds)[atn] + 1 + e) % 256)])) _
    rw [← hv]
    show rCat (V.ref c1) (V.ref c2) (upd H7 c2 (.lst ([v].map V.int))) _
    have s8 := same_upd (o := .lst ([v].map V.int)) hc2; have h8 := upd_same (H := H7) (a := c2) (o := .lst ([v].map V.int)); generalize upd H7 c2 (.lst ([v].map V.int)) = H8 at s8 h8 ⊢
    have tl : ((wrec ds).take atn).length ≤ (wrec ds).length := by rw [List.length_take]; omega
    have dl : ((wrec ds).drop (atn + 1)).length ≤ (wrec ds).length := by rw [List.length_drop]; omega
    refine ⟨c1, c2, _, _, rfl, rfl, s8 _ _ (k7 h6), h8, sz _ (by rw [List.length_map, List.length_map]; simp only [List.length_singleton]; omega), fun c3 hc3 => ?_⟩
    rw [← List.map_append]
    have s9 := same_upd (o := .lst (((wrec ds).take atn ++ [v]).map V.int)) hc3; have h9 := upd_same (H := H8) (a := c3) (o := .lst (((wrec ds).take atn ++ [v]).map V.int)); generalize upd H8 c3 (.lst (((wrec ds).take atn ++ [v]).map V.int)) = H9 at s9 h9 ⊢
    have s89 := s8.trans s9
    refine ⟨_, rfl, _, rfl, _, _, rfl, rfl, _, rfl, rc, _, rfl, SqL.of (s89 _ _ (k7 (s6 _ _ hr5))), fun c4 hc4 => ?_⟩
    have ec4 : cutV ((wrec ds).map V.int) (some ((atn : Int) + 1)) none = ((wrec ds).drop (atn + 1)).map V.int := by rw [List.map_drop]; exact cut_fr (a := atn + 1)
    rw [ec4]
    have sa := same_upd (o := .lst (((wrec ds).drop (atn + 1)).map V.int)) hc4; have ha := upd_same (H := H9) (a := c4) (o := .lst (((wrec ds).drop (atn + 1)).map V.int)); generalize upd H9 c4 (.lst (((wrec ds).drop (atn + 1)).map V.int)) = Ha at sa ha ⊢
    refine ⟨c3, c4, _, _, rfl, rfl, sa _ _ h9, ha, sz _ (by rw [List.length_map, List.length_map, List.length_append]; simp only [List.length_singleton]; omega), fun c5 hc5 => ?_⟩
    rw [← List.map_append]
    have sb := same_upd (o := .lst (((wrec ds).take atn ++ [v] ++ (wrec ds).drop (atn + 1)).map V.int)) hc5; have hb' := upd_same (H := Ha) (a := c5) (o := .lst (((wrec ds).take atn ++ [v] ++ (wrec ds).drop (atn + 1)).map V.int)); generalize upd Ha c5 (.lst (((wrec ds).take atn ++ [v] ++ (wrec ds).drop (atn + 1)).map V.int)) = Hb at sb hb' ⊢
    have s8b := s89.trans (sa.trans sb)
    refine ⟨_, rfl, c5, fr, _, _, rfl, rfl, hb', s8b _ _ (k7 (s6 _ _ hf5)), sz _ (by rw [List.length_map, List.length_map, List.length_append, List.length_append]; simp only [List.length_singleton]; omega), fun c6 hc6 => ?_⟩
    rw [← List.map_append, set_form hat]
    have Sb := S7.le s8b
    have ub := u5.trans ((Up.of s6).trans (u7.trans (Up.of s8b)))
    refine q c6 _ _ (ub.back (hst Sb) hc6) (ub.trans (Up.new hc6)) (Sb.le (same_upd hc6)) upd_same ?_ (by rw [List.length_append, List.length_set]; omega)
    have hb1 : (wrec ds)[atn] ∈ tail4 (csum ds) ∧ (tail4 (csum ds))[i]? = some ((wrec ds)[atn]) := by
      have e1 : (wrec ds)[atn]? = (tail4 (csum ds))[i]? := by
        unfold wrec
        rw [List.getElem?_append_right (by rw [List.length_append]; omega), List.length_append]
        congr 1
        omega
      rw [List.getElem?_eq_getElem hat] at e1
      exact ⟨List.mem_of_getElem? e1.symm, e1.symm⟩
    have hob := other_byte (tail4_bytes (csum_in ds) _ hb1.1) e0 e1
    rw [← hv] at hob
    rw [han]
    exact parse_sum (by omega) i4 (by rw [hb1.2]; intro z; exact hob.2.2 (Option.some.inj z).symm)
  refine ⟨fun σ' H' => σ' = [some (.ref st), some (.ref dt), some (.ref rc), some (.ref fr), some (.int pk), none, none, none] ∧ H' = H4, ?_, ?_⟩
  · refine ⟨_, rfl, rfl, _, rfl, brD (fun _ => ?_) (fun _ => ⟨rfl, rfl⟩)⟩
    refine ⟨_, rfl, dt, _, rfl, .inl (SqL.of hd4), _, _, rfl, rfl, _, rfl, brD (fun e5 => ?_) (fun _ => ⟨rfl, rfl⟩)⟩
    rw [List.length_map] at e5
    refine ⟨fun σ' H' => ∃ atn i : Nat, σ' = [some (.ref st), some (.ref dt), some (.ref rc), some (.ref fr), some (.int pk), some (.int (atn : Int)), none, none] ∧ Up [st] H H' ∧ StA K O H' st ∧ H' rc = some (.lst ((wrec ds).map V.int)) ∧ H' fr = some (.lst (fs.map V.int)) ∧ i < ds.length ∧ atn = (wnum ds.length).length + i, ?_, ?_⟩
    · refine ⟨_, rfl, rc, _, rfl, .inl (SqL.of hr4), _, _, rfl, rfl, _, rfl, _, rfl, dt, _, rfl, .inl (SqL.of hd4), O, st, (ds.length : Nat), by rw [List.length_map], by omega, S4, fun j H5 j0 j1 _ u5 S5 => ⟨_, _, rfl, rfl, (wnum ds.length).length + (ds.length - 1 - j.toNat), ds.length - 1 - j.toNat, ?_, u4'.trans u5, S5, u5 _ _ (by simpa using S4.ints hr4) hr4, u5 _ _ (by simpa using S4.ints hf4) hf4, by omega, rfl⟩⟩
      have e : ((((wrec ds).map V.int).length : Nat) : Int) - 5 - j = (((wnum ds.length).length + (ds.length - 1 - j.toNat) : Nat) : Int) := by rw [List.length_map]; omega
      rw [← e]
      rfl
    rintro σ' H5 ⟨atn, i, rfl, u5, S5, hr5, hf5, i4, han⟩
    have hat : atn < (wrec ds).length := by omega
    refine ⟨_, rfl, _, rfl, _, rfl, rc, _, rfl, SqL.of hr5, fun c1 hc1 => ?_⟩
    rw [cut_up, ← List.map_take]
    have s6 := same_upd (o := .lst (((wrec ds).take atn).map V.int)) hc1; have h6 := upd_same (H := H5) (a := c1) (o := .lst (((wrec ds).take atn).map V.int)); generalize upd H5 c1 (.lst (((wrec ds).take atn).map V.int)) = H6 at s6 h6 ⊢
    have S6 := S5.le s6
    refine ⟨_, rfl, _, rfl, rc, _, _, _, rfl, rfl, SqL.of (s6 _ _ hr5), ints_at hat, _, _, rfl, rfl, ?_⟩
    refine ⟨_, rfl, O, st, 255, rfl, by decide, S6, fun e H7 e0 e1 _ u7 S7 => ?_⟩
    have k7 : ∀ {a : Addr} {o : List Int}, H6 a = some (.lst (o.map V.int)) → H7 a = some (.lst (o.map V.int)) := fun h => u7 _ _ (by simpa using S6.ints h) h
    refine ⟨_, _, rfl, rfl, _, _, rfl, rfl, (by show (0 : Int) < 256; decide), sz 1 (by decide), fun c2 hc2 => ?_⟩
    obtain ⟨v, hv⟩ : ∃ v, v = ((wrec ds)[atn] + 1 + e) % 256 := ⟨_, rfl⟩
    show rCat (V.ref c1) (V.ref c2) (upd H7 c2 (.lst [.int (((wrec ds)[atn] + 1 + e) % 256)])) _
    rw [← hv]
    show rCat (V.ref c1) (V.ref c2) (upd H7 c2 (.lst ([v].map V.int))) _
    have s8 := same_upd (o := .lst ([v].map V.int)) hc2; have h8 := upd_same (H := H7) (a := c2) (o := .lst ([v].map V.int)); generalize upd H7 c2 (.lst ([v].map V.int)) = H8 at s8 h8 ⊢
    have tl : ((wrec ds).take atn).length ≤ (wrec ds).length := by rw [List.length_take]; omega
    have dl : ((wrec ds).drop (atn + 1)).length ≤ (wrec ds).length := by rw [List.length_drop]; omega
    refine ⟨c1, c2, _, _, rfl, rfl, s8 _ _ (k7 h6), h8, sz _ (by rw [List.length_map, List.length_map]; simp only [List.length_singleton]; omega), fun c3 hc3 => ?_⟩
    rw [← List.map_append]
    have s9 := same_upd (o := .lst (((wrec ds).take atn ++ [v]).map V.int)) hc3; have h9 := upd_same (H := H8) (a := c3) (o := .lst (((wrec ds).take atn ++ [v]).map V.int)); generalize upd H8 c3 (.lst (((wrec ds).take atn ++ [v]).map V.int)) = H9 at s9 h9 ⊢
    have s89 := s8.trans s9
    refine ⟨_, rfl, _, rfl, _, _, rfl, rfl, _, rfl, rc, _, rfl, SqL.of (s89 _ _ (k7 (s6 _ _ hr5))), fun c4 hc4 => ?_⟩
    have ec4 : cutV ((wrec ds).map V.int) (some ((atn : Int) + 1)) none = ((wrec ds).drop (atn + 1)).map V.int := by rw [List.map_drop]; exact cut_fr (a := atn + 1)
    rw [ec4]
    have sa := same_upd (o := .lst (((wrec ds).drop (atn + 1)).map V.int)) hc4; have ha := upd_same (H := H9) (a := c4) (o := .lst (((wrec ds).drop (atn + 1)).map V.int)); generalize upd H9 c4 (.lst (((wrec ds).drop (atn + 1)).map V.int)) = Ha at sa ha ⊢
    refine ⟨c3, c4, _, _, rfl, rfl, sa _ _ h9, ha, sz _ (by rw [List.length_map, List.length_map, List.length_append]; simp only [List.length_singleton]; omega), fun c5 hc5 => ?_⟩
    rw [← List.map_append]
    have sb := same_upd (o := .lst (((wrec ds).take atn ++ [v] ++ (wrec ds).drop (atn + 1)).map V.int)) hc5; have hb' := upd_same (H := Ha) (a := c5) (o := .lst (((wrec ds).take atn ++ [v] ++ (wrec ds).drop (atn + 1)).map V.int)); generalize upd Ha c5 (.lst (((wrec ds).take atn ++ [v] ++ (wrec ds).drop (atn + 1)).map V.int)) = Hb at sb hb' ⊢
    have s8b := s89.trans (sa.trans sb)
    refine ⟨_, rfl, c5, fr, _, _, rfl, rfl, hb', s8b _ _ (k7 (s6 _ _ hf5)), sz _ (by rw [List.length_map, List.length_map, List.length_append, List.length_append]; simp only [List.length_singleton]; omega), fun c6 hc6 => ?_⟩
    rw [← List.map_append, set_form hat]
    have Sb := S7.le s8b
    have ub := u5.trans ((Up.of s6).trans (u7.trans (Up.of s8b)))
    refine q c6 _ _ (ub.back (hst Sb) hc6) (ub.trans (Up.new hc6)) (Sb.le (same_upd hc6)) upd_same ?_ (by rw [List.length_append, List.length_set]; omega)
    have hb1 : (wrec ds)[atn] = ds[i] := by
      have e1 : (wrec ds)[atn]? = ds[i]? := by
        unfold wrec
        rw [List.getElem?_append_left (by rw [List.length_append]; omega), List.getElem?_append_right (by omega)]
        congr 1
        omega
      rw [List.getElem?_eq_getElem hat, List.getElem?_eq_getElem i4] at e1
      exact Option.some.inj e1
    rw [hb1] at hv
    have hob := other_byte (hb _ (List.getElem_mem i4)) e0 e1
    rw [← hv] at hob
    rw [han]
    exact parse_data (by omega) i4 hb ⟨hob.1, hob.2.1⟩ hob.2.2
  rintro σ' H' ⟨rfl, rfl⟩
  refine ⟨_, rfl, dt, _, rfl, .inl (SqL.of hd4), ds.length, by rw [List.length_map], by omega, fun z H5 nz s5 hz => ?_⟩
  have hw : wnum ds.length ≠ [] := fun e => by have := wnum_pos ds.length; rw [e] at this; exact absurd this (by decide)
  obtain ⟨ini, las, hil⟩ : ∃ ini las, wnum ds.length = ini ++ [las] := ⟨_, _, (List.dropLast_concat_getLast hw).symm⟩
  rw [hil] at hz
  have ls : (ini ++ [las]).length = ini.length + 1 := by simp
  have w3b := w3
  rw [hil] at w3b
  have il : ini.length ≤ 2 := by omega
  have S5 := S4.le s5
  have u5 := u4'.trans (Up.of s5)
  have hatz : atI ((ini ++ [las]).map V.int) ((((ini ++ [las]).map V.int).length : Nat) - 1 : Int) = some (.int las) := by
    have e1 : ((((ini ++ [las]).map V.int).length : Nat) - 1 : Int) = (ini.length : Int) := by rw [List.length_map, ls]; omega
    rw [e1]
    exact (ints_at (l := ini ++ [las]) (i := ini.length) (by omega)).trans (by simp)
  refine ⟨fun σ' H' => ∃ (nd : Addr) (r : Nat), σ' = [some (.ref st), some (.ref dt), some (.ref rc), some (.ref fr), some (.int pk), none, some (.ref z), some (.ref nd)] ∧ Up [st] H H' ∧ StA K O H' st ∧ H' rc = some (.lst ((wrec ds).map V.int)) ∧ H' fr = some (.lst (fs.map V.int)) ∧
    H' z = some (.lst ((ini ++ [las]).map V.int)) ∧ H' nd = some (.lst (((las + 128) :: (List.replicate r 128 ++ [0])).map V.int)) ∧ r < 3, ?_, ?_⟩
  · refine ⟨_, rfl, _, rfl, z, _, rfl, .inl (SqL.of hz), _, _, rfl, rfl, z, _, _, _, rfl, rfl, SqL.of hz, hatz, _, _, rfl, rfl, sz 1 (by decide), fun c1 hc1 => ?_⟩
    have s6 := same_upd (o := .lst [.int (las + 128)]) hc1; have h6 := upd_same (H := H5) (a := c1) (o := .lst [.int (las + 128)]); generalize upd H5 c1 (.lst [.int (las + 128)]) = H6 at s6 h6 ⊢
    refine ⟨sz 1 (by decide), fun c2 hc2 => ?_⟩
    have s7 := same_upd (o := .lst [.int 128]) hc2; have h7 := upd_same (H := H6) (a := c2) (o := .lst [.int 128]); generalize upd H6 c2 (.lst [.int 128]) = H7 at s7 h7 ⊢
    have S7 := (S5.le s6).le s7
    refine ⟨_, rfl, O, st, 3, rfl, by decide, S7, fun r H8 r0 r1 _ u8 S8 => ?_⟩
    obtain ⟨rn, rfl⟩ : ∃ rn : Nat, r = (rn : Int) := ⟨r.toNat, by omega⟩
    have k8 : ∀ {a : Addr} {o : List Int}, H7 a = some (.lst (o.map V.int)) → H8 a = some (.lst (o.map V.int)) := fun h => u8 _ _ (by simpa using S7.ints h) h
    refine ⟨c2, _, _, rfl, rfl, k8 (o := [128]) h7, by omega, by omega, sz _ (by simp; omega), fun c3 hc3 => ?_⟩
    have e3 : (List.replicate (rn : Int).toNat [V.int 128]).flatten = (List.replicate rn (128 : Int)).map V.int := rep_flat 128 rn
    show rCat (V.ref c1) (V.ref c3) (upd H8 c3 (.lst (List.replicate (rn : Int).toNat [V.int 128]).flatten)) _
    rw [e3]
    have s9 := same_upd (o := .lst ((List.replicate rn (128 : Int)).map V.int)) hc3; have h9 := upd_same (H := H8) (a := c3) (o := .lst ((List.replicate rn (128 : Int)).map V.int)); generalize upd H8 c3 (.lst ((List.replicate rn (128 : Int)).map V.int)) = H9 at s9 h9 ⊢
    refine ⟨c1, c3, _, _, rfl, rfl, s9 _ _ (k8 (o := [las + 128]) (s7 _ _ h6)), h9, sz _ (by simp; omega), fun c4 hc4 => ?_⟩
    rw [← List.map_append]
    have sa := same_upd (o := .lst (([las + 128] ++ List.replicate rn (128 : Int)).map V.int)) hc4; have ha := upd_same (H := H9) (a := c4) (o := .lst (([las + 128] ++ List.replicate rn (128 : Int)).map V.int)); generalize upd H9 c4 (.lst (([las + 128] ++ List.replicate rn (128 : Int)).map V.int)) = Ha at sa ha ⊢
    refine ⟨sz 1 (by decide), fun c5 hc5 => ?_⟩
    have sb := same_upd (o := .lst [.int 0]) hc5; have hb' := upd_same (H := Ha) (a := c5) (o := .lst [.int 0]); generalize upd Ha c5 (.lst [.int 0]) = Hb at sb hb' ⊢
    refine ⟨c4, c5, _, [.int 0], rfl, rfl, sb _ _ ha, hb', sz _ (by simp; omega), fun c6 hc6 => ?_⟩
    have sc := same_upd (o := .lst (([las + 128] ++ List.replicate rn (128 : Int)).map V.int ++ [.int 0])) hc6
    have s8c := s9.trans (sa.trans (sb.trans sc))
    have s67 := s6.trans s7
    have k5 : ∀ {a : Addr} {o : List Int}, H5 a = some (.lst (o.map V.int)) → upd Hb c6 (.lst (([las + 128] ++ List.replicate rn (128 : Int)).map V.int ++ [.int 0])) a = some (.lst (o.map V.int)) := fun h => s8c _ _ (k8 (s67 _ _ h))
    refine ⟨c6, rn, rfl, u5.trans ((Up.of s67).trans (u8.trans (Up.of s8c))), S8.le s8c, k5 (s5 _ _ hr4), k5 (s5 _ _ hf4), k5 hz, by rw [upd_same]; simp, by omega⟩
  rintro σ' H6 ⟨nd, r, rfl, u6, S6, hr6, hf6, hz6, hn6, r3⟩
  refine ⟨_, rfl, _, rfl, z, _, rfl, .inl (SqL.of hz6), _, _, rfl, rfl, _, rfl, z, _, rfl, SqL.of hz6, fun c1 hc1 => ?_⟩
  have e1 : cutV ((ini ++ [las]).map V.int) none (some ((((ini ++ [las]).map V.int).length : Nat) - 1 : Int)) = ini.map V.int := by
    have e1 : ((((ini ++ [las]).map V.int).length : Nat) - 1 : Int) = (ini.length : Int) := by rw [List.length_map, ls]; omega
    rw [e1, cut_up, ← List.map_take, List.take_left' rfl]
  have s7 := same_upd (o := .lst (cutV ((ini ++ [las]).map V.int) none (some ((((ini ++ [las]).map V.int).length : Nat) - 1 : Int)))) hc1
  have h7 : upd H6 c1 (.lst (cutV ((ini ++ [las]).map V.int) none (some ((((ini ++ [las]).map V.int).length : Nat) - 1 : Int)))) c1 = some (.lst (ini.map V.int)) := upd_same.trans (congrArg (fun z => some (HO.lst z)) e1)
  generalize upd H6 c1 (.lst (cutV ((ini ++ [las]).map V.int) none (some ((((ini ++ [las]).map V.int).length : Nat) - 1 : Int)))) = H7 at s7 h7 ⊢
  refine ⟨_, rfl, c1, nd, _, _, rfl, rfl, h7, s7 _ _ hn6, sz _ (by simp; omega), fun c2 hc2 => ?_⟩
  rw [← List.map_append]
  have s8 := same_upd (o := .lst ((ini ++ (las + 128) :: (List.replicate r 128 ++ [0])).map V.int)) hc2; have h8 := upd_same (H := H7) (a := c2) (o := .lst ((ini ++ (las + 128) :: (List.replicate r 128 ++ [0])).map V.int)); generalize upd H7 c2 (.lst ((ini ++ (las + 128) :: (List.replicate r 128 ++ [0])).map V.int)) = H8 at s8 h8 ⊢
  have s78 := s7.trans s8
  refine ⟨_, rfl, _, rfl, z, _, rfl, .inl (SqL.of (s78 _ _ hz6)), _, rfl, rc, _, rfl, SqL.of (s78 _ _ hr6), fun c3 hc3 => ?_⟩
  rw [cut_fr, ← List.map_drop]
  have s9 := same_upd (o := .lst (((wrec ds).drop ((ini ++ [las]).map V.int).length).map V.int)) hc3; have h9 := upd_same (H := H8) (a := c3) (o := .lst (((wrec ds).drop ((ini ++ [las]).map V.int).length).map V.int)); generalize upd H8 c3 (.lst (((wrec ds).drop ((ini ++ [las]).map V.int).length).map V.int)) = H9 at s9 h9 ⊢
  have dl : ((wrec ds).drop ((ini ++ [las]).map V.int).length).length ≤ (wrec ds).length := by rw [List.length_drop]; omega
  generalize (wrec ds).drop ((ini ++ [las]).map V.int).length = X at dl h9 ⊢
  refine ⟨c2, c3, _, _, rfl, rfl, s9 _ _ h8, h9, sz _ (by simp; omega), fun c4 hc4 => ?_⟩
  rw [← List.map_append]
  have sa := same_upd (o := .lst (((ini ++ (las + 128) :: (List.replicate r 128 ++ [0])) ++ X).map V.int)) hc4; have ha := upd_same (H := H9) (a := c4) (o := .lst (((ini ++ (las + 128) :: (List.replicate r 128 ++ [0])) ++ X).map V.int)); generalize upd H9 c4 (.lst (((ini ++ (las + 128) :: (List.replicate r 128 ++ [0])) ++ X).map V.int)) = Ha at sa ha ⊢
  have s7a := s78.trans (s9.trans sa)
  refine ⟨_, rfl, c4, fr, _, _, rfl, rfl, ha, s7a _ _ hf6, sz _ (by simp; omega), fun c5 hc5 => ?_⟩
  rw [← List.map_append]
  have ua := u6.trans (Up.of s7a)
  refine q c5 _ _ (ua.back (hst (S6.le s7a)) hc5) (ua.trans (Up.new hc5)) ((S6.le s7a).le (same_upd hc5)) upd_same ?_ (by simp; omega)
  have ef : ((ini ++ (las + 128) :: (List.replicate r 128 ++ [0])) ++ X) ++ fs = ini ++ ((las + 128) :: (List.replicate r 128 ++ 0 :: (X ++ fs))) := by simp
  rw [ef]
  exact parse_needless (n := ds.length) (by omega) (by omega) hil
end

def spLaw (K : PySem.W.Frag) : Sp := fun vs H Q _ => ∃ (a : Addr) (ns : List Int), vs = [.ref a] ∧ SqL K H a (ns.map V.int) ∧ ns.length ≤ 63 ∧ ∀ H', Q (.bl true) H'
inductive LLs (H : Hp) : List V → List (List Int) → Prop
  | nil : LLs H [] []
  | cons {a : Addr} {r : List Int} {vs : List V} {rs : List (List Int)} : H a = some (.lst (r.map V.int)) → LLs H vs rs → LLs H (.ref a :: vs) (r :: rs)
section
variable {H H' : Hp}
theorem LLs.le (s : Same H H') : ∀ {vs : List V} {rs : List (List Int)}, LLs H vs rs → LLs H' vs rs
  | _, _, .nil => .nil
  | _, _, .cons h t => .cons (s _ _ h) (LLs.le s t)
theorem LLs.length : ∀ {vs : List V} {rs : List (List Int)}, LLs H vs rs → vs.length = rs.length
  | _, _, .nil => rfl
  | _, _, .cons _ t => congrArg (· + 1) (LLs.length t)
theorem LLs.append : ∀ {vs ws : List V} {rs qs : List (List Int)}, LLs H vs rs → LLs H ws qs → LLs H (vs ++ ws) (rs ++ qs)
  | _, _, _, _, .nil, h => h
  | _, _, _, _, .cons a t, h => .cons a (LLs.append t h)
theorem LLs.get : ∀ {vs : List V} {rs : List (List Int)} {i : Nat} {v : V}, LLs H vs rs → vs[i]? = some v → ∃ a r, v = .ref a ∧ rs[i]? = some r ∧ H a = some (.lst (r.map V.int))
  | _, _, _, _, .nil, h => by simp at h
  | _, _, 0, _, .cons h _, e => by
    simp at e
    subst e
    exact ⟨_, _, rfl, rfl, h⟩
  | _, _, i + 1, _, .cons _ t, e => by
    obtain ⟨a, r, h1, h2, h3⟩ := LLs.get (i := i) t (by simpa using e)
    exact ⟨a, r, h1, by simpa using h2, h3⟩
theorem LLs.take : ∀ {vs : List V} {rs : List (List Int)} (n : Nat), LLs H vs rs → LLs H (vs.take n) (rs.take n)
  | _, _, 0, _ => by simpa using LLs.nil
  | _, _, _ + 1, .nil => .nil
  | _, _, n + 1, .cons a t => .cons a (LLs.take n t)
theorem LLs.rp {K : PySem.W.Frag} : ∀ {vs : List V} {rs : List (List Int)}, LLs H vs rs → RpAll K H vs (rs.map fun x => .list (x.map .int))
  | _, _, .nil => .nil
  | _, _, .cons h t => .cons (rp_ints (SqL.of h)) (LLs.rp t)
end
theorem take_snoc {α : Type} {l : List α} {i : Nat} {x : α} (h : l[i]? = some x) : l.take (i + 1) = l.take i ++ [x] := by
  obtain ⟨h1, h2⟩ := List.getElem?_eq_some_iff.mp h
  rw [List.take_succ_eq_append_getElem h1, h2]
theorem wrecs_snoc (rs : List (List Int)) (r : List Int) : wrecs (rs ++ [r]) = wrecs rs ++ wrec r := by simp [wrecs]
def szI (rs : List (List Int)) : List Int := (sizesOf 0 rs).map fun n : Nat => (n : Int)
theorem szI_snoc (rs : List (List Int)) (r : List Int) : szI (rs ++ [r]) = szI rs ++ [(((wrecs rs ++ wrec r).length : Nat) : Int)] := by
  unfold szI
  rw [sizesOf_snoc, List.map_append, List.length_append]
  simp
def cntOf (rs : List (List Int)) (e : Nat) : Nat := ((sizesOf 0 rs).filter fun x => decide (x ≤ 0 + e)).length
theorem szI_filter (rs : List (List Int)) (e : Nat) : ((szI rs).filter fun x => decide (x ≤ (e : Int))).length = cntOf rs e := by
  unfold szI cntOf
  rw [List.filter_map, List.length_map]
  congr 1
  apply List.filter_congr
  intro x _
  simp
theorem cntOf_pos (rs : List (List Int)) (e : Nat) : 0 < cntOf rs e := by
  unfold cntOf
  have hm : 0 ∈ (sizesOf 0 rs).filter fun x => decide (x ≤ 0 + e) := by
    rw [List.mem_filter]
    refine ⟨?_, by simp⟩
    cases rs <;> simp [sizesOf]
  exact List.length_pos_of_mem hm
theorem cntOf_le (rs : List (List Int)) (e : Nat) : cntOf rs e ≤ rs.length + 1 := by
  unfold cntOf
  have := List.length_filter_le (fun x => decide (x ≤ 0 + e)) (sizesOf 0 rs)
  rw [sizesOf_len] at this
  exact this
theorem szI_at {rs : List (List Int)} {c : Nat} (h : c < rs.length + 1) : (szI rs)[c]? = some (((sizesOf 0 rs).getD c 0 : Nat) : Int) := by
  unfold szI
  have h1 : c < (sizesOf 0 rs).length := by rw [sizesOf_len]; exact h
  rw [List.getElem?_map, List.getD_eq_getElem?_getD, List.getElem?_eq_getElem h1]
  rfl
def okRs (rs : List (List Int)) : Prop := ∀ r ∈ rs, Byts r ∧ r.length ≤ 2001
theorem wrecs_len {rs : List (List Int)} (h : okRs rs) : (wrecs rs).length ≤ 2008 * rs.length := by
  induction rs with
  | nil => simp [wrecs]
  | cons r rs ih =>
    have h1 := (h r (by simp)).2
    have h2 := ih fun x hx => h x (by simp [hx])
    have h3 := wnum_sz (n := r.length) (by omega)
    have h4 : wrecs (r :: rs) = wrec r ++ wrecs rs := by simp [wrecs]
    rw [h4, List.length_append, wrec_len, List.length_cons]
    omega
theorem okRs.take {rs : List (List Int)} (h : okRs rs) (n : Nat) : okRs (rs.take n) := fun r hr => h r (List.mem_of_mem_take hr)
section
variable {P : Program} {w : World} {K : PySem.W.Frag} {mg : Str → Option Value} {base : Heap} {C CD : Addr}
theorem ok_law {f : Addr} {fd : FuncData} (F : Fun K "law" "law" s_law f fd) (T : Txt K mg) (G_law_draws : GF P w K mg base CX0 "_law_draws" 2 ["script"] (spDraws K)) (G_law_next : GF P w K mg base CX0 "_law_next" 3 ["state", "limit"] (spNextA K))
    (G_law_same : GF P w K mg base CX0 "_law_same" 5 ["actual", "expected"] (spSame K 4)) (G_checksum : GF P w K mg base CX0 "checksum" 1 ["data"] (spCsum K)) (G_write_record : GF P w K mg base CX0 "write_record" 2 ["data"] (spWrec K)) (G_read_records : GF P w K mg base CX0 "read_records" 4 ["data"] (spRRecs K))
    (G_law_checksum : GF P w K mg base CX0 "_law_checksum" 1 ["data"] (spCsum K)) (G_law_record : GF P w K mg base CX0 "_law_record" 2 ["data"] (spWrecL K)) (G_law_bytes : GF P w K mg base CX0 "_law_bytes" 4 ["state"] (spBytes K)) (G_law_behind : GF P w K mg base CX0 "_law_behind" 5 ["state"] (spBehind K)) : FnOk P w K mg base CX0 6 f fd ["script"] (spLaw K) := by
  refine F.ok sc_law (fun vs H Q E h => ?_) (fun cdv A outer s H vs Q E hr h => ?_)
  · obtain ⟨_, _, rfl, _⟩ := h
    rfl
  obtain ⟨a, ns, rfl, hA, hlen, k⟩ := h
  have hu64 := hr.units
  refine ⟨_, (pss_cons (ps_set (i := 1) sc_law.nd rfl (Or.inr rfl) (pe_lst (pa_cons (pe_cg G_law_draws hr rfl (pa_cons (pv 0) pa_nil)) (pa_cons pe_int pa_nil))))
  (pss_cons (ps_setLc (i := 2) (own := [("k", 8)]) (g := (gName 8)) (tt := tYes) rfl sc_law.nd rfl rfl (sw_true rfl rfl rfl (by decide +kernel)) (pi_range1 rfl T.b_range (pa_cons (pe_cg G_law_next hr rfl (pa_cons (pv 1) (pa_cons pe_int pa_nil))) pa_nil)) (blkOk_by (N := ["script", "state", "records", "data", "sizes", "record", "passed", "whole", "k", "end", "count", "size"]) (sc := defScope s_law) (by decide +kernel)) (fun _ _ _ _ _ => (pg_name (i := 8) sc_law.nd rfl (Or.inl rfl))) (fun _ _ _ _ _ => pts_nil) (fun _ _ _ _ _ => (pe_cg G_law_bytes hr rfl (pa_cons (pv 1) pa_nil))))
  (pss_cons (ps_set (i := 3) sc_law.nd rfl (Or.inl rfl) (pe_lst pa_nil))
  (pss_cons (ps_set (i := 4) sc_law.nd rfl (Or.inl rfl) (pe_lst (pa_cons pe_int pa_nil)))
  (pss_cons (ps_for PassesOwn.never rfl (pi_list (pv 2)) (pg_name (i := 5) sc_law.nd rfl (Or.inl rfl)) (pss_cons (ps_set (i := 6) sc_law.nd rfl (Or.inl rfl) (pe_callTy call_list_of (by rfl) T.b_list bt_list (pa_cons (pv 5) pa_nil)))
  (pss_cons (ps_if (PW.pt (pw_or (pt_not (pt_val (pe_cg G_law_same hr rfl (pa_cons (pe_cg G_checksum hr rfl (pa_cons (pv 6) pa_nil)) (pa_cons (pe_cg G_law_checksum hr rfl (pa_cons (pv 5) pa_nil)) pa_nil))))) (pw_or1 (pt_not (pt_val (pe_cg G_law_same hr rfl (pa_cons (pe_cg G_write_record hr rfl (pa_cons (pv 6) pa_nil)) (pa_cons (pe_cg G_law_record hr rfl (pa_cons (pv 5) pa_nil)) pa_nil)))))))) (pss_one (ps_ret pe_bl)) pss_nil)
  (pss_cons (ps_if (pt_cmpR (op_neD hu64) (pv 6) (pv 5) (nomark _)) (pss_one (ps_ret pe_bl)) pss_nil)
  (pss_cons (ps_set (i := 3) sc_law.nd rfl (Or.inl rfl) (pe_op op_cat (pv 3) (pe_cg G_law_record hr rfl (pa_cons (pv 5) pa_nil))))
  (pss_one (ps_expr (pe_bm PySem.F.plainAttrs_list PySem.F.slot_list_append PySem.F.type_list_append mt_append (pv 4) (pa_cons (pe_callB call_len_seq (by rfl) T.b_len bt_len (pa_cons (pv 3) pa_nil)) pa_nil)))))))))
  (pss_cons (ps_set (i := 7) sc_law.nd rfl (Or.inl rfl) (pe_op op_cat (pv 3) (pe_cg G_law_behind hr rfl (pa_cons (pv 1) pa_nil))))
  (pss_cons (ps_set (i := 6) sc_law.nd rfl (Or.inl rfl) (pe_callTy call_list_of (by rfl) T.b_list bt_list (pa_cons (pv 7) pa_nil)))
  (pss_cons (ps_if (PW.pt (pw_or (pt_not (pt_val (pe_cg G_law_same hr rfl (pa_cons (pe_cg G_read_records hr rfl (pa_cons (pv 6) pa_nil)) (pa_cons (pe_tup (pa_cons (pv 2) (pa_cons (pe_callB call_len_seq (by rfl) T.b_len bt_len (pa_cons (pv 3) pa_nil)) pa_nil))) pa_nil))))) (pw_or1 (pt_cmpR (op_neD hu64) (pv 6) (pv 7) (nomark _))))) (pss_one (ps_ret pe_bl)) pss_nil)
  (pss_cons (ps_for PassesOwn.never rfl (pi_range1 rfl T.b_range (pa_cons pe_int pa_nil)) (pg_name (i := 8) sc_law.nd rfl (Or.inl rfl)) (pss_cons (ps_set (i := 9) sc_law.nd rfl (Or.inr rfl) (pe_cg G_law_next hr rfl (pa_cons (pv 1) (pa_cons (pe_op op_add (pe_callB call_len_seq (by rfl) T.b_len bt_len (pa_cons (pv 3) pa_nil)) pe_int) pa_nil))))
  (Evl.pss_cut (ps_set (i := 10) sc_law.nd rfl (Or.inl rfl) (pe_op op_sub (pe_callB call_len_seq (by rfl) T.b_len bt_len (pa_cons (pe_lc (own := [("size", 11)]) (g := (gName 11)) (tt := _) rfl sc_law.nd (pi_list (pv 4)) (blkOk_by (N := ["script", "state", "records", "data", "sizes", "record", "passed", "whole", "k", "end", "count", "size"]) (sc := defScope s_law) (by decide +kernel)) (fun _ _ _ _ _ => (pg_name (i := 11) sc_law.nd rfl (Or.inl rfl))) (fun _ _ _ _ _ => (pts_one (pt_cmpR op_le (pv 11) (pv 9) (nomark _)))) (fun _ _ _ _ _ => (pv 11))) pa_nil)) pe_int))
  (pss_cons (ps_set (i := 6) sc_law.nd rfl (Or.inl rfl) (pe_slice sl_list (pv 3) po_none (po_some (pv 9))))
  (pss_one (ps_if (PW.pt (pw_or (pt_not (pt_val (pe_cg G_law_same hr rfl (pa_cons (pe_cg G_read_records hr rfl (pa_cons (pv 6) pa_nil)) (pa_cons (pe_tup (pa_cons (pe_slice sl_list (pv 2) po_none (po_some (pv 10))) (pa_cons (pe_ix ix_list (pv 4) (pv 10) (fun _ _ => rfl)) pa_nil))) pa_nil))))) (pw_or1 (pt_cmpR (op_neD hu64) (pv 6) (pe_slice sl_list (pv 3) po_none (po_some (pv 9))) (nomark _))))) (pss_one (ps_ret pe_bl)) pss_nil))))))
  (pss_one (ps_ret (pe_and (pe_cg G_law_same hr rfl (pa_cons (pe_cg G_read_records hr rfl (pa_cons (pe_lst pa_nil) pa_nil)) (pa_cons (pe_tup (pa_cons (pe_lst pa_nil) (pa_cons pe_int pa_nil))) pa_nil))) (pe_one (pe_cg G_law_same hr rfl (pa_cons (pe_cg G_write_record hr rfl (pa_cons (pe_lst pa_nil) pa_nil)) (pa_cons (pe_lst (pa_cons pe_int (pa_cons pe_int (pa_cons pe_int (pa_cons pe_int (pa_cons pe_int pa_nil)))))) pa_nil)))))))))))))))), ?_⟩
  refine ⟨_, rfl, a, ns, rfl, hA, hlen, fun d H1 ds hd s1 hd1 hR => ⟨sz 2 (by decide), fun st hst => ?_⟩⟩
  have S2 : StA K [st] (upd H1 st (.lst [.ref d, .int 20])) st := by
    have ne : d ≠ st := ne_of_none hd1 hst
    exact ⟨by simp, d, ds, 20, upd_same, SqL.of (by rw [wo_out (by simpa using ne)]; exact same_upd hst _ _ hd1), hR, by decide⟩
  have O2 : Own [st] (upd H1 st (.lst [.ref d, .int 20])) := by
    intro x hx
    simp at hx
    rw [hx, upd_same]
    exact fun z => nomatch z
  generalize upd H1 st (.lst [.ref d, .int 20]) = H2 at *
  refine ⟨_, rfl, [st], st, 11, rfl, by decide, S2, fun kn H3 k0 k1 _ u3 S3 => ?_⟩
  have O3 : Own [st] H3 := O2.up u3 (by obtain ⟨ys, hy⟩ := S3.is; simp [hy])
  refine ⟨kn, rfl, by omega, by omega, fun D hD => lc_range (lo := 0) (n := kn.toNat) (fun i H' => ∃ (acc : List V) (rs : List (List Int)), H' D = some (.lst acc) ∧ rs.length = i ∧ okRs rs ∧ LLs (wo H' [D, st]) acc rs ∧ StA K [D, st] H' st ∧ Own [D, st] H') ⟨[], [], upd_same, rfl, fun r hr => (by cases hr), .nil, S3.grow hD, (O3.le (same_upd hD)).cons (some_ne upd_same)⟩ ?_ ?_⟩
  · rintro i H5 hi ⟨acc, rs, e1, e2, e3, e4, e5, e6⟩
    refine ⟨rfl, _, rfl, [D, st], st, rfl, e5, fun r ns2 H6 nr u6 S6 hr6 hb hl => ?_⟩
    have nD : D ≠ st := fun z => by
      obtain ⟨ys, hy⟩ := S3.is
      rw [z, hy] at hD
      cases hD
    have e1' := u6 _ _ (by simpa using nD) e1
    have al := e4.length
    have O6 : Own [D, st] H6 := e6.up u6 (by obtain ⟨ys, hy⟩ := S6.is; simp [hy])
    have w6 : Same (wo H5 [D, st]) (wo H6 [D, st]) := (u6.mono (by simp)).wo
    have ew : wo (upd H6 D (.lst (acc ++ [.ref r]))) [D, st] = wo H6 [D, st] := wo_upd_in (by simp)
    refine ⟨acc, e1', szl _ (by omega), acc ++ [.ref r], rs ++ [ns2], upd_same, by simp [e2], fun x hx => ?_, ?_, S6.put (by simp) nD, O6.up (Up.put (O := [D]) (by simp)) (by simp [upd_same])⟩
    · rcases List.mem_append.mp hx with hx | hx
      · exact e3 x hx
      · simp only [List.mem_singleton] at hx
        rw [hx]
        exact ⟨hb, hl⟩
    · rw [ew]
      exact (e4.le w6).append (.cons (by rw [wo_out (e6.out nr)]; exact hr6) .nil)
  rintro H4 ⟨acc, rs, hrl, rsl, okr, hits, S4, O4⟩
  have rsl' : rs.length ≤ 10 := by omega
  have nD : D ≠ st := fun z => by
    obtain ⟨ys, hy⟩ := S3.is
    rw [z, hy] at hD
    cases hD
  have S4 := S4.shrink (by simp : st ∈ [st])
  have O4 : Own [st] H4 := fun a ha => O4 a (by simp at ha; simp [ha])
  have hits : LLs (wo H4 [st]) acc rs := hits.le wo_cons_le
  have hrl : wo H4 [st] D = some (.lst acc) := by rw [wo_out (by simpa using nD)]; exact hrl
  clear u3 S3 O3 S2 O2 hD
  refine ⟨Nat.zero_le _, fun d0 hd0 => ?_⟩
  have s5 := same_upd (o := .lst []) hd0; have h5 := upd_same (H := H4) (a := d0) (o := .lst []); generalize upd H4 d0 (.lst []) = H5 at s5 h5 ⊢
  refine ⟨sz 1 (by decide), fun sz0 hsz => ?_⟩
  have S5 := (S4.le s5).grow (o := .lst [.int 0]) hsz
  have O5 := ((O4.le s5).le (same_upd (o := .lst [.int 0]) hsz)).cons (some_ne upd_same : upd H5 sz0 (.lst [.int 0]) sz0 ≠ none)
  have w5 : Same (wo H4 [st]) (wo (upd H5 sz0 (.lst [.int 0])) [sz0, st]) := (Same.wo s5).trans (wo_new hsz)
  have hd5 : wo (upd H5 sz0 (.lst [.int 0])) [sz0, st] d0 = some (.lst []) := wo_new hsz _ _ (by rw [wo_out (O4.out hd0)]; exact h5)
  have hs5 : upd H5 sz0 (.lst [.int 0]) sz0 = some (.lst [.int 0]) := upd_same
  have hits5 := hits.le w5
  have hrl5 := w5 _ _ hrl
  generalize upd H5 sz0 (.lst [.int 0]) = H6 at *
  clear w5 hits hrl S4 O4
  have nss : sz0 ≠ st := fun e => by
    exact S5.ints (o := [0]) hs5 e
  refine ⟨_, rfl, D, rfl, ⟨acc, SqL.of (wo_le _ _ _ _ hrl5)⟩, for_list (K := K) (a := D) (xs := acc) (fun i σ H' => ∃ (da : Addr) (z5 z6 : Option V), σ = [some (.ref a), some (.ref st), some (.ref D), some (.ref da), some (.ref sz0), z5, z6, none, none, none, none, none] ∧ StA K [sz0, st] H' st ∧ Own [sz0, st] H' ∧
    wo H' [sz0, st] D = some (.lst acc) ∧ LLs (wo H' [sz0, st]) acc rs ∧ wo H' [sz0, st] da = some (.lst ((wrecs (rs.take i)).map V.int)) ∧ H' sz0 = some (.lst ((szI (rs.take i)).map V.int)))
    ⟨d0, none, none, rfl, S5, O5, hrl5, hits5, by simpa [wrecs] using hd5, by simpa [szI, sizesOf] using hs5⟩ (fun i σ H' _ z => ?_) ?_ ?_⟩
  · obtain ⟨_, _, _, _, _, _, z, _⟩ := z
    exact SqL.of (wo_le _ _ _ _ z)
  · rintro i x σ H7 hx ⟨da, z5, z6, rfl, S7, O7, hrl7, hits7, hda7, hs7⟩
    obtain ⟨ar, r, rfl, hri, har⟩ := hits7.get hx
    have hil : i < rs.length := by
      rcases Nat.lt_or_ge i rs.length with c | c
      · exact c
      · rw [List.getElem?_eq_none c] at hri
        cases hri
    have okr1 := okr r (List.mem_of_getElem? hri)
    have har7 := wo_le _ _ _ _ har
    have fr1 : fit (.list ((wrec r).map .int)) = true := fit_ints (by rw [wrec_len]; have := wnum_sz (n := r.length) (by omega); omega)
    have dr1 : dep (.list ((wrec r).map .int)) < 4 := by have := dep_ints (wrec r); omega
    refine ⟨_, rfl, ar, _, rfl, .inl (SqL.of har7), fun p1 hp1 => ?_⟩
    have s8 := same_upd (o := .lst (r.map V.int)) hp1; have h8 := upd_same (H := H7) (a := p1) (o := .lst (r.map V.int)); generalize upd H7 p1 (.lst (r.map V.int)) = H8 at s8 h8 ⊢
    refine ⟨_, rfl, p1, r, rfl, SqL.of h8, by omega, _, rfl, ar, r, rfl, SqL.of (s8 _ _ har7), by omega, _, _, _, _, rfl, Rp.int _, Rp.int _, rfl, Nat.zero_lt_succ _, fun H9 s9 => ⟨_, rfl, ?_⟩⟩
    rw [sameD_refl]
    have s79 := s8.trans s9
    refine ⟨_, rfl, p1, r, rfl, SqL.of (s9 _ _ h8), by omega, fun w1 Ha n1 sa ha => ⟨_, rfl, ar, r, rfl, sa _ _ (s79 _ _ har7), by omega, fun w2 Hb n2 sb hb => ?_⟩⟩
    refine ⟨_, _, _, _, rfl, rp_ints (SqL.of (sb _ _ ha)), rp_ints (SqL.of hb), fr1, dr1, fun Hc sc => ⟨_, rfl, ?_⟩⟩
    rw [sameD_refl]
    have s9c := sa.trans (sb.trans sc)
    have s7c := s79.trans s9c
    refine ⟨_, rfl, _, rfl, _, _, dp_ints (SqL.of (s9c _ _ (s9 _ _ h8))), dp_ints (SqL.of (s7c _ _ har7)), shaped_ints r, shaped_ints r, _, rfl, br (fun z => ?_) (fun _ => ?_)⟩
    · rw [eqv_ints] at z
      simp at z
    have wl1 := wrecs_len (okr.take i)
    have tl : (rs.take i).length ≤ 10 := by rw [List.length_take]; omega
    have wl2 : (wrec r).length ≤ 2008 := by rw [wrec_len]; have := wnum_sz (n := r.length) (by omega); omega
    refine ⟨_, rfl, _, rfl, ar, r, rfl, s7c _ _ har7, by omega, fun w3 Hd n3 sd hd => ?_⟩
    have s7d := s7c.trans sd
    have hda := s7d _ _ (wo_le _ _ _ _ hda7)
    refine ⟨da, w3, _, _, rfl, rfl, hda, hd, sz _ (by rw [List.length_map, List.length_map]; omega), fun nd hnd => ?_⟩
    rw [← List.map_append]
    have se := same_upd (o := .lst ((wrecs (rs.take i) ++ wrec r).map V.int)) hnd; have he := upd_same (H := Hd) (a := nd) (o := .lst ((wrecs (rs.take i) ++ wrec r).map V.int)); generalize upd Hd nd (.lst ((wrecs (rs.take i) ++ wrec r).map V.int)) = He at se he ⊢
    have s7e := s7d.trans se
    have hse := s7e _ _ hs7
    have Oe := O7.le s7e
    refine ⟨_, rfl, .inl ⟨rfl, _, SqL.of hse⟩, _, rfl, nd, _, rfl, .inl (SqL.of he), sz0, _, _, rfl, rfl, hse, szl _ (by rw [List.length_map, szI, List.length_map, sizesOf_len]; omega), ?_⟩
    have ew : wo (upd He sz0 (.lst ((szI (rs.take i)).map V.int ++ [.int (((wrecs (rs.take i) ++ wrec r).map V.int).length : Nat)]))) [sz0, st] = wo He [sz0, st] := wo_upd_in (by simp)
    refine ⟨nd, _, _, rfl, (S7.le s7e).put (by simp) nss, Oe.up (Up.put (O := [sz0]) (by simp)) (by simp [upd_same]), ?_, ?_, ?_, ?_⟩
    · rw [ew]
      exact Same.wo s7e _ _ hrl7
    · rw [ew]
      exact hits7.le (Same.wo s7e)
    · rw [ew, take_snoc hri, wrecs_snoc, wo_out ((O7.le s7d).out hnd)]
      exact he
    · rw [upd_same, take_snoc hri, szI_snoc, List.map_append]
      simp
  rintro σ H7 ⟨da, z5, z6, rfl, S7, O7, hrl7, hits7, hda7, hs7⟩
  have al := hits7.length
  rw [al, List.take_of_length_le (Nat.le_refl _)] at hda7 hs7
  clear hits5 hrl5 hd5 hs5 O5 S5
  have wl0 := wrecs_len okr
  have okl : ∀ r ∈ rs, r.length < 2097152 := fun r hr => by have := (okr r hr).2; omega
  refine ⟨_, rfl, _, rfl, [sz0, st], st, rfl, S7, O7, fun r X H8 nr u8 S8 hr8 hpx hxl => ?_⟩
  have w8 : Same (wo H7 [sz0, st]) (wo H8 [sz0, st]) := (u8.mono (by simp)).wo
  have hda8 := w8 _ _ hda7
  have hrl8 := w8 _ _ hrl7
  have hits8 := hits7.le w8
  have hs8 := u8 _ _ (by simpa using nss) hs7
  have O8 := O7.up u8 (by obtain ⟨ys, hy⟩ := S8.is; simp [hy])
  refine ⟨da, r, _, _, rfl, rfl, wo_le _ _ _ _ hda8, hr8, sz _ (by rw [List.length_map, List.length_map]; omega), fun wh hwh => ?_⟩
  rw [← List.map_append]
  have s9 := same_upd (o := .lst ((wrecs rs ++ X).map V.int)) hwh; have h9 := upd_same (H := H8) (a := wh) (o := .lst ((wrecs rs ++ X).map V.int)); generalize upd H8 wh (.lst ((wrecs rs ++ X).map V.int)) = H9 at s9 h9 ⊢
  refine ⟨_, rfl, wh, _, rfl, .inl (SqL.of h9), fun p1 hp1 => ?_⟩
  have sa := same_upd (o := .lst ((wrecs rs ++ X).map V.int)) hp1; have ha := upd_same (H := H9) (a := p1) (o := .lst ((wrecs rs ++ X).map V.int)); generalize upd H9 p1 (.lst ((wrecs rs ++ X).map V.int)) = Ha at sa ha ⊢
  have s8a := s9.trans sa
  have fr0 : ∀ {m : List (List Int)} {n : Int}, okRs m → m.length ≤ 10 → fit (.tuple [.list (m.map fun x => .list (x.map .int)), .int n]) = true ∧ dep (.tuple [.list (m.map fun x => .list (x.map .int)), .int n]) < 4 := fun {m n} hm hl => by
    constructor
    · have h1 : fitAll (m.map fun x => PyData.list (x.map .int)) = true := fitAll_of fun d hd => by
        obtain ⟨x, hx, rfl⟩ := List.mem_map.mp hd
        have := (hm x hx).2
        exact fit_ints (by omega)
      simp [fit, fitAll, h1]
      omega
    · have h1 : depAll (m.map fun x => PyData.list (x.map .int)) ≤ 1 := depAll_le fun d hd => by
        obtain ⟨x, hx, rfl⟩ := List.mem_map.mp hd
        exact dep_ints x
      simp [dep, depAll]
      omega
  refine ⟨_, rfl, p1, _, rs, _, rfl, SqL.of ha, by rw [List.length_append]; omega, recs_whole okl hpx, fun t1 Hb n1 sb hb => ?_⟩
  refine ⟨_, rfl, _, rfl, da, _, rfl, .inl (SqL.of (sb _ _ (s8a _ _ (wo_le _ _ _ _ hda8)))), sz 2 (by decide), fun t2 ht2 => ?_⟩
  rw [List.length_map]
  have sc := same_upd (o := .tup [.ref D, .int ((wrecs rs).length : Nat)]) ht2; have hc := upd_same (H := Hb) (a := t2) (o := .tup [.ref D, .int ((wrecs rs).length : Nat)]); generalize upd Hb t2 (.tup [.ref D, .int ((wrecs rs).length : Nat)]) = Hc at sc hc ⊢
  have s8c := s8a.trans (sb.trans sc)
  have hitsc := (hits8.le (wo_le _ _)).le s8c
  have hrlc := s8c _ _ (wo_le _ _ _ _ hrl8)
  refine ⟨_, _, _, _, rfl, hb.le sc, .tup (SqT.of hc) (.cons (.lst (SqL.of hrlc) hitsc.rp) (.cons (.int _) .nil)), (fr0 okr rsl').1, (fr0 okr rsl').2, fun Hd sd => ⟨_, rfl, ?_⟩⟩
  rw [sameD_refl]
  have sbd := sb.trans (sc.trans sd)
  refine ⟨_, rfl, _, rfl, _, _, dp_ints (SqL.of (sbd _ _ ha)), dp_ints (SqL.of (sbd _ _ (sa _ _ h9))), shaped_ints _, shaped_ints _, _, rfl, br (fun z => ?_) (fun _ => ?_)⟩
  · rw [eqv_ints] at z
    simp at z
  have s8d := s8c.trans sd
  have Sd := S8.le s8d
  have Od := O8.le s8d
  have ww := Same.wo (O := [sz0, st]) s8d
  have J1 := ww _ _ hda8
  have J2 := ww _ _ hrl8
  have J3 := hits8.le ww
  have J4 := s8d _ _ hs8
  refine ⟨4, rfl, by decide, by decide, for_range (fun i σ H' => ∃ (p1 : Addr) (z8 z9 z10 z11 : Option V), σ = [some (.ref a), some (.ref st), some (.ref D), some (.ref da), some (.ref sz0), z5, some (.ref p1), some (.ref wh), z8, z9, z10, z11] ∧ StA K [sz0, st] H' st ∧ Own [sz0, st] H' ∧
    wo H' [sz0, st] D = some (.lst acc) ∧ LLs (wo H' [sz0, st]) acc rs ∧ wo H' [sz0, st] da = some (.lst ((wrecs rs).map V.int)) ∧ H' sz0 = some (.lst ((szI rs).map V.int))) ⟨p1, none, none, none, none, rfl, Sd, Od, J2, J3, J1, J4⟩ ?_ ?_⟩
  · clear J1 J2 J3 J4 Sd Od
    rintro i σ He hi ⟨p2, z8, z9, z10, z11, rfl, Se, Oe, rle, ite, dae, sze⟩
    refine ⟨_, rfl, _, rfl, da, _, rfl, .inl (SqL.of (wo_le _ _ _ _ dae)), _, _, rfl, rfl, [sz0, st], st, ((((wrecs rs).map V.int).length : Nat) : Int) + 1, rfl, by omega, Se, fun e Hf e0 e1 _ uf Sf => ?_⟩
    rw [List.length_map] at e1
    obtain ⟨en, rfl⟩ : ∃ en : Nat, e = (en : Int) := ⟨e.toNat, by omega⟩
    have wf : Same (wo He [sz0, st]) (wo Hf [sz0, st]) := (uf.mono (by simp)).wo
    have daf := wf _ _ dae
    have rlf := wf _ _ rle
    have itf := ite.le wf
    have szf := uf _ _ (by simpa using nss) sze
    have Of := Oe.up uf (by obtain ⟨ys, hy⟩ := Sf.is; simp [hy])
    have c0 := cntOf_pos rs en
    have c1 := cntOf_le rs en
    have sl : (szI rs).length = rs.length + 1 := by rw [szI, List.length_map, sizesOf_len]
    obtain ⟨cnt, hcnt⟩ : ∃ cnt, cntOf rs en = cnt + 1 := ⟨cntOf rs en - 1, by omega⟩
    clear Se Oe rle ite dae sze uf wf
    refine ⟨fun σ' H' => σ' = [some (.ref a), some (.ref st), some (.ref D), some (.ref da), some (.ref sz0), z5, some (.ref p2), some (.ref wh), some (.int (0 + (i : Int))), some (.int (en : Int)), some (.int (cnt : Int)), z11] ∧ Same Hf H', ?_, ?_⟩
    · refine ⟨_, rfl, sz0, rfl, ⟨_, SqL.of szf⟩, fun Dc hDc => lc_list (xs := (szI rs).map V.int) (fun i H2 => H2 Dc = some (.lst ((((szI rs).take i).filter fun x => decide (x ≤ (en : Int))).map V.int)) ∧ Same Hf H2) ⟨upd_same, same_upd hDc⟩ (fun i H2 _ z => SqL.of (z.2 _ _ szf)) ?_ ?_⟩
      · rintro j x H2 hx ⟨g1, g2⟩
        obtain ⟨hj, rfl, et⟩ := ints_get hx
        have eL : ∀ b, decide ((szI rs)[j] ≤ (en : Int)) = b → (((szI rs).take (j + 1)).filter fun x => decide (x ≤ (en : Int))) = (((szI rs).take j).filter fun x => decide (x ≤ (en : Int))) ++ if b = true then [(szI rs)[j]] else [] := fun b hb => by
          rw [et, List.filter_append, List.filter_cons, hb]
          cases b <;> rfl
        refine ⟨rfl, _, rfl, _, rfl, _, _, rfl, rfl, _, rfl, ?_⟩
        cases hb : decide ((szI rs)[j] ≤ (en : Int)) with
        | true =>
          refine iteT ⟨_, rfl, _, g1, szl _ ?_, ?_, fun b o z => ?_⟩
          · rw [List.length_map]
            have h1 := List.length_filter_le (fun x => decide (x ≤ (en : Int))) ((szI rs).take j)
            have h2 : ((szI rs).take j).length ≤ (szI rs).length := by rw [List.length_take]; omega
            omega
          · rw [upd_same, eL true hb]
            simp
          · rw [upd_ne (ne_of_none z hDc)]
            exact g2 _ _ z
        | false =>
          refine iteF ⟨?_, g2⟩
          rw [eL false hb]
          simpa using g1
      · rintro H2 ⟨g1, g2⟩
        rw [List.length_map, List.take_of_length_le (Nat.le_refl _)] at g1
        refine ⟨Dc, _, rfl, .inl (SqL.of g1), _, _, rfl, rfl, ?_, g2⟩
        have ec : ((((((szI rs).filter fun x => decide (x ≤ (en : Int))).map V.int).length : Nat) : Int) - 1) = (cnt : Int) := by rw [List.length_map, szI_filter, hcnt]; omega
        rw [← ec]
        rfl
    rintro σ' Hg ⟨rfl, sg⟩
    have wg := Same.wo (O := [sz0, st]) sg
    have Sg := Sf.le sg
    have Og := Of.le sg
    have dag := wg _ _ daf
    have rlg := wg _ _ rlf
    have itg := itf.le wg
    have szg := sg _ _ szf
    clear Sf Of daf rlf itf szf wg sg
    refine ⟨_, rfl, _, rfl, _, rfl, da, _, rfl, SqL.of (wo_le _ _ _ _ dag), fun p3 hp3 => ?_⟩
    rw [cut_up, ← List.map_take]
    have sh := same_upd (o := .lst (((wrecs rs).take en).map V.int)) hp3; have hh := upd_same (H := Hg) (a := p3) (o := .lst (((wrecs rs).take en).map V.int)); generalize upd Hg p3 (.lst (((wrecs rs).take en).map V.int)) = Hh at sh hh ⊢
    have tl : ((wrecs rs).take en).length ≤ (wrecs rs).length := by rw [List.length_take]; omega
    have rc := recs_cut (rs := rs) (e := en) (s := 0) okl (by omega)
    change Recs _ (rs.take (cntOf rs en - 1)) ((sizesOf 0 rs).getD (cntOf rs en - 1) 0 - 0) at rc
    rw [hcnt, Nat.add_sub_cancel, Nat.sub_zero] at rc
    refine ⟨_, rfl, p3, _, _, _, rfl, SqL.of hh, by omega, rc, fun t3 Hi n3 si hi3 => ?_⟩
    have sgi := sh.trans si
    refine ⟨_, rfl, _, rfl, _, rfl, D, _, rfl, SqL.of (sgi _ _ (wo_le _ _ _ _ rlg)), fun c hc => ?_⟩
    rw [cut_up]
    have sj := same_upd (o := .lst (acc.take cnt)) hc; have hj := upd_same (H := Hi) (a := c) (o := .lst (acc.take cnt)); generalize upd Hi c (.lst (acc.take cnt)) = Hj at sj hj ⊢
    have sgj := sgi.trans sj
    refine ⟨_, rfl, _, rfl, sz0, _, _, _, rfl, rfl, SqL.of (sgj _ _ szg), atI_nat (by rw [List.getElem?_map, szI_at (by omega)]; rfl), sz 2 (by decide), fun t4 ht4 => ?_⟩
    have sk := same_upd (o := .tup [.ref c, .int (((sizesOf 0 rs).getD cnt 0 : Nat) : Int)]) ht4; have hk := upd_same (H := Hj) (a := t4) (o := .tup [.ref c, .int (((sizesOf 0 rs).getD cnt 0 : Nat) : Int)]); generalize upd Hj t4 (.tup [.ref c, .int (((sizesOf 0 rs).getD cnt 0 : Nat) : Int)]) = Hk at sk hk ⊢
    have sgk := sgj.trans sk
    have itk := ((itg.le (wo_le _ _)).le sgk).take cnt
    have tl2 : (rs.take cnt).length ≤ 10 := by rw [List.length_take]; omega
    refine ⟨_, _, _, _, rfl, hi3.le (sj.trans sk), .tup (SqT.of hk) (.cons (.lst (SqL.of (sk _ _ hj)) itk.rp) (.cons (.int _) .nil)), (fr0 (okr.take cnt) tl2).1, (fr0 (okr.take cnt) tl2).2, fun Hl sl2 => ⟨_, rfl, ?_⟩⟩
    rw [sameD_refl]
    have sgl := sgk.trans sl2
    have p3l := ((si.trans (sj.trans sk)).trans sl2) _ _ hh
    refine ⟨_, rfl, _, rfl, _, rfl, _, rfl, da, _, rfl, SqL.of (sgl _ _ (wo_le _ _ _ _ dag)), fun c3 hc3 => ?_⟩
    rw [cut_up, ← List.map_take]
    have sm := same_upd (o := .lst (((wrecs rs).take en).map V.int)) hc3; have hm := upd_same (H := Hl) (a := c3) (o := .lst (((wrecs rs).take en).map V.int)); generalize upd Hl c3 (.lst (((wrecs rs).take en).map V.int)) = Hm at sm hm ⊢
    refine ⟨_, _, dp_ints (SqL.of (sm _ _ p3l)), dp_ints (SqL.of hm), shaped_ints _, shaped_ints _, _, rfl, br (fun z => ?_) (fun _ => ?_)⟩
    · rw [eqv_ints] at z
      simp at z
    have sgm := sgl.trans sm
    have wm := Same.wo (O := [sz0, st]) sgm
    exact ⟨p3, _, _, _, _, rfl, Sg.le sgm, Og.le sgm, wm _ _ rlg, itg.le wm, wm _ _ dag, sgm _ _ szg⟩
  · clear J1 J2 J3 J4 Sd Od
    rintro σ He ⟨p2, z8, z9, z10, z11, rfl, Se, Oe, rle, ite, dae, sze⟩
    refine ⟨Nat.zero_le _, fun c1 hc1 => ?_⟩
    have sf := same_upd (o := .lst []) hc1; have hf := upd_same (H := He) (a := c1) (o := .lst []); generalize upd He c1 (.lst []) = Hf at sf hf ⊢
    refine ⟨c1, [], [], 0, rfl, SqL.of hf, by decide, .stop parse_nil, fun t1 Hg n1 sg hg => ?_⟩
    refine ⟨Nat.zero_le _, fun c2 hc2 => ?_⟩
    have sh := same_upd (o := .lst []) hc2; have hh := upd_same (H := Hg) (a := c2) (o := .lst []); generalize upd Hg c2 (.lst []) = Hh at sh hh ⊢
    refine ⟨sz 2 (by decide), fun t2 ht2 => ?_⟩
    have si := same_upd (o := .tup [.ref c2, .int 0]) ht2; have hi' := upd_same (H := Hh) (a := t2) (o := .tup [.ref c2, .int 0]); generalize upd Hh t2 (.tup [.ref c2, .int 0]) = Hi at si hi' ⊢
    refine ⟨_, _, _, _, rfl, (hg.le sh).le si, .tup (SqT.of hi') (.cons (.lst (SqL.of (si _ _ hh)) .nil) (.cons (.int 0) .nil)), (fr0 (m := []) (n := 0) (fun r hr => (by cases hr)) (by decide)).1, (fr0 (m := []) (n := 0) (fun r hr => (by cases hr)) (by decide)).2, fun Hj sj => ?_⟩
    have e0 : sameD (.tuple [.list (([] : List (List Int)).map fun x => .list (x.map .int)), .int ((0 : Nat) : Int)]) (.tuple [.list [], .int 0]) = true := sameD_refl _
    rw [e0]
    refine ⟨_, rfl, Nat.zero_le _, fun c3 hc3 => ?_⟩
    have sk := same_upd (o := .lst []) hc3; have hk := upd_same (H := Hj) (a := c3) (o := .lst []); generalize upd Hj c3 (.lst []) = Hk at sk hk ⊢
    refine ⟨c3, [], rfl, SqL.of hk, by decide, fun t3 Hl n3 sl3 hl => ?_⟩
    refine ⟨sz 5 (by decide), fun t4 ht4 => ?_⟩
    have sm := same_upd (o := .lst [.int 0, .int 0, .int 0, .int 0, .int 7]) ht4; have hm := upd_same (H := Hl) (a := t4) (o := .lst [.int 0, .int 0, .int 0, .int 0, .int 7]); generalize upd Hl t4 (.lst [.int 0, .int 0, .int 0, .int 0, .int 7]) = Hm at sm hm ⊢
    have e7 : wrec [] = [0, 0, 0, 0, 7] := by
      unfold wrec
      rw [show ([] : List Int).length = 0 from rfl, wnum_lt (by decide)]
      rfl
    rw [e7] at hl
    refine ⟨_, _, _, _, rfl, rp_ints (SqL.of (sm _ _ hl)), rp_ints (a := [0, 0, 0, 0, 7]) (SqL.of hm), fit_ints (by decide), Nat.lt_of_le_of_lt (dep_ints _) (by decide), fun Hn sn => ?_⟩
    rw [sameD_refl]
    exact k Hn
end


theorem all_mk {l : PySem.W.OpenLaw} {w : World} {K : PySem.W.Frag} {h : Heap} {mg : Str → Option Value} {fa f1 f2 f3 f4 f5 f6 f7 f8 f9 f10 f11 f12 f13 f14 f15 f16 f17 f18 f19 f20 K_Reader K_DamagedPacket : Addr} (X : K.In h) (G : h.Ns mainGlobals mg) (hfa : mg "law" = some (.ref fa))
    {od1 od2 od3 od4 od5 od6 od7 od8 od9 od10 od11 od12 od13 od14 od15 od16 od17 od18 od19 od20 an1 an2 an3 an4 an5 an6 an7 an8 an9 an10 an11 an12 an13 an14 an15 an16 an17 an18 an19 an20 : Option Addr} {sl1 sl2 sl3 sl4 sl5 sl6 sl7 sl8 sl9 sl10 sl11 sl12 sl13 sl14 sl15 sl16 sl17 sl18 sl19 sl20 : Array (Option Value)} {oc1 oc2 oc3 oc4 oc5 oc6 oc7 oc8 oc9 oc10 oc11 oc12 oc13 oc14 oc15 oc16 oc17 oc18 oc19 oc20 kV1 kV2 kV3 kV4 kV5 kV6 kV7 kV8 kV9 kV10 kV11 kV12 kV13 kV14 kV15 kV16 kV17 kV18 kV19 kV20 dc1 dc2 dc3 dc4 dc5 dc6 dc7 dc8 dc9 dc10 dc11 dc12 dc13 dc14 dc15 dc16 dc17 dc18 dc19 dc20 pm1 pm2 pm3 pm4 pm5 pm6 pm7 pm8 pm9 pm10 pm11 pm12 pm13 pm14 pm15 pm16 pm17 pm18 pm19 pm20 cd1 cd2 cd3 cd4 cd5 cd6 cd7 cd8 cd9 cd10 cd11 cd12 cd13 cd14 cd15 cd16 cd17 cd18 cd19 cd20 ct1 ct2 ct3 ct4 ct5 ct6 ct7 ct8 ct9 ct10 ct11 ct12 ct13 ct14 ct15 ct16 ct17 ct18 ct19 ct20 : Value} {u1 u2 : Tok}
    (q_Reader : PySem.W.nsIn K mainGlobals "Reader" = some (some (.ref K_Reader)))
    (pg_Reader : PySem.W.plainGet K K_Reader Str.empty = true)
    (hd_Reader : PySem.W.hasDictIn K K_Reader = true)
    (po_Reader : PySem.W.plainOver K K_Reader = true)
    (sa_Reader : PySem.W.findIn K (.ref K_Reader) "__setattr__" = some (some (.builtin "object.__setattr__")))
    (mk_Reader : PySem.W.makesIn K K_Reader = true)
    (kc_Reader : PySem.W.keepIn K (.ref K_Reader) = true)
    (n_Reader_data : PySem.W.findIn K (.ref K_Reader) "data" = some none)
    (n_Reader_at : PySem.W.findIn K (.ref K_Reader) "at" = some none)
    (xg_DamagedPacket : PySem.W.nsIn K mainGlobals "DamagedPacket" = some (some (.ref K_DamagedPacket)))
    (xx_DamagedPacket : PySem.W.excIn K K_DamagedPacket [.type "ValueError", .type "Exception", .type "BaseException", .type "object"] "ValueError.__new__" = true)
    (xk_DamagedPacket : PySem.W.keepIn K (.ref K_DamagedPacket) = true)
    (xb_DamagedPacket : PySem.W.subIn K (.ref K_DamagedPacket) (.type "BaseException") = some true)
    (xt_DamagedPacket : PySem.W.typeIn K (.ref K_DamagedPacket) = some (.type "type"))
    (xh_DamagedPacket : PySem.W.hasDictIn K K_DamagedPacket = true)
    (xs_DamagedPacket : PySem.W.subIn K (.ref K_DamagedPacket) (.ref K_DamagedPacket) = some true)
    (a1 : PySem.W.nsIn K mainGlobals "_law_mix" = some (some (.ref f1)))
    (l1 : K.lookup f1 = some ⟨oc1, od1, .func (PySem.W.fnOf "_law_mix" "_law_mix" (defArgs s_law_mix) (defBody s_law_mix) (defScope s_law_mix) .none kV1 dc1 pm1 an1 cd1 ct1), sl1⟩)
    (c1 : PySem.W.codeIn K cd1 "_law_mix" = true)
    (k1 : PySem.W.keepIn K (.ref f1) = true)
    (a2 : PySem.W.nsIn K mainGlobals "_law_draws" = some (some (.ref f2)))
    (l2 : K.lookup f2 = some ⟨oc2, od2, .func (PySem.W.fnOf "_law_draws" "_law_draws" (defArgs s_law_draws) (defBody s_law_draws) (defScope s_law_draws) .none kV2 dc2 pm2 an2 cd2 ct2), sl2⟩)
    (c2 : PySem.W.codeIn K cd2 "_law_draws" = true)
    (k2 : PySem.W.keepIn K (.ref f2) = true)
    (a3 : PySem.W.nsIn K mainGlobals "_law_at" = some (some (.ref f3)))
    (l3 : K.lookup f3 = some ⟨oc3, od3, .func (PySem.W.fnOf "_law_at" "_law_at" (defArgs s_law_at) (defBody s_law_at) (defScope s_law_at) .none kV3 dc3 pm3 an3 cd3 ct3), sl3⟩)
    (c3 : PySem.W.codeIn K cd3 "_law_at" = true)
    (k3 : PySem.W.keepIn K (.ref f3) = true)
    (a4 : PySem.W.nsIn K mainGlobals "_law_next" = some (some (.ref f4)))
    (l4 : K.lookup f4 = some ⟨oc4, od4, .func (PySem.W.fnOf "_law_next" "_law_next" (defArgs s_law_next) (defBody s_law_next) (defScope s_law_next) .none kV4 dc4 pm4 an4 cd4 ct4), sl4⟩)
    (c4 : PySem.W.codeIn K cd4 "_law_next" = true)
    (k4 : PySem.W.keepIn K (.ref f4) = true)
    (a5 : PySem.W.nsIn K mainGlobals "_law_is_integer" = some (some (.ref f5)))
    (l5 : K.lookup f5 = some ⟨oc5, od5, .func (PySem.W.fnOf "_law_is_integer" "_law_is_integer" (defArgs s_law_is_integer) (defBody s_law_is_integer) (defScope s_law_is_integer) .none kV5 dc5 pm5 an5 cd5 ct5), sl5⟩)
    (c5 : PySem.W.codeIn K cd5 "_law_is_integer" = true)
    (k5 : PySem.W.keepIn K (.ref f5) = true)
    (a6 : PySem.W.nsIn K mainGlobals "_law_same" = some (some (.ref f6)))
    (l6 : K.lookup f6 = some ⟨oc6, od6, .func (PySem.W.fnOf "_law_same" "_law_same" (defArgs s_law_same) (defBody s_law_same) (defScope s_law_same) .none kV6 dc6 pm6 an6 cd6 ct6), sl6⟩)
    (c6 : PySem.W.codeIn K cd6 "_law_same" = true)
    (k6 : PySem.W.keepIn K (.ref f6) = true)
    (a7 : PySem.W.nsIn K mainGlobals "write_number" = some (some (.ref f7)))
    (l7 : K.lookup f7 = some ⟨oc7, od7, .func (PySem.W.fnOf "write_number" "write_number" (defArgs s_write_number) (defBody s_write_number) (defScope s_write_number) .none kV7 dc7 pm7 an7 cd7 ct7), sl7⟩)
    (c7 : PySem.W.codeIn K cd7 "write_number" = true)
    (k7 : PySem.W.keepIn K (.ref f7) = true)
    (a8 : PySem.W.nsIn K mainGlobals "checksum" = some (some (.ref f8)))
    (l8 : K.lookup f8 = some ⟨oc8, od8, .func (PySem.W.fnOf "checksum" "checksum" (defArgs s_checksum) (defBody s_checksum) (defScope s_checksum) .none kV8 dc8 pm8 an8 cd8 ct8), sl8⟩)
    (c8 : PySem.W.codeIn K cd8 "checksum" = true)
    (k8 : PySem.W.keepIn K (.ref f8) = true)
    (a9 : PySem.W.nsIn K mainGlobals "write_record" = some (some (.ref f9)))
    (l9 : K.lookup f9 = some ⟨oc9, od9, .func (PySem.W.fnOf "write_record" "write_record" (defArgs s_write_record) (defBody s_write_record) (defScope s_write_record) .none kV9 dc9 pm9 an9 cd9 ct9), sl9⟩)
    (c9 : PySem.W.codeIn K cd9 "write_record" = true)
    (k9 : PySem.W.keepIn K (.ref f9) = true)
    (a10 : PySem.W.findIn K (.ref K_Reader) "__init__" = some (some (.ref f10)))
    (i10 : PySem.W.isFn K (.ref f10) = true)
    (l10 : K.lookup f10 = some ⟨oc10, od10, .func (PySem.W.fnOf "__init__" "Reader.__init__" (defArgs s_Reader___init__) (defBody s_Reader___init__) (defScope s_Reader___init__) .none kV10 dc10 pm10 an10 cd10 ct10), sl10⟩)
    (c10 : PySem.W.codeIn K cd10 "Reader.__init__" = true)
    (k10 : PySem.W.keepIn K (.ref f10) = true)
    (a11 : PySem.W.findIn K (.ref K_Reader) "read_byte" = some (some (.ref f11)))
    (i11 : PySem.W.isFn K (.ref f11) = true)
    (l11 : K.lookup f11 = some ⟨oc11, od11, .func (PySem.W.fnOf "read_byte" "Reader.read_byte" (defArgs s_Reader_read_byte) (defBody s_Reader_read_byte) (defScope s_Reader_read_byte) .none kV11 dc11 pm11 an11 cd11 ct11), sl11⟩)
    (c11 : PySem.W.codeIn K cd11 "Reader.read_byte" = true)
    (k11 : PySem.W.keepIn K (.ref f11) = true)
    (a12 : PySem.W.findIn K (.ref K_Reader) "read_number" = some (some (.ref f12)))
    (i12 : PySem.W.isFn K (.ref f12) = true)
    (l12 : K.lookup f12 = some ⟨oc12, od12, .func (PySem.W.fnOf "read_number" "Reader.read_number" (defArgs s_Reader_read_number) (defBody s_Reader_read_number) (defScope s_Reader_read_number) .none kV12 dc12 pm12 an12 cd12 ct12), sl12⟩)
    (c12 : PySem.W.codeIn K cd12 "Reader.read_number" = true)
    (k12 : PySem.W.keepIn K (.ref f12) = true)
    (a13 : PySem.W.nsIn K mainGlobals "_read_size" = some (some (.ref f13)))
    (l13 : K.lookup f13 = some ⟨oc13, od13, .func (PySem.W.fnOf "_read_size" "_read_size" (defArgs s_read_size) (defBody s_read_size) (defScope s_read_size) .none kV13 dc13 pm13 an13 cd13 ct13), sl13⟩)
    (c13 : PySem.W.codeIn K cd13 "_read_size" = true)
    (k13 : PySem.W.keepIn K (.ref f13) = true)
    (a14 : PySem.W.nsIn K mainGlobals "read_records" = some (some (.ref f14)))
    (l14 : K.lookup f14 = some ⟨oc14, od14, .func (PySem.W.fnOf "read_records" "read_records" (defArgs s_read_records) (defBody s_read_records) (defScope s_read_records) .none kV14 dc14 pm14 an14 cd14 ct14), sl14⟩)
    (c14 : PySem.W.codeIn K cd14 "read_records" = true)
    (k14 : PySem.W.keepIn K (.ref f14) = true)
    (a15 : PySem.W.nsIn K mainGlobals "_law_number" = some (some (.ref f15)))
    (l15 : K.lookup f15 = some ⟨oc15, od15, .func (PySem.W.fnOf "_law_number" "_law_number" (defArgs s_law_number) (defBody s_law_number) (defScope s_law_number) .none kV15 dc15 pm15 an15 cd15 ct15), sl15⟩)
    (c15 : PySem.W.codeIn K cd15 "_law_number" = true)
    (k15 : PySem.W.keepIn K (.ref f15) = true)
    (a16 : PySem.W.nsIn K mainGlobals "_law_checksum" = some (some (.ref f16)))
    (l16 : K.lookup f16 = some ⟨oc16, od16, .func (PySem.W.fnOf "_law_checksum" "_law_checksum" (defArgs s_law_checksum) (defBody s_law_checksum) (defScope s_law_checksum) .none kV16 dc16 pm16 an16 cd16 ct16), sl16⟩)
    (c16 : PySem.W.codeIn K cd16 "_law_checksum" = true)
    (k16 : PySem.W.keepIn K (.ref f16) = true)
    (a17 : PySem.W.nsIn K mainGlobals "_law_record" = some (some (.ref f17)))
    (l17 : K.lookup f17 = some ⟨oc17, od17, .func (PySem.W.fnOf "_law_record" "_law_record" (defArgs s_law_record) (defBody s_law_record) (defScope s_law_record) .none kV17 dc17 pm17 an17 cd17 ct17), sl17⟩)
    (c17 : PySem.W.codeIn K cd17 "_law_record" = true)
    (k17 : PySem.W.keepIn K (.ref f17) = true)
    (a18 : PySem.W.nsIn K mainGlobals "_law_bytes" = some (some (.ref f18)))
    (l18 : K.lookup f18 = some ⟨oc18, od18, .func (PySem.W.fnOf "_law_bytes" "_law_bytes" (defArgs s_law_bytes) (defBody s_law_bytes) (defScope s_law_bytes) .none kV18 dc18 pm18 an18 cd18 ct18), sl18⟩)
    (c18 : PySem.W.codeIn K cd18 "_law_bytes" = true)
    (k18 : PySem.W.keepIn K (.ref f18) = true)
    (a19 : PySem.W.nsIn K mainGlobals "_law_behind" = some (some (.ref f19)))
    (l19 : K.lookup f19 = some ⟨oc19, od19, .func (PySem.W.fnOf "_law_behind" "_law_behind" (defArgs s_law_behind) (defBody s_law_behind) (defScope s_law_behind) .none kV19 dc19 pm19 an19 cd19 ct19), sl19⟩)
    (c19 : PySem.W.codeIn K cd19 "_law_behind" = true)
    (k19 : PySem.W.keepIn K (.ref f19) = true)
    (a20 : PySem.W.nsIn K mainGlobals "law" = some (some (.ref f20)))
    (l20 : K.lookup f20 = some ⟨oc20, od20, .func (PySem.W.fnOf "law" "law" (defArgs s_law) (defBody s_law) (defScope s_law) .none kV20 dc20 pm20 an20 cd20 ct20), sl20⟩)
    (c20 : PySem.W.codeIn K cd20 "law" = true)
    (k20 : PySem.W.keepIn K (.ref f20) = true)
    (z1 : PySem.W.nsIn K mainGlobals "bool" = some none)
    (z2 : PySem.W.nsIn K mainGlobals "int" = some none)
    (z3 : PySem.W.nsIn K mainGlobals "isinstance" = some none)
    (z4 : PySem.W.nsIn K mainGlobals "len" = some none)
    (z5 : PySem.W.nsIn K mainGlobals "list" = some none)
    (z6 : PySem.W.nsIn K mainGlobals "min" = some none)
    (z7 : PySem.W.nsIn K mainGlobals "range" = some none)
    (z8 : PySem.W.nsIn K mainGlobals "str" = some none)
    (z9 : PySem.W.nsIn K mainGlobals "tuple" = some none)
    (y1 : PySem.W.nsIn K mainGlobals "CHECKSUM_LIMIT" = some (some (.int 4294967296 u1)))
    (y2 : PySem.W.nsIn K mainGlobals "NUMBER_BYTES" = some (some (.int 60 u2)))
    : ∃ fd : FuncData, (∀ (s : Shared) (v : Value), BindsTo s fd ⟨[v], []⟩ [("script", v)]) ∧ ∀ base : Heap, K.In base → base.Ns mainGlobals mg → FnOk l.prog w K mg base CX0 6 fa fd ["script"] (spLaw K) := by
  have e := hfa.symm.trans (PySem.W.mg_of X G a20)
  cases e
  have T : Txt K mg := ⟨PySem.W.mg_none_of X G z1, PySem.W.mg_none_of X G z2, PySem.W.mg_none_of X G z3, PySem.W.mg_none_of X G z4, PySem.W.mg_none_of X G z5, PySem.W.mg_none_of X G z6, PySem.W.mg_none_of X G z7, PySem.W.mg_none_of X G z8, PySem.W.mg_none_of X G z9, ⟨_, PySem.W.mg_of X G y1⟩, ⟨_, PySem.W.mg_of X G y2⟩⟩
  have X_DamagedPacket : ExF K mg "DamagedPacket" K_DamagedPacket := ⟨PySem.W.mg_of X G xg_DamagedPacket, xx_DamagedPacket, xk_DamagedPacket, xb_DamagedPacket, xt_DamagedPacket, PySem.W.exm_ref xb_DamagedPacket xh_DamagedPacket xt_DamagedPacket xs_DamagedPacket⟩
  have T_Reader : TReader K K_Reader := ⟨⟨pg_Reader, hd_Reader, po_Reader, sa_Reader⟩, n_Reader_data, n_Reader_at⟩
  have F_law_mix := fun_mk (st := s_law_mix) l1 c1 k1
  have b_law_mix := F_law_mix.binds (ps := ["cell", "k"]) fun _ _ _ _ _ _ us hl => match us, hl with | [_, _], _ => rfl
  have m_law_mix := PySem.W.mg_of X G a1
  have F_law_draws := fun_mk (st := s_law_draws) l2 c2 k2
  have b_law_draws := F_law_draws.binds (ps := ["script"]) fun _ _ _ _ _ _ us hl => match us, hl with | [_], _ => rfl
  have m_law_draws := PySem.W.mg_of X G a2
  have F_law_at := fun_mk (st := s_law_at) l3 c3 k3
  have b_law_at := F_law_at.binds (ps := ["draws", "index"]) fun _ _ _ _ _ _ us hl => match us, hl with | [_, _], _ => rfl
  have m_law_at := PySem.W.mg_of X G a3
  have F_law_next := fun_mk (st := s_law_next) l4 c4 k4
  have b_law_next := F_law_next.binds (ps := ["state", "limit"]) fun _ _ _ _ _ _ us hl => match us, hl with | [_, _], _ => rfl
  have m_law_next := PySem.W.mg_of X G a4
  have F_law_is_integer := fun_mk (st := s_law_is_integer) l5 c5 k5
  have b_law_is_integer := F_law_is_integer.binds (ps := ["actual"]) fun _ _ _ _ _ _ us hl => match us, hl with | [_], _ => rfl
  have m_law_is_integer := PySem.W.mg_of X G a5
  have F_law_same := fun_mk (st := s_law_same) l6 c6 k6
  have b_law_same := F_law_same.binds (ps := ["actual", "expected"]) fun _ _ _ _ _ _ us hl => match us, hl with | [_, _], _ => rfl
  have m_law_same := PySem.W.mg_of X G a6
  have F_write_number := fun_mk (st := s_write_number) l7 c7 k7
  have b_write_number := F_write_number.binds (ps := ["number"]) fun _ _ _ _ _ _ us hl => match us, hl with | [_], _ => rfl
  have m_write_number := PySem.W.mg_of X G a7
  have F_checksum := fun_mk (st := s_checksum) l8 c8 k8
  have b_checksum := F_checksum.binds (ps := ["data"]) fun _ _ _ _ _ _ us hl => match us, hl with | [_], _ => rfl
  have m_checksum := PySem.W.mg_of X G a8
  have F_write_record := fun_mk (st := s_write_record) l9 c9 k9
  have b_write_record := F_write_record.binds (ps := ["data"]) fun _ _ _ _ _ _ us hl => match us, hl with | [_], _ => rfl
  have m_write_record := PySem.W.mg_of X G a9
  have F_Reader___init__ := fun_mk (st := s_Reader___init__) l10 c10 k10
  have b_Reader___init__ := F_Reader___init__.binds (ps := ["self", "data"]) fun _ _ _ _ _ _ us hl => match us, hl with | [_, _], _ => rfl
  have F_Reader_read_byte := fun_mk (st := s_Reader_read_byte) l11 c11 k11
  have b_Reader_read_byte := F_Reader_read_byte.binds (ps := ["self"]) fun _ _ _ _ _ _ us hl => match us, hl with | [_], _ => rfl
  have F_Reader_read_number := fun_mk (st := s_Reader_read_number) l12 c12 k12
  have b_Reader_read_number := F_Reader_read_number.binds (ps := ["self"]) fun _ _ _ _ _ _ us hl => match us, hl with | [_], _ => rfl
  have F_read_size := fun_mk (st := s_read_size) l13 c13 k13
  have b_read_size := F_read_size.binds (ps := ["data", "start"]) fun _ _ _ _ _ _ us hl => match us, hl with | [_, _], _ => rfl
  have m_read_size := PySem.W.mg_of X G a13
  have F_read_records := fun_mk (st := s_read_records) l14 c14 k14
  have b_read_records := F_read_records.binds (ps := ["data"]) fun _ _ _ _ _ _ us hl => match us, hl with | [_], _ => rfl
  have m_read_records := PySem.W.mg_of X G a14
  have F_law_number := fun_mk (st := s_law_number) l15 c15 k15
  have b_law_number := F_law_number.binds (ps := ["number"]) fun _ _ _ _ _ _ us hl => match us, hl with | [_], _ => rfl
  have m_law_number := PySem.W.mg_of X G a15
  have F_law_checksum := fun_mk (st := s_law_checksum) l16 c16 k16
  have b_law_checksum := F_law_checksum.binds (ps := ["data"]) fun _ _ _ _ _ _ us hl => match us, hl with | [_], _ => rfl
  have m_law_checksum := PySem.W.mg_of X G a16
  have F_law_record := fun_mk (st := s_law_record) l17 c17 k17
  have b_law_record := F_law_record.binds (ps := ["data"]) fun _ _ _ _ _ _ us hl => match us, hl with | [_], _ => rfl
  have m_law_record := PySem.W.mg_of X G a17
  have F_law_bytes := fun_mk (st := s_law_bytes) l18 c18 k18
  have b_law_bytes := F_law_bytes.binds (ps := ["state"]) fun _ _ _ _ _ _ us hl => match us, hl with | [_], _ => rfl
  have m_law_bytes := PySem.W.mg_of X G a18
  have F_law_behind := fun_mk (st := s_law_behind) l19 c19 k19
  have b_law_behind := F_law_behind.binds (ps := ["state"]) fun _ _ _ _ _ _ us hl => match us, hl with | [_], _ => rfl
  have m_law_behind := PySem.W.mg_of X G a19
  have F_law := fun_mk (st := s_law) l20 c20 k20
  have b_law := F_law.binds (ps := ["script"]) fun _ _ _ _ _ _ us hl => match us, hl with | [_], _ => rfl
  have m_law := PySem.W.mg_of X G a20
  refine ⟨PySem.W.fnOf "law" "law" (defArgs s_law) (defBody s_law) (defScope s_law) .none kV20 dc20 pm20 an20 cd20 ct20, fun s v => .of_eq rfl, fun base _ _ => ?_⟩
  have G_law_mix : GF l.prog w K mg base CX0 "_law_mix" 1 ["cell", "k"] (spMix) := ⟨f1, _, ok_law_mix F_law_mix T, m_law_mix, k1, b_law_mix⟩
  have G_law_draws : GF l.prog w K mg base CX0 "_law_draws" 2 ["script"] (spDraws K) := ⟨f2, _, ok_law_draws F_law_draws T G_law_mix, m_law_draws, k2, b_law_draws⟩
  have G_law_at : GF l.prog w K mg base CX0 "_law_at" 2 ["draws", "index"] (spAt K) := ⟨f3, _, ok_law_at F_law_at T G_law_mix, m_law_at, k3, b_law_at⟩
  have G_law_next : GF l.prog w K mg base CX0 "_law_next" 3 ["state", "limit"] (spNextA K) := ⟨f4, _, ok_law_nextA F_law_next T G_law_at, m_law_next, k4, b_law_next⟩
  have G_law_is_integer : GF l.prog w K mg base CX0 "_law_is_integer" 1 ["actual"] (spIsInt K) := ⟨f5, _, ok_law_is_integer F_law_is_integer T, m_law_is_integer, k5, b_law_is_integer⟩
  have G_law_same : GF l.prog w K mg base CX0 "_law_same" 5 ["actual", "expected"] (spSame K 4) := gf_law_same F_law_same T G_law_is_integer m_law_same b_law_same 4
  have G_write_number : GF l.prog w K mg base CX0 "write_number" 1 ["number"] (spWnum) := ⟨f7, _, ok_write_number F_write_number T, m_write_number, k7, b_write_number⟩
  have G_checksum : GF l.prog w K mg base CX0 "checksum" 1 ["data"] (spCsum K) := ⟨f8, _, ok_checksum F_checksum T, m_checksum, k8, b_checksum⟩
  have G_write_record : GF l.prog w K mg base CX0 "write_record" 2 ["data"] (spWrec K) := ⟨f9, _, ok_write_record F_write_record T G_write_number G_checksum, m_write_record, k9, b_write_record⟩
  have C_Reader : GC l.prog w K mg base CX0 "Reader" K_Reader 1 ["self", "data"] (spRInit K K_Reader) := ⟨f10, _, ok_Reader_init F_Reader___init__ T T_Reader, ⟨mk_Reader, a10, i10, kc_Reader⟩, PySem.W.mg_of X G q_Reader, b_Reader___init__⟩
  have M_read_byte : GM l.prog w K mg base (L2.CX l.prog w) K_Reader "read_byte" 1 ["self"] (spRByte K K_Reader K_DamagedPacket) := ⟨f11, _, ok_Reader_read_byte F_Reader_read_byte T T_Reader X_DamagedPacket, ⟨a11, i11, k11⟩, b_Reader_read_byte⟩
  have M_read_number : GM l.prog w K mg base (L2.CX l.prog w) K_Reader "read_number" 2 ["self"] (spRNum K K_Reader K_DamagedPacket) := ⟨f12, _, ok_Reader_read_number F_Reader_read_number T T_Reader X_DamagedPacket M_read_byte, ⟨a12, i12, k12⟩, b_Reader_read_number⟩
  have G_read_size : GF l.prog w K mg base CX0 "_read_size" 3 ["data", "start"] (spRSize K) := ⟨f13, _, ok_read_size F_read_size T T_Reader X_DamagedPacket C_Reader M_read_number, m_read_size, k13, b_read_size⟩
  have G_read_records : GF l.prog w K mg base CX0 "read_records" 4 ["data"] (spRRecs K) := ⟨f14, _, ok_read_records F_read_records T G_read_size G_write_record, m_read_records, k14, b_read_records⟩
  have G_law_number : GF l.prog w K mg base CX0 "_law_number" 1 ["number"] (spWnum) := ⟨f15, _, ok_law_number F_law_number T, m_law_number, k15, b_law_number⟩
  have G_law_checksum : GF l.prog w K mg base CX0 "_law_checksum" 1 ["data"] (spCsum K) := ⟨f16, _, ok_law_checksum F_law_checksum T, m_law_checksum, k16, b_law_checksum⟩
  have G_law_record : GF l.prog w K mg base CX0 "_law_record" 2 ["data"] (spWrecL K) := ⟨f17, _, ok_law_record F_law_record T G_law_number G_law_checksum, m_law_record, k17, b_law_record⟩
  have G_law_bytes : GF l.prog w K mg base CX0 "_law_bytes" 4 ["state"] (spBytes K) := ⟨f18, _, ok_law_bytes F_law_bytes T G_law_next, m_law_bytes, k18, b_law_bytes⟩
  have G_law_behind : GF l.prog w K mg base CX0 "_law_behind" 5 ["state"] (spBehind K) := ⟨f19, _, ok_law_behind F_law_behind T G_law_next G_law_number G_law_record G_law_bytes, m_law_behind, k19, b_law_behind⟩
  exact ok_law F_law T G_law_draws G_law_next G_law_same G_checksum G_write_record G_read_records G_law_checksum G_law_record G_law_bytes G_law_behind
theorem walk {l : PySem.W.OpenLaw} {q : Program} {loose : List Str} {XP : (Str → Option Value) → Heap → Prop} {YP : World → Heap → Prop} {d : DefRec} {K : Params → PySem.W.Frag} (hn : l.most = some 63) (hdf : d.params.defaults = [])
    (hY : ∀ (w : World) (h : Heap), YP w h → (K w.params).In h)
    (F : ∀ (w : World) (mg : Str → Option Value) (fa : Addr) (h : Heap), (K w.params).In h → h.Ns mainGlobals mg → mg d.name = some (.ref fa) →
      ∃ fd : FuncData, (∀ (s : Shared) (u : Value), BindsTo s fd ⟨[u], []⟩ [("script", u)]) ∧ ∀ base : Heap, (K w.params).In base → base.Ns mainGlobals mg → FnOk l.prog w (K w.params) mg base CX0 6 fa fd ["script"] (spLaw (K w.params))) :
    PySem.W.WalkO q loose XP YP l.row.toRowW d [] (fun f vs => PySem.call f vs) :=
  L2.walk_of (n := 63) (k := 6) (x := "script") (CX := fun _ => CX0) (sp := fun w => spLaw (K w.params)) hn (by decide) hdf ⟨rfl, by decide, by decide⟩ hY F (fun _ _ a ns hl _ hS => ⟨a, ns, rfl, hS, hl, fun _ => rfl⟩) fun _ _ _ _ _ z => z
end SW
open PySem PySem.W PyProof.Rows
set_option maxRecDepth 100000 in
set_option maxHeartbeats 0 in
theorem PySem.Challenge.cw_shapewhole_k11_records_holds : PySem.Challenge.rw_shapewhole_k11_records.Holds := by
  w_on; o_law; k_head; (case hw => w_witness2)
  k_fill
  refine SW.walk (l := PySem.Challenge.rw_shapewhole_k11_records) rfl rfl (fun w h Y => PySem.W.kIn_of Y) ?F
  case F =>
    intro w mg fa h KX G hmg
    refine' SW.all_mk KX G hmg ?q_Reader ?pg_Reader ?hd_Reader ?po_Reader ?sa_Reader ?mk_Reader ?kc_Reader ?n_Reader_data ?n_Reader_at ?xg_DamagedPacket ?xx_DamagedPacket ?xk_DamagedPacket ?xb_DamagedPacket ?xt_DamagedPacket ?xh_DamagedPacket ?xs_DamagedPacket ?a1 ?l1 ?c1 ?k1 ?a2 ?l2 ?c2 ?k2 ?a3 ?l3 ?c3 ?k3 ?a4 ?l4 ?c4 ?k4 ?a5 ?l5 ?c5 ?k5 ?a6 ?l6 ?c6 ?k6 ?a7 ?l7 ?c7 ?k7 ?a8 ?l8 ?c8 ?k8 ?a9 ?l9 ?c9 ?k9 ?a10 ?i10 ?l10 ?c10 ?k10 ?a11 ?i11 ?l11 ?c11 ?k11 ?a12 ?i12 ?l12 ?c12 ?k12 ?a13 ?l13 ?c13 ?k13 ?a14 ?l14 ?c14 ?k14 ?a15 ?l15 ?c15 ?k15 ?a16 ?l16 ?c16 ?k16 ?a17 ?l17 ?c17 ?k17 ?a18 ?l18 ?c18 ?k18 ?a19 ?l19 ?c19 ?k19 ?a20 ?l20 ?c20 ?k20 ?z1 ?z2 ?z3 ?z4 ?z5 ?z6 ?z7 ?z8 ?z9 ?y1 ?y2
    (case q_Reader => k_is)
    (case pg_Reader => k_is)
    (case hd_Reader => k_is)
    (case po_Reader => k_is)
    (case sa_Reader => k_is)
    (case mk_Reader => k_is)
    (case kc_Reader => k_is)
    (case n_Reader_data => k_is)
    (case n_Reader_at => k_is)
    (case xg_DamagedPacket => k_is)
    (case xx_DamagedPacket => k_exc)
    (case xk_DamagedPacket => k_is)
    (case xb_DamagedPacket => k_is)
    (case xt_DamagedPacket => k_is)
    (case xh_DamagedPacket => k_is)
    (case xs_DamagedPacket => k_is)
    (case a1 => k_is)
    (case l1 => k_is)
    (case c1 => k_is)
    (case k1 => k_is)
    (case a2 => k_is)
    (case l2 => k_is)
    (case c2 => k_is)
    (case k2 => k_is)
    (case a3 => k_is)
    (case l3 => k_is)
    (case c3 => k_is)
    (case k3 => k_is)
    (case a4 => k_is)
    (case l4 => k_is)
    (case c4 => k_is)
    (case k4 => k_is)
    (case a5 => k_is)
    (case l5 => k_is)
    (case c5 => k_is)
    (case k5 => k_is)
    (case a6 => k_is)
    (case l6 => k_is)
    (case c6 => k_is)
    (case k6 => k_is)
    (case a7 => k_is)
    (case l7 => k_is)
    (case c7 => k_is)
    (case k7 => k_is)
    (case a8 => k_is)
    (case l8 => k_is)
    (case c8 => k_is)
    (case k8 => k_is)
    (case a9 => k_is)
    (case l9 => k_is)
    (case c9 => k_is)
    (case k9 => k_is)
    (case a10 => k_is)
    (case i10 => k_is)
    (case l10 => k_is)
    (case c10 => k_is)
    (case k10 => k_is)
    (case a11 => k_is)
    (case i11 => k_is)
    (case l11 => k_is)
    (case c11 => k_is)
    (case k11 => k_is)
    (case a12 => k_is)
    (case i12 => k_is)
    (case l12 => k_is)
    (case c12 => k_is)
    (case k12 => k_is)
    (case a13 => k_is)
    (case l13 => k_is)
    (case c13 => k_is)
    (case k13 => k_is)
    (case a14 => k_is)
    (case l14 => k_is)
    (case c14 => k_is)
    (case k14 => k_is)
    (case a15 => k_is)
    (case l15 => k_is)
    (case c15 => k_is)
    (case k15 => k_is)
    (case a16 => k_is)
    (case l16 => k_is)
    (case c16 => k_is)
    (case k16 => k_is)
    (case a17 => k_is)
    (case l17 => k_is)
    (case c17 => k_is)
    (case k17 => k_is)
    (case a18 => k_is)
    (case l18 => k_is)
    (case c18 => k_is)
    (case k18 => k_is)
    (case a19 => k_is)
    (case l19 => k_is)
    (case c19 => k_is)
    (case k19 => k_is)
    (case a20 => k_is)
    (case l20 => k_is)
    (case c20 => k_is)
    (case k20 => k_is)
    (case z1 => k_is)
    (case z2 => k_is)
    (case z3 => k_is)
    (case z4 => k_is)
    (case z5 => k_is)
    (case z6 => k_is)
    (case z7 => k_is)
    (case z8 => k_is)
    (case z9 => k_is)
    (case y1 => k_is)
    (case y2 => k_is)
