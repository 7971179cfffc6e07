import PyProof.Rows.All
import Wide.All
import OpenK.AllK
import Wide.FinOn
import HandS.ForMost
import HandS.Wide
import HandS.Deep
import HandS.IsInst
import HandS.TupAny
import HandS.SortInts
import HandS.Flow
import HandS.Walk
import HandS.Zip
import HandS.Codes
import HandS.Evl
import HandS.More
import HandS.NoneIn
import HandS.Text
import HandS.ForExc
import HandS.TryOnly
import HandS.TryMany
import HandS.ExcIs
import KE.GoesComp
import KE.GoesRaise
import PySem.Challenge.RW_shapewhole_k12_bytes_written_and_read
set_option Elab.async false
set_option linter.all false
set_option maxRecDepth 100000
namespace SW
open PySem L2

structure GF (P : Program) (w : World) (K : PySem.W.Frag) (mg : Str → Option Value) (base : Heap) (CX : CXT) (x : Str) (k : Nat) (ps : List Str) (sp : Sp) : Prop where
  ex : ∃ (f : Addr) (fd : FuncData), FnOk P w K mg base CX k f fd ps sp ∧ mg x = some (.ref f) ∧ PySem.W.keepIn K (.ref f) = true ∧ Binds K fd ps []
section
variable {X : Cx} {x : Str} {k j : Nat} {ps : List Str} {sp : Sp} {e : Expr} {es : List Expr} {t : TA} {p pos : Pos}
def tCg (sp : Sp) (t : TA) : TE := fun σ H Q => t σ H fun vs H1 => sp vs H1 Q E0
theorem pe_cg (G : GF X.prog X.w X.K X.mg X.base CX0 x k ps sp) (hr : Room j X.A) (hg : Gl X x) (ha : PA X (e :: es) t) (hk : k ≤ j := by first | decide | omega)
    (hdb : (x == ("__debug__" : Str)) = false := by decide) (he : starEach (e :: es) X.env = (false, eval e X.env) :: starEach es X.env := by rfl) (hpl : (backTo pos (starEach es X.env)).any (·.1) = false := by rfl) :
    PE X (.Call (.Name x p) (e :: es) [] pos) (tCg sp t) := by
  obtain ⟨f, fd, F, hm, hkp, hb⟩ := G.ex
  have h := pe_call (p := p) (pos := pos) F (hr.mono hk) hg hm hkp hb .nil (pass0 (X := X)) ha hdb he hpl
  refine ⟨fun pins s σ H Q I q => h.run pins s σ H Q I ?_⟩
  have e1 : tCall sp [] E0 t = tCg sp t := by
    funext σ H Q
    show (t σ H fun vs H1 => sp (vs ++ []) H1 Q E0) = (t σ H fun vs H1 => sp vs H1 Q E0)
    simp only [List.append_nil]
  rw [e1]
  exact q
theorem pe_cg0 (G : GF X.prog X.w X.K X.mg X.base CX0 x k ps sp) (hr : Room j X.A) (hg : Gl X x) (hk : k ≤ j := by first | decide | omega)
    (hdb : (x == ("__debug__" : Str)) = false := by decide) : PE X (.Call (.Name x p) [] [] pos) (tCg sp tNil) := by
  obtain ⟨f, fd, F, hm, hkp, hb⟩ := G.ex
  have h := pe_call0 (pos := pos) (p := p) F (hr.mono hk) hg hm hkp hb .nil (pass0 (X := X)) hdb
  refine ⟨fun pins s σ H Q I q => h.run pins s σ H Q I ?_⟩
  exact q
end

structure GM (P : Program) (w : World) (K : PySem.W.Frag) (mg : Str → Option Value) (base : Heap) (CX : CXT) (C : Addr) (m : Str) (k : Nat) (ps : List Str) (sp : Sp) : Prop where
  ex : ∃ (f : Addr) (fd : FuncData), FnOk P w K mg base CX k f fd ps sp ∧ Meth K C m f ∧ Binds K fd ps []
structure GC (P : Program) (w : World) (K : PySem.W.Frag) (mg : Str → Option Value) (base : Heap) (CX : CXT) (x : Str) (C : Addr) (k : Nat) (ps : List Str) (sp : Sp) : Prop where
  ex : ∃ (f : Addr) (fd : FuncData), FnOk P w K mg base CX k f fd ps sp ∧ Mk K C f ∧ mg x = some (.ref C) ∧ Binds K fd ps []
section
variable {X : Cx} {x m : Str} {C : Addr} {k j : Nat} {ps : List Str} {sp : Sp} {o e : Expr} {es : List Expr} {ta : TE} {t : TA} {p pos apos : Pos}
def tGm (C : Addr) (m : Str) (sp : Sp) (ta : TE) (t : TA) : TE := fun σ H Q => ta σ H fun x H1 => ∃ a dx fs, x = .ref a ∧ H1 a = some (.ins C dx fs) ∧ fs.lookup m = none ∧ t σ H1 fun vs H2 => sp (x :: vs) H2 Q E0
def tGk (C : Addr) (sp : Sp) (t : TA) : TE := fun σ H Q => t σ H fun vs H1 => ∀ x dx, H1 x = none → H1 dx = none → dx ≠ x → sp (.ref x :: vs) (upd (upd H1 dx (.own x)) x (.ins C dx [])) (fun v H2 => v = .non ∧ Q (.ref x) H2) E0
theorem pe_gm {pl : Sem Bool} (he : PE X o ta) (c : Cls X.K C) (G : GM X.prog X.w X.K X.mg X.base CX0 C m k ps sp) (hr : Room j X.A) (ha : PA X (e :: es) t) (hk : k ≤ j := by first | decide | omega)
    (hst : starEach (e :: es) X.env = (false, eval e X.env) :: starEach es X.env := by rfl) (hpl : (backTo pos (starEach es X.env)).any (·.1) = false := by rfl)
    (ht : eval (.Call (.Attribute o m apos) (e :: es) [] pos) X.env = (do
      let ov ← eval o X.env
      standAt apos.atName
      let (f, first) ← holding [ov] (getMethod ov m pl)
      callWith pos f first (backTo pos (starEach (e :: es) X.env)) (backToKw pos (keywordEach [] X.env))) := by rfl) :
    PE X (.Call (.Attribute o m apos) (e :: es) [] pos) (tGm C m sp ta t) := by
  obtain ⟨f, fd, F, hm, hb⟩ := G.ex
  have h := pe_meth (pos := pos) (apos := apos) he c hm F (hr.mono hk) hb .nil (pass0 (X := X)) ha hst hpl ht
  refine ⟨fun pins s σ H Q I q => h.run pins s σ H Q I ?_⟩
  have e1 : tMeth C m sp [] E0 ta t = tGm C m sp ta t := by
    unfold tMeth tGm
    simp only [List.append_nil]
  rw [e1]
  exact q
theorem pe_gm0 {pl : Sem Bool} (he : PE X o ta) (c : Cls X.K C) (G : GM X.prog X.w X.K X.mg X.base CX0 C m k ps sp) (hr : Room j X.A) (hk : k ≤ j := by first | decide | omega)
    (ht : eval (.Call (.Attribute o m apos) [] [] pos) X.env = (do
      let ov ← eval o X.env
      standAt apos.atName
      let (f, first) ← holding [ov] (getMethod ov m pl)
      callWith pos f first (backTo pos (starEach [] X.env)) (backToKw pos (keywordEach [] X.env))) := by rfl) :
    PE X (.Call (.Attribute o m apos) [] [] pos) (tGm C m sp ta tNil) := by
  obtain ⟨f, fd, F, hm, hb⟩ := G.ex
  have h := pe_meth0 (pos := pos) (apos := apos) he c hm F (hr.mono hk) hb .nil (pass0 (X := X)) ht
  refine ⟨fun pins s σ H Q I q => h.run pins s σ H Q I ?_⟩
  have e1 : tMeth C m sp [] E0 ta tNil = tGm C m sp ta tNil := by
    unfold tMeth tGm
    simp only [List.append_nil]
  rw [e1]
  exact q
theorem pe_gk (G : GC X.prog X.w X.K X.mg X.base CX0 x C k ps sp) (hr : Room j X.A) (hg : Gl X x) (ha : PA X (e :: es) t) (hk : k + 1 ≤ j := by first | decide | omega)
    (hdb : (x == ("__debug__" : Str)) = false := by decide) (he : starEach (e :: es) X.env = (false, eval e X.env) :: starEach es X.env := by rfl) (hpl : (backTo pos (starEach es X.env)).any (·.1) = false := by rfl) :
    PE X (.Call (.Name x p) (e :: es) [] pos) (tGk C sp t) := by
  obtain ⟨f, fd, F, M, hm, hb⟩ := G.ex
  have h := pe_make (p := p) (pos := pos) M F (hr.mono hk) hg hm hb .nil (pass0 (X := X)) ha hdb he hpl
  refine ⟨fun pins s σ H Q I q => h.run pins s σ H Q I ?_⟩
  have e1 : tMake C sp [] E0 t = tGk C sp t := by
    unfold tMake tGk
    simp only [List.append_nil]
  rw [e1]
  exact q
theorem pe_gk0 (G : GC X.prog X.w X.K X.mg X.base CX0 x C k ps sp) (hr : Room j X.A) (hg : Gl X x) (hk : k + 1 ≤ j := by first | decide | omega)
    (hdb : (x == ("__debug__" : Str)) = false := by decide) : PE X (.Call (.Name x p) [] [] pos) (tGk C sp tNil) := by
  obtain ⟨f, fd, F, M, hm, hb⟩ := G.ex
  have h := pe_make0 (p := p) (pos := pos) M F (hr.mono hk) hg hm hb .nil (pass0 (X := X)) hdb
  refine ⟨fun pins s σ H Q I q => h.run pins s σ H Q I ?_⟩
  have e1 : tMake C sp [] E0 tNil = tGk C sp tNil := by
    unfold tMake tGk
    simp only [List.append_nil]
  rw [e1]
  exact q
end

section
variable {X : Cx}
def rGetL (K : PySem.W.Frag) : V → V → Hp → VK → Prop := fun o i H Q => ∃ a xs j v, o = .ref a ∧ i = .int ((j : Nat) : Int) ∧ SqL K H a xs ∧ xs[j]? = some v ∧ j < 4000000 ∧ Q v H
theorem get_list : PGet X (rGetL X.K) := by
  intro pins s σ H o i ov iv Q I ro ri h
  obtain ⟨a, xs, j, v, rfl, rfl, hs, hv, hj, q⟩ := h
  cases ro
  obtain ⟨t, rfl⟩ := ri
  obtain ⟨its, r, pl, hz⟩ := I.list hs
  obtain ⟨u, eu, ru⟩ := r.get hv
  refine wpAny_getItem_list (x := u) pl.isList (by omega) (by omega) ?_ ⟨v, H, I, ru, q⟩
  simpa using eu
end

def wo (H : Hp) (O : List Addr) : Hp := fun a => if a ∈ O then none else H a
theorem wo_nil (H : Hp) : wo H [] = H := by
  funext a
  simp [wo]
theorem wo_in {H : Hp} {O : List Addr} {a : Addr} (h : a ∈ O) : wo H O a = none := by simp [wo, h]
theorem wo_out {H : Hp} {O : List Addr} {a : Addr} (h : a ∉ O) : wo H O a = H a := by simp [wo, h]
theorem wo_le (H : Hp) (O : List Addr) : Same (wo H O) H := fun a o h => by
  unfold wo at h
  split at h
  · cases h
  · exact h
def Up (O : List Addr) (H H' : Hp) : Prop := ∀ a o, a ∉ O → H a = some o → H' a = some o
section
variable {O O' : List Addr} {H H' H1 H2 : Hp} {a p : Addr} {o u : HO}
theorem Up.rfl' : Up O H H := fun _ _ _ h => h
theorem Up.of (h : Same H H') : Up O H H' := fun a o _ e => h a o e
theorem Up.same (h : Up [] H H') : Same H H' := fun a o e => h a o (by simp) e
theorem Up.trans (h : Up O H H1) (h' : Up O H1 H2) : Up O H H2 := fun a o n e => h' a o n (h a o n e)
theorem Up.mono (h : Up O H H') (s : ∀ a ∈ O, a ∈ O') : Up O' H H' := fun a o n e => h a o (fun z => n (s a z)) e
theorem Up.wo (h : Up O H H') : Same (wo H O) (wo H' O) := fun a o e => by
  unfold SW.wo at e ⊢
  split at e
  · cases e
  · rename_i n
    rw [if_neg n]
    exact h a o n e
theorem same_upd (h : H p = none) : Same H (upd H p o) := fun b x e => by
  rw [upd_ne (ne_of_none e h)]
  exact e
theorem Up.put (h : a ∈ O) : Up O H (upd H a o) := fun b x n e => by
  have hb : b ≠ a := fun z => n (by rw [z]; exact h)
  rw [upd_ne hb]
  exact e
theorem Up.new (h : H p = none) : Up O H (upd H p o) := Up.of (same_upd h)
theorem Same.wo (h : Same H H') : Same (wo H O) (wo H' O) := Up.wo (Up.of h)
theorem wo_upd_in (h : a ∈ O) : wo (upd H a o) O = wo H O := by
  funext b
  unfold SW.wo
  by_cases hb : b ∈ O
  · rw [if_pos hb, if_pos hb]
  · have hn : b ≠ a := fun z => hb (by rw [z]; exact h)
    rw [if_neg hb, if_neg hb, upd_ne hn]
theorem wo_sub (s : ∀ a ∈ O, a ∈ O') : Same (wo H O') (wo H O) := fun a o e => by
  unfold SW.wo at e ⊢
  split at e
  · cases e
  · rename_i n
    rw [if_neg (fun z => n (s a z))]
    exact e
theorem wo_cons_le : Same (wo H (a :: O)) (wo H O) := wo_sub fun _ h => List.mem_cons_of_mem _ h
end
theorem wo_new {H : Hp} {O : List Addr} {p : Addr} {o : HO} (hp : H p = none) : Same (wo H O) (wo (upd H p o) (p :: O)) := fun a u e => by
  have ha : a ∉ O := fun z => by rw [wo_in z] at e; cases e
  rw [wo_out ha] at e
  have hn : a ≠ p := ne_of_none e hp
  rw [wo_out (by simp [ha, hn]), upd_ne hn]
  exact e
theorem Up.wo_new {H H' : Hp} {O : List Addr} {q : Addr} (u : Up O H H') (hq : H q = none) : Same (SW.wo H O) (SW.wo H' (q :: O)) := fun a o e => by
  have ha : a ∉ O := fun z => by rw [wo_in z] at e; cases e
  rw [wo_out ha] at e
  have hn : a ≠ q := ne_of_none e hq
  rw [wo_out (by simp [ha, hn])]
  exact u _ _ ha e
def Own (O : List Addr) (H : Hp) : Prop := ∀ a ∈ O, H a ≠ none
theorem Own.out {O : List Addr} {H : Hp} {t : Addr} (h : Own O H) (ht : H t = none) : t ∉ O := fun z => h t z ht
theorem Own.up {O S : List Addr} {H H' : Hp} (h : Own O H) (u : Up S H H') (hs : ∀ a ∈ S, H' a ≠ none) : Own O H' := fun a ha => by
  by_cases hS : a ∈ S
  · exact hs a hS
  · cases e : H a with
    | none => exact absurd e (h a ha)
    | some o =>
      rw [u a o hS e]
      exact fun z => nomatch z
theorem Own.le {O : List Addr} {H H' : Hp} (h : Own O H) (u : Same H H') : Own O H' := h.up (S := []) (Up.of u) (by simp)
theorem Own.cons {O : List Addr} {H : Hp} {q : Addr} (h : Own O H) (hq : H q ≠ none) : Own (q :: O) H := fun a ha => by
  rcases List.mem_cons.mp ha with rfl | ha
  · exact hq
  · exact h a ha
theorem some_ne {H : Hp} {a : Addr} {o : HO} (h : H a = some o) : H a ≠ none := by
  rw [h]
  exact fun z => nomatch z
theorem Up.back {S : List Addr} {H H' : Hp} {q : Addr} (u : Up S H H') (hS : ∀ a ∈ S, H' a ≠ none) (hq : H' q = none) : H q = none := by
  have n : q ∉ S := fun z => hS q z hq
  cases e : H q with
  | none => rfl
  | some o =>
    rw [u q o n e] at hq
    cases hq
theorem Rd.le {H H' : Hp} (e : Same H H') {a : Addr} {u : HO} (h : Rd H a u) : Rd H' a u := by
  rcases h with h | ⟨o, h⟩
  · exact Or.inl (e a _ h)
  · exact Or.inr ⟨o, e a _ h⟩
theorem sqt_le {K : PySem.W.Frag} {H H' : Hp} (e : Same H H') {a : Addr} {xs : List V} (h : SqT K H a xs) : SqT K H' a xs := by
  rcases h with h | h
  · exact Or.inl (Rd.le e h)
  · exact Or.inr h
theorem sql_le {K : PySem.W.Frag} {H H' : Hp} (e : Same H H') {a : Addr} {xs : List V} (h : SqL K H a xs) : SqL K H' a xs := by
  rcases h with h | h
  · exact Or.inl (Rd.le e h)
  · exact Or.inr h
mutual
theorem Dp.le {K : PySem.W.Frag} {H H' : Hp} (e : Same H H') : ∀ {v : V} {d : PyData}, Dp K H v d → Dp K H' v d
  | _, _, .non => .non
  | _, _, .bl b => .bl b
  | _, _, .int i => .int i
  | _, _, .str x => .str x
  | _, _, .lst h1 h2 => .lst (sql_le e h1) (DpAll.le e h2)
  | _, _, .tup h1 h2 => .tup (sqt_le e h1) (DpAll.le e h2)
theorem DpAll.le {K : PySem.W.Frag} {H H' : Hp} (e : Same H H') : ∀ {vs : List V} {ds : List PyData}, DpAll K H vs ds → DpAll K H' vs ds
  | _, _, .nil => .nil
  | _, _, .cons h1 h2 => .cons (Dp.le e h1) (DpAll.le e h2)
end
theorem DpAll.length {K : PySem.W.Frag} {H : Hp} : ∀ {vs : List V} {ds : List PyData}, DpAll K H vs ds → vs.length = ds.length
  | _, _, .nil => rfl
  | _, _, .cons _ h => congrArg (· + 1) (DpAll.length h)
theorem DpAll.get {K : PySem.W.Frag} {H : Hp} : ∀ {vs : List V} {ds : List PyData} {i : Nat} {d : PyData}, DpAll K H vs ds → ds[i]? = some d → ∃ v, vs[i]? = some v ∧ Dp K H v d
  | _, _, _, _, .nil, h => by simp at h
  | _, _, 0, _, .cons h _, e => by
    simp at e
    subst e
    exact ⟨_, rfl, h⟩
  | _, _, i + 1, _, .cons _ h, e => by
    obtain ⟨v, h1, h2⟩ := DpAll.get (i := i) h (by simpa using e)
    exact ⟨v, by simpa using h1, h2⟩
theorem DpAll.append {K : PySem.W.Frag} {H : Hp} : ∀ {vs : List V} {ds : List PyData} {us : List V} {es : List PyData}, DpAll K H vs ds → DpAll K H us es → DpAll K H (vs ++ us) (ds ++ es)
  | _, _, _, _, .nil, h => h
  | _, _, _, _, .cons a b, h => .cons a (DpAll.append b h)
theorem DpAll.take {K : PySem.W.Frag} {H : Hp} : ∀ {vs : List V} {ds : List PyData} (n : Nat), DpAll K H vs ds → DpAll K H (vs.take n) (ds.take n)
  | _, _, 0, _ => by simpa using DpAll.nil
  | _, _, _ + 1, .nil => .nil
  | _, _, n + 1, .cons a b => .cons a (DpAll.take n b)
theorem DpAll.drop {K : PySem.W.Frag} {H : Hp} : ∀ {vs : List V} {ds : List PyData} (n : Nat), DpAll K H vs ds → DpAll K H (vs.drop n) (ds.drop n)
  | _, _, 0, h => by simpa using h
  | _, _, _ + 1, .nil => .nil
  | _, _, n + 1, .cons _ b => DpAll.drop n b
theorem DpAll.map {K : PySem.W.Frag} {H : Hp} {α : Type} (f : α → V) (g : α → PyData) (h : ∀ x, Dp K H (f x) (g x)) : ∀ l : List α, DpAll K H (l.map f) (l.map g)
  | [] => .nil
  | x :: l => .cons (h x) (DpAll.map f g h l)
theorem DpAll.set {K : PySem.W.Frag} {H : Hp} {v : V} {d : PyData} (r : Dp K H v d) : ∀ {vs : List V} {ds : List PyData} (i : Nat), DpAll K H vs ds → DpAll K H (vs.set i v) (ds.set i d)
  | _, _, _, .nil => .nil
  | _, _, 0, .cons _ t => .cons r t
  | _, _, i + 1, .cons q t => .cons q (DpAll.set r i t)

theorem bt_range : bootBuiltins "range" = some (.type "range") := by decide +kernel
theorem bt_int : bootBuiltins "int" = some (.type "int") := by decide +kernel
theorem bt_list : bootBuiltins "list" = some (.type "list") := by decide +kernel
theorem bt_tuple : bootBuiltins "tuple" = some (.type "tuple") := by decide +kernel
theorem bt_bool : bootBuiltins "bool" = some (.type "bool") := by decide +kernel
theorem bt_str : bootBuiltins "str" = some (.type "str") := by decide +kernel
theorem bt_set : bootBuiltins "set" = some (.type "set") := by decide +kernel
theorem bt_len : bootBuiltins "len" = some (.builtin "len") := by decide +kernel
theorem bt_min : bootBuiltins "min" = some (.builtin "min") := by decide +kernel
theorem bt_max : bootBuiltins "max" = some (.builtin "max") := by decide +kernel
theorem bt_sum : bootBuiltins "sum" = some (.builtin "sum") := by decide +kernel
theorem bt_all : bootBuiltins "all" = some (.builtin "all") := by decide +kernel
theorem bt_sorted : bootBuiltins "sorted" = some (.builtin "sorted") := by decide +kernel
theorem bt_isinstance : bootBuiltins "isinstance" = some (.builtin "isinstance") := by decide +kernel
theorem bt_repr : bootBuiltins "repr" = some (.builtin "repr") := by decide +kernel
theorem bt_ord : bootBuiltins "ord" = some (.builtin "ord") := by decide +kernel
theorem bt_abs : bootBuiltins "abs" = some (.builtin "abs") := by decide +kernel

def rLn (K : PySem.W.Frag) : List V → Hp → VK → Prop := fun xs H Q => ∃ p ys, xs = [.ref p] ∧ (SqL K H p ys ∨ SqT K H p ys) ∧ Q (.int ys.length) H
def F2 (a b : Str) (x y : V) : List (Str × V) := putF b y (putF a x [])
section
variable {a b m : Str} {x y z : V}
theorem F2_eq (h : ¬ a = b) : F2 a b x y = [(a, x), (b, y)] := by
  show (if a = b then [(a, y)] else (a, x) :: putF b y []) = _
  rw [if_neg h]
  rfl
theorem F2_a (h : ¬ a = b) : (F2 a b x y).lookup a = some x := by
  unfold F2
  rw [lookup_putF, if_neg h, lookup_putF, if_pos rfl]
theorem F2_b : (F2 a b x y).lookup b = some y := by
  unfold F2
  rw [lookup_putF, if_pos rfl]
theorem F2_no (h1 : ¬ m = b) (h2 : ¬ m = a) : (F2 a b x y).lookup m = none := by
  unfold F2
  rw [lookup_putF, if_neg h1, lookup_putF, if_neg h2]
  rfl
theorem F2_putb (h : ¬ a = b) : putF b z (F2 a b x y) = F2 a b x z := by
  rw [F2_eq h, F2_eq h]
  show (if a = b then [(a, z), (b, y)] else (a, x) :: (if b = b then [(b, z)] else (b, y) :: putF b z [])) = _
  rw [if_neg h, if_pos rfl]
theorem F2_puta (h : ¬ a = b) : putF a z (F2 a b x y) = F2 a b z y := by
  rw [F2_eq h, F2_eq h]
  show (if a = a then [(a, z), (b, y)] else _) = _
  rw [if_pos rfl]
theorem F2_len (h : ¬ a = b) : (F2 a b x y).length < 1000 := by
  rw [F2_eq h]
  show 2 < 1000
  decide
end
theorem br {b : Bool} {A B : Prop} (h1 : b = true → A) (h2 : b = false → B) : if b = true then A else B := by
  cases b with
  | true => exact (if_pos rfl).mpr (h1 rfl)
  | false => exact (if_neg (by decide)).mpr (h2 rfl)
theorem brD {p : Prop} [Decidable p] {A B : Prop} (h1 : p → A) (h2 : ¬ p → B) : if decide p = true then A else B :=
  br (fun h => h1 (of_decide_eq_true h)) (fun h => h2 (of_decide_eq_false h))
theorem brN {p : Prop} [Decidable p] {A B : Prop} (h1 : ¬ p → A) (h2 : p → B) : if (!decide p) = true then A else B :=
  br (fun h => h1 (by simpa using h)) (fun h => h2 (by simpa using h))
theorem int_inj {i j : Int} : (V.int i = V.int j) ↔ i = j := ⟨fun h => V.int.inj h, fun h => by rw [h]⟩
theorem str_inj {i j : Str} : (V.str i = V.str j) ↔ i = j := ⟨fun h => V.str.inj h, fun h => by rw [h]⟩

theorem sz (n : Nat) (h : n ≤ 16777216) : n ≤ sizeLine := by
  rw [sizeLine_eq]
  exact h
theorem szl (n : Nat) (h : n < 16777216) : n < sizeLine := by
  rw [sizeLine_eq]
  exact h
end SW

set_option Elab.async false
set_option linter.all false
set_option maxRecDepth 100000
namespace SW
open PySem L2
mutual
inductive Rp (K : PySem.W.Frag) (H : Hp) : V → PyData → Prop
  | non : Rp K H .non .none
  | bl (b : Bool) : Rp K H (.bl b) (.bool b)
  | int (i : Int) : Rp K H (.int i) (.int i)
  | str (x : Str) : Rp K H (.str x) (.str x)
  | lst {a : Addr} {xs : List V} {ds : List PyData} : SqL K H a xs → RpAll K H xs ds → Rp K H (.ref a) (.list ds)
  | tup {a : Addr} {xs : List V} {ds : List PyData} : SqT K H a xs → RpAll K H xs ds → Rp K H (.ref a) (.tuple ds)
  | dict0 {a : Addr} : H a = some (.dK []) → Rp K H (.ref a) (.dict [])
inductive RpAll (K : PySem.W.Frag) (H : Hp) : List V → List PyData → Prop
  | nil : RpAll K H [] []
  | cons {v : V} {vs : List V} {d : PyData} {ds : List PyData} : Rp K H v d → RpAll K H vs ds → RpAll K H (v :: vs) (d :: ds)
end
mutual
theorem Rp.le {K : PySem.W.Frag} {H H' : Hp} (e : Same H H') : ∀ {v : V} {d : PyData}, Rp K H v d → Rp K H' v d
  | _, _, .non => .non
  | _, _, .bl b => .bl b
  | _, _, .int i => .int i
  | _, _, .str x => .str x
  | _, _, .lst h1 h2 => .lst (sql_le e h1) (RpAll.le e h2)
  | _, _, .tup h1 h2 => .tup (sqt_le e h1) (RpAll.le e h2)
  | _, _, .dict0 h => .dict0 (e _ _ h)
theorem RpAll.le {K : PySem.W.Frag} {H H' : Hp} (e : Same H H') : ∀ {vs : List V} {ds : List PyData}, RpAll K H vs ds → RpAll K H' vs ds
  | _, _, .nil => .nil
  | _, _, .cons h1 h2 => .cons (Rp.le e h1) (RpAll.le e h2)
end
section
variable {K : PySem.W.Frag} {H : Hp}
theorem RpAll.length : ∀ {vs : List V} {ds : List PyData}, RpAll K H vs ds → vs.length = ds.length
  | _, _, .nil => rfl
  | _, _, .cons _ h => congrArg (· + 1) (RpAll.length h)
theorem RpAll.get : ∀ {vs : List V} {ds : List PyData} {i : Nat} {d : PyData}, RpAll K H vs ds → ds[i]? = some d → ∃ v, vs[i]? = some v ∧ Rp K H v d
  | _, _, _, _, .nil, h => by simp at h
  | _, _, 0, _, .cons h _, e => by
    simp at e
    subst e
    exact ⟨_, rfl, h⟩
  | _, _, i + 1, _, .cons _ h, e => by
    obtain ⟨v, h1, h2⟩ := RpAll.get (i := i) h (by simpa using e)
    exact ⟨v, by simpa using h1, h2⟩
theorem RpAll.getV : ∀ {vs : List V} {ds : List PyData} {i : Nat} {v : V}, RpAll K H vs ds → vs[i]? = some v → ∃ d, ds[i]? = some d ∧ Rp K H v d
  | _, _, _, _, .nil, h => by simp at h
  | _, _, 0, _, .cons h _, e => by
    simp at e
    subst e
    exact ⟨_, rfl, h⟩
  | _, _, i + 1, _, .cons _ h, e => by
    obtain ⟨v, h1, h2⟩ := RpAll.getV (i := i) h (by simpa using e)
    exact ⟨v, by simpa using h1, h2⟩
theorem RpAll.append : ∀ {vs : List V} {ds : List PyData} {us : List V} {es : List PyData}, RpAll K H vs ds → RpAll K H us es → RpAll K H (vs ++ us) (ds ++ es)
  | _, _, _, _, .nil, h => h
  | _, _, _, _, .cons a b, h => .cons a (RpAll.append b h)
theorem RpAll.take : ∀ {vs : List V} {ds : List PyData} (n : Nat), RpAll K H vs ds → RpAll K H (vs.take n) (ds.take n)
  | _, _, 0, _ => by simpa using RpAll.nil
  | _, _, _ + 1, .nil => .nil
  | _, _, n + 1, .cons a b => .cons a (RpAll.take n b)
theorem RpAll.drop : ∀ {vs : List V} {ds : List PyData} (n : Nat), RpAll K H vs ds → RpAll K H (vs.drop n) (ds.drop n)
  | _, _, 0, h => by simpa using h
  | _, _, _ + 1, .nil => .nil
  | _, _, n + 1, .cons _ b => RpAll.drop n b
theorem RpAll.map {α : Type} (f : α → V) (g : α → PyData) (h : ∀ x, Rp K H (f x) (g x)) : ∀ l : List α, RpAll K H (l.map f) (l.map g)
  | [] => .nil
  | x :: l => .cons (h x) (RpAll.map f g h l)
theorem RpAll.set {v : V} {d : PyData} (r : Rp K H v d) : ∀ {vs : List V} {ds : List PyData} (i : Nat), RpAll K H vs ds → RpAll K H (vs.set i v) (ds.set i d)
  | _, _, _, .nil => .nil
  | _, _, 0, .cons _ t => .cons r t
  | _, _, i + 1, .cons q t => .cons q (RpAll.set r i t)
end
mutual
theorem Rp.dp {K : PySem.W.Frag} {H : Hp} : ∀ {v : V} {d : PyData}, Rp K H v d → d.canLay0 = true → Dp K H v d
  | _, _, .non, _ => .non
  | _, _, .bl b, _ => .bl b
  | _, _, .int i, _ => .int i
  | _, _, .str x, _ => .str x
  | _, _, .lst h1 h2, e => .lst h1 (RpAll.dp h2 (by simpa [PyData.canLay0] using e))
  | _, _, .tup h1 h2, e => .tup h1 (RpAll.dp h2 (by simpa [PyData.canLay0] using e))
  | _, _, .dict0 h, e => by simp [PyData.canLay0] at e
theorem RpAll.dp {K : PySem.W.Frag} {H : Hp} : ∀ {vs : List V} {ds : List PyData}, RpAll K H vs ds → PyData.canLayAll0 ds = true → DpAll K H vs ds
  | _, _, .nil, _ => .nil
  | _, _, .cons h1 h2, e => by
    simp only [PyData.canLayAll0, Bool.and_eq_true] at e
    exact .cons (Rp.dp h1 e.1) (RpAll.dp h2 e.2)
end
def tyD : PyData → String
  | .none => "NoneType" | .bool _ => "bool" | .int _ => "int" | .str _ => "str" | .list _ => "list" | .tuple _ => "tuple" | .dict _ => "dict"
theorem sql_ty {K : PySem.W.Frag} {H : Hp} {a : Addr} {xs : List V} (h : SqL K H a xs) : TyX K H (.ref a) (.type "list") := by
  rcases h with (h | ⟨o, h⟩) | ⟨o, its, n, h, c, _⟩
  · exact .base (.lst h)
  · exact .base (.frz h)
  · exact .kList h c
theorem sqt_ty {K : PySem.W.Frag} {H : Hp} {a : Addr} {xs : List V} (h : SqT K H a xs) : TyX K H (.ref a) (.type "tuple") := by
  rcases h with (h | ⟨o, h⟩) | ⟨o, its, n, h, c, _⟩
  · exact .base (.tup h)
  · exact .fTuple h
  · exact .kTuple h c
theorem Rp.ty {K : PySem.W.Frag} {H : Hp} {v : V} {d : PyData} (h : Rp K H v d) : TyX K H v (.type (tyD d)) := by
  cases h with
  | non => exact .base .non
  | bl b => exact .base (.bl b)
  | int i => exact .base (.int i)
  | str x => exact .base (.str x)
  | lst h _ => exact sql_ty h
  | tup h _ => exact sqt_ty h
  | dict0 h => exact .base (.dK h)
def isBoolD : PyData → Bool | .bool _ => true | _ => false
def isIntD : PyData → Bool | .bool _ => true | .int _ => true | _ => false
def isStrD : PyData → Bool | .str _ => true | _ => false
def isTupD : PyData → Bool | .tuple _ => true | _ => false
def isLstD : PyData → Bool | .list _ => true | _ => false
theorem kit_bool (d : PyData) : kitB (tyD d) "bool" = some (isBoolD d) := by
  cases d <;> first | (show kitB "NoneType" "bool" = some false; decide +kernel) | (show kitB "bool" "bool" = some true; decide +kernel) | (show kitB "int" "bool" = some false; decide +kernel) | (show kitB "str" "bool" = some false; decide +kernel) | (show kitB "list" "bool" = some false; decide +kernel) | (show kitB "tuple" "bool" = some false; decide +kernel) | (show kitB "dict" "bool" = some false; decide +kernel)
theorem kit_int (d : PyData) : kitB (tyD d) "int" = some (isIntD d) := by
  cases d <;> first | (show kitB "NoneType" "int" = some false; decide +kernel) | (show kitB "bool" "int" = some true; decide +kernel) | (show kitB "int" "int" = some true; decide +kernel) | (show kitB "str" "int" = some false; decide +kernel) | (show kitB "list" "int" = some false; decide +kernel) | (show kitB "tuple" "int" = some false; decide +kernel) | (show kitB "dict" "int" = some false; decide +kernel)
theorem kit_str (d : PyData) : kitB (tyD d) "str" = some (isStrD d) := by
  cases d <;> first | (show kitB "NoneType" "str" = some false; decide +kernel) | (show kitB "bool" "str" = some false; decide +kernel) | (show kitB "int" "str" = some false; decide +kernel) | (show kitB "str" "str" = some true; decide +kernel) | (show kitB "list" "str" = some false; decide +kernel) | (show kitB "tuple" "str" = some false; decide +kernel) | (show kitB "dict" "str" = some false; decide +kernel)
theorem kit_tup (d : PyData) : kitB (tyD d) "tuple" = some (isTupD d) := by
  cases d <;> first | (show kitB "NoneType" "tuple" = some false; decide +kernel) | (show kitB "bool" "tuple" = some false; decide +kernel) | (show kitB "int" "tuple" = some false; decide +kernel) | (show kitB "str" "tuple" = some false; decide +kernel) | (show kitB "list" "tuple" = some false; decide +kernel) | (show kitB "tuple" "tuple" = some true; decide +kernel) | (show kitB "dict" "tuple" = some false; decide +kernel)
theorem kit_lst (d : PyData) : kitB (tyD d) "list" = some (isLstD d) := by
  cases d <;> first | (show kitB "NoneType" "list" = some false; decide +kernel) | (show kitB "bool" "list" = some false; decide +kernel) | (show kitB "int" "list" = some false; decide +kernel) | (show kitB "str" "list" = some false; decide +kernel) | (show kitB "list" "list" = some true; decide +kernel) | (show kitB "tuple" "list" = some false; decide +kernel) | (show kitB "dict" "list" = some false; decide +kernel)
theorem kitAny_2 {K : PySem.W.Frag} {d : PyData} {A B : String} {x y : Bool} (h1 : kitB (tyD d) A = some x) (h2 : kitB (tyD d) B = some y) : PySem.W.kitAny K (.type (tyD d)) [.type A, .type B] = some (x || y) :=
  kitAny_cons (kit_ty h1) (fun hx => by
    subst hx
    exact kitAny_cons (kit_ty h2) (fun hy => by subst hy; exact kitAny_nil) (fun hy => by subst hy; rfl)) (fun hx => by subst hx; rfl)
theorem isi {K : PySem.W.Frag} {H : Hp} {v : V} {d : PyData} {T : String} {b : Bool} {Q : VK} (h : Rp K H v d) (e : kitB (tyD d) T = some b) (q : Q (.bl b) H) : rIsi K [v, .ty T] H Q :=
  ⟨v, .ty T, _, _, b, rfl, .ty T, h.ty, kit_ty e, q⟩

noncomputable def sameD (d e : PyData) : Bool := @decide (d = e) (Classical.propDecidable _)
theorem sameD_iff {d e : PyData} : sameD d e = true ↔ d = e := by
  unfold sameD
  exact @decide_eq_true_iff _ (Classical.propDecidable _)
theorem sameD_refl (d : PyData) : sameD d d = true := sameD_iff.mpr rfl
theorem sameD_ne {d e : PyData} (h : d ≠ e) : sameD d e = false := by
  cases q : sameD d e with
  | true => exact absurd (sameD_iff.mp q) h
  | false => rfl
theorem sameD_eq {d e : PyData} {b : Bool} (h : b = true ↔ d = e) : sameD d e = b := by
  rw [Bool.eq_iff_iff, sameD_iff, h]
mutual
def fit : PyData → Bool
  | .dict _ => false
  | .list xs => decide (xs.length ≤ 16777216) && fitAll xs
  | .tuple xs => decide (xs.length ≤ 16777216) && fitAll xs
  | _ => true
def fitAll : List PyData → Bool
  | [] => true
  | x :: xs => fit x && fitAll xs
end
mutual
def dep : PyData → Nat
  | .list xs => depAll xs + 1
  | .tuple xs => depAll xs + 1
  | _ => 0
def depAll : List PyData → Nat
  | [] => 0
  | x :: xs => max (dep x) (depAll xs)
end
theorem fitAll_get : ∀ {ds : List PyData} {i : Nat} {d : PyData}, fitAll ds = true → ds[i]? = some d → fit d = true
  | [], _, _, _, h => by simp at h
  | x :: xs, 0, d, h, e => by
    simp only [fitAll, Bool.and_eq_true] at h
    simp at e
    rw [← e]
    exact h.1
  | x :: xs, i + 1, d, h, e => by
    simp only [fitAll, Bool.and_eq_true] at h
    exact fitAll_get (i := i) h.2 (by simpa using e)
theorem fitAll_of : ∀ {ds : List PyData}, (∀ d ∈ ds, fit d = true) → fitAll ds = true
  | [], _ => rfl
  | x :: xs, h => by
    simp only [fitAll, Bool.and_eq_true]
    exact ⟨h x (by simp), fitAll_of fun d hd => h d (by simp [hd])⟩
theorem depAll_le : ∀ {ds : List PyData} {n : Nat}, (∀ d ∈ ds, dep d ≤ n) → depAll ds ≤ n
  | [], n, _ => Nat.zero_le n
  | x :: xs, n, h => by
    have h1 := h x (by simp)
    have h2 := depAll_le (ds := xs) (n := n) fun d hd => h d (by simp [hd])
    simp only [depAll]
    omega
theorem depAll_get : ∀ {ds : List PyData} {i : Nat} {d : PyData}, ds[i]? = some d → dep d ≤ depAll ds
  | [], _, _, h => by simp at h
  | x :: xs, 0, d, e => by
    simp at e
    rw [← e]
    simp only [depAll]
    omega
  | x :: xs, i + 1, d, e => by
    have := depAll_get (i := i) (ds := xs) (d := d) (by simpa using e)
    simp only [depAll]
    omega
theorem pre_eq {α : Type} : ∀ {xs ys : List α}, xs.length = ys.length → (∀ j, j < ys.length → xs[j]? = ys[j]?) → xs = ys := by
  intro xs ys hl h
  apply List.ext_getElem? 
  intro j
  by_cases hj : j < ys.length
  · exact h j hj
  · rw [List.getElem?_eq_none (by omega), List.getElem?_eq_none (by omega)]
end SW
namespace SW
open PySem L2
structure Acc (K : PySem.W.Frag) (O : List Addr) (D : Addr) (ds : List PyData) (acc : List V) (H : Hp) : Prop where
  own : D ∈ O
  is : H D = some (.lst acc)
  it : RpAll K (wo H O) acc ds
theorem Acc.le {K : PySem.W.Frag} {O : List Addr} {D : Addr} {ds : List PyData} {acc : List V} {H H' : Hp} (h : Acc K O D ds acc H) (s : Same H H') : Acc K O D ds acc H' :=
  ⟨h.own, s _ _ h.is, h.it.le (Same.wo s)⟩
theorem Acc.push {K : PySem.W.Frag} {O : List Addr} {D : Addr} {ds : List PyData} {acc : List V} {H : Hp} {v : V} {d : PyData} (h : Acc K O D ds acc H) (r : Rp K (wo H O) v d) : Acc K O D (ds ++ [d]) (acc ++ [v]) (upd H D (.lst (acc ++ [v]))) :=
  ⟨h.own, upd_same, by rw [wo_upd_in h.own]; exact h.it.append (.cons r .nil)⟩
theorem Acc.new {K : PySem.W.Frag} {O : List Addr} {D : Addr} {H : Hp} (h : D ∈ O) : Acc K O D [] [] (upd H D (.lst [])) := ⟨h, upd_same, .nil⟩
theorem Acc.len {K : PySem.W.Frag} {O : List Addr} {D : Addr} {ds : List PyData} {acc : List V} {H : Hp} (h : Acc K O D ds acc H) : acc.length = ds.length := h.it.length
theorem Acc.rp {K : PySem.W.Frag} {O : List Addr} {D : Addr} {ds : List PyData} {acc : List V} {H : Hp} (h : Acc K O D ds acc H) : Rp K H (.ref D) (.list ds) := .lst (SqL.of h.is) (h.it.le (wo_le _ _))
theorem Acc.rpI {K : PySem.W.Frag} {O : List Addr} {D : Addr} {acc : List V} {H : Hp} {v : V} : ∀ {ds : List PyData}, Acc K O D ds acc H → Same H H := fun _ => Same.refl _
theorem rp_newT {K : PySem.W.Frag} {O : List Addr} {H : Hp} {t : Addr} {xs : List V} {ds : List PyData} (ht : H t = none) (n : t ∉ O) (h : RpAll K (wo H O) xs ds) : Rp K (wo (upd H t (.tup xs)) O) (.ref t) (.tuple ds) :=
  .tup (SqT.of (by rw [wo_out n, upd_same])) (h.le (Same.wo (same_upd ht)))
theorem rp_newL {K : PySem.W.Frag} {O : List Addr} {H : Hp} {t : Addr} {xs : List V} {ds : List PyData} (ht : H t = none) (n : t ∉ O) (h : RpAll K (wo H O) xs ds) : Rp K (wo (upd H t (.lst xs)) O) (.ref t) (.list ds) :=
  .lst (SqL.of (by rw [wo_out n, upd_same])) (h.le (Same.wo (same_upd ht)))
theorem not_own {H : Hp} {O : List Addr} {t : Addr} (ht : H t = none) (h : ∀ a ∈ O, H a ≠ none) : t ∉ O := fun z => h t z ht
end SW
namespace SW
open PySem L2
theorem eqvAll_ints : ∀ a b : List Int, PyData.eqvAll (a.map .int) (b.map .int) = decide (a = b)
  | [], [] => by simp [PyData.eqvAll]
  | [], _ :: _ => by simp [PyData.eqvAll]
  | _ :: _, [] => by simp [PyData.eqvAll]
  | x :: a, y :: b => by
    simp only [List.map_cons, PyData.eqvAll, eqvAll_ints a b, PyData.eqv]
    by_cases h1 : x = y
    · subst h1
      simp
    · simp [h1]
theorem eqv_ints (a b : List Int) : PyData.eqv (.list (a.map .int)) (.list (b.map .int)) = decide (a = b) := by
  simp only [PyData.eqv]
  exact eqvAll_ints a b
theorem lay_ints : ∀ a : List Int, PyData.canLayAll0 (a.map .int) = true
  | [] => rfl
  | x :: a => by simp [PyData.canLayAll0, PyData.canLay0, lay_ints a]
theorem depth_ints : ∀ a : List Int, PyData.depthAll (a.map .int) = 0
  | [] => rfl
  | x :: a => by simp [PyData.depthAll, PyData.depth, depth_ints a]
theorem shaped_ints (a : List Int) : SeqAt.shaped (.list (a.map .int)) = true := by
  show ((PyData.list (a.map .int)).canLay0 && decide ((PyData.list (a.map .int)).depth ≤ 64)) = true
  simp [PyData.canLay0, lay_ints, PyData.depth, depth_ints]
theorem rpAll_ints {K : PySem.W.Frag} {H : Hp} (a : List Int) : RpAll K H (a.map V.int) (a.map .int) := RpAll.map _ _ (fun i => .int i) a
theorem dp_ints {K : PySem.W.Frag} {H : Hp} {p : Addr} {a : List Int} (h : SqL K H p (a.map V.int)) : Dp K H (.ref p) (.list (a.map .int)) := .lst h (DpAll.map _ _ (fun i => .int i) a)
theorem rp_ints {K : PySem.W.Frag} {H : Hp} {p : Addr} {a : List Int} (h : SqL K H p (a.map V.int)) : Rp K H (.ref p) (.list (a.map .int)) := .lst h (rpAll_ints a)
theorem fit_ints {a : List Int} (h : a.length ≤ 16777216) : fit (.list (a.map .int)) = true := by
  simp only [fit, Bool.and_eq_true, decide_eq_true_eq, List.length_map]
  refine ⟨h, fitAll_of fun d hd => ?_⟩
  obtain ⟨i, _, rfl⟩ := List.mem_map.mp hd
  rfl
theorem dep_ints (a : List Int) : dep (.list (a.map .int)) ≤ 1 := by
  simp only [dep]
  have : depAll (a.map PyData.int) ≤ 0 := depAll_le fun d hd => by
    obtain ⟨i, _, rfl⟩ := List.mem_map.mp hd
    exact Nat.le_refl _
  omega
end SW

set_option Elab.async false
set_option linter.all false
set_option maxRecDepth 100000
namespace SW
open PySem L2
theorem len_S (l : List Nat) : (SX.S l).length = l.length := SX.S_len l
theorem cps_S (l : List Nat) : (SX.S l).cps.toList = l := rfl
theorem S_inj' {a b : List Nat} : SX.S a = SX.S b ↔ a = b := ⟨SX.S_inj, fun h => by rw [h]⟩
theorem six_nat {n a : Nat} (h : a ≤ n) (d : Nat) : HT.sIx n d (some (a : Int)) = a := by
  rw [HT.sIx_nat]
  omega
theorem cut_S {l : List Nat} {a b : Nat} (ha : a ≤ l.length) (hb : b ≤ l.length) : cutS (SX.S l) (some (a : Int)) (some (b : Int)) = SX.S ((l.drop a).take (b - a)) := by
  unfold cutS
  rw [len_S, six_nat ha, six_nat hb, cps_S]
theorem cut_to {l : List Nat} {b : Nat} (hb : b ≤ l.length) : cutS (SX.S l) none (some (b : Int)) = SX.S (l.take b) := by
  unfold cutS
  rw [len_S, six_nat hb, cps_S, HT.sIx_none]
  simp
theorem cut_from {l : List Nat} {a : Nat} (ha : a ≤ l.length) : cutS (SX.S l) (some (a : Int)) none = SX.S (l.drop a) := by
  unfold cutS
  rw [len_S, six_nat ha, cps_S, HT.sIx_none, List.take_of_length_le (by simp)]
theorem joinL_nil : ∀ ls : List (List Nat), TL.joinL [] ls = ls.flatten
  | [] => rfl
  | [x] => by simp [TL.joinL]
  | x :: y :: r => by
    have ih := joinL_nil (y :: r)
    simp only [TL.joinL, ih, List.flatten_cons, List.nil_append]
theorem join_flat (ls : List (List Nat)) : Txt.join (SX.S []) (ls.map SX.S) = SX.S ls.flatten := by
  rw [SX.join_S, joinL_nil]
theorem inV_str (c : List Nat) (ws : List (List Nat)) : inV (.str (SX.S c)) (ws.map fun w => .str (SX.S w)) = ws.any fun w => decide (w = c) := by
  unfold inV
  rw [List.any_map]
  congr 1
  funext w
  show (SX.S w == SX.S c) = _
  exact SX.S_beq_eq
theorem all_flat_str (ws : List (List Nat)) : (ws.map fun w => V.str (SX.S w)).all flatV = true := by
  rw [List.all_map]
  exact List.all_eq_true.mpr fun _ _ => rfl
theorem sum_len (ls : List (List Nat)) : ((ls.map SX.S).map (·.length)).sum = ls.flatten.length := by
  rw [SX.lens]
  exact List.length_flatten.symm
end SW

set_option Elab.async false
set_option linter.all false
set_option maxRecDepth 100000
namespace SW
open PySem L2
structure ExF (K : PySem.W.Frag) (mg : Str → Option Value) (x : Str) (C : Addr) : Prop where
  g : mg x = some (.ref C)
  x : PySem.W.excIn K C [.type "ValueError", .type "Exception", .type "BaseException", .type "object"] "ValueError.__new__" = true
  k : PySem.W.keepIn K (.ref C) = true
  b : PySem.W.subIn K (.ref C) (.type "BaseException") = some true
  t : PySem.W.typeIn K (.ref C) = some (.type "type")
  e : PySem.W.exmOne K (.ref C) (.ref C) = some true
section
variable {X : Cx} {x m : Str} {C : Addr} {k j : Nat} {ps : List Str} {sp : Sp} {W : WX} {o e : Expr} {es : List Expr} {ta : TE} {t : TA} {p pos apos : Pos}
def tCgS (sp : Sp) (W : WX) (t : TA) : TE := fun σ H Q => t σ H fun vs H1 => sp vs H1 Q (fun cls d H' => W cls d σ H')
theorem pe_cgS (G : GF X.prog X.w X.K X.mg X.base (L2.CX X.prog X.w) x k ps sp) (hr : Room j X.A) (hg : Gl X x) (tk : Takes X W) (ha : PA X (e :: es) t) (hk : k ≤ j := by first | decide | omega)
    (hdb : (x == ("__debug__" : Str)) = false := by decide) (he : starEach (e :: es) X.env = (false, eval e X.env) :: starEach es X.env := by rfl) (hpl : (backTo pos (starEach es X.env)).any (·.1) = false := by rfl) :
    PE X (.Call (.Name x p) (e :: es) [] pos) (tCgS sp W t) := by
  obtain ⟨f, fd, F, hm, hkp, hb⟩ := G.ex
  exact pe_callS (E := fun σ => WE W σ) F (hr.mono hk) hg hm hkp hb (fun σ => passAt tk σ) ha hdb he hpl
def tGmS (C : Addr) (m : Str) (sp : Sp) (W : WX) (ta : TE) (t : TA) : TE := fun σ H Q => ta σ H fun x H1 => ∃ a dx fs, x = .ref a ∧ H1 a = some (.ins C dx fs) ∧ fs.lookup m = none ∧ t σ H1 fun vs H2 => sp (x :: vs) H2 Q (fun cls d H' => W cls d σ H')
theorem pe_gmS {pl : Sem Bool} (he : PE X o ta) (c : Cls X.K C) (G : GM X.prog X.w X.K X.mg X.base (L2.CX X.prog X.w) C m k ps sp) (hr : Room j X.A) (tk : Takes X W) (ha : PA X (e :: es) t) (hk : k ≤ j := by first | decide | omega)
    (hst : starEach (e :: es) X.env = (false, eval e X.env) :: starEach es X.env := by rfl) (hpl : (backTo pos (starEach es X.env)).any (·.1) = false := by rfl)
    (ht : eval (.Call (.Attribute o m apos) (e :: es) [] pos) X.env = (do
      let ov ← eval o X.env
      standAt apos.atName
      let (f, first) ← holding [ov] (getMethod ov m pl)
      callWith pos f first (backTo pos (starEach (e :: es) X.env)) (backToKw pos (keywordEach [] X.env))) := by rfl) :
    PE X (.Call (.Attribute o m apos) (e :: es) [] pos) (tGmS C m sp W ta t) := by
  obtain ⟨f, fd, F, hm, hb⟩ := G.ex
  refine ⟨fun pins s σ H Q I h => ?_⟩
  refine PySem.W.methodCall_KW (pl := pl) (thn (he.run pins s σ H _ I h) fun u s1 ⟨x, H1, I1, rx, a, dx, fs, ex, ea, l, q⟩ => ?_) ht
  subst ex
  obtain rfl : u = Value.ref a := rx
  refine getmeth_ok I1 ea c hm l ?_
  refine PySem.W.callWith_K (first := [.ref a]) (h₀ := X.base) I.ok.mod.kin hm.kp (thn (ha.run pos pins s1 σ H1 _ I1 q) fun us s2 ⟨vs, H2, I2, r, q2⟩ => ⟨I2.kIn, ?_⟩) hst hpl
  exact run_fnS (us := .ref a :: us) (vs := .ref a :: vs) F (hr.mono hk) hb (passAt tk σ) I2 (.cons rfl r) q2
theorem pe_gmS0 {pl : Sem Bool} (he : PE X o ta) (c : Cls X.K C) (G : GM X.prog X.w X.K X.mg X.base (L2.CX X.prog X.w) C m k ps sp) (hr : Room j X.A) (tk : Takes X W) (hk : k ≤ j := by first | decide | omega)
    (ht : eval (.Call (.Attribute o m apos) [] [] pos) X.env = (do
      let ov ← eval o X.env
      standAt apos.atName
      let (f, first) ← holding [ov] (getMethod ov m pl)
      callWith pos f first (backTo pos (starEach [] X.env)) (backToKw pos (keywordEach [] X.env))) := by rfl) :
    PE X (.Call (.Attribute o m apos) [] [] pos) (tGmS C m sp W ta tNil) := by
  obtain ⟨f, fd, F, hm, hb⟩ := G.ex
  refine ⟨fun pins s σ H Q I h => ?_⟩
  refine PySem.W.methodCall_KW (pl := pl) (thn (he.run pins s σ H _ I h) fun u s1 ⟨x, H1, I1, rx, a, dx, fs, ex, ea, l, q⟩ => ?_) ht
  subst ex
  obtain rfl : u = Value.ref a := rx
  refine getmeth_ok I1 ea c hm l ?_
  refine PySem.W.callWith_K0 (first := [.ref a]) I1.kIn hm.kp ?_
  exact run_fnS (us := [.ref a]) (vs := [.ref a]) F (hr.mono hk) hb (passAt tk σ) I1 (.cons rfl .nil) q
theorem pe_gs {i : Str} (h : ∃ t, X.mg x = some (.str i t)) (hg : Gl X x) (hd : (x == ("__debug__" : Str)) = false := by decide) : PE X (.Name x pos) (tC (.str i)) := by
  obtain ⟨t, h⟩ := h
  exact pe_glob hg h ⟨t, rfl⟩ hd
theorem pe_gi {i : Int} (h : ∃ t, X.mg x = some (.int i t)) (hg : Gl X x) (hd : (x == ("__debug__" : Str)) = false := by decide) : PE X (.Name x pos) (tC (.int i)) := by
  obtain ⟨t, h⟩ := h
  exact pe_glob hg h ⟨t, rfl⟩ hd
end
theorem mk_own {H : Hp} {O : List Addr} {C x dx : Addr} (hO : Own O H) (hx : H x = none) (hdx : H dx = none) (hne : dx ≠ x) : Own (x :: O) (upd (upd H dx (.own x)) x (.ins C dx [])) :=
  (hO.le ((same_upd hdx).trans (same_upd (by rw [upd_ne (Ne.symm hne)]; exact hx)))).cons (some_ne upd_same)
theorem mk_same {H : Hp} {C x dx : Addr} (hx : H x = none) (hdx : H dx = none) (hne : dx ≠ x) : Same H (upd (upd H dx (.own x)) x (.ins C dx [])) :=
  (same_upd hdx).trans (same_upd (by rw [upd_ne (Ne.symm hne)]; exact hx))
theorem Up.mk {H H' H1 : Hp} {x : Addr} (s : Same H H1) (hx : H x = none) (u : Up [x] H1 H') : Same H H' := fun a o e => u _ _ (by simpa using ne_of_none e hx) (s _ _ e)
theorem cut_mid {xs : List V} {a b : Nat} (h : a ≤ b) : cutV xs (some (a : Int)) (some (b : Int)) = (xs.drop a).take (b - a) := by
  unfold cutV
  rw [HT.sIx_nat, HT.sIx_nat]
  by_cases c : a ≤ xs.length
  · rw [Nat.min_eq_left c]
    by_cases d : b ≤ xs.length
    · rw [Nat.min_eq_left d]
    · rw [Nat.min_eq_right (by omega), List.take_of_length_le (by rw [List.length_drop]; omega), List.take_of_length_le (by rw [List.length_drop]; omega)]
  · rw [Nat.min_eq_right (by omega), Nat.min_eq_right (by omega), List.drop_eq_nil_of_le (Nat.le_refl _), List.drop_eq_nil_of_le (by omega)]
    simp
theorem cut_fr {xs : List V} {a : Nat} : cutV xs (some (a : Int)) none = xs.drop a := by
  unfold cutV
  rw [HT.sIx_nat, HT.sIx_none]
  by_cases c : a ≤ xs.length
  · rw [Nat.min_eq_left c, List.take_of_length_le (by rw [List.length_drop]; omega)]
  · rw [Nat.min_eq_right (by omega), List.drop_eq_nil_of_le (Nat.le_refl _), List.drop_eq_nil_of_le (by omega)]
    simp
theorem cut_up {xs : List V} {b : Nat} : cutV xs none (some (b : Int)) = xs.take b := by
  unfold cutV
  rw [HT.sIx_nat, HT.sIx_none]
  by_cases c : b ≤ xs.length
  · rw [Nat.min_eq_left c]
    simp
  · rw [Nat.min_eq_right (by omega), List.drop_zero, Nat.sub_zero, List.take_length, List.take_of_length_le (i := b) (by omega)]
end SW

set_option Elab.async false
set_option linter.all false
set_option maxRecDepth 100000
set_option maxHeartbeats 4000000
namespace PySem
namespace HandSPX
section
variable {M : Model} {A : Around} {E : Value → Shared → Prop} {s : Shared} {Z : Obj → Prop} {base : Heap} {env : Env} {outer : List Env} {L e : Addr} {fl : Value}
theorem sw_looks (zz : Steady Z) (fr : A.frames = some (env :: outer)) (ef : env.frame = some L) (ne : (fl == rawInt L) = false) (kb : base.StaysIn s.heap) (en : base.get? e = none) (ff : s.heap.FunFrames base (env :: outer)) (tr : TracedZ s.heap base e Z fl)
    (go : ∀ h', HeldZ base (env :: outer) e Z L h' → s.heap.UpToSlots h' → E (.ref e) { s with heap := h' } ∨ True) {Q : Unit → Shared → Prop}
    (hQ : ∀ h', HeldZ base (env :: outer) e Z L h' → s.heap.UpToSlots h' → Q () { s with heap := h' }) : wpAny M A (noteFrame (.ref e) env) Q E s := by
  obtain ⟨ob, fs, R, oR, rs, g1, g2, g3, g4, g5, g6, g7, g8, g9⟩ := tr
  unfold noteFrame
  simp only [ef]
  refine wpAny_bind (wpAny_field g1 g3 g4 ?_)
  rw [if_pos (by simp : (Value.ref R != Value.none) = true)]
  refine wpAny_bind (wpAny_field g7 g8 g9 ?_)
  rw [if_neg (by rw [ne]; decide)]
  refine wpAny_bind (wpAny_setField g7 g8 (Array.getElem?_eq_some_iff.mp g9).1 ?_)
  have away : ∀ b, b ≠ R → (s.heap.update R (Obj.mapFields (·.setIfInBounds 3 Value.none))).get? b = s.heap.get? b := fun b n => Heap.get?_update_other _ _ (Ne.symm n)
  have plain : ∀ b o, s.heap.get? b = some o → (∀ vs, o.data ≠ .fields vs) → b ≠ R := fun b o q n z => by
    rw [z, g7] at q
    exact n rs (by rw [← Option.some.inj q]; exact g8)
  have stays : ∀ b o, base.get? b = some o → b ≠ R := fun b o q z => by rw [z, g5] at q; cases q
  refine wpAny_entryZ zz fr (ff.of_keeps fun b o q n => ⟨o, (away b (plain b o q n)).trans q, rfl⟩) ef ((away e (Ne.symm g6)).trans g1) (fun b o q => (away b (stays b o q)).trans (kb b o q)) en g3 (Array.getElem?_eq_some_iff.mp g4).1 g2 fun h' N => ?_
  exact hQ h' ⟨N.1, en, N.2.1, N.2.2.1⟩ fun b o q n => N.2.2.2 b o ((away b (plain b o q n)).trans q) n
end
end HandSPX
end PySem
namespace SW
open PySem L2 PySem.Spec PyProof.Rows
abbrev withXe (X : Cx) (f : Value → Shared → Prop) : Cx := { X with xe := f }
section
variable {X : Cx} {f : Value → Shared → Prop} {pins : List (Addr × Obj)} {σ : L2.St} {H : Hp} {s : Shared}
theorem Ok.wx (k : X.Ok) : (withXe X f).Ok := ⟨k.1, k.2, k.3, k.4, k.5, k.6, k.7, k.8, k.9, k.10, k.11, k.12, k.13, k.14, k.15, k.16, k.17, k.18⟩
theorem Ok.unwx (k : (withXe X f).Ok) : X.Ok := ⟨k.1, k.2, k.3, k.4, k.5, k.6, k.7, k.8, k.9, k.10, k.11, k.12, k.13, k.14, k.15, k.16, k.17, k.18⟩
theorem Inv.wx (I : Inv X pins σ H s) : Inv (withXe X f) pins σ H s := ⟨Ok.wx I.1, I.2, I.3, I.4, I.5, I.6, I.7, I.8, I.9, I.10, I.11⟩
theorem Inv.unwx (I : Inv (withXe X f) pins σ H s) : Inv X pins σ H s := ⟨Ok.unwx I.1, I.2, I.3, I.4, I.5, I.6, I.7, I.8, I.9, I.10, I.11⟩
theorem sky_note {M : Model} {A : Around} {E : Value → Shared → Prop} {env : Env} {outer : List Env} {L C a : Addr} {B : Heap} {Z : Obj → Prop} {Q : Unit → Shared → Prop} (zz : HandSPX.Steady Z) (fr : A.frames = some (env :: outer)) (ef : env.frame = some L) (ne : C ≠ L)
    (x : Sky B (env :: outer) a Z C s.heap) (hQ : ∀ h', HandSPX.HeldZ B (env :: outer) a Z L h' → s.heap.UpToSlots h' → Q () { s with heap := h' }) : wpAny M A (noteFrame (.ref a) env) Q E s := by
  rcases x with ⟨k, n, ff, ob, fs, h1, h2, h3, h4⟩ | y | ⟨k, n, ff, t⟩
  · exact HandSPX.look_newZ zz fr ff ef h1 k n h3 h4 h2 hQ
  · exact HandSPX.looks_onZ zz fr ef y hQ
  · refine HandSPX.sw_looks zz fr ef ?_ k n ff t (fun _ _ _ => .inr trivial) hQ
    have : (C : Int) ≠ (L : Int) := fun z => ne (Int.ofNat.inj z)
    show ((Value.int (C : Int) 0) == (Value.int (L : Int) 0)) = false
    simp [this]
end
section
variable {X : Cx}
theorem pe_lcx {elt tg iter : Expr} {ifs : List Expr} {scope : Scope} {own : List (Str × Nat)} {pos : Pos} {wi : TI} {g : TG} {tt : TT} {te : L2.St → TE} {W : WX} (st : X.stack = X.env :: X.outer) (fr : X.env.frame = some X.env.locals) (tk : Takes X W)
    (calm : X.calm = true) (nd : X.N.Nodup) (it : PI X tg iter wi) (ok : BlkOk X.N X.env.scope scope own)
    (hg : ∀ (s : Shared) (H : Hp) (C : Addr) (cl : List (Str × Addr)) (fp : List Addr), PG (X.blk s H scope (compEnvC scope cl C X.env) fp) tg g)
    (ht : ∀ (s : Shared) (H : Hp) (C : Addr) (cl : List (Str × Addr)) (fp : List Addr), PTs (X.blk s H scope (compEnvC scope cl C X.env) fp) ifs tt)
    (he : ∀ (s : Shared) (H : Hp) (C : Addr) (cl : List (Str × Addr)) (fp : List Addr) (f : Value → Shared → Prop) (σ : L2.St), Takes (withXe (X.blk s H scope (compEnvC scope cl C X.env) fp) f) (fun cls d _ H => W cls d σ H) → PE (withXe (X.blk s H scope (compEnvC scope cl C X.env) fp) f) elt (te σ))
    (hs : ∀ x, foldedSetIterable iter X.env x = pure x := by intro _; rfl) :
    PE X (.ListComp elt [⟨tg, iter, ifs, 0⟩] scope pos) (fun σ => tLc wi g tt (te σ) (own.map (·.2)) σ) := by
  refine ⟨fun pins s σ H Q I h => ?_⟩
  rw [eval_ListComp]
  have fre : ∀ y ∈ scope.names, y.2 = .free → ∃ c, X.env.cells.lookup y.1 = some c := fun y hy e => (ok.free y hy e).elim (fun k => I.ok.has _ (.inl k)) fun k => I.ok.has _ (.inr k)
  refine comprehension_at (use := none) rfl hs (closure_ok fre) ok.kind (fun y hy e => by rw [← e]; exact ok.uniq y hy) (thn (it.run pins s σ H _ I h) fun v1 z1 q1 => thn q1 fun v2 z2 q2 => ?_)
  obtain ⟨ia, fp, tn, J, H2, rfl, I2, T, t2, f2, q⟩ := q2
  refine wpAny_newObj_type (newEnv_comp ?_) (Nat.zero_le _)
  obtain ⟨D, dD⟩ : ∃ D, D = z2.heap.objs.size := ⟨_, rfl⟩
  have nD : H2 D = none := I2.hok.fresh (Nat.le_of_eq dD.symm)
  obtain ⟨Wt, ⟨m0, w0⟩, turn⟩ := q D nD
  rw [← dD]
  obtain ⟨z3, d3⟩ : ∃ z3 : Shared, z3 = { z2 with heap := z2.heap.push { cls := .type "list", data := .seq ([] : List Value).toArray } } := ⟨_, rfl⟩
  have hp3 : z3.heap = z2.heap.push { cls := .type "list", data := .seq ([] : List Value).toArray } := by rw [d3]
  have I3 : Inv X pins σ (upd H2 D (.lst [])) z3 := by
    rw [d3]
    exact I2.laid (t' := z2.toks) (fun b o e => Heap.get?_push_of_some _ e) (Nat.le_of_eq dD.symm) ⟨Nat.zero_le _, [], 0, .nil, by rw [dD]; exact Heap.get?_push_size _ rfl⟩
  have below : ∀ b ∈ fp, b < z2.heap.objs.size := fun b hb => by
    obtain ⟨o, e, _⟩ := T.obj _ _ t2 b hb
    exact Heap.lt_size e
  have f3 : ∀ b ∈ fp, FpOk X pins (upd H2 D (.lst [])) b ∧ b < z3.heap.objs.size := fun b hb => by
    have lt := below b hb
    refine ⟨⟨?_, (f2 b hb).2⟩, by rw [hp3, Heap.size_push]; exact Nat.lt_succ_of_lt lt⟩
    rw [upd_ne (by rw [dD]; exact Nat.ne_of_lt lt)]
    exact (f2 b hb).1
  have t3 : tn 0 z3.heap := T.keep _ _ _ t2 fun b _ o e => by rw [hp3]; exact Heap.get?_push_of_some _ e
  have I4 := block_start I3 ok nd f3
  obtain ⟨cl, dcl⟩ : ∃ cl, cl = cellsFrom (z3.heap.objs.size + 1) scope.names (cloFrom X.env.cells scope.names []) := ⟨_, rfl⟩
  obtain ⟨C, dC⟩ : ∃ C, C = z3.heap.objs.size := ⟨_, rfl⟩
  have pg := hg z3 (upd H2 D (.lst [])) C cl fp
  have pt := ht z3 (upd H2 D (.lst [])) C cl fp
  have pe := fun f => he z3 (upd H2 D (.lst [])) C cl fp f σ
  rw [← dcl, ← dC] at I4
  have free3 : ∀ b ∈ fp, (upd H2 D (.lst [])) b = none := fun b hb => (f3 b hb).1.1
  generalize dH3 : upd H2 D (.lst []) = H3 at I3 I4 pg pt pe w0 free3 f3
  obtain ⟨ce, dce⟩ : ∃ ce, ce = compEnvC scope cl C X.env := ⟨_, rfl⟩
  have aim : codeAny (model X.prog X.w) X.A (.compStart (.ListComp elt [⟨tg, iter, ifs, 0⟩] scope pos) 0 (.ref ia) (.ref D) ce) (compEnds (model X.prog X.w) X.A X.xe none (fun u s' => EP X pins σ Q u s') (.ref D) ce) { z3 with heap := pushCells (z3.heap.push { cls := .type "dict", data := .dict #[] }) scope.names } := by
    obtain ⟨z4, d4⟩ : ∃ z4 : Shared, z4 = { z3 with heap := pushCells (z3.heap.push { cls := .type "dict", data := .dict #[] }) scope.names } := ⟨_, rfl⟩
    rw [← dce] at I4 pg pt pe
    rw [← d4] at I4 ⊢
    have cL : ce.locals = C := by rw [dce]; rfl
    have cF : ce.frame = X.env.frame := by rw [dce]; rfl
    have t4 : tn 0 z4.heap := T.keep _ _ _ t3 fun b _ o e => by rw [d4]; exact pushCells_keeps _ _ _ _ (Heap.get?_push_of_some _ e)
    have fps : ∀ {σ' : L2.St} {H' : Hp} {s' : Shared}, Inv (X.blk z3 H3 scope ce fp) [] σ' H' s' → (∀ b ∈ fp, H' b = none) → ∀ b ∈ fp, FpOk (X.blk z3 H3 scope ce fp) [] H' b := fun {σ' H' s'} J n b hb =>
      ⟨n b hb, (J.ok.exf b hb).1, J.ok.exfs b hb, .inl hb, fun x c e => (J.ok.exf b hb).2 x c e, fun p hp => by cases hp⟩
    have onX : ∀ {σ' : L2.St} {H' : Hp} {s' : Shared} {ps : List (Addr × Obj)}, Inv (X.blk z3 H3 scope ce fp) ps σ' H' s' → Inv X pins σ H' s' ∧ FpOk X pins H' C := fun {σ' H' s' ps} J =>
      ⟨I3.call' (ch := fp) J.os J.base J.hok J.bare fun b hb => ⟨(f3 b hb).1.2.2.2.1, (f3 b hb).1.2.1, (f3 b hb).1.2.2.2.2.1, (f3 b hb).1.2.2.2.2.2⟩, I3.fpOk (Nat.le_of_eq dC.symm) (by
        have z : H' ce.locals = none := J.free
        rw [cL] at z
        exact z)⟩
    have tkB : Takes (withXe (X.blk z3 H3 scope ce fp) (notedBy (model X.prog X.w) X.A ce fun e s' => compEnds (model X.prog X.w) X.A X.xe none (fun u s' => EP X pins σ Q u s') (.ref D) ce (.error e) s')) (fun cls d _ H => W cls d σ H) := by
      rintro u z5 ⟨a, B, sJ, ps, σJ, HJ, cls, d, rfl, J, nb, up, sky, na, os, ag, wE⟩
      have J' := SW.Inv.unwx J
      obtain ⟨I7, fC⟩ := onX J'
      obtain ⟨mJ, hnJ, _⟩ := J'.loc
      have hnJ : sJ.heap.Ns C mJ := by rw [← cL]; exact hnJ
      have ne : C ≠ X.env.locals := fC.2.1
      have frs0 : X.A.frames = some (X.env :: X.outer) := by rw [I.ok.frames, st]
      have sky' : Sky B (X.env :: X.outer) a (Zc cls d) C z5.heap := by
        rw [← st, ← cL]
        exact sky
      show wpAny _ X.A (noteFrame (.ref a) ce) _ _ z5
      rw [noteFrame_env _ cF]
      refine sky_note Zc.steady frs0 fr ne sky' fun h6 held up6 => ?_
      have upJ : sJ.heap.UpToSlots h6 := up.trans up6
      have hn6 : h6.Ns C mJ := hnJ.upToSlots upJ
      have hide : ∀ {h : Heap} {b : Addr} {o : Obj}, (PySem.W.hideAll h [C]).get? b = some o → h.get? b = some o ∧ b ≠ C := fun {h b o} e =>
        ⟨PySem.W.of_hideAll _ e, fun z => by rw [z, PySem.W.hideAll_none [C] (by simp)] at e; cases e⟩
      have hget : ∀ {h : Heap} {b : Addr} {o : Obj}, h.get? b = some o → b ≠ C → (PySem.W.hideAll h [C]).get? b = some o := fun {h b o} e n => PySem.W.hideAll_get _ e (by simpa using n)
      have hnone : ∀ {h : Heap} {b : Addr}, h.get? b = none → (PySem.W.hideAll h [C]).get? b = none := fun {h b} e => by
        cases q : (PySem.W.hideAll h [C]).get? b with
        | none => rfl
        | some o => rw [(hide q).1] at e; cases e
      refine ⟨mJ, by rw [cL]; exact hn6, fun h7 m7 hn7 sb => ?_⟩
      rw [cL] at hn7 sb
      obtain ⟨k1, k2, k3, ob, vs, R, oR, rs, g1, g2, g3, g4, g5, g6, g7, g8, g9⟩ := held
      obtain ⟨oC, es, ep, hoC, hdC, _⟩ := id hn6
      have noC : ∀ {b : Addr} {o : Obj} {ws : Array Value}, h6.get? b = some o → o.data = .fields ws → b ≠ C := fun {b o ws} e dd z => by
        rw [z, hoC] at e
        rw [← Option.some.inj e, hdC] at dd
        cases dd
      have held7 : HandSPX.HeldZ (PySem.W.hideAll B [C]) (X.env :: X.outer) a (Zc cls d) X.env.locals h7 := by
        refine ⟨fun b o e => (sb.2 b (hide e).2).trans (k1 b o (hide e).1), hnone k2, funFrames_none (Heap.FunFrames.sameBut sb hn7 k3) fun b hb => hnone (k3.mem hb).1, ob, vs, R, oR, rs, (sb.2 a (noC g1 g3)).trans g1, g2, g3, g4, hnone g5, g6, (sb.2 R (noC g7 g8)).trans g7, g8, g9⟩
      unfold PySem.passOn
      refine wpAny_bind (wpAny_field ((sb.2 a (noC g1 g3)).trans g1) g3 g4 ?_)
      rw [if_neg (by simp : ¬ ((Value.ref R == Value.none) = true)), cF, fr]
      refine wpAny_bind (HandSPX.setFlight_onZ held7 fun h8 held8 up8 => wpAny_throw (tk _ _ ?_))
      obtain ⟨c0, c1, c2, c3, c4, c5⟩ := fC
      refine ⟨a, PySem.W.hideAll B [C], { sJ with heap := PySem.W.hideAll sJ.heap [C] }, pins, σ, HJ, cls, d, rfl, I7.turned (t' := sJ.toks) (fun b o hb e => hget e hb) c0 c1 c3 c4 c5, fun b o e hb => hget (nb b o (hide e).1 hb) (hide e).2, fun b o e nf => ?_, .inr (.inr (by rw [st]; exact held8)), na, os, ag, wE⟩
      obtain ⟨sl, e6⟩ := upJ b o (hide e).1 nf
      have e7 : h7.get? b = some { o with slots := sl } := (sb.2 b (hide e).2).trans e6
      obtain ⟨sl2, e8⟩ := up8 b _ e7 nf
      exact ⟨sl2, e8⟩
    have loop : codeAny (model X.prog X.w) X.A (.compLoop (.ListComp elt [⟨tg, iter, ifs, 0⟩] scope pos) 0 (.ref ia) (.ref D) ce) (compEnds (model X.prog X.w) X.A X.xe none (fun u s' => EP X pins σ Q u s') (.ref D) ce) z4 := by
      refine compLoop_any (fun n s' => ∃ i H', Inv (X.blk z3 H3 scope ce fp) [] (wipe σ (own.map (·.2))) H' s' ∧ tn i s'.heap ∧ (∀ b ∈ fp, H' b = none) ∧ Wt i n H') ?_ m0 ⟨0, H3, I4, t4, free3, w0⟩
      rintro n z5 ⟨i, H5, I5, t5, n5, w5⟩
      rcases turn i n H5 w5 with ⟨stop, qq⟩ | ⟨more, Nx, hNx, step⟩
      · refine thnF (T.done (X.blk z3 H3 scope ce fp) rfl rfl rfl calm i [] z5 _ H5 (fun _ _ => False) I5 (fps I5 n5) t5 stop) fun r z6 k6 => ?_
        obtain ⟨rfl, I6⟩ := k6
        obtain ⟨I7, fC⟩ := onX I6
        obtain ⟨m, hn, _⟩ := I6.loc
        refine ⟨m, hn, fun h' sb => ?_⟩
        obtain ⟨c0, c1, c2, c3, c4, c5⟩ := fC
        rw [cL] at sb
        exact ⟨.ref D, H5, I7.turned (t' := z6.toks) (fun b o hb e => (sb.2 b hb).trans e) c0 c1 c3 c4 c5, rfl, qq⟩
      · refine thnF (T.item (X.blk z3 H3 scope ce fp) rfl rfl rfl calm i [] z5 _ H5 (fun _ _ => False) I5 (fps I5 n5) t5 more) fun r z6 k6 => ?_
        obtain ⟨u, rfl, h6⟩ := k6
        refine thnF h6 fun _ z7 ⟨x, H7, I7, r7, y7, t7, n7⟩ => ?_
        have J7 := I7.pinned (fps I7 n7) (T.obj _ _ t7)
        refine thnF (pg.run _ z7 _ H7 x u _ J7 r7 (step x H7 y7)) fun _ z8 ⟨σ8, H8, I8, w8, q8⟩ => ?_
        refine thnF (pt.run _ z8 σ8 H8 _ I8 q8) fun b z9 ⟨H9, I9, q9⟩ => ?_
        have fin : ∀ {s' : Shared} {H' : Hp}, Inv (X.blk z3 H3 scope ce fp) ([] ++ pinsAt fp z7.heap) σ8 H' s' → Nx H' → ∃ m, m < n ∧ ∃ i H', Inv (X.blk z3 H3 scope ce fp) [] (wipe σ (own.map (·.2))) H' s' ∧ tn i s'.heap ∧ (∀ b ∈ fp, H' b = none) ∧ Wt i m H' := fun {s' H'} J nx => by
          obtain ⟨m', lt, w'⟩ := hNx H' nx
          have held : ∀ b ∈ fp, ∀ o, z7.heap.get? b = some o → s'.heap.get? b = some o ∧ H' b = none := fun b hb o e => by
            have z := J.pin (b, o) (List.mem_append_right _ (List.mem_append_right _ (mem_pinsAt hb e)))
            exact ⟨z.1, z.2.1⟩
          have ln : (wipe σ (own.map (·.2))).length = σ8.length := by rw [← w8]; exact wipe_length _ _
          refine ⟨m', lt, i + 1, H', (J.unpinned (pins := [])).weak ln (fun j v e => ?_), T.keep _ _ _ t7 fun b hb o e => (held b hb o e).1, fun b hb => ?_, w'⟩
          · rw [← w8] at e
            exact (wipe_some e).1
          · obtain ⟨o, e, _⟩ := T.obj _ _ t7 b hb
            exact (held b hb o e).2
        cases b with
        | false =>
          simp only [Bool.false_eq_true, if_false] at q9 ⊢
          exact fin I9 q9
        | true =>
          simp only [if_true] at q9 ⊢
          refine thn ((pe _ tkB).run _ z9 σ8 H9 _ (SW.Inv.wx I9) q9) fun z z10 ⟨yv, H10, I10, r10, acc, a1, a2, nx⟩ => ?_
          exact app_ok (X := X.blk z3 H3 scope ce fp) (SW.Inv.unwx I10) a1 a2 r10 fun s11 I11 => fin I11 nx
    exact codeAny_compStart_list loop (T.self X.A 0 _ _ _ t4 loop)
  rw [dce, dcl, dC, d3] at aim
  exact aim
end
end SW

set_option Elab.async false
set_option linter.all false
set_option maxRecDepth 100000
namespace SW
open PySem L2
section
variable {K : PySem.W.Frag} {H H' : Hp} {v : V} {vs : List V}
theorem Rp.int_inv {i : Int} (h : Rp K H v (.int i)) : v = .int i := by cases h; rfl
theorem Rp.str_inv {x : Str} (h : Rp K H v (.str x)) : v = .str x := by cases h; rfl
theorem Rp.non_inv (h : Rp K H v .none) : v = .non := by cases h; rfl
theorem Rp.bl_inv {b : Bool} (h : Rp K H v (.bool b)) : v = .bl b := by cases h; rfl
theorem Rp.tup_inv {ds : List PyData} (h : Rp K H v (.tuple ds)) : ∃ a xs, v = .ref a ∧ SqT K H a xs ∧ RpAll K H xs ds := by
  cases h with
  | tup h1 h2 => exact ⟨_, _, rfl, h1, h2⟩
theorem Rp.lst_inv {ds : List PyData} (h : Rp K H v (.list ds)) : ∃ a xs, v = .ref a ∧ SqL K H a xs ∧ RpAll K H xs ds := by
  cases h with
  | lst h1 h2 => exact ⟨_, _, rfl, h1, h2⟩
theorem RpAll.nil_inv (h : RpAll K H vs []) : vs = [] := by cases h; rfl
theorem RpAll.cons_inv {d : PyData} {ds : List PyData} (h : RpAll K H vs (d :: ds)) : ∃ x xs, vs = x :: xs ∧ Rp K H x d ∧ RpAll K H xs ds := by
  cases h with
  | cons h1 h2 => exact ⟨_, _, rfl, h1, h2⟩
theorem Rp.tup2 {d0 d1 : PyData} (h : Rp K H v (.tuple [d0, d1])) : ∃ a x0 x1, v = .ref a ∧ SqT K H a [x0, x1] ∧ Rp K H x0 d0 ∧ Rp K H x1 d1 := by
  obtain ⟨a, xs, rfl, h1, h2⟩ := h.tup_inv
  obtain ⟨x0, r0, rfl, k0, h2⟩ := h2.cons_inv
  obtain ⟨x1, r1, rfl, k1, h2⟩ := h2.cons_inv
  cases h2.nil_inv
  exact ⟨a, x0, x1, rfl, h1, k0, k1⟩
theorem Rp.tup3 {d0 d1 d2 : PyData} (h : Rp K H v (.tuple [d0, d1, d2])) : ∃ a x0 x1 x2, v = .ref a ∧ SqT K H a [x0, x1, x2] ∧ Rp K H x0 d0 ∧ Rp K H x1 d1 ∧ Rp K H x2 d2 := by
  obtain ⟨a, xs, rfl, h1, h2⟩ := h.tup_inv
  obtain ⟨x0, r0, rfl, k0, h2⟩ := h2.cons_inv
  obtain ⟨x1, r1, rfl, k1, h2⟩ := h2.cons_inv
  obtain ⟨x2, r2, rfl, k2, h2⟩ := h2.cons_inv
  cases h2.nil_inv
  exact ⟨a, x0, x1, x2, rfl, h1, k0, k1, k2⟩
theorem Rp.tup6 {d0 d1 d2 d3 d4 d5 : PyData} (h : Rp K H v (.tuple [d0, d1, d2, d3, d4, d5])) : ∃ a x0 x1 x2 x3 x4 x5, v = .ref a ∧ SqT K H a [x0, x1, x2, x3, x4, x5] ∧ Rp K H x0 d0 ∧ Rp K H x1 d1 ∧ Rp K H x2 d2 ∧ Rp K H x3 d3 ∧ Rp K H x4 d4 ∧ Rp K H x5 d5 := by
  obtain ⟨a, xs, rfl, h1, h2⟩ := h.tup_inv
  obtain ⟨x0, r0, rfl, k0, h2⟩ := h2.cons_inv
  obtain ⟨x1, r1, rfl, k1, h2⟩ := h2.cons_inv
  obtain ⟨x2, r2, rfl, k2, h2⟩ := h2.cons_inv
  obtain ⟨x3, r3, rfl, k3, h2⟩ := h2.cons_inv
  obtain ⟨x4, r4, rfl, k4, h2⟩ := h2.cons_inv
  obtain ⟨x5, r5, rfl, k5, h2⟩ := h2.cons_inv
  cases h2.nil_inv
  exact ⟨a, x0, x1, x2, x3, x4, x5, rfl, h1, k0, k1, k2, k3, k4, k5⟩
theorem RpAll.item {α : Type} {g : α → PyData} {as : List α} {i : Nat} (h : RpAll K H vs (as.map g)) (hv : vs[i]? = some v) : ∃ hi : i < as.length, Rp K H v (g as[i]) ∧ as.take (i + 1) = as.take i ++ [as[i]] := by
  obtain ⟨d, hd, r⟩ := h.getV hv
  rw [List.getElem?_map] at hd
  have hi : i < as.length := by
    rcases Nat.lt_or_ge i as.length with c | c
    · exact c
    · rw [List.getElem?_eq_none c] at hd
      cases hd
  rw [List.getElem?_eq_getElem hi] at hd
  cases hd
  exact ⟨hi, r, by simp⟩
end
inductive LLs (H : Hp) : List V → List (List Int) → Prop
  | nil : LLs H [] []
  | cons {a : Addr} {r : List Int} {vs : List V} {rs : List (List Int)} : H a = some (.lst (r.map V.int)) → LLs H vs rs → LLs H (.ref a :: vs) (r :: rs)
section
variable {H H' : Hp}
theorem LLs.le (s : Same H H') : ∀ {vs : List V} {rs : List (List Int)}, LLs H vs rs → LLs H' vs rs
  | _, _, .nil => .nil
  | _, _, .cons h t => .cons (s _ _ h) (LLs.le s t)
theorem LLs.length : ∀ {vs : List V} {rs : List (List Int)}, LLs H vs rs → vs.length = rs.length
  | _, _, .nil => rfl
  | _, _, .cons _ t => congrArg (· + 1) (LLs.length t)
theorem LLs.append : ∀ {vs ws : List V} {rs qs : List (List Int)}, LLs H vs rs → LLs H ws qs → LLs H (vs ++ ws) (rs ++ qs)
  | _, _, _, _, .nil, h => h
  | _, _, _, _, .cons a t, h => .cons a (LLs.append t h)
theorem LLs.get : ∀ {vs : List V} {rs : List (List Int)} {i : Nat} {v : V}, LLs H vs rs → vs[i]? = some v → ∃ a r, v = .ref a ∧ rs[i]? = some r ∧ H a = some (.lst (r.map V.int))
  | _, _, _, _, .nil, h => by simp at h
  | _, _, 0, _, .cons h _, e => by
    simp at e
    subst e
    exact ⟨_, _, rfl, rfl, h⟩
  | _, _, i + 1, _, .cons _ t, e => by
    obtain ⟨a, r, h1, h2, h3⟩ := LLs.get (i := i) t (by simpa using e)
    exact ⟨a, r, h1, by simpa using h2, h3⟩
theorem LLs.take : ∀ {vs : List V} {rs : List (List Int)} (n : Nat), LLs H vs rs → LLs H (vs.take n) (rs.take n)
  | _, _, 0, _ => by simpa using LLs.nil
  | _, _, _ + 1, .nil => .nil
  | _, _, n + 1, .cons a t => .cons a (LLs.take n t)
theorem LLs.rp {K : PySem.W.Frag} : ∀ {vs : List V} {rs : List (List Int)}, LLs H vs rs → RpAll K H vs (rs.map fun x => .list (x.map .int))
  | _, _, .nil => .nil
  | _, _, .cons h t => .cons (rp_ints (SqL.of h)) (LLs.rp t)
end
theorem take_snoc {α : Type} {l : List α} {i : Nat} {x : α} (h : l[i]? = some x) : l.take (i + 1) = l.take i ++ [x] := by
  obtain ⟨h1, h2⟩ := List.getElem?_eq_some_iff.mp h
  rw [List.take_succ_eq_append_getElem h1, h2]
theorem ints_get {bs : List Int} {i : Nat} {x : V} (h : (bs.map V.int)[i]? = some x) : ∃ hi : i < bs.length, x = .int bs[i] ∧ bs.take (i + 1) = bs.take i ++ [bs[i]] := by
  rw [List.getElem?_map] at h
  have hi : i < bs.length := by
    rcases Nat.lt_or_ge i bs.length with c | c
    · exact c
    · rw [List.getElem?_eq_none c] at h
      cases h
  rw [List.getElem?_eq_getElem hi] at h
  refine ⟨hi, (Option.some.inj h).symm, by simp⟩
theorem flat_take {rs : List (List Int)} {i : Nat} {r : List Int} (h : rs[i]? = some r) : (rs.take i).flatten.length + r.length ≤ rs.flatten.length := by
  have e1 : (rs.take (i + 1)).flatten = (rs.take i).flatten ++ r := by rw [take_snoc h]; simp
  have e2 : rs.flatten = (rs.take (i + 1)).flatten ++ (rs.drop (i + 1)).flatten := by rw [← List.flatten_append, List.take_append_drop]
  rw [e2, e1, List.length_append, List.length_append]
  omega
theorem S_size (t : List Nat) : (SX.S t).cps.size = t.length := len_S t
theorem S_item {t : List Nat} {i c : Nat} (h : (SX.S t).cps[i]? = some c) : ∃ hi : i < t.length, c = t[i] ∧ t.take (i + 1) = t.take i ++ [t[i]] := by
  have h2 : t[i]? = some c := by
    have e : (SX.S t).cps.toList = t := cps_S t
    rw [← e]
    simpa using h
  obtain ⟨hi, e⟩ := List.getElem?_eq_some_iff.mp h2
  exact ⟨hi, e.symm, by simp⟩
structure LAcc (O : List Addr) (D : Addr) (rs : List (List Int)) (acc : List V) (H : Hp) : Prop where
  own : D ∈ O
  is : H D = some (.lst acc)
  it : LLs (wo H O) acc rs
section
variable {O : List Addr} {D r : Addr} {rs : List (List Int)} {acc : List V} {H H' : Hp} {n : List Int}
theorem LAcc.le (h : LAcc O D rs acc H) (s : Same H H') : LAcc O D rs acc H' := ⟨h.own, s _ _ h.is, h.it.le (Same.wo s)⟩
theorem LAcc.push (h : LAcc O D rs acc H) (e : wo H O r = some (.lst (n.map V.int))) : LAcc O D (rs ++ [n]) (acc ++ [.ref r]) (upd H D (.lst (acc ++ [.ref r]))) :=
  ⟨h.own, upd_same, by rw [wo_upd_in h.own]; exact h.it.append (.cons e .nil)⟩
theorem LAcc.new (h : D ∈ O) : LAcc O D [] [] (upd H D (.lst [])) := ⟨h, upd_same, .nil⟩
theorem LAcc.all (h : LAcc O D rs acc H) : LLs H acc rs := h.it.le (wo_le _ _)
end
end SW

set_option Elab.async false
set_option linter.all false
set_option maxRecDepth 100000
namespace SW
open PySem L2
def wnum (n : Nat) : List Int := if n < 128 then [(n : Int)] else ((n : Int) % 128 + 128) :: wnum (n / 128)
termination_by n
decreasing_by omega
theorem wnum_lt {n : Nat} (h : n < 128) : wnum n = [(n : Int)] := by rw [wnum, if_pos h]
theorem wnum_ge {n : Nat} (h : 128 ≤ n) : wnum n = ((n : Int) % 128 + 128) :: wnum (n / 128) := by rw [wnum, if_neg (by omega)]
def csum (bs : List Int) : Int := bs.foldl (fun t b => (31 * t + b + 1) % 4294967296) 7
def tail4 (t : Int) : List Int := [t / 16777216, t / 65536 % 256, t / 256 % 256, t % 256]
def wrec (bs : List Int) : List Int := wnum bs.length ++ bs ++ tail4 (csum bs)
def rnum : Nat → Bool → List Int → Option (Int × Nat)
  | 0, _, _ => none
  | _ + 1, _, [] => none
  | f + 1, first, b :: r => if b < 128 then (if b = 0 ∧ first = false then none else some (b % 128, 1)) else (rnum f false r).map fun z => (b % 128 + 128 * z.1, z.2 + 1)
theorem rnum_nn : ∀ {f : Nat} {first : Bool} {l : List Int} {v : Int} {k : Nat}, rnum f first l = some (v, k) → 0 ≤ v ∧ k ≤ l.length ∧ k ≤ f ∧ 0 < k
  | 0, _, _, _, _, h => by simp [rnum] at h
  | _ + 1, _, [], _, _, h => by simp [rnum] at h
  | f + 1, first, b :: r, v, k, h => by
    rw [rnum] at h
    split at h
    · split at h
      · cases h
      · cases Option.some.inj h
        simp
        omega
    · cases e : rnum f false r with
      | none => rw [e] at h; cases h
      | some z =>
        obtain ⟨v1, k1⟩ := z
        rw [e] at h
        cases Option.some.inj h
        obtain ⟨h1, h2, h3, h4⟩ := rnum_nn e
        simp
        omega
theorem rnum_wnum : ∀ {f n : Nat} {first : Bool} {r : List Int}, (wnum n).length ≤ f → (first = false → 0 < n) → rnum f first (wnum n ++ r) = some ((n : Int), (wnum n).length)
  | 0, n, _, _, h, _ => by
    by_cases c : n < 128
    · rw [wnum_lt c] at h
      simp at h
    · rw [wnum_ge (by omega)] at h
      simp at h
  | f + 1, n, first, r, h, h0 => by
    by_cases c : n < 128
    · rw [wnum_lt c]
      simp only [List.cons_append, List.nil_append, rnum]
      rw [if_pos (by omega), if_neg (by intro z; have := h0 z.2; omega)]
      have : (n : Int) % 128 = n := by omega
      simp [this]
    · rw [wnum_ge (by omega)] at h ⊢
      simp only [List.cons_append, rnum]
      rw [if_neg (by omega), rnum_wnum (f := f) (by simpa using h) (by intro _; omega)]
      simp
      omega
theorem wnum_pos (n : Nat) : 0 < (wnum n).length := by
  by_cases c : n < 128
  · rw [wnum_lt c]
    simp
  · rw [wnum_ge (by omega)]
    simp
theorem wnum_len {n : Nat} (h : n < 2097152) : (wnum n).length ≤ 3 := by
  by_cases c : n < 128
  · rw [wnum_lt c]
    simp
  · rw [wnum_ge (by omega)]
    by_cases c2 : n / 128 < 128
    · rw [wnum_lt c2]
      simp
    · rw [wnum_ge (by omega), wnum_lt (by omega)]
      simp
theorem rnum_cut : ∀ {f n k : Nat} {first : Bool}, k < (wnum n).length → rnum f first ((wnum n).take k) = none
  | 0, _, _, _, _ => rfl
  | f + 1, n, 0, _, _ => by simp [rnum]
  | f + 1, n, k + 1, first, h => by
    by_cases c : n < 128
    · rw [wnum_lt c] at h
      simp at h
    · rw [wnum_ge (by omega)] at h ⊢
      simp only [List.take_succ_cons, rnum]
      rw [if_neg (by omega), rnum_cut (by simpa using h)]
      rfl
theorem rnum_rep (f j : Nat) (X : List Int) : rnum f false (List.replicate j 128 ++ 0 :: X) = none := by
  induction j generalizing f with
  | zero =>
    cases f with
    | zero => rfl
    | succ f => simp [rnum]
  | succ j ih =>
    cases f with
    | zero => rfl
    | succ f =>
      rw [List.replicate_succ]
      simp only [List.cons_append, rnum]
      rw [if_neg (by omega), ih]
      rfl
theorem rnum_needless : ∀ {f n j : Nat} {first : Bool} {X : List Int} {i : List Int} {z : Int}, wnum n = i ++ [z] → rnum f first (i ++ ((z + 128) :: (List.replicate j 128 ++ 0 :: X))) = none
  | 0, _, _, _, _, _, _, _ => rfl
  | f + 1, n, j, first, X, i, z, h => by
    by_cases c : n < 128
    · rw [wnum_lt c] at h
      cases i with
      | nil =>
        simp at h
        subst h
        simp only [List.nil_append, rnum]
        rw [if_neg (by omega), rnum_rep]
        rfl
      | cons a i =>
        simp at h
    · rw [wnum_ge (by omega)] at h
      cases i with
      | nil =>
        have := wnum_pos (n / 128)
        simp at h
        rw [h.2] at this
        simp at this
      | cons a i =>
        simp at h
        obtain ⟨h1, h2⟩ := h
        subst h1
        simp only [List.cons_append, rnum]
        rw [if_neg (by omega), rnum_needless h2]
        rfl
def parse1 (l : List Int) : Option (List Int × Nat) :=
  match rnum 60 true (l.take 60) with
  | none => none
  | some (v, k) => if l.length < k + v.toNat + 4 ∨ tail4 (csum ((l.drop k).take v.toNat)) ≠ (l.drop (k + v.toNat)).take 4 then none else some ((l.drop k).take v.toNat, k + v.toNat + 4)
theorem tail4_len (t : Int) : (tail4 t).length = 4 := rfl
theorem wrec_len (r : List Int) : (wrec r).length = (wnum r.length).length + r.length + 4 := by
  unfold wrec
  rw [List.length_append, List.length_append, tail4_len]
theorem rnum_60 {n : Nat} (h : n < 2097152) (r : List Int) : rnum 60 true ((wnum n ++ r).take 60) = some ((n : Int), (wnum n).length) := by
  have h2 := wnum_len h
  rw [List.take_append, List.take_of_length_le (by omega)]
  exact rnum_wnum (by omega) (by simp)
theorem parse_form {r' t' X : List Int} (h : r'.length < 2097152) (ht : t'.length = 4) : parse1 (wnum r'.length ++ (r' ++ (t' ++ X))) = if tail4 (csum r') = t' then some (r', (wnum r'.length).length + r'.length + 4) else none := by
  unfold parse1
  rw [rnum_60 h]
  simp only [Int.toNat_natCast]
  have e1 : (wnum r'.length ++ (r' ++ (t' ++ X))).drop (wnum r'.length).length = r' ++ (t' ++ X) := List.drop_left' rfl
  have e2 : (r' ++ (t' ++ X)).take r'.length = r' := List.take_left' rfl
  have e3 : (wnum r'.length ++ (r' ++ (t' ++ X))).drop ((wnum r'.length).length + r'.length) = t' ++ X := by
    rw [← List.drop_drop, e1]
    exact List.drop_left' rfl
  have e4 : (t' ++ X).take 4 = t' := List.take_left' ht
  rw [e1, e2, e3, e4]
  by_cases c : tail4 (csum r') = t'
  · rw [if_pos c, if_neg]
    rintro (z | z)
    · simp only [List.length_append] at z
      omega
    · exact z c
  · rw [if_neg c, if_pos (Or.inr c)]
theorem parse_wrec {r X : List Int} (h : r.length < 2097152) : parse1 (wrec r ++ X) = some (r, (wrec r).length) := by
  have e : wrec r ++ X = wnum r.length ++ (r ++ (tail4 (csum r) ++ X)) := by simp [wrec]
  rw [e, parse_form h (tail4_len _), if_pos rfl, wrec_len]
theorem parse_cut {r : List Int} {k : Nat} (h : r.length < 2097152) (hk : k < (wrec r).length) : parse1 ((wrec r).take k) = none := by
  have h2 := wnum_len h
  have e : wrec r = wnum r.length ++ (r ++ tail4 (csum r)) := by simp [wrec]
  rw [wrec_len] at hk
  by_cases c : k < (wnum r.length).length
  · unfold parse1
    rw [e, List.take_append_of_le_length (by omega), List.take_of_length_le (by rw [List.length_take]; omega), rnum_cut c]
  · have e5 : (wrec r).take k = wnum r.length ++ (r ++ tail4 (csum r)).take (k - (wnum r.length).length) := by
      rw [e, List.take_append, List.take_of_length_le (by omega)]
    unfold parse1
    rw [e5, rnum_60 h]
    simp only [Int.toNat_natCast]
    rw [if_pos (Or.inl ?_)]
    simp only [List.length_append, List.length_take, tail4_len]
    omega
theorem parse_nil : parse1 [] = none := rfl
theorem parse_needless {n j : Nat} {i : List Int} {z : Int} {X : List Int} (h : n < 2097152) (hj : j < 20) (e : wnum n = i ++ [z]) : parse1 (i ++ ((z + 128) :: (List.replicate j 128 ++ 0 :: X))) = none := by
  have h2 := wnum_len h
  rw [e] at h2
  simp at h2
  unfold parse1
  have : (i ++ ((z + 128) :: (List.replicate j 128 ++ 0 :: X))).take 60 = i ++ ((z + 128) :: (List.replicate j 128 ++ 0 :: X.take (60 - (i.length + 1 + j + 1)))) := by
    have e1 : i ++ ((z + 128) :: (List.replicate j 128 ++ 0 :: X)) = (i ++ ((z + 128) :: (List.replicate j 128 ++ [0]))) ++ X := by simp
    rw [e1, List.take_append, List.take_of_length_le (by simp; omega)]
    simp
    congr 1
    omega
  rw [this, rnum_needless e]
theorem step_inj {t u b : Int} (ht : 0 ≤ t ∧ t < 4294967296) (hu : 0 ≤ u ∧ u < 4294967296) (h : (31 * t + b + 1) % 4294967296 = (31 * u + b + 1) % 4294967296) : t = u := by omega
theorem fold_in : ∀ (bs : List Int) {t : Int}, 0 ≤ t ∧ t < 4294967296 → 0 ≤ bs.foldl (fun t b => (31 * t + b + 1) % 4294967296) t ∧ bs.foldl (fun t b => (31 * t + b + 1) % 4294967296) t < 4294967296
  | [], t, h => h
  | b :: bs, t, h => fold_in bs ⟨Int.emod_nonneg _ (by decide), Int.emod_lt_of_pos _ (by decide)⟩
theorem csum_in (bs : List Int) : 0 ≤ csum bs ∧ csum bs < 4294967296 := fold_in bs (by decide)
theorem fold_inj : ∀ (bs : List Int) {t u : Int}, 0 ≤ t ∧ t < 4294967296 → 0 ≤ u ∧ u < 4294967296 → bs.foldl (fun t b => (31 * t + b + 1) % 4294967296) t = bs.foldl (fun t b => (31 * t + b + 1) % 4294967296) u → t = u
  | [], _, _, _, _, h => h
  | b :: bs, t, u, ht, hu, h => step_inj ht hu (fold_inj bs ⟨Int.emod_nonneg _ (by decide), Int.emod_lt_of_pos _ (by decide)⟩ ⟨Int.emod_nonneg _ (by decide), Int.emod_lt_of_pos _ (by decide)⟩ h)
theorem csum_ne {a b : List Int} {x y : Int} (hx : 0 ≤ x ∧ x < 256) (hy : 0 ≤ y ∧ y < 256) (h : x ≠ y) : csum (a ++ x :: b) ≠ csum (a ++ y :: b) := by
  intro e
  unfold csum at e
  rw [List.foldl_append, List.foldl_append] at e
  simp only [List.foldl_cons] at e
  have e2 := fold_inj b ⟨Int.emod_nonneg _ (by decide), Int.emod_lt_of_pos _ (by decide)⟩ ⟨Int.emod_nonneg _ (by decide), Int.emod_lt_of_pos _ (by decide)⟩ e
  omega
theorem tail4_inj {s t : Int} (hs : 0 ≤ s ∧ s < 4294967296) (ht : 0 ≤ t ∧ t < 4294967296) (h : tail4 s = tail4 t) : s = t := by
  unfold tail4 at h
  simp only [List.cons.injEq, and_true] at h
  obtain ⟨h1, h2, h3, h4⟩ := h
  omega
theorem parse_data {r : List Int} {i : Nat} {v : Int} {X : List Int} (h : r.length < 2097152) (hi : i < r.length) (hr : ∀ b ∈ r, 0 ≤ b ∧ b < 256) (hv : 0 ≤ v ∧ v < 256) (hne : v ≠ r[i]) : parse1 ((wrec r).set ((wnum r.length).length + i) v ++ X) = none := by
  have e : (wrec r).set ((wnum r.length).length + i) v ++ X = wnum (r.set i v).length ++ (r.set i v ++ (tail4 (csum r) ++ X)) := by
    unfold wrec
    rw [List.append_assoc, List.set_append_right _ _ (by omega), List.set_append_left _ _ (by omega)]
    simp
  rw [e, parse_form (by simpa using h) (tail4_len _), if_neg]
  intro z
  have z2 := tail4_inj (csum_in _) (csum_in _) z
  have e1 : r = r.take i ++ r[i] :: r.drop (i + 1) := by simp
  have e2 : r.set i v = r.take i ++ v :: r.drop (i + 1) := List.set_eq_take_append_cons_drop ▸ by simp [hi]
  rw [e2] at z2
  have z3 : csum (r.take i ++ v :: r.drop (i + 1)) = csum (r.take i ++ r[i] :: r.drop (i + 1)) := by rw [← e1]; exact z2
  exact csum_ne hv (hr _ (List.getElem_mem hi)) hne z3
theorem parse_sum {r : List Int} {i : Nat} {v : Int} {X : List Int} (h : r.length < 2097152) (hi : i < 4) (hne : (tail4 (csum r))[i]? ≠ some v) : parse1 ((wrec r).set ((wnum r.length).length + r.length + i) v ++ X) = none := by
  have e : (wrec r).set ((wnum r.length).length + r.length + i) v ++ X = wnum r.length ++ (r ++ ((tail4 (csum r)).set i v ++ X)) := by
    unfold wrec
    rw [List.set_append_right _ _ (by simp), ]
    simp
  rw [e, parse_form h (by simp [tail4_len]), if_neg]
  intro z
  rw [z] at hne
  rw [List.getElem?_set_self (by simp [tail4_len]; exact hi)] at hne
  exact hne rfl
inductive Recs : List Int → List (List Int) → Nat → Prop
  | stop {l : List Int} : parse1 l = none → Recs l [] 0
  | step {l r : List Int} {n m : Nat} {rs : List (List Int)} : parse1 l = some (r, n) → Recs (l.drop n) rs m → Recs l (r :: rs) (n + m)
def wrecs (rs : List (List Int)) : List Int := (rs.map wrec).flatten
theorem recs_whole : ∀ {rs : List (List Int)} {X : List Int}, (∀ r ∈ rs, r.length < 2097152) → parse1 X = none → Recs (wrecs rs ++ X) rs (wrecs rs).length
  | [], X, _, h => .stop h
  | r :: rs, X, hr, h => by
    have ih := recs_whole (rs := rs) (fun r hr' => hr r (by simp [hr'])) h
    have e : wrecs (r :: rs) ++ X = wrec r ++ (wrecs rs ++ X) := by simp [wrecs]
    have el : (wrecs (r :: rs)).length = (wrec r).length + (wrecs rs).length := by simp [wrecs]
    rw [e, el]
    refine .step (parse_wrec (hr r (by simp))) ?_
    rw [List.drop_left' rfl]
    exact ih
def sizesOf : Nat → List (List Int) → List Nat
  | n, [] => [n]
  | n, r :: rs => n :: sizesOf (n + (wrec r).length) rs
theorem sizesOf_len : ∀ (n : Nat) (rs : List (List Int)), (sizesOf n rs).length = rs.length + 1
  | _, [] => rfl
  | n, r :: rs => by simp [sizesOf, sizesOf_len _ rs]
theorem sizesOf_ge : ∀ {n : Nat} {rs : List (List Int)} {x : Nat}, x ∈ sizesOf n rs → n ≤ x
  | n, [], x, h => by simp [sizesOf] at h; omega
  | n, r :: rs, x, h => by
    simp [sizesOf] at h
    rcases h with rfl | h
    · omega
    · have := sizesOf_ge h
      omega
theorem sizesOf_snoc : ∀ (n : Nat) (rs : List (List Int)) (r : List Int), sizesOf n (rs ++ [r]) = sizesOf n rs ++ [n + (wrecs rs).length + (wrec r).length]
  | n, [], r => by simp [sizesOf, wrecs]
  | n, q :: rs, r => by
    simp only [List.cons_append, sizesOf, sizesOf_snoc _ rs r]
    congr 3
    simp [wrecs]
    omega
theorem recs_cut : ∀ {rs : List (List Int)} {e s : Nat}, (∀ r ∈ rs, r.length < 2097152) → e ≤ (wrecs rs).length →
    Recs ((wrecs rs).take e) (rs.take (((sizesOf s rs).filter fun x => decide (x ≤ s + e)).length - 1)) ((sizesOf s rs).getD (((sizesOf s rs).filter fun x => decide (x ≤ s + e)).length - 1) 0 - s)
  | [], e, s, _, h => by
    have : e = 0 := by simpa [wrecs] using h
    subst this
    simp [sizesOf, wrecs]
    exact .stop parse_nil
  | r :: rs, e, s, hr, h => by
    have er : wrecs (r :: rs) = wrec r ++ wrecs rs := by simp [wrecs]
    rw [er] at h ⊢
    simp only [sizesOf, List.filter_cons]
    rw [if_pos (by simp)]
    by_cases c : (wrec r).length ≤ e
    · have ih := recs_cut (rs := rs) (e := e - (wrec r).length) (s := s + (wrec r).length) (fun r hr' => hr r (by simp [hr'])) (by simp at h; omega)
      have ee : s + (wrec r).length + (e - (wrec r).length) = s + e := by omega
      rw [ee] at ih
      have hpos : 0 < ((sizesOf (s + (wrec r).length) rs).filter fun x => decide (x ≤ s + e)).length := by
        have hm : s + (wrec r).length ∈ (sizesOf (s + (wrec r).length) rs).filter fun x => decide (x ≤ s + e) := by
          rw [List.mem_filter]
          refine ⟨?_, by simp; omega⟩
          cases rs <;> simp [sizesOf]
        exact List.length_pos_of_mem hm
      generalize hc : ((sizesOf (s + (wrec r).length) rs).filter fun x => decide (x ≤ s + e)).length = cnt at ih hpos
      have e1 : (s :: (sizesOf (s + (wrec r).length) rs).filter fun x => decide (x ≤ s + e)).length - 1 = cnt - 1 + 1 := by
        rw [List.length_cons, hc]
        omega
      rw [e1, List.take_succ_cons, List.getD_cons_succ]
      have e2 : (wrec r ++ wrecs rs).take e = wrec r ++ (wrecs rs).take (e - (wrec r).length) := by
        rw [List.take_append, List.take_of_length_le c]
      rw [e2]
      have hg : s + (wrec r).length ≤ (sizesOf (s + (wrec r).length) rs).getD (cnt - 1) 0 := by
        have hl : cnt - 1 < (sizesOf (s + (wrec r).length) rs).length := by
          have := List.length_filter_le (fun x => decide (x ≤ s + e)) (sizesOf (s + (wrec r).length) rs)
          omega
        rw [List.getD_eq_getElem?_getD, List.getElem?_eq_getElem hl]
        exact sizesOf_ge (List.getElem_mem hl)
      have e3 : (sizesOf (s + (wrec r).length) rs).getD (cnt - 1) 0 - s = (wrec r).length + ((sizesOf (s + (wrec r).length) rs).getD (cnt - 1) 0 - (s + (wrec r).length)) := by omega
      rw [e3]
      refine .step (parse_wrec (hr r (by simp))) ?_
      rw [List.drop_left' rfl]
      exact ih
    · have e0 : ((sizesOf (s + (wrec r).length) rs).filter fun x => decide (x ≤ s + e)) = [] := by
        rw [List.filter_eq_nil_iff]
        intro x hx
        have := sizesOf_ge hx
        simp
        omega
      rw [e0]
      simp
      rw [List.take_append_of_le_length (by omega)]
      exact .stop (parse_cut (hr r (by simp)) (by omega))
end SW

set_option Elab.async false
set_option linter.all false
set_option maxRecDepth 100000
namespace SW
open PySem L2
abbrev Mk := Nat × Nat
inductive Dd
  | back (n : Nat)
  | change (mo : List Nat) (rm : List Mk) (be : Option Mk) (nu : Nat) (tx : List Nat)
abbrev Tr := Nat × Nat × Dd
def encT (t : List Nat) : List Int := wnum t.length ++ (t.map wnum).flatten
def encM (m : Mk) : List Int := wnum m.1 ++ wnum m.2
def encB : Option Mk → List Int
  | none => [0]
  | some m => 1 :: encM m
def encL (ms : List Mk) : List Int := wnum ms.length ++ (ms.map encM).flatten
def encD : Dd → List Int
  | .back n => 1 :: wnum n
  | .change mo rm be nu tx => 0 :: (encT mo ++ (encL rm ++ (encB be ++ (wnum nu ++ encT tx))))
def encTr (t : Tr) : List Int := wnum t.1 ++ (wnum t.2.1 ++ encD t.2.2)
def encTs (ts : List Tr) : List Int := wnum ts.length ++ (ts.map encTr).flatten
def encP (ts : List Tr) : List Int := 1 :: encTs ts
def numAt (l : List Int) (i : Nat) : Option (Nat × Nat) := (rnum 60 true (l.drop i)).map fun z => (z.1.toNat, i + z.2)
def okC (c : Nat) : Bool := c == 10 || (decide (32 ≤ c) && decide (c < 127) && c != 37)
def times {α : Type} (f : Nat → Option (α × Nat)) : Nat → Nat → Option (List α × Nat)
  | 0, i => some ([], i)
  | n + 1, i => (f i).bind fun a => (times f n a.2).bind fun r => some (a.1 :: r.1, r.2)
def cntAt (l : List Int) (i : Nat) : Option (Nat × Nat) := (numAt l i).bind fun c => if l.length - c.2 < c.1 then none else some c
def charAt (l : List Int) (i : Nat) : Option (Nat × Nat) := (numAt l i).bind fun c => if okC c.1 then some c else none
def textAt (l : List Int) (i : Nat) : Option (List Nat × Nat) := (cntAt l i).bind fun c => times (charAt l) c.1 c.2
def mkAt (l : List Int) (i : Nat) : Option (Mk × Nat) := (numAt l i).bind fun a => (numAt l a.2).bind fun b => some ((a.1, b.1), b.2)
def chAt (l : List Int) (i : Nat) : Option (Bool × Nat) := (l[i]?).bind fun b => if 2 ≤ b then none else some (decide (b = 1), i + 1)
def optAt (l : List Int) (i : Nat) : Option (Option Mk × Nat) := (chAt l i).bind fun c => if c.1 then (mkAt l c.2).bind fun m => some (some m.1, m.2) else some (none, c.2)
def marksAt (l : List Int) (i : Nat) : Option (List Mk × Nat) := (cntAt l i).bind fun c => times (mkAt l) c.1 c.2
def chgAt (l : List Int) (i : Nat) : Option (Dd × Nat) := (textAt l i).bind fun mo => (marksAt l mo.2).bind fun rm => (optAt l rm.2).bind fun be => (numAt l be.2).bind fun nu => (textAt l nu.2).bind fun tx => some (.change mo.1 rm.1 be.1 nu.1 tx.1, tx.2)
def deedAt (l : List Int) (i : Nat) : Option (Dd × Nat) := (chAt l i).bind fun c => if c.1 then (numAt l c.2).bind fun n => some (.back n.1, n.2) else chgAt l c.2
def trAt (l : List Int) (i : Nat) : Option (Tr × Nat) := (numAt l i).bind fun a => (numAt l a.2).bind fun b => (deedAt l b.2).bind fun d => some ((a.1, b.1, d.1), d.2)
def trsAt (l : List Int) (i : Nat) : Option (List Tr × Nat) := (cntAt l i).bind fun c => times (trAt l) c.1 c.2
def pktAt (l : List Int) (i : Nat) : Option (List Tr × Nat) := (l[i]?).bind fun b => if b = 1 then trsAt l (i + 1) else none
def Reads {α : Type} (f : List Int → Nat → Option (α × Nat)) (e : List Int) (a : α) : Prop := ∀ pre post : List Int, f (pre ++ (e ++ post)) pre.length = some (a, pre.length + e.length)
theorem reads_num {n : Nat} (h : (wnum n).length ≤ 60) : Reads numAt (wnum n) n := fun pre post => by
  unfold numAt
  rw [List.drop_left' rfl, rnum_wnum h (by simp)]
  simp
theorem Reads.at {α : Type} {f : List Int → Nat → Option (α × Nat)} {e : List Int} {a : α} (h : Reads f e a) {l pre post : List Int} {i : Nat} (hl : l = pre ++ (e ++ post)) (hi : i = pre.length) : f l i = some (a, i + e.length) := by
  rw [hl, hi]
  exact h pre post
theorem reads_times {α : Type} {f : List Int → Nat → Option (α × Nat)} {g : α → List Int} : ∀ {as : List α}, (∀ a ∈ as, Reads f (g a) a) → ∀ {l pre post : List Int} {i : Nat}, l = pre ++ ((as.map g).flatten ++ post) → i = pre.length → times (f l) as.length i = some (as, i + (as.map g).flatten.length)
  | [], _, _, _, _, _, _, _ => by simp [times]
  | a :: as, h, l, pre, post, i, hl, hi => by
    have h1 : f l i = some (a, i + (g a).length) := (h a (by simp)).at (pre := pre) (post := (as.map g).flatten ++ post) (by rw [hl]; simp) hi
    have h2 := reads_times (f := f) (g := g) (as := as) (fun b hb => h b (by simp [hb])) (l := l) (pre := pre ++ g a) (post := post) (i := i + (g a).length) (by rw [hl]; simp) (by rw [hi]; simp)
    simp only [List.length_cons, times, h1, Option.bind_some, h2]
    simp
    omega
theorem flat_len {α : Type} {g : α → List Int} (h : ∀ a, 0 < (g a).length) : ∀ as : List α, as.length ≤ (as.map g).flatten.length
  | [] => Nat.zero_le _
  | a :: as => by
    have := h a
    have := flat_len h as
    simp at *
    omega
theorem reads_list {α : Type} {f : List Int → Nat → Option (α × Nat)} {g : α → List Int} {as : List α} (h : ∀ a ∈ as, Reads f (g a) a) (hp : ∀ a, 0 < (g a).length) (hw : (wnum as.length).length ≤ 60) :
    Reads (fun l i => (cntAt l i).bind fun c => times (f l) c.1 c.2) (wnum as.length ++ (as.map g).flatten) as := fun pre post => by
  have h1 := (reads_num hw).at (l := pre ++ (wnum as.length ++ (as.map g).flatten ++ post)) (pre := pre) (post := (as.map g).flatten ++ post) (by simp) rfl
  have h2 := reads_times (f := f) (g := g) h (l := pre ++ (wnum as.length ++ (as.map g).flatten ++ post)) (pre := pre ++ wnum as.length) (post := post) (i := pre.length + (wnum as.length).length) (by simp) (by simp)
  have h3 := flat_len hp as
  have h4 : cntAt (pre ++ (wnum as.length ++ (as.map g).flatten ++ post)) pre.length = some (as.length, pre.length + (wnum as.length).length) := by
    unfold cntAt
    rw [h1]
    simp only [Option.bind_some]
    rw [if_neg]
    simp only [List.length_append]
    omega
  show (cntAt _ _).bind _ = _
  rw [h4]
  simp only [Option.bind_some, h2]
  simp
  omega
theorem Reads.len {e e' : List Int} {α : Type} {f : List Int → Nat → Option (α × Nat)} {a : α} (h : Reads f e a) (he : e = e') : Reads f e' a := he ▸ h
theorem wnum_small : ∀ {k n : Nat}, n < 128 ^ (k + 1) → (wnum n).length ≤ k + 1
  | 0, n, h => by
    rw [wnum_lt (by simpa using h)]
    simp
  | k + 1, n, h => by
    by_cases c : n < 128
    · rw [wnum_lt c]
      simp
    · rw [wnum_ge (by omega)]
      have : n / 128 < 128 ^ (k + 1) := by
        rw [Nat.div_lt_iff_lt_mul (by decide)]
        rw [Nat.pow_succ] at h
        exact h
      have := wnum_small this
      simp
      omega
def smN (n : Nat) : Prop := n < 2 ^ 80
theorem smN_len {n : Nat} (h : smN n) : (wnum n).length ≤ 12 := wnum_small (k := 11) (Nat.lt_trans h (by decide))
def okT (t : List Nat) : Prop := (∀ c ∈ t, okC c = true) ∧ t.length ≤ 200
def okM (m : Mk) : Prop := smN m.1 ∧ smN m.2
def okD : Dd → Prop
  | .back n => smN n
  | .change mo rm be nu tx => okT mo ∧ ((∀ m ∈ rm, okM m) ∧ rm.length ≤ 200) ∧ (∀ m, be = some m → okM m) ∧ smN nu ∧ okT tx
def okTr (t : Tr) : Prop := smN t.1 ∧ smN t.2.1 ∧ okD t.2.2
def okTs (ts : List Tr) : Prop := (∀ t ∈ ts, okTr t) ∧ ts.length ≤ 200
theorem sm_of {n m : Nat} (h : n ≤ m) (hm : m < 2 ^ 80) : smN n := Nat.lt_of_le_of_lt h hm
theorem okC_lt {c : Nat} (h : okC c = true) : c < 127 := by
  simp [okC] at h
  omega
theorem reads_smN {n : Nat} (h : smN n) : Reads numAt (wnum n) n := reads_num (Nat.le_trans (smN_len h) (by decide))
theorem reads_char {c : Nat} (h : okC c = true) : Reads charAt (wnum c) c := fun pre post => by
  unfold charAt
  rw [reads_smN (sm_of (Nat.le_of_lt (okC_lt h)) (by decide)) pre post]
  simp [h]
theorem reads_text {t : List Nat} (h : okT t) : Reads textAt (encT t) t :=
  reads_list (f := charAt) (g := wnum) (fun c hc => reads_char (h.1 c hc)) wnum_pos (Nat.le_trans (smN_len (sm_of h.2 (by decide))) (by decide))
theorem reads_mark {m : Mk} (h : okM m) : Reads mkAt (encM m) m := fun pre post => by
  unfold mkAt encM
  rw [(reads_smN h.1).at (pre := pre) (post := wnum m.2 ++ post) (by simp) rfl]
  simp only [Option.bind_some]
  rw [(reads_smN h.2).at (pre := pre ++ wnum m.1) (post := post) (by simp) (by simp)]
  simp
  omega
theorem encM_pos (m : Mk) : 0 < (encM m).length := by
  have := wnum_pos m.1
  simp [encM]
  omega
theorem reads_marks {ms : List Mk} (h : (∀ m ∈ ms, okM m) ∧ ms.length ≤ 200) : Reads marksAt (encL ms) ms :=
  reads_list (f := mkAt) (g := encM) (fun m hm => reads_mark (h.1 m hm)) encM_pos (Nat.le_trans (smN_len (sm_of h.2 (by decide))) (by decide))
theorem reads_opt {b : Option Mk} (h : ∀ m, b = some m → okM m) : Reads optAt (encB b) b := fun pre post => by
  unfold optAt chAt
  cases b with
  | none => simp [encB]
  | some m =>
    have h1 := (reads_mark (h m rfl)).at (l := pre ++ (encB (some m) ++ post)) (pre := pre ++ [1]) (post := post) (i := pre.length + 1) (by simp [encB]) (by simp)
    have h2 : (pre ++ (encB (some m) ++ post))[pre.length]? = some 1 := by simp [encB]
    rw [h2]
    simp [encB] at h1 ⊢
    simp [h1]
    omega
theorem reads_chg {mo : List Nat} {rm : List Mk} {be : Option Mk} {nu : Nat} {tx : List Nat} (h : okD (.change mo rm be nu tx)) : Reads chgAt (encT mo ++ (encL rm ++ (encB be ++ (wnum nu ++ encT tx)))) (.change mo rm be nu tx) := fun pre post => by
  obtain ⟨h1, h2, h3, h4, h5⟩ := h
  unfold chgAt
  rw [(reads_text h1).at (pre := pre) (post := encL rm ++ (encB be ++ (wnum nu ++ encT tx)) ++ post) (by simp) rfl]
  simp only [Option.bind_some]
  rw [(reads_marks h2).at (pre := pre ++ encT mo) (post := encB be ++ (wnum nu ++ encT tx) ++ post) (by simp) (by simp)]
  simp only [Option.bind_some]
  rw [(reads_opt h3).at (pre := pre ++ encT mo ++ encL rm) (post := wnum nu ++ encT tx ++ post) (by simp) (by simp; omega)]
  simp only [Option.bind_some]
  rw [(reads_smN h4).at (pre := pre ++ encT mo ++ encL rm ++ encB be) (post := encT tx ++ post) (by simp) (by simp; omega)]
  simp only [Option.bind_some]
  rw [(reads_text h5).at (pre := pre ++ encT mo ++ encL rm ++ encB be ++ wnum nu) (post := post) (by simp) (by simp; omega)]
  simp
  omega
theorem reads_deed {d : Dd} (h : okD d) : Reads deedAt (encD d) d := fun pre post => by
  unfold deedAt chAt
  cases d with
  | back n =>
    have h1 := (reads_smN (show smN n from h)).at (l := pre ++ (encD (.back n) ++ post)) (pre := pre ++ [1]) (post := post) (i := pre.length + 1) (by simp [encD]) (by simp)
    have h2 : (pre ++ (encD (.back n) ++ post))[pre.length]? = some 1 := by simp [encD]
    rw [h2]
    simp [encD] at h1 ⊢
    simp [h1]
    omega
  | change mo rm be nu tx =>
    have h1 := (reads_chg h).at (l := pre ++ (encD (.change mo rm be nu tx) ++ post)) (pre := pre ++ [0]) (post := post) (i := pre.length + 1) (by simp [encD]) (by simp)
    have h2 : (pre ++ (encD (.change mo rm be nu tx) ++ post))[pre.length]? = some 0 := by simp [encD]
    rw [h2]
    simp [encD] at h1 ⊢
    simp [h1]
    omega
theorem reads_tr {t : Tr} (h : okTr t) : Reads trAt (encTr t) t := fun pre post => by
  obtain ⟨h1, h2, h3⟩ := h
  unfold trAt encTr
  rw [(reads_smN h1).at (pre := pre) (post := wnum t.2.1 ++ encD t.2.2 ++ post) (by simp) rfl]
  simp only [Option.bind_some]
  rw [(reads_smN h2).at (pre := pre ++ wnum t.1) (post := encD t.2.2 ++ post) (by simp) (by simp)]
  simp only [Option.bind_some]
  rw [(reads_deed h3).at (pre := pre ++ wnum t.1 ++ wnum t.2.1) (post := post) (by simp) (by simp; omega)]
  simp
  omega
theorem encTr_pos (t : Tr) : 0 < (encTr t).length := by
  have := wnum_pos t.1
  simp [encTr]
  omega
theorem reads_trs {ts : List Tr} (h : okTs ts) : Reads trsAt (encTs ts) ts :=
  reads_list (f := trAt) (g := encTr) (fun t ht => reads_tr (h.1 t ht)) encTr_pos (Nat.le_trans (smN_len (sm_of h.2 (by decide))) (by decide))
theorem reads_pkt {ts : List Tr} (h : okTs ts) : Reads pktAt (encP ts) ts := fun pre post => by
  unfold pktAt
  have h1 := (reads_trs h).at (l := pre ++ (encP ts ++ post)) (pre := pre ++ [1]) (post := post) (i := pre.length + 1) (by simp [encP]) (by simp)
  have h2 : (pre ++ (encP ts ++ post))[pre.length]? = some 1 := by simp [encP]
  rw [h2]
  simp [encP] at h1 ⊢
  simp [h1]
  omega
theorem numAt_le {l : List Int} {i n j : Nat} (h : numAt l i = some (n, j)) : i < j ∧ j ≤ l.length := by
  unfold numAt at h
  cases e : rnum 60 true (l.drop i) with
  | none => rw [e] at h; cases h
  | some z =>
    obtain ⟨v, k⟩ := z
    rw [e] at h
    simp at h
    obtain ⟨h1, h2, h3, h4⟩ := rnum_nn e
    rw [List.length_drop] at h2
    omega
end SW

set_option Elab.async false
set_option linter.all false
set_option maxRecDepth 100000
set_option maxHeartbeats 4000000
namespace SW
open PySem L2
def top (i : Nat) : Stmt := PySem.Challenge.pw_shapewhole_k12_bytes_written_and_read.main.body.getD i (.Pass ⟨0, 0, 0, 0⟩)
abbrev s_law_next : Stmt := top 18
theorem sc_law_next : FnScope ["state", "limit", "cell", "value"] ["state", "limit"] (defScope s_law_next) := ⟨rfl, rfl, rfl, by decide +kernel, rfl, by decide +kernel, by decide +kernel⟩
abbrev s_law_same : Stmt := top 19
theorem sc_law_same : FnScope ["actual", "expected", "k"] ["actual", "expected"] (defScope s_law_same) := ⟨rfl, rfl, rfl, by decide +kernel, rfl, by decide +kernel, by decide +kernel⟩
abbrev s_write_number : Stmt := top 10
theorem sc_write_number : FnScope ["number", "data"] ["number"] (defScope s_write_number) := ⟨rfl, rfl, rfl, by decide +kernel, rfl, by decide +kernel, by decide +kernel⟩
abbrev s_write_list : Stmt := top 11
theorem sc_write_list : FnScope ["items", "data", "item"] ["items"] (defScope s_write_list) := ⟨rfl, rfl, rfl, by decide +kernel, rfl, by decide +kernel, by decide +kernel⟩
abbrev s_write_string : Stmt := top 12
theorem sc_write_string : FnScope ["text", "character"] ["text"] (defScope s_write_string) := ⟨rfl, rfl, rfl, by decide +kernel, rfl, by decide +kernel, by decide +kernel⟩
abbrev s_write_mark : Stmt := top 13
theorem sc_write_mark : FnScope ["mark"] ["mark"] (defScope s_write_mark) := ⟨rfl, rfl, rfl, by decide +kernel, rfl, by decide +kernel, by decide +kernel⟩
abbrev s_write_deed : Stmt := top 14
theorem sc_write_deed : FnScope ["deed", "_", "module", "removed", "behind", "number", "text", "data", "mark"] ["deed"] (defScope s_write_deed) := ⟨rfl, rfl, rfl, by decide +kernel, rfl, by decide +kernel, by decide +kernel⟩
abbrev s_write_triples : Stmt := top 15
theorem sc_write_triples : FnScope ["triples", "written", "replica", "place", "deed"] ["triples"] (defScope s_write_triples) := ⟨rfl, rfl, rfl, by decide +kernel, rfl, by decide +kernel, by decide +kernel⟩
abbrev s_write_packet : Stmt := top 16
theorem sc_write_packet : FnScope ["packet"] ["packet"] (defScope s_write_packet) := ⟨rfl, rfl, rfl, by decide +kernel, rfl, by decide +kernel, by decide +kernel⟩
abbrev s_law_number : Stmt := top 20
theorem sc_law_number : FnScope ["number", "data"] ["number"] (defScope s_law_number) := ⟨rfl, rfl, rfl, by decide +kernel, rfl, by decide +kernel, by decide +kernel⟩
abbrev s_law_text : Stmt := top 21
theorem sc_law_text : FnScope ["text", "data", "character"] ["text"] (defScope s_law_text) := ⟨rfl, rfl, rfl, by decide +kernel, rfl, by decide +kernel, by decide +kernel⟩
abbrev s_law_mark : Stmt := top 22
theorem sc_law_mark : FnScope ["mark"] ["mark"] (defScope s_law_mark) := ⟨rfl, rfl, rfl, by decide +kernel, rfl, by decide +kernel, by decide +kernel⟩
abbrev s_law_deed : Stmt := top 23
theorem sc_law_deed : FnScope ["deed", "data", "mark"] ["deed"] (defScope s_law_deed) := ⟨rfl, rfl, rfl, by decide +kernel, rfl, by decide +kernel, by decide +kernel⟩
abbrev s_law_triples : Stmt := top 24
theorem sc_law_triples : FnScope ["triples", "data", "replica", "place", "deed"] ["triples"] (defScope s_law_triples) := ⟨rfl, rfl, rfl, by decide +kernel, rfl, by decide +kernel, by decide +kernel⟩
abbrev s_Reader___init__ : Stmt := inClass (top 8) 0
theorem sc_Reader___init__ : FnScope ["self", "data"] ["self", "data"] (defScope s_Reader___init__) := ⟨rfl, rfl, rfl, by decide +kernel, rfl, by decide +kernel, by decide +kernel⟩
abbrev s_Reader_read_byte : Stmt := inClass (top 8) 1
theorem sc_Reader_read_byte : FnScope ["self"] ["self"] (defScope s_Reader_read_byte) := ⟨rfl, rfl, rfl, by decide +kernel, rfl, by decide +kernel, by decide +kernel⟩
abbrev s_Reader_read_choice : Stmt := inClass (top 8) 2
theorem sc_Reader_read_choice : FnScope ["self", "count", "byte"] ["self", "count"] (defScope s_Reader_read_choice) := ⟨rfl, rfl, rfl, by decide +kernel, rfl, by decide +kernel, by decide +kernel⟩
abbrev s_Reader_end : Stmt := inClass (top 8) 3
theorem sc_Reader_end : FnScope ["self"] ["self"] (defScope s_Reader_end) := ⟨rfl, rfl, rfl, by decide +kernel, rfl, by decide +kernel, by decide +kernel⟩
abbrev s_Reader_read_number : Stmt := inClass (top 8) 4
theorem sc_Reader_read_number : FnScope ["self", "total", "factor", "index", "byte"] ["self"] (defScope s_Reader_read_number) := ⟨rfl, rfl, rfl, by decide +kernel, rfl, by decide +kernel, by decide +kernel⟩
abbrev s_Reader_read_count : Stmt := inClass (top 8) 5
theorem sc_Reader_read_count : FnScope ["self", "count"] ["self"] (defScope s_Reader_read_count) := ⟨rfl, rfl, rfl, by decide +kernel, rfl, by decide +kernel, by decide +kernel⟩
abbrev s_Reader_read_character : Stmt := inClass (top 8) 6
theorem sc_Reader_read_character : FnScope ["self", "code"] ["self"] (defScope s_Reader_read_character) := ⟨rfl, rfl, rfl, by decide +kernel, rfl, by decide +kernel, by decide +kernel⟩
abbrev s_Reader_read_string : Stmt := inClass (top 8) 7
theorem sc_Reader_read_string : FnScope ["self", "_"] ["self"] (defScope s_Reader_read_string) := ⟨rfl, rfl, rfl, by decide +kernel, rfl, by decide +kernel, by decide +kernel⟩
abbrev s_Reader_read_mark : Stmt := inClass (top 8) 8
theorem sc_Reader_read_mark : FnScope ["self", "number"] ["self"] (defScope s_Reader_read_mark) := ⟨rfl, rfl, rfl, by decide +kernel, rfl, by decide +kernel, by decide +kernel⟩
abbrev s_Reader_read_deed : Stmt := inClass (top 8) 9
theorem sc_Reader_read_deed : FnScope ["self", "module", "removed", "behind", "number", "_"] ["self"] (defScope s_Reader_read_deed) := ⟨rfl, rfl, rfl, by decide +kernel, rfl, by decide +kernel, by decide +kernel⟩
abbrev s_Reader_read_triple : Stmt := inClass (top 8) 11
theorem sc_Reader_read_triple : FnScope ["self", "replica", "place"] ["self"] (defScope s_Reader_read_triple) := ⟨rfl, rfl, rfl, by decide +kernel, rfl, by decide +kernel, by decide +kernel⟩
abbrev s_Reader_read_triples : Stmt := inClass (top 8) 12
theorem sc_Reader_read_triples : FnScope ["self", "_"] ["self"] (defScope s_Reader_read_triples) := ⟨rfl, rfl, rfl, by decide +kernel, rfl, by decide +kernel, by decide +kernel⟩
abbrev s_Reader_read_packet : Stmt := inClass (top 8) 13
theorem sc_Reader_read_packet : FnScope ["self"] ["self"] (defScope s_Reader_read_packet) := ⟨rfl, rfl, rfl, by decide +kernel, rfl, by decide +kernel, by decide +kernel⟩
abbrev s_law_read_number : Stmt := top 25
theorem sc_law_read_number : FnScope ["data", "at", "total", "factor", "k"] ["data", "at"] (defScope s_law_read_number) := ⟨rfl, rfl, rfl, by decide +kernel, rfl, by decide +kernel, by decide +kernel⟩
abbrev s_law_sign : Stmt := top 26
theorem sc_law_sign : FnScope ["code", "first", "rest"] ["code"] (defScope s_law_sign) := ⟨rfl, rfl, rfl, by decide +kernel, rfl, by decide +kernel, by decide +kernel⟩
abbrev s_law_read_text : Stmt := top 27
theorem sc_law_read_text : FnScope ["data", "at", "found", "count", "text", "k"] ["data", "at"] (defScope s_law_read_text) := ⟨rfl, rfl, rfl, by decide +kernel, rfl, by decide +kernel, by decide +kernel⟩
abbrev s_law_read_mark : Stmt := top 28
theorem sc_law_read_mark : FnScope ["data", "at", "first", "second"] ["data", "at"] (defScope s_law_read_mark) := ⟨rfl, rfl, rfl, by decide +kernel, rfl, by decide +kernel, by decide +kernel⟩
abbrev s_law_read_deed : Stmt := top 29
theorem sc_law_read_deed : FnScope ["data", "at", "found", "module", "count", "marks", "k", "behind", "number", "text"] ["data", "at"] (defScope s_law_read_deed) := ⟨rfl, rfl, rfl, by decide +kernel, rfl, by decide +kernel, by decide +kernel⟩
abbrev s_law_read_triples : Stmt := top 30
theorem sc_law_read_triples : FnScope ["data", "at", "count", "triples", "k", "pair", "deed"] ["data", "at"] (defScope s_law_read_triples) := ⟨rfl, rfl, rfl, by decide +kernel, rfl, by decide +kernel, by decide +kernel⟩
abbrev s_law_read_packet : Stmt := top 31
theorem sc_law_read_packet : FnScope ["data", "at"] ["data", "at"] (defScope s_law_read_packet) := ⟨rfl, rfl, rfl, by decide +kernel, rfl, by decide +kernel, by decide +kernel⟩
abbrev s_law_drawn_number : Stmt := top 32
theorem sc_law_drawn_number : FnScope ["state"] ["state"] (defScope s_law_drawn_number) := ⟨rfl, rfl, rfl, by decide +kernel, rfl, by decide +kernel, by decide +kernel⟩
abbrev s_law_drawn_text : Stmt := top 33
theorem sc_law_drawn_text : FnScope ["state", "letters", "k"] ["state"] (defScope s_law_drawn_text) := ⟨rfl, rfl, rfl, by decide +kernel, rfl, by decide +kernel, by decide +kernel⟩
abbrev s_law_drawn_deed : Stmt := top 34
theorem sc_law_drawn_deed : FnScope ["state", "marks", "behind", "k"] ["state"] (defScope s_law_drawn_deed) := ⟨rfl, rfl, rfl, by decide +kernel, rfl, by decide +kernel, by decide +kernel⟩
abbrev s_law_spoilt : Stmt := top 35
theorem sc_law_spoilt : FnScope ["state", "data", "place", "byte", "pick", "k"] ["state", "data"] (defScope s_law_spoilt) := ⟨rfl, rfl, rfl, by decide +kernel, rfl, by decide +kernel, by decide +kernel⟩
abbrev s_law_own : Stmt := top 37
theorem sc_law_own : FnScope ["kind", "data"] ["kind", "data"] (defScope s_law_own) := ⟨rfl, rfl, rfl, by decide +kernel, rfl, by decide +kernel, by decide +kernel⟩
abbrev s_law_told : Stmt := top 36
theorem sc_law_told : FnScope ["kind", "data", "reader", "found", "at", "ended"] ["kind", "data"] (defScope s_law_told) := ⟨rfl, rfl, rfl, by decide +kernel, rfl, by decide +kernel, by decide +kernel⟩
abbrev s_law_in_a_row : Stmt := top 38
theorem sc_law_in_a_row : FnScope ["things", "written", "data", "part", "reader", "told"] ["things", "written"] (defScope s_law_in_a_row) := ⟨rfl, rfl, rfl, by decide +kernel, rfl, by decide +kernel, by decide +kernel⟩
abbrev s_law : Stmt := top 39
theorem sc_law : FnScope ["script", "state", "k", "number", "text", "deed", "triples", "written", "own", "things", "long", "kind", "j", "data"] ["script"] (defScope s_law) := ⟨rfl, rfl, rfl, by decide +kernel, rfl, by decide +kernel, by decide +kernel⟩
structure Txt (K : PySem.W.Frag) (mg : Str → Option Value) : Prop where
  b_bool : mg "bool" = none
  b_int : mg "int" = none
  b_isinstance : mg "isinstance" = none
  b_len : mg "len" = none
  b_list : mg "list" = none
  b_ord : mg "ord" = none
  b_range : mg "range" = none
  b_str : mg "str" = none
  b_tuple : mg "tuple" = none
  c_NUMBER_BYTES : ∃ t, mg "NUMBER_BYTES" = some (.int 60 t)
  c_BEFORE_PERCENT : ∃ t, mg "BEFORE_PERCENT" = some (.str (PySem.Str.ofString " !\"#$") t)
  c_AFTER_PERCENT : ∃ t, mg "AFTER_PERCENT" = some (.str (PySem.Str.ofString "&'()*+,-./0123456789:;<=>?@ABCDEFGHIJKLMNOPQRSTUVWXYZ[\\]^_`abcdefghijklmnopqrstuvwxyz{|}~") t)
structure TReader (K : PySem.W.Frag) (C : Addr) : Prop where
  cl : Cls K C
  n_data : NoAttr K C "data"
  n_at : NoAttr K C "at"
theorem p31 : (0 : Int) < 2147483647 := by decide
def StB (K : PySem.W.Frag) (O : List Addr) (H : Hp) (st : Addr) : Prop := st ∈ O ∧ ∃ (sc : Addr) (ns : List Int) (i : Nat) (c s : Int), H st = some (.lst [.ref sc, .int (i : Int), .int c, .int s]) ∧ SqL K (wo H O) sc (ns.map V.int) ∧ i ≤ ns.length ∧ ns.length ≤ 63 ∧ 0 ≤ c ∧ 0 ≤ s ∧ s < 2147483647
section
variable {K : PySem.W.Frag} {O : List Addr} {H H' : Hp} {st p : Addr} {o : HO}
theorem StB.to (h : StB K O H st) (e : H' st = H st) (u : Same (wo H O) (wo H' O)) : StB K O H' st := by
  obtain ⟨h0, sc, ns, i, c, s, h1, h2, h3⟩ := h
  exact ⟨h0, sc, ns, i, c, s, e.trans h1, sql_le u h2, h3⟩
theorem StB.is (h : StB K O H st) : ∃ xs, H st = some (.lst xs) := by
  obtain ⟨_, _, _, _, _, _, h1, _⟩ := h
  exact ⟨_, h1⟩
theorem StB.le (h : StB K O H st) (u : Same H H') : StB K O H' st := by
  obtain ⟨xs, hx⟩ := h.is
  exact h.to (by rw [u _ _ hx, hx]) (Same.wo u)
theorem StB.put (h : StB K O H st) (hp : p ∈ O) (n : p ≠ st) : StB K O (upd H p o) st :=
  h.to (upd_ne (Ne.symm n)) (by rw [wo_upd_in hp]; exact Same.refl _)
theorem StB.grow (h : StB K O H st) (hp : H p = none) : StB K (p :: O) (upd H p o) st := by
  obtain ⟨xs, hx⟩ := h.is
  obtain ⟨h0, sc, ns, i, c, s, h1, h2, h3⟩ := h
  have n : st ≠ p := ne_of_none hx hp
  refine ⟨List.mem_cons_of_mem _ h0, sc, ns, i, c, s, by rw [upd_ne n]; exact h1, ?_, h3⟩
  refine sql_le (fun a u e => ?_) h2
  have ha : a ∉ O := fun z => by rw [wo_in z] at e; cases e
  rw [wo_out ha] at e
  have hn : a ≠ p := ne_of_none e hp
  rw [wo_out (by simp [ha, hn]), upd_ne hn]
  exact e
theorem StB.shrink (h : StB K (p :: O) H st) (hs : st ∈ O) : StB K O H st := by
  obtain ⟨_, sc, ns, i, c, s, h1, h2, h3⟩ := h
  exact ⟨hs, sc, ns, i, c, s, h1, sql_le wo_cons_le h2, h3⟩
end
def spNextW (K : PySem.W.Frag) : Sp := fun vs H Q _ => ∃ (O : List Addr) (st : Addr) (lim : Int), vs = [.ref st, .int lim] ∧ 0 < lim ∧ lim.natAbs < 2 ^ 80 ∧ StB K O H st ∧
  ∀ (r : Int) (H' : Hp), 0 ≤ r → r < lim → Up [st] H H' → StB K O H' st → Q (.int r) H'
section
variable {P : Program} {w : World} {K : PySem.W.Frag} {mg : Str → Option Value} {base : Heap}
theorem ok_law_nextW {f : Addr} {fd : FuncData} (F : Fun K "_law_next" "_law_next" s_law_next f fd) (T : Txt K mg) : FnOk P w K mg base CX0 1 f fd ["state", "limit"] (spNextW K) := by
  refine F.ok sc_law_next (fun vs H Q E h => ?_) (fun cdv A outer s H vs Q E hr h => ?_)
  · obtain ⟨_, _, _, rfl, _⟩ := h
    rfl
  obtain ⟨O, st, lim, rfl, l0, l1, hS, k⟩ := h
  refine ⟨_, (Evl.pss_cut (ps_if (PW.pt (pw_and (pt_cmpR op_eq (pe_ix ix_list (pv 0) pe_int (fun _ _ => rfl)) pe_int (nomark _)) (pw_and1 (pt_cmpR op_lt (pe_ix ix_list (pv 0) pe_int (fun _ _ => rfl)) (pe_callB call_len_seq (by rfl) T.b_len bt_len (pa_cons (pe_ix ix_list (pv 0) pe_int (fun _ _ => rfl)) pa_nil)) (nomark _))))) (pss_cons (ps_set (i := 2) sc_law_next.nd rfl (Or.inl rfl) (pe_ix ix_list (pe_ix ix_list (pv 0) pe_int (fun _ _ => rfl)) (pe_ix ix_list (pv 0) pe_int (fun _ _ => rfl)) (fun _ _ => rfl)))
  (pss_cons (ps_augS (pv 0) pe_int get_list pe_int ip_add set_list)
  (pss_one (ps_if (pt_cmpR op_ge (pv 2) (pe_op op_pow pe_int pe_int) (nomark _)) (pss_one (ps_asg (pv 2) (pg_sub (pv 0) pe_int set_list))) (pss_one (ps_asg (pe_op op_mod (pe_callTy call_int1 (by rfl) T.b_int bt_int (pa_cons (pe_op op_add (pe_op op_add (pe_op op_mul (pe_ix ix_list (pv 0) pe_int (fun _ _ => rfl)) pe_int) (pe_op op_mod (pe_callTy call_int1 (by rfl) T.b_int bt_int (pa_cons (pv 2) pa_nil)) pe_int)) pe_int) pa_nil)) pe_int) (pg_sub (pv 0) pe_int set_list))))))) pss_nil)
  (pss_cons (ps_if (pt_cmpR op_gt (pe_ix ix_list (pv 0) pe_int (fun _ _ => rfl)) pe_int (nomark _)) (pss_cons (ps_set (i := 3) sc_law_next.nd rfl (Or.inl rfl) (pe_op op_mod (pe_callTy call_int1 (by rfl) T.b_int bt_int (pa_cons (pe_ix ix_list (pv 0) pe_int (fun _ _ => rfl)) pa_nil)) (pv 1)))
  (pss_cons (ps_asg (pe_op op_fdivW (pe_ix ix_list (pv 0) pe_int (fun _ _ => rfl)) (pv 1)) (pg_sub (pv 0) pe_int set_list))
  (pss_one (ps_ret (pv 3))))) pss_nil)
  (pss_cons (ps_asg (pe_op op_mod (pe_callTy call_int1 (by rfl) T.b_int bt_int (pa_cons (pe_op op_add (pe_op op_mul (pe_ix ix_list (pv 0) pe_int (fun _ _ => rfl)) pe_int) pe_int) pa_nil)) pe_int) (pg_sub (pv 0) pe_int set_list))
  (pss_one (ps_ret (pe_op op_mod (pe_callTy call_int1 (by rfl) T.b_int bt_int (pa_cons (pe_op op_fdiv (pe_ix ix_list (pv 0) pe_int (fun _ _ => rfl)) pe_int) pa_nil)) (pv 1))))))), ?_⟩
  obtain ⟨h0, sc, ns, i, c, s0, h1, h2', h4, h5, h6, h7, h8⟩ := hS
  have h2 : SqL K H sc (ns.map V.int) := sql_le (wo_le _ _) h2'
  refine ⟨fun σ' H' => ∃ cell, σ' = [some (.ref st), some (.int lim), cell, none] ∧ Up [st] H H' ∧ StB K O H' st, ?_, ?_⟩
  · -- if state[2] == 0 and state[1] < len(state[0])
    refine ⟨_, rfl, st, _, 2, _, rfl, rfl, SqL.of h1, rfl, rfl, _, rfl, brD (fun e => ?_) (fun e => ?_)⟩
    · refine ⟨_, rfl, st, _, 1, _, rfl, rfl, SqL.of h1, rfl, _, rfl, st, _, 0, _, rfl, rfl, SqL.of h1, rfl, sc, _, rfl, .inl h2, _, _, rfl, rfl, _, rfl, brD (fun e1 => ?_) (fun e1 => ?_)⟩
      · rw [List.length_map] at e1
        have hi : i < ns.length := by omega
        refine ⟨_, rfl, st, _, 0, _, rfl, rfl, SqL.of h1, rfl, _, rfl, st, _, 1, _, rfl, rfl, SqL.of h1, rfl, sc, _, _, .int ns[i], rfl, rfl, h2, atI_nat (by rw [List.getElem?_map, List.getElem?_eq_getElem hi]; rfl), ?_⟩
        refine ⟨_, rfl, st, _, 1, _, rfl, rfl, SqL.of h1, rfl, by decide, _, _, rfl, rfl, st, _, 1, 1, rfl, rfl, h1, rfl, ?_⟩
        have u1 : Up [st] H (upd H st (.lst [.ref sc, .int ((i : Int) + 1), .int c, .int s0])) := Up.put (by simp)
        have g1 : (upd H st (.lst [.ref sc, .int ((i : Int) + 1), .int c, .int s0])) st = some (.lst [.ref sc, .int ((i : Int) + 1), .int c, .int s0]) := upd_same
        refine ⟨_, rfl, _, _, rfl, rfl, ⟨by decide, by decide, by decide⟩, _, _, rfl, rfl, _, rfl, brD (fun e2 => ?_) (fun e2 => ?_)⟩
        · -- state[2] = cell
          refine ⟨_, rfl, _, rfl, st, _, 2, 2, rfl, rfl, g1, rfl, ?_⟩
          have e3 : (0 : Int) ≤ ns[i] := Int.le_trans (by decide) e2
          refine ⟨_, rfl, u1.trans (Up.put (by simp)), h0, sc, ns, i + 1, ns[i], s0, upd_same, ?_, hi, h5, e3, h7, h8⟩
          rw [wo_upd_in h0, wo_upd_in h0]
          exact h2'
        · -- state[3] = ..
          refine ⟨_, rfl, st, _, 3, _, rfl, rfl, SqL.of g1, rfl, _, _, rfl, rfl, .inr ⟨by decide, by decide⟩, ?_⟩
          refine ⟨_, rfl, .inl ⟨_, rfl, _, _, rfl, rfl, p31, _, _, rfl, rfl, _, _, rfl, rfl, .inl ⟨_, rfl, _, _, rfl, rfl, p31, _, rfl, st, _, 3, 3, rfl, rfl, g1, rfl, ?_⟩⟩⟩
          refine ⟨_, rfl, u1.trans (Up.put (by simp)), h0, sc, ns, i + 1, c, _, upd_same, ?_, hi, h5, h6, Int.emod_nonneg _ (by decide), Int.emod_lt_of_pos _ (by decide)⟩
          rw [wo_upd_in h0, wo_upd_in h0]
          exact h2'
      · exact ⟨none, rfl, Up.rfl', h0, sc, ns, i, c, s0, h1, h2', h4, h5, h6, h7, h8⟩
    · exact ⟨none, rfl, Up.rfl', h0, sc, ns, i, c, s0, h1, h2', h4, h5, h6, h7, h8⟩
  · rintro σ' H1 ⟨cell, rfl, u1, h0, sc, ns, i, c, s0, h1, h2', h4, h5, h6, h7, h8⟩
    have h2 : SqL K H1 sc (ns.map V.int) := sql_le (wo_le _ _) h2'
    refine ⟨_, rfl, st, _, 2, _, rfl, rfl, SqL.of h1, rfl, _, _, rfl, rfl, _, rfl, brD (fun e => ?_) (fun e => ?_)⟩
    · -- value = int(state[2]) % limit; state[2] = state[2] // limit
      refine ⟨_, rfl, st, _, 2, _, rfl, rfl, SqL.of h1, rfl, .inl ⟨_, rfl, _, rfl, _, _, rfl, rfl, l0, ?_⟩⟩
      refine ⟨_, rfl, st, _, 2, _, rfl, rfl, SqL.of h1, rfl, _, rfl, _, _, rfl, rfl, wide_div l0 l1 (by decide) (by decide), _, rfl, st, _, 2, 2, rfl, rfl, h1, rfl, ?_⟩
      refine ⟨_, rfl, k _ _ (Int.emod_nonneg _ (by omega)) (Int.emod_lt_of_pos _ l0) (u1.trans (Up.put (by simp))) ⟨h0, sc, ns, i, c / lim, s0, upd_same, ?_, h4, h5, Int.ediv_nonneg h6 (by omega), h7, h8⟩⟩
      rw [wo_upd_in h0]
      exact h2'
    · refine ⟨_, rfl, st, _, 3, _, rfl, rfl, SqL.of h1, rfl, _, _, rfl, rfl, .inr ⟨by decide, by decide⟩, _, _, rfl, rfl, .inl ⟨_, rfl, _, _, rfl, rfl, p31, _, rfl, st, _, 3, 3, rfl, rfl, h1, rfl, ?_⟩⟩
      refine ⟨_, rfl, st, _, 3, _, rfl, rfl, SqL.of upd_same, rfl, _, _, rfl, rfl, ⟨by decide, by decide⟩, .inl ⟨_, rfl, _, rfl, _, _, rfl, rfl, l0, ?_⟩⟩
      refine k _ _ (Int.emod_nonneg _ (by omega)) (Int.emod_lt_of_pos _ l0) (u1.trans (Up.put (by simp))) ⟨h0, sc, ns, i, c, _, upd_same, ?_, h4, h5, h6, Int.emod_nonneg _ (by decide), Int.emod_lt_of_pos _ (by decide)⟩
      rw [wo_upd_in h0]
      exact h2'
end

def spSame (K : PySem.W.Frag) (n : Nat) : Sp := fun vs H Q _ => ∃ (va ve : V) (d e : PyData), vs = [va, ve] ∧ Rp K H va d ∧ Rp K H ve e ∧ fit e = true ∧ dep e < n ∧ ∀ H', Same H H' → Q (.bl (sameD d e)) H'
section
variable {P : Program} {w : World} {K : PySem.W.Frag} {mg : Str → Option Value} {base : Heap}
def SameMid (K : PySem.W.Frag) (n : Nat) (va ve : V) (d e : PyData) (H : Hp) : L2.St → Hp → Prop := fun σ' H' => σ' = [some va, some ve, none] ∧ H' = H ∧
  ∃ (xs ys : List V) (ds es : List PyData) (pa pe : Addr), va = .ref pa ∧ ve = .ref pe ∧ RpAll K H xs ds ∧ RpAll K H ys es ∧ (SqL K H pa xs ∨ SqT K H pa xs) ∧ (SqL K H pe ys ∨ SqT K H pe ys) ∧ es.length ≤ 16777216 ∧ fitAll es = true ∧ depAll es < n ∧ (d = e ↔ ds = es)
theorem ok_law_same {f : Addr} {fd : FuncData} {n : Nat} (F : Fun K "_law_same" "_law_same" s_law_same f fd) (T : Txt K mg) (G_law_same : GF P w K mg base CX0 "_law_same" n ["actual", "expected"] (spSame K n)) : FnOk P w K mg base CX0 (n + 1) f fd ["actual", "expected"] (spSame K (n + 1)) := by
  refine F.ok sc_law_same (fun vs H Q E h => ?_) (fun cdv A outer s H vs Q E hr h => ?_)
  · obtain ⟨_, _, _, _, rfl, _⟩ := h
    rfl
  obtain ⟨va, ve, d, e, rfl, ra, re, hn, hd, k⟩ := h
  have k0 : ∀ b, b = sameD d e → Q (.bl b) H := fun b e => by rw [e]; exact k H (Same.refl H)
  refine ⟨_, (pss_cons (ps_if (pt_cmp (pc_isN (pv 1))) (pss_one (ps_ret (pe_cmp (pc_isN (pv 0))))) pss_nil)
  (pss_cons (ps_if (pt_val (pe_callB call_isi (by rfl) T.b_isinstance bt_isinstance (pa_cons (pv 1) (pa_cons (pe_bltn (v := .ty "bool") (by rfl) T.b_bool bt_bool rfl) pa_nil)))) (pss_one (ps_ret (pe_and (pe_callB call_isi (by rfl) T.b_isinstance bt_isinstance (pa_cons (pv 0) (pa_cons (pe_bltn (v := .ty "bool") (by rfl) T.b_bool bt_bool rfl) pa_nil))) (pe_one (pe_cmpR op_eq (pv 0) (pv 1) (nomark _)))))) pss_nil)
  (pss_cons (ps_if (pt_val (pe_callB call_isi (by rfl) T.b_isinstance bt_isinstance (pa_cons (pv 1) (pa_cons (pe_bltn (v := .ty "int") (by rfl) T.b_int bt_int rfl) pa_nil)))) (pss_one (ps_ret (pe_and (pe_callB call_isi (by rfl) T.b_isinstance bt_isinstance (pa_cons (pv 0) (pa_cons (pe_bltn (v := .ty "int") (by rfl) T.b_int bt_int rfl) pa_nil))) (pe_and (pe_not (pe_callB call_isi (by rfl) T.b_isinstance bt_isinstance (pa_cons (pv 0) (pa_cons (pe_bltn (v := .ty "bool") (by rfl) T.b_bool bt_bool rfl) pa_nil)))) (pe_one (pe_cmpR op_eq (pv 0) (pv 1) (nomark _))))))) pss_nil)
  (pss_cons (ps_if (pt_val (pe_callB call_isi (by rfl) T.b_isinstance bt_isinstance (pa_cons (pv 1) (pa_cons (pe_bltn (v := .ty "str") (by rfl) T.b_str bt_str rfl) pa_nil)))) (pss_one (ps_ret (pe_and (pe_callB call_isi (by rfl) T.b_isinstance bt_isinstance (pa_cons (pv 0) (pa_cons (pe_bltn (v := .ty "str") (by rfl) T.b_str bt_str rfl) pa_nil))) (pe_one (pe_cmpR op_eq (pv 0) (pv 1) (nomark _)))))) pss_nil)
  (pss_cons (ps_if (PW.pt (pw_and (pt_val (pe_callB call_isi (by rfl) T.b_isinstance bt_isinstance (pa_cons (pv 1) (pa_cons (pe_bltn (v := .ty "tuple") (by rfl) T.b_tuple bt_tuple rfl) pa_nil)))) (pw_and1 (pt_not (pt_val (pe_callB call_isi (by rfl) T.b_isinstance bt_isinstance (pa_cons (pv 0) (pa_cons (pe_bltn (v := .ty "tuple") (by rfl) T.b_tuple bt_tuple rfl) pa_nil)))))))) (pss_one (ps_ret pe_bl)) pss_nil)
  (Evl.pss_cut (ps_if (PW.pt (pw_and (pt_val (pe_callB call_isi (by rfl) T.b_isinstance bt_isinstance (pa_cons (pv 1) (pa_cons (pe_bltn (v := .ty "list") (by rfl) T.b_list bt_list rfl) pa_nil)))) (pw_and1 (pt_not (pt_val (pe_callB call_isi (by rfl) T.b_isinstance bt_isinstance (pa_cons (pv 0) (pa_cons (pe_bltn (v := .ty "list") (by rfl) T.b_list bt_list rfl) pa_nil)))))))) (pss_one (ps_ret pe_bl)) pss_nil)
  (pss_cons (ps_if (pt_cmpR op_ne (pe_callB call_len_seq (by rfl) T.b_len bt_len (pa_cons (pv 0) pa_nil)) (pe_callB call_len_seq (by rfl) T.b_len bt_len (pa_cons (pv 1) pa_nil)) (nomark _)) (pss_one (ps_ret pe_bl)) pss_nil)
  (pss_cons (ps_for PassesOwn.never rfl (pi_range1 rfl T.b_range (pa_cons (pe_callB call_len_seq (by rfl) T.b_len bt_len (pa_cons (pv 1) pa_nil)) pa_nil)) (pg_name (i := 2) sc_law_same.nd rfl (Or.inl rfl)) (pss_one (ps_if (pt_not (pt_val (pe_cg G_law_same hr rfl (pa_cons (pe_ix ix_seq (pv 0) (pv 2) (fun _ _ => rfl)) (pa_cons (pe_ix ix_seq (pv 1) (pv 2) (fun _ _ => rfl)) pa_nil))))) (pss_one (ps_ret pe_bl)) pss_nil)))
  (pss_one (ps_ret pe_bl)))))))))), ?_⟩
  have tail : ∀ (va ve : V) (d e : PyData), (∀ (H' : Hp), Same H H' → Q (V.bl (sameD d e)) H') → ∀ σ' H', SameMid K n va ve d e H σ' H' → tSeq (tIfS (tTest (tOp rNe (tCB (rLn K) (tCons (tVar 0) tNil)) (tCB (rLn K) (tCons (tVar 1) tNil)))) (tRet (tC (.bl false))) tNext)
      (tSeq (tFor (iRng1 (tCons (tCB (rLn K) (tCons (tVar 1) tNil)) tNil)) (gName 2) (tIfS (tNot (tB (tCg (spSame K n) (tCons (tOp (rIx K) (tVar 0) (tVar 2)) (tCons (tOp (rIx K) (tVar 1) (tVar 2)) tNil))))) (tRet (tC (.bl false))) tNext)) (tRet (tC (.bl true)))) { nx := fun _ H' => Q .non H', rt := Q } σ' H' := by
    rintro va ve d e k σ' H' ⟨rfl, rfl, xs, ys, ds, es, pa, pe, rfl, rfl, ga, ge, sa, se, hz, hn, hd, hde⟩
    have la := ga.length
    have le := ge.length
    refine ⟨_, rfl, pa, xs, rfl, sa, _, rfl, pe, ys, rfl, se, rfl, _, rfl, brN (fun e1 => ?_) (fun e1 => ?_)⟩
    · have h : d ≠ e := fun z => by
        have z1 := hde.mp z
        rw [int_inj] at e1
        rw [z1] at la
        omega
      have q := k H' (Same.refl _)
      rw [sameD_ne h] at q
      exact q
    rw [int_inj] at e1
    have l2 : ds.length = es.length := by omega
    refine ⟨_, rfl, pe, ys, rfl, se, _, rfl, by omega, by omega, for_range (fun i σ2 H2 => ∃ z, σ2 = [some (.ref pa), some (.ref pe), z] ∧ Same H' H2 ∧ ∀ j, j < i → ds[j]? = es[j]?) ⟨none, rfl, Same.refl _, fun j hj => absurd hj (Nat.not_lt_zero j)⟩ ?_ ?_⟩
    · rintro i σ2 H2 hi ⟨z, rfl, sm, hj⟩
      have hi1 : i < es.length := by omega
      have hi2 : i < ds.length := by omega
      have he : es[i]? = some es[i] := List.getElem?_eq_getElem hi1
      have hda : ds[i]? = some ds[i] := List.getElem?_eq_getElem hi2
      obtain ⟨ve, v1, v2⟩ := ge.get he
      obtain ⟨va, w1, w2⟩ := ga.get hda
      have ix : ∀ {p : Addr} {us : List V} {u : V} {Q' : VK}, (SqL K H' p us ∨ SqT K H' p us) → us[i]? = some u → Q' u H2 → rIx K (.ref p) (.int (0 + (i : Int))) H2 Q' := fun {p us u Q'} hp hu q => by
        have ea : atI us (0 + (i : Int)) = some u := by
          rw [Int.zero_add]
          exact atI_nat hu
        rcases hp with hp | hp
        · exact .inl ⟨p, us, _, u, rfl, rfl, sql_le sm hp, ea, q⟩
        · exact .inr (.inl ⟨p, us, _, u, rfl, rfl, sqt_le sm hp, ea, q⟩)
      refine ⟨_, rfl, _, rfl, ix sa w1 ⟨_, rfl, _, rfl, ix se v1 ?_⟩⟩
      refine ⟨va, ve, ds[i], es[i], rfl, w2.le sm, v2.le sm, fitAll_get hn he, Nat.lt_of_le_of_lt (depAll_get he) hd, fun H3 s3 => ⟨_, rfl, ?_⟩⟩
      refine br (fun e2 => ?_) (fun e2 => ?_)
      · have h : d ≠ e := fun z => by
          have z1 := hde.mp z
          subst z1
          rw [sameD_refl] at e2
          cases e2
        have q := k H3 (sm.trans s3)
        rw [sameD_ne h] at q
        exact q
      · refine ⟨_, rfl, sm.trans s3, fun j hj2 => ?_⟩
        by_cases ej : j = i
        · subst ej
          have e3 : sameD ds[j] es[j] = true := by simpa using e2
          rw [hda, he, sameD_iff.mp e3]
        · exact hj j (by omega)
    · rintro σ2 H2 ⟨z, rfl, sm, hj⟩
      have h : d = e := hde.mpr (pre_eq l2 fun j hj2 => hj j (by omega))
      have q := k H2 sm
      rw [h, sameD_refl] at q
      exact q
  have fin : (∃ (xs ys : List V) (ds es : List PyData) (pa pe : Addr), va = .ref pa ∧ ve = .ref pe ∧ RpAll K H xs ds ∧ RpAll K H ys es ∧ (SqL K H pa xs ∨ SqT K H pa xs) ∧ (SqL K H pe ys ∨ SqT K H pe ys) ∧ es.length ≤ 16777216 ∧ fitAll es = true ∧ depAll es < n ∧ (d = e ↔ ds = es)) → SameMid K n va ve d e H [some va, some ve, none] H := fun z => ⟨rfl, rfl, z⟩
  cases re with
  | non =>
    refine ⟨_, rfl, _, rfl, iteT ⟨_, rfl, k0 _ ?_⟩⟩
    cases ra <;> first | exact (sameD_refl _).symm | exact (sameD_ne (fun z => by cases z)).symm
  | bl b =>
    refine ⟨_, rfl, _, rfl, iteF ⟨_, rfl, _, _, _, _, _, rfl, .ty _, (Rp.bl b).ty, kit_ty (kit_bool _), _, rfl, iteT ⟨_, rfl, _, _, _, _, _, rfl, .ty _, (ra).ty, kit_ty (kit_bool _), _, rfl, ?_⟩⟩⟩
    cases ra with
    | bl c =>
      refine iteT ⟨_, rfl, _, rfl, rfl, k0 _ (sameD_eq ?_).symm⟩
      simp
    | _ => exact iteF (k0 _ (sameD_ne (fun z => by cases z)).symm)
  | int i =>
    refine ⟨_, rfl, _, rfl, iteF ⟨_, rfl, _, _, _, _, _, rfl, .ty _, (Rp.int i).ty, kit_ty (kit_bool _), _, rfl, iteF ⟨_, rfl, _, _, _, _, _, rfl, .ty _, (Rp.int i).ty, kit_ty (kit_int _), _, rfl, iteT ⟨_, rfl, _, _, _, _, _, rfl, .ty _, (ra).ty, kit_ty (kit_int _), _, rfl, ?_⟩⟩⟩⟩
    cases ra with
    | bl c => exact iteT ⟨_, rfl, _, _, _, _, _, rfl, .ty _, (Rp.bl c).ty, kit_ty (kit_bool _), _, rfl, _, rfl, iteF (k0 _ (sameD_ne (fun z => by cases z)).symm)⟩
    | int j =>
      refine iteT ⟨_, rfl, _, _, _, _, _, rfl, .ty _, (Rp.int j).ty, kit_ty (kit_bool _), _, rfl, _, rfl, iteT ⟨_, rfl, _, rfl, rfl, k0 _ (sameD_eq ?_).symm⟩⟩
      simp
    | _ => exact iteF (k0 _ (sameD_ne (fun z => by cases z)).symm)
  | str x =>
    refine ⟨_, rfl, _, rfl, iteF ⟨_, rfl, _, _, _, _, _, rfl, .ty _, (Rp.str x).ty, kit_ty (kit_bool _), _, rfl, iteF ⟨_, rfl, _, _, _, _, _, rfl, .ty _, (Rp.str x).ty, kit_ty (kit_int _), _, rfl, iteF ⟨_, rfl, _, _, _, _, _, rfl, .ty _, (Rp.str x).ty, kit_ty (kit_str _), _, rfl, iteT ⟨_, rfl, _, _, _, _, _, rfl, .ty _, (ra).ty, kit_ty (kit_str _), _, rfl, ?_⟩⟩⟩⟩⟩
    cases ra with
    | str y =>
      refine iteT ⟨_, rfl, _, rfl, rfl, k0 _ (sameD_eq ?_).symm⟩
      simp
    | _ => exact iteF (k0 _ (sameD_ne (fun z => by cases z)).symm)
  | dict0 h => simp [fit] at hn
  | @tup pe ys es h1 h2 =>
    simp only [fit, Bool.and_eq_true, decide_eq_true_eq] at hn
    refine ⟨_, rfl, _, rfl, iteF ⟨_, rfl, _, _, _, _, _, rfl, .ty _, (Rp.tup h1 h2).ty, kit_ty (kit_bool _), _, rfl, iteF ⟨_, rfl, _, _, _, _, _, rfl, .ty _, (Rp.tup h1 h2).ty, kit_ty (kit_int _), _, rfl, iteF ⟨_, rfl, _, _, _, _, _, rfl, .ty _, (Rp.tup h1 h2).ty, kit_ty (kit_str _), _, rfl, iteF ⟨_, rfl, _, _, _, _, _, rfl, .ty _, (Rp.tup h1 h2).ty, kit_ty (kit_tup _), _, rfl, iteT ⟨_, rfl, _, _, _, _, _, rfl, .ty _, (ra).ty, kit_ty (kit_tup _), _, rfl, ?_⟩⟩⟩⟩⟩⟩
    cases ra with
    | @tup pa xs ds g1 g2 =>
      refine iteF ⟨SameMid K n (.ref pa) (.ref pe) (.tuple ds) (.tuple es) H, ⟨_, rfl, _, _, _, _, _, rfl, .ty _, (Rp.tup h1 h2).ty, kit_ty (kit_lst _), _, rfl, iteF (iteF (fin ⟨xs, ys, ds, es, pa, pe, rfl, rfl, g2, h2, .inr g1, .inr h1, hn.1, hn.2, ?_, ?_⟩))⟩, tail _ _ _ _ k⟩
      · simp only [dep] at hd
        omega
      · exact ⟨fun z => by cases z; rfl, fun z => by rw [z]⟩
    | _ => exact iteT (k0 _ (sameD_ne (fun z => by cases z)).symm)
  | @lst pe ys es h1 h2 =>
    simp only [fit, Bool.and_eq_true, decide_eq_true_eq] at hn
    refine ⟨_, rfl, _, rfl, iteF ⟨_, rfl, _, _, _, _, _, rfl, .ty _, (Rp.lst h1 h2).ty, kit_ty (kit_bool _), _, rfl, iteF ⟨_, rfl, _, _, _, _, _, rfl, .ty _, (Rp.lst h1 h2).ty, kit_ty (kit_int _), _, rfl, iteF ⟨_, rfl, _, _, _, _, _, rfl, .ty _, (Rp.lst h1 h2).ty, kit_ty (kit_str _), _, rfl, iteF ⟨_, rfl, _, _, _, _, _, rfl, .ty _, (Rp.lst h1 h2).ty, kit_ty (kit_tup _), _, rfl, iteF (iteF ⟨SameMid K n va (.ref pe) d (.list es) H, ⟨_, rfl, _, _, _, _, _, rfl, .ty _, (Rp.lst h1 h2).ty, kit_ty (kit_lst _), _, rfl, iteT ⟨_, rfl, _, _, _, _, _, rfl, .ty _, (ra).ty, kit_ty (kit_lst _), _, rfl, ?_⟩⟩, tail _ _ _ _ k⟩)⟩⟩⟩⟩⟩
    cases ra with
    | @lst pa xs ds g1 g2 =>
      refine iteF (fin ⟨xs, ys, ds, es, pa, pe, rfl, rfl, g2, h2, .inl g1, .inl h1, hn.1, hn.2, ?_, ?_⟩)
      · simp only [dep] at hd
        omega
      · exact ⟨fun z => by cases z; rfl, fun z => by rw [z]⟩
    | _ => exact iteT (k0 _ (sameD_ne (fun z => by cases z)).symm)
theorem gf_law_same {f : Addr} {fd : FuncData} (F : Fun K "_law_same" "_law_same" s_law_same f fd) (T : Txt K mg) (hm : mg "_law_same" = some (.ref f)) (b : Binds K fd ["actual", "expected"] []) : ∀ n, GF P w K mg base CX0 "_law_same" n ["actual", "expected"] (spSame K n)
  | 0 => by
    have no : ∀ vs H Q E, ¬ spSame K 0 vs H Q E := fun vs H Q E h => by
      obtain ⟨_, _, _, _, _, _, _, _, h, _⟩ := h
      omega
    exact ⟨f, fd, ⟨fun vs H Q E h => absurd h (no vs H Q E), fun A outer s H args us vs Q E _ _ _ _ h => absurd h (no vs H Q E)⟩, hm, F.kp, b⟩
  | n + 1 => ⟨f, fd, ok_law_same F T (gf_law_same F T hm b n), hm, F.kp, b⟩
end

def mkD (m : Mk) : PyData := .tuple [.int (m.1 : Int), .int (m.2 : Int)]
def optD : Option Mk → PyData
  | none => .none
  | some m => mkD m
def ddD : Dd → PyData
  | .back n => .tuple [.str "back", .int (n : Int)]
  | .change mo rm be nu tx => .tuple [.str "change", .str (SX.S mo), .tuple (rm.map mkD), optD be, .int (nu : Int), .str (SX.S tx)]
def trD (t : Tr) : PyData := .tuple [.int (t.1 : Int), .int (t.2.1 : Int), ddD t.2.2]
theorem flat_snoc {α : Type} (g : α → List Int) (xs : List α) (x : α) : ((xs ++ [x]).map g).flatten = (xs.map g).flatten ++ g x := by simp
theorem flat_le {α : Type} {g : α → List Int} {b : Nat} : ∀ {as : List α}, (∀ a ∈ as, (g a).length ≤ b) → (as.map g).flatten.length ≤ b * as.length
  | [], _ => by simp
  | a :: as, h => by
    have h1 := h a (by simp)
    have h2 := flat_le (g := g) (b := b) (as := as) fun x hx => h x (by simp [hx])
    simp only [List.map_cons, List.flatten_cons, List.length_append, List.length_cons, Nat.mul_add]
    omega
theorem encT_le {t : List Nat} (h : okT t) : (encT t).length ≤ 2500 := by
  have h1 := smN_len (sm_of h.2 (by decide))
  have h2 := flat_le (g := wnum) (b := 12) (as := t) fun c hc => smN_len (sm_of (Nat.le_of_lt (okC_lt (h.1 c hc))) (by decide))
  have := h.2
  simp only [encT, List.length_append]
  omega
theorem encM_le {m : Mk} (h : okM m) : (encM m).length ≤ 24 := by
  have h1 := smN_len h.1
  have h2 := smN_len h.2
  simp only [encM, List.length_append]
  omega
theorem encL_le {ms : List Mk} (h : (∀ m ∈ ms, okM m) ∧ ms.length ≤ 200) : (encL ms).length ≤ 5000 := by
  have h1 := smN_len (sm_of h.2 (by decide))
  have h2 := flat_le (g := encM) (b := 24) (as := ms) fun m hm => encM_le (h.1 m hm)
  have := h.2
  simp only [encL, List.length_append]
  omega
theorem encB_le {b : Option Mk} (h : ∀ m, b = some m → okM m) : (encB b).length ≤ 25 := by
  cases b with
  | none => simp [encB]
  | some m =>
    have := encM_le (h m rfl)
    simp only [encB, List.length_cons]
    omega
theorem encD_le {d : Dd} (h : okD d) : (encD d).length ≤ 12000 := by
  cases d with
  | back n =>
    have := smN_len (show smN n from h)
    simp only [encD, List.length_cons]
    omega
  | change mo rm be nu tx =>
    obtain ⟨h1, h2, h3, h4, h5⟩ := h
    have := encT_le h1
    have := encL_le h2
    have := encB_le h3
    have := smN_len h4
    have := encT_le h5
    simp only [encD, List.length_cons, List.length_append]
    omega
theorem encTr_le {t : Tr} (h : okTr t) : (encTr t).length ≤ 12100 := by
  have := smN_len h.1
  have := smN_len h.2.1
  have := encD_le h.2.2
  simp only [encTr, List.length_append]
  omega
theorem encTs_le {ts : List Tr} (h : okTs ts) : (encTs ts).length ≤ 2500000 := by
  have h1 := smN_len (sm_of h.2 (by decide))
  have h2 := flat_le (g := encTr) (b := 12100) (as := ts) fun t ht => encTr_le (h.1 t ht)
  have := h.2
  simp only [encTs, List.length_append]
  omega
def spWnum : Sp := fun vs H Q _ => ∃ n : Nat, vs = [.int (n : Int)] ∧ smN n ∧ ∀ (r : Addr) (H' : Hp), H r = none → Same H H' → H' r = some (.lst ((wnum n).map V.int)) → Q (.ref r) H'
def spWlist (K : PySem.W.Frag) : Sp := fun vs H Q _ => ∃ (a : Addr) (acc : List V) (rs : List (List Int)), vs = [.ref a] ∧ SqL K H a acc ∧ LLs H acc rs ∧ rs.length ≤ 200 ∧ rs.flatten.length ≤ 3000000 ∧ ∀ (r : Addr) (H' : Hp), H r = none → Same H H' → H' r = some (.lst ((wnum rs.length ++ rs.flatten).map V.int)) → Q (.ref r) H'
def spWtext : Sp := fun vs H Q _ => ∃ t : List Nat, vs = [.str (SX.S t)] ∧ okT t ∧ ∀ (r : Addr) (H' : Hp), H r = none → Same H H' → H' r = some (.lst ((encT t).map V.int)) → Q (.ref r) H'
def spWmark (K : PySem.W.Frag) : Sp := fun vs H Q _ => ∃ (v : V) (m : Mk), vs = [v] ∧ Rp K H v (mkD m) ∧ okM m ∧ ∀ (r : Addr) (H' : Hp), H r = none → Same H H' → H' r = some (.lst ((encM m).map V.int)) → Q (.ref r) H'
def spWdeed (K : PySem.W.Frag) : Sp := fun vs H Q _ => ∃ (v : V) (d : Dd), vs = [v] ∧ Rp K H v (ddD d) ∧ okD d ∧ ∀ (r : Addr) (H' : Hp), H r = none → Same H H' → H' r = some (.lst ((encD d).map V.int)) → Q (.ref r) H'
def spWtrs (K : PySem.W.Frag) : Sp := fun vs H Q _ => ∃ (v : V) (ts : List Tr), vs = [v] ∧ Rp K H v (.list (ts.map trD)) ∧ okTs ts ∧ ∀ (r : Addr) (H' : Hp), H r = none → Same H H' → H' r = some (.lst ((encTs ts).map V.int)) → Q (.ref r) H'
def spWpkt (K : PySem.W.Frag) : Sp := fun vs H Q _ => ∃ (v : V) (ts : List Tr), vs = [v] ∧ Rp K H v (.list (ts.map trD)) ∧ okTs ts ∧ ∀ (r : Addr) (H' : Hp), H r = none → Same H H' → H' r = some (.lst ((encP ts).map V.int)) → Q (.ref r) H'
section
variable {P : Program} {w : World} {K : PySem.W.Frag} {mg : Str → Option Value} {base : Heap} {C CD : Addr}
theorem ok_write_number {f : Addr} {fd : FuncData} (F : Fun K "write_number" "write_number" s_write_number f fd) (T : Txt K mg) : FnOk P w K mg base CX0 1 f fd ["number"] spWnum := by
  refine F.ok sc_write_number (fun vs H Q E h => ?_) (fun cdv A outer s H vs Q E hr h => ?_)
  · obtain ⟨_, rfl, _⟩ := h
    rfl
  obtain ⟨n, rfl, hn, q⟩ := h
  refine ⟨_, (pss_cons (ps_set (i := 1) sc_write_number.nd rfl (Or.inl rfl) (pe_lst pa_nil))
  (pss_cons (ps_while PassesOwn.never (pt_cmpR op_ge (pv 0) pe_int (nomark _)) (pss_cons (ps_expr (pe_bm PySem.F.plainAttrs_list PySem.F.slot_list_append PySem.F.type_list_append mt_append (pv 1) (pa_cons (pe_op op_add (pe_op op_mod (pv 0) pe_int) pe_int) pa_nil)))
  (pss_one (ps_set (i := 0) sc_write_number.nd rfl (Or.inl rfl) (pe_op op_fdiv (pv 0) pe_int)))))
  (pss_one (ps_ret (pe_op op_cat (pv 1) (pe_lst (pa_cons (pv 0) pa_nil))))))), ?_⟩
  refine ⟨Nat.zero_le _, fun p hp => ?_⟩
  refine ⟨fun k σ H' => ∃ (m : Nat) (ds : List Int), σ = [some (.int (m : Int)), some (.ref p)] ∧ k = m ∧ Same H H' ∧ H' p = some (.lst (ds.map V.int)) ∧ wnum n = ds ++ wnum m ∧ ds.length + (wnum m).length ≤ 12, ⟨n, n, [], rfl, rfl, same_upd hp, upd_same, rfl, by simpa using smN_len hn⟩, ?_⟩
  rintro k σ H1 ⟨m, ds, rfl, rfl, s1, h1, e, hl⟩
  refine ⟨_, rfl, _, _, rfl, rfl, _, rfl, brD (fun e1 => ?_) (fun e1 => ?_)⟩
  · have e1' : 128 ≤ k := by
      have : (128:Int)≤(k:Int) := e1
      omega
    rw [wnum_ge e1'] at e hl
    refine ⟨_, fun _ _ z => z, ?_⟩
    refine ⟨_, rfl, .inl ⟨rfl, _, SqL.of h1⟩, _, rfl, _, _, rfl, rfl, (by show (0 : Int) < 128; decide), _, _, rfl, rfl, p, _, _, rfl, rfl, h1, szl _ (by rw [List.length_map]; simp at hl; omega), ?_⟩
    refine ⟨_, rfl, _, _, rfl, rfl, ⟨by decide, by decide⟩, ?_⟩
    refine ⟨k / 128, by omega, k / 128, ds ++ [(k : Int) % 128 + 128], rfl, rfl, fun b o z => ?_, by rw [upd_same]; simp, by rw [e]; simp, by simp at hl ⊢; omega⟩
    rw [upd_ne (ne_of_none z hp)]
    exact s1 _ _ z
  · have e1' : k < 128 := by
      have : ¬ (128:Int)≤(k:Int) := e1
      omega
    rw [wnum_lt e1'] at e hl
    simp at hl
    refine ⟨_, rfl, _, rfl, sz 1 (by decide), fun c hc => ?_⟩
    have sc := same_upd (o := .lst [.int (k : Int)]) hc
    refine ⟨p, c, _, _, rfl, rfl, sc _ _ h1, upd_same, sz _ (by simp; omega), fun r hr => ?_⟩
    have s2 := s1.trans (sc.trans (same_upd (o := .lst (ds.map V.int ++ [.int (k : Int)])) hr))
    refine q r _ ((s1.trans sc).free hr) s2 ?_
    rw [upd_same, e]
    simp
theorem ok_law_number {f : Addr} {fd : FuncData} (F : Fun K "_law_number" "_law_number" s_law_number f fd) (T : Txt K mg) : FnOk P w K mg base CX0 1 f fd ["number"] spWnum := by
  refine F.ok sc_law_number (fun vs H Q E h => ?_) (fun cdv A outer s H vs Q E hr h => ?_)
  · obtain ⟨_, rfl, _⟩ := h
    rfl
  obtain ⟨n, rfl, hn, q⟩ := h
  refine ⟨_, (pss_cons (ps_set (i := 1) sc_law_number.nd rfl (Or.inl rfl) (pe_lst pa_nil))
  (pss_cons (ps_while PassesOwn.never (pt_cmpR op_gt (pv 0) pe_int (nomark _)) (pss_cons (ps_expr (pe_bm PySem.F.plainAttrs_list PySem.F.slot_list_append PySem.F.type_list_append mt_append (pv 1) (pa_cons (pe_op op_add (pe_op op_mod (pv 0) pe_int) pe_int) pa_nil)))
  (pss_one (ps_set (i := 0) sc_law_number.nd rfl (Or.inl rfl) (pe_op op_fdiv (pv 0) pe_int)))))
  (pss_one (ps_ret (pe_op op_cat (pv 1) (pe_lst (pa_cons (pv 0) pa_nil))))))), ?_⟩
  refine ⟨Nat.zero_le _, fun p hp => ?_⟩
  refine ⟨fun k σ H' => ∃ (m : Nat) (ds : List Int), σ = [some (.int (m : Int)), some (.ref p)] ∧ k = m ∧ Same H H' ∧ H' p = some (.lst (ds.map V.int)) ∧ wnum n = ds ++ wnum m ∧ ds.length + (wnum m).length ≤ 12, ⟨n, n, [], rfl, rfl, same_upd hp, upd_same, rfl, by simpa using smN_len hn⟩, ?_⟩
  rintro k σ H1 ⟨m, ds, rfl, rfl, s1, h1, e, hl⟩
  refine ⟨_, rfl, _, _, rfl, rfl, _, rfl, brD (fun e1 => ?_) (fun e1 => ?_)⟩
  · have e1' : 128 ≤ k := by
      have : (127:Int)<(k:Int) := e1
      omega
    rw [wnum_ge e1'] at e hl
    refine ⟨_, fun _ _ z => z, ?_⟩
    refine ⟨_, rfl, .inl ⟨rfl, _, SqL.of h1⟩, _, rfl, _, _, rfl, rfl, (by show (0 : Int) < 128; decide), _, _, rfl, rfl, p, _, _, rfl, rfl, h1, szl _ (by rw [List.length_map]; simp at hl; omega), ?_⟩
    refine ⟨_, rfl, _, _, rfl, rfl, ⟨by decide, by decide⟩, ?_⟩
    refine ⟨k / 128, by omega, k / 128, ds ++ [(k : Int) % 128 + 128], rfl, rfl, fun b o z => ?_, by rw [upd_same]; simp, by rw [e]; simp, by simp at hl ⊢; omega⟩
    rw [upd_ne (ne_of_none z hp)]
    exact s1 _ _ z
  · have e1' : k < 128 := by
      have : ¬ (127:Int)<(k:Int) := e1
      omega
    rw [wnum_lt e1'] at e hl
    simp at hl
    refine ⟨_, rfl, _, rfl, sz 1 (by decide), fun c hc => ?_⟩
    have sc := same_upd (o := .lst [.int (k : Int)]) hc
    refine ⟨p, c, _, _, rfl, rfl, sc _ _ h1, upd_same, sz _ (by simp; omega), fun r hr => ?_⟩
    have s2 := s1.trans (sc.trans (same_upd (o := .lst (ds.map V.int ++ [.int (k : Int)])) hr))
    refine q r _ ((s1.trans sc).free hr) s2 ?_
    rw [upd_same, e]
    simp
theorem ok_write_list {f : Addr} {fd : FuncData} (F : Fun K "write_list" "write_list" s_write_list f fd) (T : Txt K mg) (G_write_number : GF P w K mg base CX0 "write_number" 1 ["number"] spWnum) : FnOk P w K mg base CX0 2 f fd ["items"] (spWlist K) := by
  refine F.ok sc_write_list (fun vs H Q E h => ?_) (fun cdv A outer s H vs Q E hr h => ?_)
  · obtain ⟨_, _, _, rfl, _⟩ := h
    rfl
  obtain ⟨a, acc, rs, rfl, hA, hL, l1, l2, q⟩ := h
  have al := hL.length
  have w1 := smN_len (sm_of l1 (by decide))
  refine ⟨_, (pss_cons (ps_set (i := 1) sc_write_list.nd rfl (Or.inl rfl) (pe_cg G_write_number hr rfl (pa_cons (pe_callB call_len_seq (by rfl) T.b_len bt_len (pa_cons (pv 0) pa_nil)) pa_nil)))
  (pss_cons (ps_for PassesOwn.never rfl (pi_list (pv 0)) (pg_name (i := 2) sc_write_list.nd rfl (Or.inl rfl)) (pss_one (ps_expr (pe_bm PySem.F.plainAttrs_list PySem.F.slot_list_extend PySem.F.type_list_extend mt_extend (pv 1) (pa_cons (pv 2) pa_nil)))))
  (pss_one (ps_ret (pv 1))))), ?_⟩
  refine ⟨_, rfl, a, acc, rfl, .inl hA, rs.length, by rw [al], sm_of l1 (by decide), fun D H1 nD s1 hD => ?_⟩
  refine ⟨_, rfl, a, rfl, ⟨acc, sql_le s1 hA⟩, for_list (K := K) (a := a) (xs := acc) (fun i σ H' => ∃ z, σ = [some (.ref a), some (.ref D), z] ∧ Same H H' ∧ H' D = some (.lst ((wnum rs.length ++ (rs.take i).flatten).map V.int))) ⟨none, rfl, s1, by simpa using hD⟩ (fun i σ H' _ z => ?_) ?_ ?_⟩
  · obtain ⟨_, _, s2, _⟩ := z
    exact sql_le s2 hA
  · rintro i x σ H2 hx ⟨z, rfl, s2, h2⟩
    obtain ⟨b, r, rfl, hr1, hb⟩ := hL.get hx
    have hb2 := s2 _ _ hb
    have hsum := flat_take hr1
    refine ⟨_, rfl, .inl ⟨rfl, _, SqL.of h2⟩, _, rfl, D, b, _, _, rfl, rfl, h2, hb2, sz _ (by rw [List.length_map, List.length_map, List.length_append]; omega), ?_⟩
    refine ⟨_, rfl, fun c o e => ?_, ?_⟩
    · rw [upd_ne (ne_of_none e nD)]
      exact s2 _ _ e
    · rw [upd_same, take_snoc hr1]
      simp
  · rintro σ H2 ⟨z, rfl, s2, h2⟩
    rw [al, List.take_of_length_le (Nat.le_refl _)] at h2
    exact ⟨_, rfl, q D H2 nD s2 h2⟩
theorem ok_write_string {f : Addr} {fd : FuncData} (F : Fun K "write_string" "write_string" s_write_string f fd) (T : Txt K mg) (G_write_number : GF P w K mg base CX0 "write_number" 1 ["number"] spWnum) (G_write_list : GF P w K mg base CX0 "write_list" 2 ["items"] (spWlist K)) : FnOk P w K mg base CX0 3 f fd ["text"] spWtext := by
  refine F.ok sc_write_string (fun vs H Q E h => ?_) (fun cdv A outer s H vs Q E hr h => ?_)
  · obtain ⟨_, rfl, _⟩ := h
    rfl
  obtain ⟨t, rfl, ht, q⟩ := h
  refine ⟨_, (pss_one (ps_ret (pe_cg G_write_list hr rfl (pa_cons (pe_lc (own := [("character", 1)]) (g := (gName 1)) (tt := tYes) rfl sc_write_string.nd (pi_str (pv 0)) (blkOk_by (N := ["text", "character"]) (sc := defScope s_write_string) (by decide +kernel)) (fun _ _ _ _ _ => (pg_name (i := 1) sc_write_string.nd rfl (Or.inl rfl))) (fun _ _ _ _ _ => pts_nil) (fun _ _ _ _ _ => (pe_cg G_write_number hr rfl (pa_cons (pe_callB call_ord (by rfl) T.b_ord bt_ord (pa_cons (pv 1) pa_nil)) pa_nil)))) pa_nil)))), ?_⟩
  refine ⟨_, rfl, SX.S t, rfl, fun D hD => lc_it walk_str (fun i H' => Same H H' ∧ Own [D] H' ∧ ∃ acc, LAcc [D] D ((t.take i).map wnum) acc H') ⟨same_upd hD, fun x hx => by simp at hx; rw [hx]; simp [upd_same], [], LAcc.new (by simp)⟩ (fun _ _ _ _ => trivial) ?_ ?_⟩
  · rintro i x H1 H2 hi ⟨s1, o1, acc, a1⟩ ⟨rfl, c, hc, rfl⟩
    obtain ⟨hi, rfl, et⟩ := S_item hc
    have al := a1.it.length
    rw [List.length_map, List.length_take] at al
    have htl := ht.2
    refine ⟨rfl, _, rfl, _, rfl, rfl, t[i], rfl, sm_of (Nat.le_of_lt (okC_lt (ht.1 _ (List.getElem_mem hi)))) (by decide), fun r H2 nr s2 hr => ?_⟩
    refine ⟨acc, (a1.le s2).is, szl _ (by omega), fun b o e => ?_, (o1.le s2).up (S := [D]) (Up.put (by simp)) (by simp [upd_same]), acc ++ [.ref r], ?_⟩
    · rw [upd_ne (ne_of_none e hD)]
      exact s2 _ _ (s1 _ _ e)
    · rw [et, List.map_append]
      exact (a1.le s2).push (by rw [wo_out (o1.out nr)]; exact hr)
  · rintro H1 ⟨s1, o1, acc, a1⟩
    rw [S_size, List.take_of_length_le (Nat.le_refl _)] at a1
    have htl := ht.2
    have hb := flat_le (g := wnum) (b := 12) (as := t) fun c hc => smN_len (sm_of (Nat.le_of_lt (okC_lt (ht.1 c hc))) (by decide))
    refine ⟨D, acc, _, rfl, SqL.of a1.is, a1.all, by rw [List.length_map]; exact htl, by omega, fun r H2 nr s2 hr => ?_⟩
    rw [List.length_map] at hr
    exact q r H2 (s1.free nr) (s1.trans s2) hr
theorem ok_law_text {f : Addr} {fd : FuncData} (F : Fun K "_law_text" "_law_text" s_law_text f fd) (T : Txt K mg) (G_law_number : GF P w K mg base CX0 "_law_number" 1 ["number"] spWnum) : FnOk P w K mg base CX0 2 f fd ["text"] spWtext := by
  refine F.ok sc_law_text (fun vs H Q E h => ?_) (fun cdv A outer s H vs Q E hr h => ?_)
  · obtain ⟨_, rfl, _⟩ := h
    rfl
  obtain ⟨t, rfl, ht, q⟩ := h
  have htl := ht.2
  have w1 := smN_len (sm_of ht.2 (by decide))
  have hb := flat_le (g := wnum) (b := 12) (as := t) fun c hc => smN_len (sm_of (Nat.le_of_lt (okC_lt (ht.1 c hc))) (by decide))
  refine ⟨_, (pss_cons (ps_set (i := 1) sc_law_text.nd rfl (Or.inl rfl) (pe_cg G_law_number hr rfl (pa_cons (pe_callB call_len_str (by rfl) T.b_len bt_len (pa_cons (pv 0) pa_nil)) pa_nil)))
  (pss_cons (ps_for PassesOwn.never rfl (pi_str (pv 0)) (pg_name (i := 2) sc_law_text.nd rfl (Or.inl rfl)) (pss_one (ps_set (i := 1) sc_law_text.nd rfl (Or.inl rfl) (pe_op op_cat (pv 1) (pe_cg G_law_number hr rfl (pa_cons (pe_callB call_ord (by rfl) T.b_ord bt_ord (pa_cons (pv 2) pa_nil)) pa_nil))))))
  (pss_one (ps_ret (pv 1))))), ?_⟩
  refine ⟨_, rfl, SX.S t, rfl, sz _ (by rw [len_S]; omega), t.length, by rw [len_S], sm_of htl (by decide), fun d0 H1 nd s1 hd => ?_⟩
  refine ⟨_, rfl, SX.S t, rfl, for_it walk_str (fun i σ H' => ∃ (d : Addr) (z : Option V), σ = [some (.str (SX.S t)), some (.ref d), z] ∧ H d = none ∧ Same H H' ∧ H' d = some (.lst ((wnum t.length ++ ((t.take i).map wnum).flatten).map V.int))) ⟨d0, none, rfl, nd, s1, by simpa using hd⟩ (fun _ _ _ _ _ => trivial) ?_ ?_⟩
  · rintro i x σ H2 H3 hi ⟨d, z, rfl, nd2, s2, hd2⟩ ⟨rfl, c, hc, rfl⟩
    obtain ⟨hi, rfl, et⟩ := S_item hc
    have hw := smN_len (sm_of (Nat.le_of_lt (okC_lt (ht.1 _ (List.getElem_mem hi)))) (by decide) : smN t[i])
    have hfl := flat_take (rs := t.map wnum) (i := i) (r := wnum t[i]) (by rw [List.getElem?_map, List.getElem?_eq_getElem hi]; rfl)
    rw [← List.map_take] at hfl
    refine ⟨_, rfl, _, rfl, _, rfl, rfl, t[i], rfl, sm_of (Nat.le_of_lt (okC_lt (ht.1 _ (List.getElem_mem hi)))) (by decide), fun r H4 nr s4 hr => ?_⟩
    refine ⟨d, r, _, _, rfl, rfl, s4 _ _ hd2, hr, sz _ (by rw [List.length_map, List.length_map, List.length_append]; omega), fun e he => ?_⟩
    have s24 := s2.trans s4
    refine ⟨e, _, rfl, s24.free he, s24.trans (same_upd he), ?_⟩
    rw [upd_same, et, flat_snoc]
    simp only [List.map_append, List.append_assoc]
  · rintro σ H2 ⟨d, z, rfl, nd2, s2, hd2⟩
    rw [S_size, List.take_of_length_le (Nat.le_refl _)] at hd2
    exact ⟨_, rfl, q d H2 nd2 s2 hd2⟩
theorem ok_write_mark {f : Addr} {fd : FuncData} (F : Fun K "write_mark" "write_mark" s_write_mark f fd) (T : Txt K mg) (G_write_number : GF P w K mg base CX0 "write_number" 1 ["number"] spWnum) : FnOk P w K mg base CX0 2 f fd ["mark"] (spWmark K) := by
  refine F.ok sc_write_mark (fun vs H Q E h => ?_) (fun cdv A outer s H vs Q E hr h => ?_)
  · obtain ⟨_, _, rfl, _⟩ := h
    rfl
  obtain ⟨v, m, rfl, hv, hm, q⟩ := h
  obtain ⟨a, x0, x1, rfl, hT, r0, r1⟩ := hv.tup2
  cases r0.int_inv
  cases r1.int_inv
  refine ⟨_, (pss_one (ps_ret (pe_op op_cat (pe_cg G_write_number hr rfl (pa_cons (pe_ix ix_tup (pv 0) pe_int (fun _ _ => rfl)) pa_nil)) (pe_cg G_write_number hr rfl (pa_cons (pe_ix ix_tup (pv 0) pe_int (fun _ _ => rfl)) pa_nil))))), ?_⟩
  refine ⟨_, rfl, a, _, 0, _, rfl, rfl, hT, rfl, m.1, rfl, hm.1, fun r H1 nr s1 hr => ?_⟩
  refine ⟨_, rfl, a, _, 1, _, rfl, rfl, sqt_le s1 hT, rfl, m.2, rfl, hm.2, fun r2 H2 nr2 s2 hr2 => ?_⟩
  have w1 := smN_len hm.1
  have w2 := smN_len hm.2
  refine ⟨r, r2, _, _, rfl, rfl, s2 _ _ hr, hr2, sz _ (by rw [List.length_map, List.length_map]; omega), fun c hc => ?_⟩
  have s12 := s1.trans s2
  refine q c _ (s12.free hc) (s12.trans (same_upd hc)) ?_
  rw [upd_same, encM, List.map_append]
theorem ok_law_mark {f : Addr} {fd : FuncData} (F : Fun K "_law_mark" "_law_mark" s_law_mark f fd) (T : Txt K mg) (G_law_number : GF P w K mg base CX0 "_law_number" 1 ["number"] spWnum) : FnOk P w K mg base CX0 2 f fd ["mark"] (spWmark K) := by
  refine F.ok sc_law_mark (fun vs H Q E h => ?_) (fun cdv A outer s H vs Q E hr h => ?_)
  · obtain ⟨_, _, rfl, _⟩ := h
    rfl
  obtain ⟨v, m, rfl, hv, hm, q⟩ := h
  obtain ⟨a, x0, x1, rfl, hT, r0, r1⟩ := hv.tup2
  cases r0.int_inv
  cases r1.int_inv
  refine ⟨_, (pss_one (ps_ret (pe_op op_cat (pe_cg G_law_number hr rfl (pa_cons (pe_ix ix_tup (pv 0) pe_int (fun _ _ => rfl)) pa_nil)) (pe_cg G_law_number hr rfl (pa_cons (pe_ix ix_tup (pv 0) pe_int (fun _ _ => rfl)) pa_nil))))), ?_⟩
  refine ⟨_, rfl, a, _, 0, _, rfl, rfl, hT, rfl, m.1, rfl, hm.1, fun r H1 nr s1 hr => ?_⟩
  refine ⟨_, rfl, a, _, 1, _, rfl, rfl, sqt_le s1 hT, rfl, m.2, rfl, hm.2, fun r2 H2 nr2 s2 hr2 => ?_⟩
  have w1 := smN_len hm.1
  have w2 := smN_len hm.2
  refine ⟨r, r2, _, _, rfl, rfl, s2 _ _ hr, hr2, sz _ (by rw [List.length_map, List.length_map]; omega), fun c hc => ?_⟩
  have s12 := s1.trans s2
  refine q c _ (s12.free hc) (s12.trans (same_upd hc)) ?_
  rw [upd_same, encM, List.map_append]
theorem ok_write_deed {f : Addr} {fd : FuncData} (F : Fun K "write_deed" "write_deed" s_write_deed f fd) (T : Txt K mg) (G_write_number : GF P w K mg base CX0 "write_number" 1 ["number"] spWnum) (G_write_list : GF P w K mg base CX0 "write_list" 2 ["items"] (spWlist K))
    (G_write_string : GF P w K mg base CX0 "write_string" 3 ["text"] spWtext) (G_write_mark : GF P w K mg base CX0 "write_mark" 2 ["mark"] (spWmark K)) : FnOk P w K mg base CX0 4 f fd ["deed"] (spWdeed K) := by
  refine F.ok sc_write_deed (fun vs H Q E h => ?_) (fun cdv A outer s H vs Q E hr h => ?_)
  · obtain ⟨_, _, rfl, _⟩ := h
    rfl
  obtain ⟨v, d, rfl, hv, hd, q⟩ := h
  refine ⟨_, (pss_cons (ps_if (pt_cmpR op_eq (pe_ix ix_tup (pv 0) pe_int (fun _ _ => rfl)) pe_str (nomark _)) (pss_one (ps_ret (pe_op op_cat (pe_lst (pa_cons pe_int pa_nil)) (pe_cg G_write_number hr rfl (pa_cons (pe_ix ix_tup (pv 0) pe_int (fun _ _ => rfl)) pa_nil))))) pss_nil)
  (pss_cons (ps_asg (pv 0) (pg_tup rfl (pgs_cons (pg_name (i := 1) sc_write_deed.nd rfl (Or.inl rfl)) (pgs_cons (pg_name (i := 2) sc_write_deed.nd rfl (Or.inl rfl)) (pgs_cons (pg_name (i := 3) sc_write_deed.nd rfl (Or.inl rfl)) (pgs_cons (pg_name (i := 4) sc_write_deed.nd rfl (Or.inl rfl)) (pgs_cons (pg_name (i := 5) sc_write_deed.nd rfl (Or.inl rfl)) (pgs_cons (pg_name (i := 6) sc_write_deed.nd rfl (Or.inl rfl)) pgs_nil))))))))
  (pss_cons (ps_set (i := 7) sc_write_deed.nd rfl (Or.inl rfl) (pe_op op_cat (pe_op op_cat (pe_lst (pa_cons pe_int pa_nil)) (pe_cg G_write_string hr rfl (pa_cons (pv 2) pa_nil))) (pe_cg G_write_list hr rfl (pa_cons (pe_lc (own := [("mark", 8)]) (g := (gName 8)) (tt := tYes) rfl sc_write_deed.nd (pi_tup (pv 3)) (blkOk_by (N := ["deed", "_", "module", "removed", "behind", "number", "text", "data", "mark"]) (sc := defScope s_write_deed) (by decide +kernel)) (fun _ _ _ _ _ => (pg_name (i := 8) sc_write_deed.nd rfl (Or.inl rfl))) (fun _ _ _ _ _ => pts_nil) (fun _ _ _ _ _ => (pe_cg G_write_mark hr rfl (pa_cons (pv 8) pa_nil)))) pa_nil))))
  (Evl.pss_cut (ps_expr (pe_bm PySem.F.plainAttrs_list PySem.F.slot_list_extend PySem.F.type_list_extend mt_extend (pv 7) (pa_cons (pe_ifExp (pt_cmp (pc_isN (pv 4))) (pe_lst (pa_cons pe_int pa_nil)) (pe_op op_cat (pe_lst (pa_cons pe_int pa_nil)) (pe_cg G_write_mark hr rfl (pa_cons (pv 4) pa_nil)))) pa_nil)))
  (pss_one (ps_ret (pe_op op_cat (pe_op op_cat (pv 7) (pe_cg G_write_number hr rfl (pa_cons (pv 5) pa_nil))) (pe_cg G_write_string hr rfl (pa_cons (pv 6) pa_nil))))))))), ?_⟩
  have dl := encD_le hd
  cases d with
  | back n =>
    obtain ⟨a, x0, x1, rfl, hT, r0, r1⟩ := hv.tup2
    cases r0.str_inv
    cases r1.int_inv
    refine ⟨_, rfl, a, _, 0, _, rfl, rfl, hT, rfl, rfl, _, rfl, brD (fun _ => ?_) (fun z => absurd rfl z)⟩
    refine ⟨sz 1 (by decide), fun c1 hc1 => ?_⟩
    have s1 := same_upd (o := .lst [.int 1]) hc1; have h1 := upd_same (H := H) (a := c1) (o := .lst [.int 1]); generalize upd H c1 (.lst [.int 1]) = H1 at s1 h1 ⊢
    refine ⟨_, rfl, a, _, 1, _, rfl, rfl, sqt_le s1 hT, rfl, n, rfl, hd, fun r H2 nr s2 hr => ?_⟩
    have w1 := smN_len (show smN n from hd)
    refine ⟨c1, r, _, _, rfl, rfl, s2 _ _ h1, hr, sz _ (by rw [List.length_map]; simp only [List.length_singleton]; omega), fun c hc => ?_⟩
    have s12 := s1.trans s2
    refine q c _ (s12.free hc) (s12.trans (same_upd hc)) ?_
    rw [upd_same]
    simp [encD]
  | change mo rm be nu tx =>
    obtain ⟨a, x0, x1, x2, x3, x4, x5, rfl, hT, r0, r1, r2, r3, r4, r5⟩ := hv.tup6
    cases r0.str_inv
    cases r1.str_inv
    cases r4.int_inv
    cases r5.str_inv
    obtain ⟨b, ms, rfl, hB, rb⟩ := r2.tup_inv
    obtain ⟨o1, o2, o3, o4, o5⟩ := id hd
    refine ⟨_, rfl, a, _, 0, _, rfl, rfl, hT, rfl, rfl, _, rfl, brD (fun z => nomatch z) (fun _ => ?_)⟩
    refine ⟨_, rfl, a, _, rfl, hT, rfl, _, _, rfl, _, _, rfl, _, _, rfl, _, _, rfl, _, _, rfl, _, _, rfl, rfl, ?_⟩
    have l1 := encT_le o1
    have l2 := encL_le o2
    have l3 := encB_le o3
    have l4 := smN_len o4
    have l5 := encT_le o5
    refine ⟨sz 1 (by decide), fun c0 hc0 => ?_⟩
    have s1 := same_upd (o := .lst [.int 0]) hc0; have h1 := upd_same (H := H) (a := c0) (o := .lst [.int 0]); generalize upd H c0 (.lst [.int 0]) = H1 at s1 h1 ⊢
    refine ⟨_, rfl, mo, rfl, o1, fun t1 H2 n1 s2 ht1 => ?_⟩
    refine ⟨c0, t1, _, _, rfl, rfl, s2 _ _ h1, ht1, sz _ (by rw [List.length_map]; simp only [List.length_singleton]; omega), fun u1 hu1 => ?_⟩
    have s3 := same_upd (o := .lst ([V.int 0] ++ (encT mo).map V.int)) hu1; have h3 := upd_same (H := H2) (a := u1) (o := .lst ([V.int 0] ++ (encT mo).map V.int)); generalize upd H2 u1 (.lst ([V.int 0] ++ (encT mo).map V.int)) = H3 at s3 h3 ⊢
    have s13 := s1.trans (s2.trans s3)
    refine ⟨_, rfl, b, rfl, ⟨ms, sqt_le s13 hB⟩, fun D hD => lc_tup (K := K) (a := b) (xs := ms) (fun i H' => Same H3 H' ∧ Own [D] H' ∧ ∃ acc, LAcc [D] D ((rm.take i).map encM) acc H') ⟨same_upd hD, fun x hx => by simp at hx; rw [hx]; simp [upd_same], [], LAcc.new (by simp)⟩ (fun i H' _ z => sqt_le z.1 (sqt_le s13 hB)) ?_ ?_⟩
    · rintro i x H4 hx ⟨s4, ow, acc, a1⟩
      obtain ⟨hi, rx, et⟩ := rb.item hx
      have al := a1.it.length
      rw [List.length_map, List.length_take] at al
      refine ⟨rfl, _, rfl, x, rm[i], rfl, (rx.le s13).le s4, o2.1 _ (List.getElem_mem hi), fun r H5 nr s5 hr => ?_⟩
      refine ⟨acc, (a1.le s5).is, szl _ (by omega), fun b o e => ?_, (ow.le s5).up (S := [D]) (Up.put (by simp)) (by simp [upd_same]), acc ++ [.ref r], ?_⟩
      · rw [upd_ne (ne_of_none e hD)]
        exact s5 _ _ (s4 _ _ e)
      · rw [et, List.map_append]
        exact (a1.le s5).push (by rw [wo_out (ow.out nr)]; exact hr)
    · rintro H4 ⟨s4, ow, acc, a1⟩
      have ml : ms.length = rm.length := by rw [rb.length, List.length_map]
      rw [ml, List.take_of_length_le (Nat.le_refl _)] at a1
      have hb := flat_le (g := encM) (b := 24) (as := rm) fun m hm => encM_le (o2.1 m hm)
      refine ⟨D, acc, _, rfl, SqL.of a1.is, a1.all, by rw [List.length_map]; exact o2.2, by omega, fun r H5 nr s5 hr => ?_⟩
      rw [List.length_map] at hr
      change H5 r = some (.lst ((encL rm).map V.int)) at hr
      have s35 := s4.trans s5
      refine ⟨u1, r, _, _, rfl, rfl, s35 _ _ h3, hr, sz _ (by rw [List.length_append, List.length_map, List.length_map]; simp only [List.length_singleton]; omega), fun dt hdt => ?_⟩
      have s6 := same_upd (o := .lst ([V.int 0] ++ (encT mo).map V.int ++ (encL rm).map V.int)) hdt; have h6 := upd_same (H := H5) (a := dt) (o := .lst ([V.int 0] ++ (encT mo).map V.int ++ (encL rm).map V.int)); generalize upd H5 dt (.lst ([V.int 0] ++ (encT mo).map V.int ++ (encL rm).map V.int)) = H6 at s6 h6 ⊢
      have s16 := s13.trans (s35.trans s6)
      have nd : H dt = none := (s13.trans s35).free hdt
      refine ⟨fun σ' H' => σ' = [some (.ref a), some (.str "change"), some (.str (SX.S mo)), some (.ref b), some x3, some (.int (nu : Int)), some (.str (SX.S tx)), some (.ref dt), none] ∧ Same H H' ∧ H' dt = some (.lst ((0 :: (encT mo ++ (encL rm ++ encB be))).map V.int)), ?_, ?_⟩
      · have fin : ∀ (H7 : Hp) (c : Addr), Same H6 H7 → Same H (upd H7 dt (.lst ([V.int 0] ++ (encT mo).map V.int ++ (encL rm).map V.int ++ (encB be).map V.int))) := fun H7 c s7 o u e => by
          rw [upd_ne (ne_of_none e nd)]
          exact s7 _ _ (s16 _ _ e)
        refine ⟨_, rfl, .inl ⟨rfl, _, SqL.of h6⟩, _, rfl, _, rfl, ?_⟩
        cases be with
        | none =>
          cases r3.non_inv
          refine iteT ⟨sz 1 (by decide), fun c hc => ?_⟩
          have s7 := same_upd (o := .lst [.int 0]) hc; have h7 := upd_same (H := H6) (a := c) (o := .lst [.int 0]); generalize upd H6 c (.lst [.int 0]) = H7 at s7 h7 ⊢
          refine ⟨dt, c, _, _, rfl, rfl, s7 _ _ h6, h7, sz _ (by simp only [List.length_append, List.length_map, List.length_singleton]; omega), ?_⟩
          exact ⟨rfl, fin H7 c s7, by rw [upd_same]; simp [encB]⟩
        | some m =>
          obtain ⟨am, y0, y1, rfl, hM, q0, q1⟩ := r3.tup2
          refine iteF ⟨sz 1 (by decide), fun c hc => ?_⟩
          have s7 := same_upd (o := .lst [.int 1]) hc; have h7 := upd_same (H := H6) (a := c) (o := .lst [.int 1]); generalize upd H6 c (.lst [.int 1]) = H7 at s7 h7 ⊢
          refine ⟨_, rfl, _, m, rfl, (r3.le s16).le s7, o3 m rfl, fun r H8 nr s8 hr => ?_⟩
          have l6 := encM_le (o3 m rfl)
          refine ⟨c, r, _, _, rfl, rfl, s8 _ _ h7, hr, sz _ (by rw [List.length_map]; simp only [List.length_singleton]; omega), fun u hu => ?_⟩
          have s9 := same_upd (o := .lst ([V.int 1] ++ (encM m).map V.int)) hu; have h9 := upd_same (H := H8) (a := u) (o := .lst ([V.int 1] ++ (encM m).map V.int)); generalize upd H8 u (.lst ([V.int 1] ++ (encM m).map V.int)) = H9 at s9 h9 ⊢
          refine ⟨dt, u, _, _, rfl, rfl, s9 _ _ (s8 _ _ (s7 _ _ h6)), h9, sz _ (by simp only [List.length_append, List.length_map, List.length_singleton]; omega), ?_⟩
          exact ⟨rfl, fin H9 c (s7.trans (s8.trans s9)), by rw [upd_same]; simp [encB]⟩
      rintro σ' H7 ⟨rfl, s7, h7⟩
      refine ⟨_, rfl, _, rfl, nu, rfl, o4, fun r H8 nr s8 hr => ?_⟩
      refine ⟨dt, r, _, _, rfl, rfl, s8 _ _ h7, hr, sz _ (by simp only [List.length_append, List.length_map, List.length_cons]; omega), fun u hu => ?_⟩
      rw [← List.map_append]
      have s9 := same_upd (o := .lst ((0 :: (encT mo ++ (encL rm ++ encB be)) ++ wnum nu).map V.int)) hu; have h9 := upd_same (H := H8) (a := u) (o := .lst ((0 :: (encT mo ++ (encL rm ++ encB be)) ++ wnum nu).map V.int)); generalize upd H8 u (.lst ((0 :: (encT mo ++ (encL rm ++ encB be)) ++ wnum nu).map V.int)) = H9 at s9 h9 ⊢
      refine ⟨_, rfl, tx, rfl, o5, fun r2 Ha nr2 sa hr2 => ?_⟩
      refine ⟨u, r2, _, _, rfl, rfl, sa _ _ h9, hr2, sz _ (by simp only [List.length_append, List.length_map, List.length_cons]; omega), fun z hz => ?_⟩
      have sz' := s7.trans (s8.trans (s9.trans sa))
      refine q z _ (sz'.free hz) (sz'.trans (same_upd hz)) ?_
      rw [upd_same]
      simp [encD]
theorem ok_write_triples {f : Addr} {fd : FuncData} (F : Fun K "write_triples" "write_triples" s_write_triples f fd) (T : Txt K mg) (G_write_number : GF P w K mg base CX0 "write_number" 1 ["number"] spWnum) (G_write_list : GF P w K mg base CX0 "write_list" 2 ["items"] (spWlist K))
    (G_write_deed : GF P w K mg base CX0 "write_deed" 4 ["deed"] (spWdeed K)) : FnOk P w K mg base CX0 5 f fd ["triples"] (spWtrs K) := by
  refine F.ok sc_write_triples (fun vs H Q E h => ?_) (fun cdv A outer s H vs Q E hr h => ?_)
  · obtain ⟨_, _, rfl, _⟩ := h
    rfl
  obtain ⟨v, ts, rfl, hv, hts, q⟩ := h
  obtain ⟨a, xs, rfl, hA, ra⟩ := hv.lst_inv
  have xl : xs.length = ts.length := by rw [ra.length, List.length_map]
  have htl := hts.2
  refine ⟨_, (pss_cons (ps_set (i := 1) sc_write_triples.nd rfl (Or.inl rfl) (pe_lst pa_nil))
  (pss_cons (ps_for PassesOwn.never rfl (pi_list (pv 0)) (pg_tup rfl (pgs_cons (pg_name (i := 2) sc_write_triples.nd rfl (Or.inl rfl)) (pgs_cons (pg_name (i := 3) sc_write_triples.nd rfl (Or.inl rfl)) (pgs_cons (pg_name (i := 4) sc_write_triples.nd rfl (Or.inl rfl)) pgs_nil)))) (pss_one (ps_expr (pe_bm PySem.F.plainAttrs_list PySem.F.slot_list_append PySem.F.type_list_append mt_append (pv 1) (pa_cons (pe_op op_cat (pe_op op_cat (pe_cg G_write_number hr rfl (pa_cons (pv 2) pa_nil)) (pe_cg G_write_number hr rfl (pa_cons (pv 3) pa_nil))) (pe_cg G_write_deed hr rfl (pa_cons (pv 4) pa_nil))) pa_nil)))))
  (pss_one (ps_ret (pe_cg G_write_list hr rfl (pa_cons (pv 1) pa_nil)))))), ?_⟩
  refine ⟨Nat.zero_le _, fun D hD => ?_⟩
  refine ⟨_, rfl, a, rfl, ⟨xs, sql_le (same_upd hD) hA⟩, for_list (K := K) (a := a) (xs := xs) (fun i σ H' => ∃ z2 z3 z4 acc, σ = [some (.ref a), some (.ref D), z2, z3, z4] ∧ Same H H' ∧ Own [D] H' ∧ LAcc [D] D ((ts.take i).map encTr) acc H')
    ⟨none, none, none, [], rfl, same_upd hD, fun x hx => by simp at hx; rw [hx]; simp [upd_same], LAcc.new (by simp)⟩ (fun i σ H' _ z => ?_) ?_ ?_⟩
  · obtain ⟨_, _, _, _, _, s1, _⟩ := z
    exact sql_le s1 hA
  · rintro i x σ H1 hx ⟨z2, z3, z4, acc, rfl, s1, ow, a1⟩
    obtain ⟨hi, rx, et⟩ := ra.item hx
    have okt := hts.1 _ (List.getElem_mem hi)
    generalize ts[i] = t at rx et okt
    obtain ⟨b, y0, y1, y2, rfl, hB, q0, q1, q2⟩ := rx.tup3
    cases q0.int_inv
    cases q1.int_inv
    have w0 := smN_len okt.1
    have w1 := smN_len okt.2.1
    have w2 := encD_le okt.2.2
    refine ⟨b, _, rfl, sqt_le s1 hB, rfl, _, _, rfl, _, _, rfl, _, _, rfl, rfl, ?_⟩
    refine ⟨_, rfl, .inl ⟨rfl, _, SqL.of a1.is⟩, _, rfl, t.1, rfl, okt.1, fun r1 H2 n1 s2 h2 => ?_⟩
    refine ⟨_, rfl, t.2.1, rfl, okt.2.1, fun r2 H3 n2 s3 h3 => ?_⟩
    refine ⟨r1, r2, _, _, rfl, rfl, s3 _ _ h2, h3, sz _ (by rw [List.length_map, List.length_map]; omega), fun u hu => ?_⟩
    rw [← List.map_append]
    have s4 := same_upd (o := .lst ((wnum t.1 ++ wnum t.2.1).map V.int)) hu; have h4 := upd_same (H := H3) (a := u) (o := .lst ((wnum t.1 ++ wnum t.2.1).map V.int)); generalize upd H3 u (.lst ((wnum t.1 ++ wnum t.2.1).map V.int)) = H4 at s4 h4 ⊢
    have s14 := s2.trans (s3.trans s4)
    refine ⟨_, rfl, y2, t.2.2, rfl, (q2.le s1).le s14, okt.2.2, fun r3 H5 n3 s5 h5 => ?_⟩
    refine ⟨u, r3, _, _, rfl, rfl, s5 _ _ h4, h5, sz _ (by rw [List.length_map, List.length_map, List.length_append]; omega), fun w6 hw6 => ?_⟩
    rw [← List.map_append]
    have e6 : (wnum t.1 ++ wnum t.2.1) ++ encD t.2.2 = encTr t := by simp [encTr]
    rw [e6]
    have ow5 := (ow.le s14).le s5
    have s6 := same_upd (o := .lst ((encTr t).map V.int)) hw6; have h6 := upd_same (H := H5) (a := w6) (o := .lst ((encTr t).map V.int)); generalize upd H5 w6 (.lst ((encTr t).map V.int)) = H6 at s6 h6 ⊢
    have s16 := s14.trans (s5.trans s6)
    have al := a1.it.length
    rw [List.length_map, List.length_take] at al
    refine ⟨D, acc, _, rfl, rfl, (a1.le s16).is, szl _ (by omega), ?_⟩
    refine ⟨_, _, _, acc ++ [.ref w6], rfl, fun c o e => ?_, (ow.le s16).up (S := [D]) (Up.put (by simp)) (by simp [upd_same]), ?_⟩
    · rw [upd_ne (ne_of_none e hD)]
      exact s16 _ _ (s1 _ _ e)
    · rw [et, List.map_append]
      exact (a1.le s16).push (by rw [wo_out (ow5.out hw6)]; exact h6)
  · rintro σ H1 ⟨z2, z3, z4, acc, rfl, s1, ow, a1⟩
    rw [xl, List.take_of_length_le (Nat.le_refl _)] at a1
    have hb := flat_le (g := encTr) (b := 12100) (as := ts) fun t ht => encTr_le (hts.1 t ht)
    refine ⟨_, rfl, D, acc, _, rfl, SqL.of a1.is, a1.all, by rw [List.length_map]; exact htl, by omega, fun r H2 nr s2 hr => ?_⟩
    rw [List.length_map] at hr
    exact q r H2 (s1.free nr) (s1.trans s2) hr
theorem ok_write_packet {f : Addr} {fd : FuncData} (F : Fun K "write_packet" "write_packet" s_write_packet f fd) (T : Txt K mg) (G_write_triples : GF P w K mg base CX0 "write_triples" 5 ["triples"] (spWtrs K)) : FnOk P w K mg base CX0 6 f fd ["packet"] (spWpkt K) := by
  refine F.ok sc_write_packet (fun vs H Q E h => ?_) (fun cdv A outer s H vs Q E hr h => ?_)
  · obtain ⟨_, _, rfl, _⟩ := h
    rfl
  obtain ⟨v, ts, rfl, hv, hts, q⟩ := h
  have hl := encTs_le hts
  refine ⟨_, (pss_one (ps_ret (pe_op op_cat (pe_lst (pa_cons pe_int pa_nil)) (pe_cg G_write_triples hr rfl (pa_cons (pv 0) pa_nil))))), ?_⟩
  refine ⟨sz 1 (by decide), fun c hc => ?_⟩
  have s1 := same_upd (o := .lst [.int 1]) hc; have h1 := upd_same (H := H) (a := c) (o := .lst [.int 1]); generalize upd H c (.lst [.int 1]) = H1 at s1 h1 ⊢
  refine ⟨_, rfl, v, ts, rfl, hv.le s1, hts, fun r H2 nr s2 hr => ?_⟩
  refine ⟨c, r, _, _, rfl, rfl, s2 _ _ h1, hr, sz _ (by rw [List.length_map]; simp only [List.length_singleton]; omega), fun z hz => ?_⟩
  have s12 := s1.trans s2
  refine q z _ (s12.free hz) (s12.trans (same_upd hz)) ?_
  rw [upd_same]
  simp [encP]
theorem ok_law_deed {f : Addr} {fd : FuncData} (F : Fun K "_law_deed" "_law_deed" s_law_deed f fd) (T : Txt K mg) (G_law_number : GF P w K mg base CX0 "_law_number" 1 ["number"] spWnum) (G_law_text : GF P w K mg base CX0 "_law_text" 2 ["text"] spWtext)
    (G_law_mark : GF P w K mg base CX0 "_law_mark" 2 ["mark"] (spWmark K)) : FnOk P w K mg base CX0 3 f fd ["deed"] (spWdeed K) := by
  refine F.ok sc_law_deed (fun vs H Q E h => ?_) (fun cdv A outer s H vs Q E hr h => ?_)
  · obtain ⟨_, _, rfl, _⟩ := h
    rfl
  obtain ⟨v, d, rfl, hv, hd, q⟩ := h
  refine ⟨_, (pss_cons (ps_if (pt_cmpR op_eq (pe_ix ix_tup (pv 0) pe_int (fun _ _ => rfl)) pe_str (nomark _)) (pss_one (ps_ret (pe_op op_cat (pe_lst (pa_cons pe_int pa_nil)) (pe_cg G_law_number hr rfl (pa_cons (pe_ix ix_tup (pv 0) pe_int (fun _ _ => rfl)) pa_nil))))) pss_nil)
  (pss_cons (ps_set (i := 1) sc_law_deed.nd rfl (Or.inl rfl) (pe_op op_cat (pe_op op_cat (pe_lst (pa_cons pe_int pa_nil)) (pe_cg G_law_text hr rfl (pa_cons (pe_ix ix_tup (pv 0) pe_int (fun _ _ => rfl)) pa_nil))) (pe_cg G_law_number hr rfl (pa_cons (pe_callB call_len_seq (by rfl) T.b_len bt_len (pa_cons (pe_ix ix_tup (pv 0) pe_int (fun _ _ => rfl)) pa_nil)) pa_nil))))
  (pss_cons (ps_for PassesOwn.never rfl (pi_tup (pe_ix ix_tup (pv 0) pe_int (fun _ _ => rfl))) (pg_name (i := 2) sc_law_deed.nd rfl (Or.inl rfl)) (pss_one (ps_set (i := 1) sc_law_deed.nd rfl (Or.inl rfl) (pe_op op_cat (pv 1) (pe_cg G_law_mark hr rfl (pa_cons (pv 2) pa_nil))))))
  (Evl.pss_cut (ps_set (i := 1) sc_law_deed.nd rfl (Or.inl rfl) (pe_op op_cat (pv 1) (pe_ifExp (pt_cmp (pc_isN (pe_ix ix_tup (pv 0) pe_int (fun _ _ => rfl)))) (pe_lst (pa_cons pe_int pa_nil)) (pe_op op_cat (pe_lst (pa_cons pe_int pa_nil)) (pe_cg G_law_mark hr rfl (pa_cons (pe_ix ix_tup (pv 0) pe_int (fun _ _ => rfl)) pa_nil))))))
  (pss_one (ps_ret (pe_op op_cat (pe_op op_cat (pv 1) (pe_cg G_law_number hr rfl (pa_cons (pe_ix ix_tup (pv 0) pe_int (fun _ _ => rfl)) pa_nil))) (pe_cg G_law_text hr rfl (pa_cons (pe_ix ix_tup (pv 0) pe_int (fun _ _ => rfl)) pa_nil))))))))), ?_⟩
  have dl := encD_le hd
  cases d with
  | back n =>
    obtain ⟨a, x0, x1, rfl, hT, r0, r1⟩ := hv.tup2
    cases r0.str_inv
    cases r1.int_inv
    refine ⟨_, rfl, a, _, 0, _, rfl, rfl, hT, rfl, rfl, _, rfl, brD (fun _ => ?_) (fun z => absurd rfl z)⟩
    refine ⟨sz 1 (by decide), fun c1 hc1 => ?_⟩
    have s1 := same_upd (o := .lst [.int 1]) hc1; have h1 := upd_same (H := H) (a := c1) (o := .lst [.int 1]); generalize upd H c1 (.lst [.int 1]) = H1 at s1 h1 ⊢
    refine ⟨_, rfl, a, _, 1, _, rfl, rfl, sqt_le s1 hT, rfl, n, rfl, hd, fun r H2 nr s2 hr => ?_⟩
    have w1 := smN_len (show smN n from hd)
    refine ⟨c1, r, _, _, rfl, rfl, s2 _ _ h1, hr, sz _ (by rw [List.length_map]; simp only [List.length_singleton]; omega), fun c hc => ?_⟩
    have s12 := s1.trans s2
    refine q c _ (s12.free hc) (s12.trans (same_upd hc)) ?_
    rw [upd_same]
    simp [encD]
  | change mo rm be nu tx =>
    obtain ⟨a, x0, x1, x2, x3, x4, x5, rfl, hT, r0, r1, r2, r3, r4, r5⟩ := hv.tup6
    cases r0.str_inv
    cases r1.str_inv
    cases r4.int_inv
    cases r5.str_inv
    obtain ⟨b, ms, rfl, hB, rb⟩ := r2.tup_inv
    obtain ⟨o1, o2, o3, o4, o5⟩ := id hd
    have l1 := encT_le o1
    have l2 := encL_le o2
    have l3 := encB_le o3
    have l4 := smN_len o4
    have l5 := encT_le o5
    refine ⟨_, rfl, a, _, 0, _, rfl, rfl, hT, rfl, rfl, _, rfl, brD (fun z => nomatch z) (fun _ => ?_)⟩
    refine ⟨sz 1 (by decide), fun c0 hc0 => ?_⟩
    have s1 := same_upd (o := .lst [.int 0]) hc0; have h1 := upd_same (H := H) (a := c0) (o := .lst [.int 0]); generalize upd H c0 (.lst [.int 0]) = H1 at s1 h1 ⊢
    refine ⟨_, rfl, a, _, 1, _, rfl, rfl, sqt_le s1 hT, rfl, mo, rfl, o1, fun t1 H2 n1 s2 ht1 => ?_⟩
    have ml : ms.length = rm.length := by rw [rb.length, List.length_map]
    have wl := smN_len (sm_of o2.2 (by decide))
    have hb := flat_le (g := encM) (b := 24) (as := rm) fun m hm => encM_le (o2.1 m hm)
    have hrm := o2.2
    refine ⟨c0, t1, _, _, rfl, rfl, s2 _ _ h1, ht1, sz _ (by rw [List.length_map]; simp only [List.length_singleton]; omega), fun u1 hu1 => ?_⟩
    have s3 := same_upd (o := .lst ([V.int 0] ++ (encT mo).map V.int)) hu1; have h3 := upd_same (H := H2) (a := u1) (o := .lst ([V.int 0] ++ (encT mo).map V.int)); generalize upd H2 u1 (.lst ([V.int 0] ++ (encT mo).map V.int)) = H3 at s3 h3 ⊢
    have s13 := s1.trans (s2.trans s3)
    refine ⟨_, rfl, a, _, 2, _, rfl, rfl, sqt_le s13 hT, rfl, b, ms, rfl, .inr (sqt_le s13 hB), rm.length, by rw [ml], sm_of o2.2 (by decide), fun r H4 nr s4 hr => ?_⟩
    refine ⟨u1, r, _, _, rfl, rfl, s4 _ _ h3, hr, sz _ (by simp only [List.length_append, List.length_map, List.length_singleton]; omega), fun d0 hd0 => ?_⟩
    have s5 := same_upd (o := .lst ([V.int 0] ++ (encT mo).map V.int ++ (wnum rm.length).map V.int)) hd0; have h5 := upd_same (H := H4) (a := d0) (o := .lst ([V.int 0] ++ (encT mo).map V.int ++ (wnum rm.length).map V.int)); generalize upd H4 d0 (.lst ([V.int 0] ++ (encT mo).map V.int ++ (wnum rm.length).map V.int)) = H5 at s5 h5 ⊢
    have s15 := s13.trans (s4.trans s5)
    have nd0 : H d0 = none := (s13.trans s4).free hd0
    refine ⟨_, rfl, a, _, 2, _, rfl, rfl, sqt_le s15 hT, rfl, b, rfl, ⟨ms, sqt_le s15 hB⟩, for_tup (K := K) (a := b) (xs := ms) (fun i σ H' => ∃ (dd : Addr) (z : Option V), σ = [some (.ref a), some (.ref dd), z] ∧ Same H H' ∧ H' dd = some (.lst ((0 :: (encT mo ++ (wnum rm.length ++ ((rm.take i).map encM).flatten))).map V.int))) ⟨d0, none, rfl, s15, by simpa using h5⟩ (fun i σ H' _ z => ?_) ?_ ?_⟩
    · obtain ⟨_, _, _, z, _⟩ := z
      exact sqt_le z hB
    · rintro i x σ H6 hx ⟨dd, z, rfl, s6, h6⟩
      obtain ⟨hi, rx, et⟩ := rb.item hx
      have hw := encM_le (o2.1 _ (List.getElem_mem hi))
      have hfl := flat_take (rs := rm.map encM) (i := i) (r := encM rm[i]) (by rw [List.getElem?_map, List.getElem?_eq_getElem hi]; rfl)
      rw [← List.map_take] at hfl
      refine ⟨_, rfl, _, rfl, x, rm[i], rfl, rx.le s6, o2.1 _ (List.getElem_mem hi), fun r2 H7 n7 s7 h7 => ?_⟩
      refine ⟨dd, r2, _, _, rfl, rfl, s7 _ _ h6, h7, sz _ (by simp only [List.length_append, List.length_map, List.length_cons]; omega), fun e he => ?_⟩
      refine ⟨e, _, rfl, (s6.trans s7).trans (same_upd he), ?_⟩
      rw [upd_same, et, flat_snoc, ← List.map_append]
      simp
    · rintro σ H6 ⟨dd, z, rfl, s6, h6⟩
      rw [ml, List.take_of_length_le (Nat.le_refl _)] at h6
      change H6 dd = some (.lst ((0 :: (encT mo ++ encL rm)).map V.int)) at h6
      refine ⟨fun σ' H' => ∃ d7, σ' = [some (.ref a), some (.ref d7), z] ∧ Same H H' ∧ H' d7 = some (.lst ((0 :: (encT mo ++ (encL rm ++ encB be))).map V.int)), ?_, ?_⟩
      · refine ⟨_, rfl, _, rfl, a, _, 3, _, rfl, rfl, sqt_le s6 hT, rfl, _, rfl, ?_⟩
        cases be with
        | none =>
          cases r3.non_inv
          refine iteT ⟨sz 1 (by decide), fun c hc => ?_⟩
          have s7 := same_upd (o := .lst [.int 0]) hc; have h7 := upd_same (H := H6) (a := c) (o := .lst [.int 0]); generalize upd H6 c (.lst [.int 0]) = H7 at s7 h7 ⊢
          refine ⟨dd, c, _, _, rfl, rfl, s7 _ _ h6, h7, sz _ (by simp only [List.length_append, List.length_map, List.length_cons, List.length_nil]; omega), fun e he => ?_⟩
          exact ⟨e, rfl, (s6.trans s7).trans (same_upd he), by rw [upd_same]; simp [encB]⟩
        | some m =>
          obtain ⟨am, y0, y1, rfl, hM, q0, q1⟩ := r3.tup2
          refine iteF ⟨sz 1 (by decide), fun c hc => ?_⟩
          have s7 := same_upd (o := .lst [.int 1]) hc; have h7 := upd_same (H := H6) (a := c) (o := .lst [.int 1]); generalize upd H6 c (.lst [.int 1]) = H7 at s7 h7 ⊢
          have s67 := s6.trans s7
          refine ⟨_, rfl, a, _, 3, _, rfl, rfl, sqt_le s67 hT, rfl, _, m, rfl, r3.le s67, o3 m rfl, fun r H8 nr s8 hr => ?_⟩
          have l6 := encM_le (o3 m rfl)
          refine ⟨c, r, _, _, rfl, rfl, s8 _ _ h7, hr, sz _ (by rw [List.length_map]; simp only [List.length_singleton]; omega), fun u hu => ?_⟩
          have s9 := same_upd (o := .lst ([V.int 1] ++ (encM m).map V.int)) hu; have h9 := upd_same (H := H8) (a := u) (o := .lst ([V.int 1] ++ (encM m).map V.int)); generalize upd H8 u (.lst ([V.int 1] ++ (encM m).map V.int)) = H9 at s9 h9 ⊢
          have s79 := s7.trans (s8.trans s9)
          refine ⟨dd, u, _, _, rfl, rfl, s79 _ _ h6, h9, sz _ (by simp only [List.length_append, List.length_map, List.length_cons, List.length_nil]; omega), fun e he => ?_⟩
          exact ⟨e, rfl, (s6.trans s79).trans (same_upd he), by rw [upd_same]; simp [encB]⟩
      rintro σ' H7 ⟨d7, rfl, s7, h7⟩
      refine ⟨_, rfl, _, rfl, a, _, 4, _, rfl, rfl, sqt_le s7 hT, rfl, nu, rfl, o4, fun r H8 nr s8 hr => ?_⟩
      refine ⟨d7, r, _, _, rfl, rfl, s8 _ _ h7, hr, sz _ (by simp only [List.length_append, List.length_map, List.length_cons]; omega), fun u hu => ?_⟩
      rw [← List.map_append]
      have s9 := same_upd (o := .lst ((0 :: (encT mo ++ (encL rm ++ encB be)) ++ wnum nu).map V.int)) hu; have h9 := upd_same (H := H8) (a := u) (o := .lst ((0 :: (encT mo ++ (encL rm ++ encB be)) ++ wnum nu).map V.int)); generalize upd H8 u (.lst ((0 :: (encT mo ++ (encL rm ++ encB be)) ++ wnum nu).map V.int)) = H9 at s9 h9 ⊢
      have s79 := s7.trans (s8.trans s9)
      refine ⟨_, rfl, a, _, 5, _, rfl, rfl, sqt_le s79 hT, rfl, tx, rfl, o5, fun r2 Ha nr2 sa hr2 => ?_⟩
      refine ⟨u, r2, _, _, rfl, rfl, sa _ _ h9, hr2, sz _ (by simp only [List.length_append, List.length_map, List.length_cons]; omega), fun z hz => ?_⟩
      have sz' := s79.trans sa
      refine q z _ (sz'.free hz) (sz'.trans (same_upd hz)) ?_
      rw [upd_same]
      simp [encD]
theorem ok_law_triples {f : Addr} {fd : FuncData} (F : Fun K "_law_triples" "_law_triples" s_law_triples f fd) (T : Txt K mg) (G_law_number : GF P w K mg base CX0 "_law_number" 1 ["number"] spWnum) (G_law_deed : GF P w K mg base CX0 "_law_deed" 3 ["deed"] (spWdeed K)) : FnOk P w K mg base CX0 4 f fd ["triples"] (spWtrs K) := by
  refine F.ok sc_law_triples (fun vs H Q E h => ?_) (fun cdv A outer s H vs Q E hr h => ?_)
  · obtain ⟨_, _, rfl, _⟩ := h
    rfl
  obtain ⟨v, ts, rfl, hv, hts, q⟩ := h
  obtain ⟨a, xs, rfl, hA, ra⟩ := hv.lst_inv
  have xl : xs.length = ts.length := by rw [ra.length, List.length_map]
  have htl := hts.2
  have tl := encTs_le hts
  have wl := smN_len (sm_of htl (by decide))
  refine ⟨_, (pss_cons (ps_set (i := 1) sc_law_triples.nd rfl (Or.inl rfl) (pe_cg G_law_number hr rfl (pa_cons (pe_callB call_len_seq (by rfl) T.b_len bt_len (pa_cons (pv 0) pa_nil)) pa_nil)))
  (pss_cons (ps_for PassesOwn.never rfl (pi_list (pv 0)) (pg_tup rfl (pgs_cons (pg_name (i := 2) sc_law_triples.nd rfl (Or.inl rfl)) (pgs_cons (pg_name (i := 3) sc_law_triples.nd rfl (Or.inl rfl)) (pgs_cons (pg_name (i := 4) sc_law_triples.nd rfl (Or.inl rfl)) pgs_nil)))) (pss_one (ps_set (i := 1) sc_law_triples.nd rfl (Or.inl rfl) (pe_op op_cat (pe_op op_cat (pe_op op_cat (pv 1) (pe_cg G_law_number hr rfl (pa_cons (pv 2) pa_nil))) (pe_cg G_law_number hr rfl (pa_cons (pv 3) pa_nil))) (pe_cg G_law_deed hr rfl (pa_cons (pv 4) pa_nil))))))
  (pss_one (ps_ret (pv 1))))), ?_⟩
  refine ⟨_, rfl, a, xs, rfl, .inl hA, ts.length, by rw [xl], sm_of htl (by decide), fun d0 H1 nd s1 hd => ?_⟩
  refine ⟨_, rfl, a, rfl, ⟨xs, sql_le s1 hA⟩, for_list (K := K) (a := a) (xs := xs) (fun i σ H' => ∃ (d : Addr) (z2 z3 z4 : Option V), σ = [some (.ref a), some (.ref d), z2, z3, z4] ∧ H d = none ∧ Same H H' ∧ H' d = some (.lst ((wnum ts.length ++ ((ts.take i).map encTr).flatten).map V.int)))
    ⟨d0, none, none, none, rfl, nd, s1, by simpa using hd⟩ (fun i σ H' _ z => ?_) ?_ ?_⟩
  · obtain ⟨_, _, _, _, _, _, s1, _⟩ := z
    exact sql_le s1 hA
  · rintro i x σ H2 hx ⟨d, z2, z3, z4, rfl, nd2, s2, hd2⟩
    obtain ⟨hi, rx, et⟩ := ra.item hx
    have okt := hts.1 _ (List.getElem_mem hi)
    have hfl := flat_take (rs := ts.map encTr) (i := i) (r := encTr ts[i]) (by rw [List.getElem?_map, List.getElem?_eq_getElem hi]; rfl)
    rw [← List.map_take] at hfl
    have tl2 : (wnum ts.length).length + ((ts.map encTr).flatten).length ≤ 2500000 := by
      have := tl
      simp only [encTs, List.length_append] at this
      exact this
    rw [et]
    generalize ts[i] = t at rx okt hfl
    obtain ⟨b, y0, y1, y2, rfl, hB, q0, q1, q2⟩ := rx.tup3
    cases q0.int_inv
    cases q1.int_inv
    have w3 : (encTr t).length = (wnum t.1).length + (wnum t.2.1).length + (encD t.2.2).length := by simp [encTr]; omega
    refine ⟨b, _, rfl, sqt_le s2 hB, rfl, _, _, rfl, _, _, rfl, _, _, rfl, rfl, ?_⟩
    refine ⟨_, rfl, _, rfl, t.1, rfl, okt.1, fun r1 H3 n1 s3 h3 => ?_⟩
    refine ⟨d, r1, _, _, rfl, rfl, s3 _ _ hd2, h3, sz _ (by simp only [List.length_append, List.length_map] at *; omega), fun u hu => ?_⟩
    rw [← List.map_append]
    have s4 := same_upd (o := .lst ((wnum ts.length ++ ((ts.take i).map encTr).flatten ++ wnum t.1).map V.int)) hu; have h4 := upd_same (H := H3) (a := u) (o := .lst ((wnum ts.length ++ ((ts.take i).map encTr).flatten ++ wnum t.1).map V.int)); generalize upd H3 u (.lst ((wnum ts.length ++ ((ts.take i).map encTr).flatten ++ wnum t.1).map V.int)) = H4 at s4 h4 ⊢
    refine ⟨_, rfl, t.2.1, rfl, okt.2.1, fun r2 H5 n2 s5 h5 => ?_⟩
    refine ⟨u, r2, _, _, rfl, rfl, s5 _ _ h4, h5, sz _ (by simp only [List.length_append, List.length_map] at *; omega), fun u2 hu2 => ?_⟩
    rw [← List.map_append]
    have s6 := same_upd (o := .lst ((wnum ts.length ++ ((ts.take i).map encTr).flatten ++ wnum t.1 ++ wnum t.2.1).map V.int)) hu2; have h6 := upd_same (H := H5) (a := u2) (o := .lst ((wnum ts.length ++ ((ts.take i).map encTr).flatten ++ wnum t.1 ++ wnum t.2.1).map V.int)); generalize upd H5 u2 (.lst ((wnum ts.length ++ ((ts.take i).map encTr).flatten ++ wnum t.1 ++ wnum t.2.1).map V.int)) = H6 at s6 h6 ⊢
    have s26 := s3.trans (s4.trans (s5.trans s6))
    refine ⟨_, rfl, y2, t.2.2, rfl, (q2.le s2).le s26, okt.2.2, fun r3 H7 n3 s7 h7 => ?_⟩
    refine ⟨u2, r3, _, _, rfl, rfl, s7 _ _ h6, h7, sz _ (by simp only [List.length_append, List.length_map] at *; omega), fun w6 hw6 => ?_⟩
    have s28 := s2.trans (s26.trans s7)
    refine ⟨w6, _, _, _, rfl, s28.free hw6, s28.trans (same_upd hw6), ?_⟩
    rw [upd_same, flat_snoc, ← List.map_append]
    simp [encTr]
  · rintro σ H2 ⟨d, z2, z3, z4, rfl, nd2, s2, hd2⟩
    rw [xl, List.take_of_length_le (Nat.le_refl _)] at hd2
    exact ⟨_, rfl, q d H2 nd2 s2 hd2⟩
end

structure RdAt (K : PySem.W.Frag) (C : Addr) (O : List Addr) (H : Hp) (p : Addr) (l : List Int) (i : Nat) : Prop where
  op : p ∈ O
  ob : ∃ dx a, H p = some (.ins C dx (F2 "data" "at" (.ref a) (.int (i : Int)))) ∧ SqL K (wo H O) a (l.map V.int)
def spRInit (K : PySem.W.Frag) (C : Addr) : Sp := fun vs H Q _ => ∃ (O : List Addr) (p a dx : Addr) (l : List Int), vs = [.ref p, .ref a] ∧ H p = some (.ins C dx []) ∧ p ∈ O ∧ Own O H ∧ SqL K H a (l.map V.int) ∧ ∀ H', Up [p] H H' → RdAt K C O H' p l 0 → Q .non H'
def spRByte (K : PySem.W.Frag) (C CD : Addr) : Sp := fun vs H Q E => ∃ (O : List Addr) (p : Addr) (l : List Int) (i : Nat), vs = [.ref p] ∧ RdAt K C O H p l i ∧ (l.length ≤ i → E (.ref CD) none H) ∧ (∀ (b : Int) (H' : Hp), l[i]? = some b → Up [p] H H' → RdAt K C O H' p l (i + 1) → Q (.int b) H')
def spRNum (K : PySem.W.Frag) (C CD : Addr) : Sp := fun vs H Q E => ∃ (O : List Addr) (p : Addr) (l : List Int) (i : Nat), vs = [.ref p] ∧ RdAt K C O H p l i ∧
  (∀ (H' : Hp) (j : Nat), rnum 60 true (l.drop i) = none → Up [p] H H' → RdAt K C O H' p l j → E (.ref CD) none H') ∧ (∀ (v : Int) (n : Nat) (H' : Hp), rnum 60 true (l.drop i) = some (v, n) → Up [p] H H' → RdAt K C O H' p l (i + n) → Q (.int v) H')
theorem nda : ¬ ("data" : Str) = "at" := by decide +kernel
section
variable {P : Program} {w : World} {K : PySem.W.Frag} {mg : Str → Option Value} {base : Heap} {C CD : Addr}
theorem ok_Reader_init {f : Addr} {fd : FuncData} (F : Fun K "__init__" "Reader.__init__" s_Reader___init__ f fd) (T : Txt K mg) (T_Reader : TReader K C) : FnOk P w K mg base CX0 1 f fd ["self", "data"] (spRInit K C) := by
  refine F.ok sc_Reader___init__ (fun vs H Q E h => ?_) (fun cdv A outer s H vs Q E hr h => ?_)
  · obtain ⟨_, _, _, _, _, rfl, _⟩ := h
    rfl
  obtain ⟨O, p, a, dx, l, rfl, hp, ho, hO, hA, q⟩ := h
  refine ⟨_, (pss_cons (ps_fld (pv 0) (pe_callTy call_list_of (by rfl) T.b_list bt_list (pa_cons (pv 1) pa_nil)) rfl)
  (pss_one (ps_fld (pv 0) pe_int rfl))), ?_⟩
  refine ⟨_, rfl, a, _, rfl, .inl hA, fun c hc => ⟨_, rfl, p, C, dx, [], rfl, same_upd hc _ _ hp, T_Reader.cl, T_Reader.n_data, by decide, ?_⟩⟩
  refine ⟨_, rfl, p, C, dx, _, rfl, upd_same, T_Reader.cl, T_Reader.n_at, (by show 1 < 1000; decide), ?_⟩
  rw [upd_upd]
  have hcp : c ≠ p := fun e => by rw [e, hp] at hc; cases hc
  refine q _ ((Up.of (same_upd hc)).trans (Up.put (by simp))) ⟨ho, dx, c, upd_same, SqL.of ?_⟩
  rw [wo_out (hO.out hc), upd_ne hcp, upd_same]
theorem ok_Reader_read_byte {f : Addr} {fd : FuncData} (F : Fun K "read_byte" "Reader.read_byte" s_Reader_read_byte f fd) (T : Txt K mg) (T_Reader : TReader K C) (X_DamagedPacket : ExF K mg "DamagedPacket" CD) : FnOk P w K mg base (L2.CX P w) 1 f fd ["self"] (spRByte K C CD) := by
  refine F.okX sc_Reader_read_byte (fun vs H Q E h => ?_) (fun cdv A outer s H vs Q E hr h => ?_)
  · obtain ⟨_, _, _, _, rfl, _⟩ := h
    rfl
  obtain ⟨O, p, l, i, rfl, ⟨hp, dx, a, h1, h2⟩, hE, hQ⟩ := h
  refine ⟨_, (pss_cons (ps_if (pt_cmpR op_ge (pe_fld (pv 0) rfl) (pe_callB call_len_seq (by rfl) T.b_len bt_len (pa_cons (pe_fld (pv 0) rfl) pa_nil)) (nomark _)) (pss_one (ps_raise rfl (takes_of rfl rfl rfl rfl) (pmk_own PySem.F.excBase_ValueError X_DamagedPacket.x X_DamagedPacket.g X_DamagedPacket.k (raises_own X_DamagedPacket.b X_DamagedPacket.t) rfl))) pss_nil)
  (pss_cons (ps_fldaug (pv 0) pe_int in_add)
  (pss_one (ps_ret (pe_ix ix_list (pe_fld (pv 0) rfl) (pe_op op_sub (pe_fld (pv 0) rfl) pe_int) (fun _ _ => rfl)))))), ?_⟩
  have h3 := sql_le (wo_le _ _) h2
  refine ⟨_, rfl, p, C, dx, _, _, rfl, h1, T_Reader.cl, T_Reader.n_at, F2_b, _, rfl, p, C, dx, _, _, rfl, h1, T_Reader.cl, T_Reader.n_data, F2_a nda, a, _, rfl, .inl h3, _, _, rfl, rfl, _, rfl, brD (fun e => ?_) (fun e => ?_)⟩
  · rw [List.length_map] at e
    exact hE (by omega)
  · rw [List.length_map] at e
    have hi : i < l.length := by omega
    refine ⟨_, rfl, p, C, dx, _, _, rfl, h1, T_Reader.cl, T_Reader.n_at, F2_b, _, _, rfl, rfl, dx, _, h1, F2_len nda, ?_⟩
    rw [F2_putb nda]
    have e1 : wo (upd H p (.ins C dx (F2 "data" "at" (.ref a) (.int ((i : Int) + 1))))) O = wo H O := wo_upd_in hp
    have g2 : SqL K (wo (upd H p (.ins C dx (F2 "data" "at" (.ref a) (.int ((i : Int) + 1))))) O) a (l.map V.int) := by rw [e1]; exact h2
    refine ⟨_, rfl, p, C, dx, _, _, rfl, upd_same, T_Reader.cl, T_Reader.n_data, F2_a nda, _, rfl, p, C, dx, _, _, rfl, upd_same, T_Reader.cl, T_Reader.n_at, F2_b, _, _, rfl, rfl, a, _, _, .int l[i], rfl, rfl, sql_le (wo_le _ _) g2, ?_, ?_⟩
    · have e2 : (i : Int) + 1 - 1 = (i : Int) := by omega
      rw [e2]
      exact atI_nat (by rw [List.getElem?_map, List.getElem?_eq_getElem hi]; rfl)
    · exact hQ _ _ (List.getElem?_eq_getElem hi) (Up.put (by simp)) ⟨hp, dx, a, upd_same, g2⟩
end
theorem rnum_step {f : Nat} {first : Bool} {b : Int} {r : List Int} : rnum (f + 1) first (b :: r) = if b < 128 then (if b = 0 ∧ first = false then none else some (b % 128, 1)) else (rnum f false r).map fun z => (b % 128 + 128 * z.1, z.2 + 1) := by rw [rnum]
section
variable {P : Program} {w : World} {K : PySem.W.Frag} {mg : Str → Option Value} {base : Heap} {C CD : Addr}
theorem ok_Reader_read_number {f : Addr} {fd : FuncData} (F : Fun K "read_number" "Reader.read_number" s_Reader_read_number f fd) (T : Txt K mg) (T_Reader : TReader K C) (X_DamagedPacket : ExF K mg "DamagedPacket" CD)
    (M_read_byte : GM P w K mg base (L2.CX P w) C "read_byte" 1 ["self"] (spRByte K C CD)) : FnOk P w K mg base (L2.CX P w) 2 f fd ["self"] (spRNum K C CD) := by
  refine F.okX sc_Reader_read_number (fun vs H Q E h => ?_) (fun cdv A outer s H vs Q E hr h => ?_)
  · obtain ⟨_, _, _, _, rfl, _⟩ := h
    rfl
  obtain ⟨O, p, l, i0, rfl, hR, hE, hQ⟩ := h
  refine ⟨_, (pss_cons (ps_set (i := 1) sc_Reader_read_number.nd rfl (Or.inl rfl) pe_int)
  (pss_cons (ps_set (i := 2) sc_Reader_read_number.nd rfl (Or.inl rfl) pe_int)
  (pss_cons (ps_for (passes_of rfl) rfl (pi_range1 rfl T.b_range (pa_cons (pe_gi T.c_NUMBER_BYTES rfl) pa_nil)) (pg_name (i := 3) sc_Reader_read_number.nd rfl (Or.inl rfl)) (pss_cons (ps_set (i := 4) sc_Reader_read_number.nd rfl (Or.inl rfl) (pe_gmS0 (pv 0) T_Reader.cl M_read_byte hr (takes_of rfl rfl rfl rfl)))
  (pss_cons (ps_aug (i := 1) sc_Reader_read_number.nd rfl (.inl rfl) (pe_op op_mul (pe_op op_mod (pv 4) pe_int) (pv 2)) ip_add)
  (pss_cons (ps_if (pt_cmpR op_lt (pv 4) pe_int (nomark _)) (pss_cons (ps_if (PW.pt (pw_and (pt_cmpR op_eq (pv 4) pe_int (nomark _)) (pw_and1 (pt_cmpR op_gt (pv 3) pe_int (nomark _))))) (pss_one (ps_raise rfl (takes_of rfl rfl rfl rfl) (pmk_own PySem.F.excBase_ValueError X_DamagedPacket.x X_DamagedPacket.g X_DamagedPacket.k (raises_own X_DamagedPacket.b X_DamagedPacket.t) rfl))) pss_nil)
  (pss_one (ps_ret (pv 1)))) pss_nil)
  (pss_one (ps_set (i := 2) sc_Reader_read_number.nd rfl (Or.inl rfl) (pe_op op_mul (pv 2) pe_int)))))))
  (pss_one (ps_raise rfl (takes_of rfl rfl rfl rfl) (pmk_own PySem.F.excBase_ValueError X_DamagedPacket.x X_DamagedPacket.g X_DamagedPacket.k (raises_own X_DamagedPacket.b X_DamagedPacket.t) rfl)))))), ?_⟩
  refine ⟨60, rfl, by decide, by decide, for_range (fun i σ H' => ∃ (t : Int) (z1 z2 : Option V), σ = [some (.ref p), some (.int t), some (.int (128 ^ i)), z1, z2] ∧ Up [p] H H' ∧ RdAt K C O H' p l (i0 + i) ∧
    rnum 60 true (l.drop i0) = (rnum (60 - i) (decide (i = 0)) (l.drop (i0 + i))).map fun z => (t + 128 ^ i * z.1, z.2 + i)) ⟨0, none, none, rfl, Up.rfl', hR, by rw [Nat.add_zero]; cases h : rnum 60 true (l.drop i0) <;> simp [h]⟩ ?_ ?_⟩
  · rintro i σ H1 hi ⟨t, z1, z2, rfl, u1, R1, e⟩
    have hi' : i < 60 := hi
    obtain ⟨g, hg⟩ : ∃ g, 60 - i = g + 1 := ⟨59 - i, by omega⟩
    rw [hg] at e
    obtain ⟨_, dx, a, h1, _⟩ := id R1
    refine ⟨_, rfl, p, dx, _, rfl, h1, F2_no (by decide +kernel) (by decide +kernel), O, p, l, i0 + i, rfl, R1, fun hl => ?_, fun b H2 hb u2 R2 => ?_⟩
    · refine hE _ _ ?_ u1 R1
      rw [e, List.drop_eq_nil_of_le hl]
      rfl
    · have hd : l.drop (i0 + i) = b :: l.drop (i0 + i + 1) := by
        obtain ⟨h, e2⟩ := List.getElem?_eq_some_iff.mp hb
        rw [List.drop_eq_getElem_cons h, e2]
      rw [hd, rnum_step] at e
      refine ⟨_, rfl, _, rfl, _, _, rfl, rfl, (by show (0 : Int) < 128; decide), _, rfl, _, _, rfl, rfl, .inl ⟨by show -(2 ^ 64) < b % 128; omega, by show b % 128 < 2 ^ 64; omega⟩, ?_⟩
      refine ⟨_, _, rfl, rfl, _, rfl, _, _, rfl, rfl, _, rfl, brD (fun c => ?_) (fun c => ?_)⟩
      · rw [if_pos c] at e
        have fin : ¬ (b = 0 ∧ decide (i = 0) = false) → Q (.int (t + b % 128 * 128 ^ i)) H2 := fun n => by
          rw [if_neg n] at e
          have e3 : t + b % 128 * 128 ^ i = t + 128 ^ i * (b % 128) := by rw [Int.mul_comm]
          rw [e3]
          refine hQ _ (1 + i) _ e (u1.trans u2) ?_
          rw [Nat.add_comm 1 i, ← Nat.add_assoc]
          exact R2
        refine ⟨_, rfl, rfl, _, rfl, brD (fun c0 => ?_) (fun c0 => ?_)⟩
        · rw [int_inj] at c0
          refine ⟨_, rfl, _, _, rfl, rfl, _, rfl, brD (fun ci => ?_) (fun ci => ?_)⟩
          · have hi0 : i ≠ 0 := by omega
            refine hE _ _ ?_ (u1.trans u2) R2
            rw [e, if_pos ⟨c0, by simp [hi0]⟩]
            rfl
          · have hi0 : i = 0 := by omega
            exact ⟨_, rfl, fin fun z => by simp [hi0] at z⟩
        · rw [int_inj] at c0
          exact ⟨_, rfl, fin fun z => c0 z.1⟩
      · rw [if_neg c] at e
        refine ⟨_, rfl, _, _, rfl, rfl, .inr ⟨by decide, by decide⟩, t + b % 128 * 128 ^ i, some (.int (0 + (i : Int))), some (.int b), ?_, u1.trans u2, R2, ?_⟩
        · have e4 : (128 : Int) ^ (i + 1) = 128 ^ i * 128 := Int.pow_succ 128 i
          rw [e4]
          rfl
        · have e5 : 60 - (i + 1) = g := by omega
          have e6 : (decide (i + 1 = 0)) = false := by simp
          rw [e5, e6, e, Option.map_map]
          congr 1
          funext z
          show (t + 128 ^ i * (b % 128 + 128 * z.1), z.2 + 1 + i) = (t + b % 128 * 128 ^ i + 128 ^ (i + 1) * z.1, z.2 + (i + 1))
          rw [Int.mul_add, Int.pow_succ, Int.mul_comm (128 ^ i) (b % 128), Int.mul_assoc, Int.add_assoc]
          congr 1
          omega
  · rintro σ H1 ⟨t, z1, z2, rfl, u1, R1, e⟩
    refine hE _ _ ?_ u1 R1
    rw [e]
    rfl
end

def TmI {α : Type} (f : Nat → Option (α × Nat)) (c i0 k : Nat) (ds : List α) (i : Nat) : Prop := times f c i0 = (times f (c - k) i).map fun r => (ds ++ r.1, r.2)
section
variable {α : Type} {f : Nat → Option (α × Nat)} {c i0 k i j : Nat} {ds : List α} {a : α}
theorem TmI.new : TmI f c i0 0 [] i0 := by
  unfold TmI
  cases h : times f c i0 <;> simp [h]
theorem TmI.no (h : TmI f c i0 k ds i) (hk : k < c) (e : f i = none) : times f c i0 = none := by
  unfold TmI at h
  obtain ⟨n, hn⟩ : ∃ n, c - k = n + 1 := ⟨c - k - 1, by omega⟩
  rw [h, hn, times, e]
  rfl
theorem TmI.go (h : TmI f c i0 k ds i) (hk : k < c) (e : f i = some (a, j)) : TmI f c i0 (k + 1) (ds ++ [a]) j := by
  unfold TmI at h ⊢
  obtain ⟨n, hn⟩ : ∃ n, c - k = n + 1 := ⟨c - k - 1, by omega⟩
  have hn2 : c - (k + 1) = n := by omega
  rw [h, hn, hn2, times, e]
  simp only [Option.bind_some]
  cases times f n j <;> simp
theorem TmI.fin (h : TmI f c i0 c ds i) : times f c i0 = some (ds, i) := by
  unfold TmI at h
  rw [h, Nat.sub_self, times]
  simp
end
structure RdIn (K : PySem.W.Frag) (C : Addr) (O : List Addr) (H : Hp) (p : Addr) (l : List Int) (i : Nat) : Prop where
  at' : RdAt K C O H p l i
  ow : Own O H
  ln : l.length ≤ 6000000
section
variable {K : PySem.W.Frag} {C p t : Addr} {O : List Addr} {H H' : Hp} {l : List Int} {i j : Nat} {m : Str} {o : HO}
theorem RdAt.ne (h : RdAt K C O H p l i) : H p ≠ none := by
  obtain ⟨_, dx, a, h1, _⟩ := h
  exact some_ne h1
theorem RdAt.same (h : RdAt K C O H p l i) (s : Same H H') : RdAt K C O H' p l i := by
  obtain ⟨h0, dx, a, h1, h2⟩ := h
  exact ⟨h0, dx, a, s _ _ h1, sql_le (Same.wo s) h2⟩
theorem RdIn.up (h : RdIn K C O H p l i) (u : Up [p] H H') (r : RdAt K C O H' p l j) : RdIn K C O H' p l j :=
  ⟨r, h.ow.up u fun a ha => by simp at ha; rw [ha]; exact r.ne, h.ln⟩
theorem RdIn.same (h : RdIn K C O H p l i) (s : Same H H') : RdIn K C O H' p l i := h.up (Up.of s) (h.at'.same s)
theorem RdIn.grow (h : RdIn K C O H p l i) (ht : H t = none) : RdIn K C (t :: O) (upd H t o) p l i := by
  have s := same_upd (o := o) ht
  obtain ⟨h0, dx, a, h1, h2⟩ := h.at'
  refine ⟨⟨List.mem_cons_of_mem _ h0, dx, a, s _ _ h1, sql_le (wo_new ht) h2⟩, (h.ow.le s).cons (some_ne upd_same), h.ln⟩
theorem RdIn.shrink (h : RdIn K C (t :: O) H p l i) (hp : p ∈ O) : RdIn K C O H p l i := by
  obtain ⟨⟨h0, dx, a, h1, h2⟩, h3, h4⟩ := h
  exact ⟨⟨hp, dx, a, h1, sql_le wo_cons_le h2⟩, fun b hb => h3 b (List.mem_cons_of_mem _ hb), h4⟩
theorem RdIn.put (h : RdIn K C O H p l i) (ht : t ∈ O) (n : t ≠ p) : RdIn K C O (upd H t o) p l i := by
  obtain ⟨⟨h0, dx, a, h1, h2⟩, h3, h4⟩ := h
  refine ⟨⟨h0, dx, a, by rw [upd_ne (Ne.symm n)]; exact h1, by rw [wo_upd_in ht]; exact h2⟩, h3.up (S := [t]) (Up.put (by simp)) (by simp [upd_same]), h4⟩
theorem RdAt.call (h : RdAt K C O H p l i) (h1 : m ≠ "data") (h2 : m ≠ "at") : ∃ dx fs, H p = some (.ins C dx fs) ∧ fs.lookup m = none := by
  obtain ⟨_, dx, a, e, _⟩ := h
  exact ⟨dx, _, e, F2_no h2 h1⟩
end
def spRd {α : Type} (K : PySem.W.Frag) (C CD : Addr) (f : List Int → Nat → Option (α × Nat)) (g : α → PyData) : Sp := fun vs H Q E => ∃ (O : List Addr) (p : Addr) (l : List Int) (i : Nat), vs = [.ref p] ∧ RdIn K C O H p l i ∧
  (∀ H' j, f l i = none → Up [p] H H' → RdIn K C O H' p l j → E (.ref CD) none H') ∧ (∀ v d j H', f l i = some (d, j) → Up [p] H H' → RdIn K C O H' p l j → Rp K (wo H' O) v (g d) → Q v H')
def spRCh (K : PySem.W.Frag) (C CD : Addr) : Sp := fun vs H Q E => ∃ (O : List Addr) (p : Addr) (l : List Int) (i : Nat), vs = [.ref p, .int 2] ∧ RdIn K C O H p l i ∧
  (∀ H' j, chAt l i = none → Up [p] H H' → RdIn K C O H' p l j → E (.ref CD) none H') ∧ (∀ (b : Int) H', chAt l i = some (decide (b = 1), i + 1) → Up [p] H H' → RdIn K C O H' p l (i + 1) → Q (.int b) H')
def spREnd (K : PySem.W.Frag) (C CD : Addr) : Sp := fun vs H Q E => ∃ (O : List Addr) (p : Addr) (l : List Int) (i : Nat), vs = [.ref p] ∧ RdIn K C O H p l i ∧ (i < l.length → E (.ref CD) none H) ∧ (l.length ≤ i → Q .non H)
def natD (n : Nat) : PyData := .int (n : Int)
def chD (c : Nat) : PyData := .str (SX.S [c])
def txD (t : List Nat) : PyData := .str (SX.S t)
def msD (ms : List Mk) : PyData := .list (ms.map mkD)
def tsD (ts : List Tr) : PyData := .list (ts.map trD)
theorem numAt_some {l : List Int} {i n : Nat} {v : Int} (h : rnum 60 true (l.drop i) = some (v, n)) : numAt l i = some (v.toNat, i + n) ∧ ((v.toNat : Nat) : Int) = v := by
  unfold numAt
  rw [h]
  have := (rnum_nn h).1
  exact ⟨rfl, by omega⟩
theorem numAt_none {l : List Int} {i : Nat} (h : rnum 60 true (l.drop i) = none) : numAt l i = none := by
  unfold numAt
  rw [h]
  rfl
theorem numX {K : PySem.W.Frag} {C CD : Addr} {vs : List V} {H : Hp} {Q : VK} {E : XK} (h : spRd K C CD numAt natD vs H Q E) : spRNum K C CD vs H Q E := by
  obtain ⟨O, p, l, i, rfl, h1, h2, h3⟩ := h
  refine ⟨O, p, l, i, rfl, h1.at', fun H' j e u r => h2 _ j (numAt_none e) u (h1.up u r), fun v n H' e u r => ?_⟩
  obtain ⟨e1, e2⟩ := numAt_some e
  refine h3 _ _ _ _ e1 u (h1.up u r) ?_
  rw [← e2]
  exact .int _
theorem byteX {K : PySem.W.Frag} {C CD : Addr} {H : Hp} {Q : VK} {E : XK} {O : List Addr} {p : Addr} {l : List Int} {i : Nat} (h : RdIn K C O H p l i) (h1 : l[i]? = none → E (.ref CD) none H) (h2 : ∀ b H', l[i]? = some b → Up [p] H H' → RdIn K C O H' p l (i + 1) → Q (.int b) H') : spRByte K C CD [.ref p] H Q E :=
  ⟨O, p, l, i, rfl, h.at', fun z => h1 (List.getElem?_eq_none z), fun b H' e u r => h2 b H' e u (h.up u r)⟩
section
variable {P : Program} {w : World} {K : PySem.W.Frag} {mg : Str → Option Value} {base : Heap} {C CD : Addr}
theorem ok_Reader_read_choice {f : Addr} {fd : FuncData} (F : Fun K "read_choice" "Reader.read_choice" s_Reader_read_choice f fd) (T : Txt K mg) (T_Reader : TReader K C) (X_DamagedPacket : ExF K mg "DamagedPacket" CD)
    (M_read_byte : GM P w K mg base (L2.CX P w) C "read_byte" 1 ["self"] (spRByte K C CD)) : FnOk P w K mg base (L2.CX P w) 2 f fd ["self", "count"] (spRCh K C CD) := by
  refine F.okX sc_Reader_read_choice (fun vs H Q E h => ?_) (fun cdv A outer s H vs Q E hr h => ?_)
  · obtain ⟨_, _, _, _, rfl, _⟩ := h
    rfl
  obtain ⟨O, p, l, i, rfl, hR, hE, hQ⟩ := h
  refine ⟨_, (pss_cons (ps_set (i := 2) sc_Reader_read_choice.nd rfl (Or.inl rfl) (pe_gmS0 (pv 0) T_Reader.cl M_read_byte hr (takes_of rfl rfl rfl rfl)))
  (pss_cons (ps_if (pt_cmpR op_ge (pv 2) (pv 1) (nomark _)) (pss_one (ps_raise rfl (takes_of rfl rfl rfl rfl) (pmk_own PySem.F.excBase_ValueError X_DamagedPacket.x X_DamagedPacket.g X_DamagedPacket.k (raises_own X_DamagedPacket.b X_DamagedPacket.t) rfl))) pss_nil)
  (pss_one (ps_ret (pv 2))))), ?_⟩
  obtain ⟨_, dx, a, h1, _⟩ := id hR.at'
  refine ⟨_, rfl, _, dx, _, rfl, h1, F2_no (by decide +kernel) (by decide +kernel), O, p, l, i, rfl, hR.at', fun e => ?_, fun b H' e u r => ?_⟩
  · refine hE _ _ ?_ Up.rfl' hR
    unfold chAt
    rw [List.getElem?_eq_none e]
    rfl
  · replace r := hR.up u r
    refine ⟨_, rfl, _, rfl, _, _, rfl, rfl, _, rfl, brD (fun c => ?_) (fun c => ?_)⟩
    · refine hE _ _ ?_ u r
      unfold chAt
      rw [e]
      simp only [Option.bind_some]
      rw [if_pos c]
    · refine ⟨_, rfl, hQ b _ ?_ u r⟩
      unfold chAt
      rw [e]
      simp only [Option.bind_some]
      rw [if_neg c]
theorem ok_Reader_end {f : Addr} {fd : FuncData} (F : Fun K "end" "Reader.end" s_Reader_end f fd) (T : Txt K mg) (T_Reader : TReader K C) (X_DamagedPacket : ExF K mg "DamagedPacket" CD) : FnOk P w K mg base (L2.CX P w) 1 f fd ["self"] (spREnd K C CD) := by
  refine F.okX sc_Reader_end (fun vs H Q E h => ?_) (fun cdv A outer s H vs Q E hr h => ?_)
  · obtain ⟨_, _, _, _, rfl, _⟩ := h
    rfl
  obtain ⟨O, p, l, i, rfl, hR, hE, hQ⟩ := h
  refine ⟨_, (pss_one (ps_if (pt_cmpR op_lt (pe_fld (pv 0) rfl) (pe_callB call_len_seq (by rfl) T.b_len bt_len (pa_cons (pe_fld (pv 0) rfl) pa_nil)) (nomark _)) (pss_one (ps_raise rfl (takes_of rfl rfl rfl rfl) (pmk_own PySem.F.excBase_ValueError X_DamagedPacket.x X_DamagedPacket.g X_DamagedPacket.k (raises_own X_DamagedPacket.b X_DamagedPacket.t) rfl))) pss_nil)), ?_⟩
  obtain ⟨hp, dx, a, h1, h2⟩ := id hR.at'
  have h3 := sql_le (wo_le _ _) h2
  refine ⟨_, rfl, p, C, dx, _, _, rfl, h1, T_Reader.cl, T_Reader.n_at, F2_b, _, rfl, p, C, dx, _, _, rfl, h1, T_Reader.cl, T_Reader.n_data, F2_a nda, a, _, rfl, .inl h3, _, _, rfl, rfl, _, rfl, brD (fun e => ?_) (fun e => ?_)⟩
  · rw [List.length_map] at e
    exact hE (by omega)
  · rw [List.length_map] at e
    exact hQ (by omega)
theorem ok_Reader_read_count {f : Addr} {fd : FuncData} (F : Fun K "read_count" "Reader.read_count" s_Reader_read_count f fd) (T : Txt K mg) (T_Reader : TReader K C) (X_DamagedPacket : ExF K mg "DamagedPacket" CD)
    (M_read_number : GM P w K mg base (L2.CX P w) C "read_number" 2 ["self"] (spRd K C CD numAt natD)) : FnOk P w K mg base (L2.CX P w) 3 f fd ["self"] (spRd K C CD cntAt natD) := by
  refine F.okX sc_Reader_read_count (fun vs H Q E h => ?_) (fun cdv A outer s H vs Q E hr h => ?_)
  · obtain ⟨_, _, _, _, rfl, _⟩ := h
    rfl
  obtain ⟨O, p, l, i, rfl, hR, hE, hQ⟩ := h
  refine ⟨_, (pss_cons (ps_set (i := 1) sc_Reader_read_count.nd rfl (Or.inl rfl) (pe_gmS0 (pv 0) T_Reader.cl M_read_number hr (takes_of rfl rfl rfl rfl)))
  (pss_cons (ps_if (pt_cmpR op_gt (pv 1) (pe_op op_sub (pe_callB call_len_seq (by rfl) T.b_len bt_len (pa_cons (pe_fld (pv 0) rfl) pa_nil)) (pe_fld (pv 0) rfl)) (nomark _)) (pss_one (ps_raise rfl (takes_of rfl rfl rfl rfl) (pmk_own PySem.F.excBase_ValueError X_DamagedPacket.x X_DamagedPacket.g X_DamagedPacket.k (raises_own X_DamagedPacket.b X_DamagedPacket.t) rfl))) pss_nil)
  (pss_one (ps_ret (pv 1))))), ?_⟩
  obtain ⟨_, dx, a, h1, _⟩ := id hR.at'
  refine ⟨_, rfl, _, dx, _, rfl, h1, F2_no (by decide +kernel) (by decide +kernel), O, p, l, i, rfl, hR, fun H' j e u r => ?_, fun v n j H' e u r rp => ?_⟩
  · refine hE _ _ ?_ u r
    unfold cntAt
    rw [e]
    rfl
  · cases rp.int_inv
    have hj := (numAt_le e).2
    obtain ⟨hp, dx2, a2, g1, g2⟩ := id r.at'
    have g3 := sql_le (wo_le _ _) g2
    refine ⟨_, rfl, _, rfl, p, C, dx2, _, _, rfl, g1, T_Reader.cl, T_Reader.n_data, F2_a nda, a2, _, rfl, .inl g3, _, rfl, p, C, dx2, _, _, rfl, g1, T_Reader.cl, T_Reader.n_at, F2_b, _, _, rfl, rfl, _, _, rfl, rfl, _, rfl, brD (fun c => ?_) (fun c => ?_)⟩
    · rw [List.length_map] at c
      refine hE _ _ ?_ u r
      unfold cntAt
      rw [e]
      simp only [Option.bind_some]
      rw [if_pos (by omega)]
    · rw [List.length_map] at c
      refine ⟨_, rfl, hQ _ n j _ ?_ u r (.int _)⟩
      unfold cntAt
      rw [e]
      simp only [Option.bind_some]
      rw [if_neg (by omega)]
end
section
variable {K : PySem.W.Frag} {O S : List Addr} {D : Addr} {ds : List PyData} {acc : List V} {H H' H0 : Hp} {o : HO}
theorem Acc.up (h : Acc K O D ds acc H) (u : Up S H H') (hs : ∀ a ∈ S, a ∈ O) (n : D ∉ S) : Acc K O D ds acc H' :=
  ⟨h.own, u _ _ n h.is, h.it.le (Up.wo (u.mono hs))⟩
theorem Acc.out (h : Acc K (D :: O) D ds acc H) (n : D ∉ O) : SqL K (wo H O) D acc ∧ RpAll K (wo H O) acc ds := ⟨SqL.of (by rw [wo_out n]; exact h.is), h.it.le wo_cons_le⟩
theorem Up.putN (u : Up S H0 H) (hD : H0 D = none) : Up S H0 (upd H D o) := fun a x n e => by
  rw [upd_ne (ne_of_none e hD)]
  exact u _ _ n e
end
theorem times_len {α : Type} {f : Nat → Option (α × Nat)} : ∀ {c i j : Nat} {ds : List α}, times f c i = some (ds, j) → ds.length = c
  | 0, i, j, ds, h => by
    simp [times] at h
    rw [h.1]
    rfl
  | c + 1, i, j, ds, h => by
    simp only [times, Option.bind_eq_some_iff] at h
    obtain ⟨a, h1, r, h2, h3⟩ := h
    simp at h3
    rw [← h3.1, List.length_cons, times_len (ds := r.1) (j := r.2) h2]
theorem cntAt_some {l : List Int} {i n j : Nat} (h : cntAt l i = some (n, j)) : n ≤ l.length ∧ j ≤ l.length ∧ numAt l i = some (n, j) ∧ n ≤ l.length - j := by
  unfold cntAt at h
  cases e : numAt l i with
  | none => rw [e] at h; cases h
  | some z =>
    rw [e] at h
    simp only [Option.bind_some] at h
    split at h
    · cases h
    · simp only [Option.some.injEq] at h
      subst h
      have := numAt_le e
      exact ⟨by omega, this.2, rfl, by omega⟩
section
variable {α : Type} {K : PySem.W.Frag} {C CD p D : Addr} {O : List Addr} {l : List Int} {f : List Int → Nat → Option (α × Nat)} {gd : α → PyData} {c j0 : Nat} {g : TG} {te : TE} {vs : List Nat} {σ : L2.St} {H H1 : Hp} {Qd : Hp → Prop} {E : XK} {M : Str}
theorem rd_range (hR : RdIn K C O H1 p l j0) (hD : H1 D = none) (u : Up [p] H H1) (hc : c ≤ 6000000) (m1 : M ≠ "data") (m2 : M ≠ "at")
    (hE : ∀ H' j, times (f l) c j0 = none → Up [p] H H' → RdIn K C O H' p l j → E (.ref CD) none H')
    (hQ : ∀ H' ds j acc, times (f l) c j0 = some (ds, j) → Up [p] H H' → RdIn K C O H' p l j → D ∉ O → H D = none → H' D = some (.lst acc) → RpAll K (wo H' O) acc (ds.map gd) → Qd H')
    (hs : ∀ (k : Nat) (H' : Hp) (R : V → Hp → Prop) (dx : Addr) (fs : List (Str × V)), H' p = some (.ins C dx fs) → fs.lookup M = none → spRd K C CD f gd [.ref p] H' R E → g (.int (0 + (k : Int))) (wipe σ vs) H' fun σ2 H2 => wipe σ2 vs = wipe σ vs ∧ te σ2 H2 R) :
    ∃ W : Nat → Nat → Hp → Prop, (∃ m, W 0 m (upd H1 D (.lst []))) ∧ ∀ i m H, W i m H →
      ((Itr 0 c).stop i H ∧ Qd H) ∨ ((Itr 0 c).go i H ∧ ∃ Nx : Hp → Prop, (∀ H', Nx H' → ∃ m', m' < m ∧ W (i + 1) m' H') ∧ ∀ x H', (Itr 0 c).yld i H x H' → g x (wipe σ vs) H' fun σ2 H2 => wipe σ2 vs = wipe σ vs ∧ tYes σ2 H2 fun b H3 =>
        if b = true then te σ2 H3 fun y H4 => ∃ acc, H4 D = some (.lst acc) ∧ acc.length < sizeLine ∧ Nx (upd H4 D (.lst (acc ++ [y]))) else Nx H3) := by
  have pO : p ∈ O := hR.at'.op
  have nO := hR.ow.out hD
  have nP : D ≠ p := fun z => nO (z ▸ pO)
  have hD0 : H D = none := u.back (by simp only [List.mem_singleton, forall_eq]; exact hR.at'.ne) hD
  refine lc_range (lo := 0) (n := c) (fun k H' => ∃ ds acc j, TmI (f l) c j0 k ds j ∧ ds.length = k ∧ Up [p] H H' ∧ RdIn K C (D :: O) H' p l j ∧ Acc K (D :: O) D (ds.map gd) acc H') ⟨[], [], j0, TmI.new, rfl, u.putN hD0, hR.grow hD, Acc.new (by simp)⟩ ?_ ?_
  · rintro k H2 hk ⟨ds, acc, j, t2, l2, u2, R2, A2⟩
    obtain ⟨dx, fs, e1, e2⟩ := R2.at'.call (m := M) m1 m2
    refine hs k H2 (fun y H4 => ∃ acc, H4 D = some (.lst acc) ∧ acc.length < sizeLine ∧ _) dx fs e1 e2 ⟨D :: O, p, l, j, rfl, R2, fun H3 j3 e u3 R3 => hE H3 j3 (t2.no hk e) (u2.trans u3) (R3.shrink pO), fun v d j3 H3 e u3 R3 rv => ?_⟩
    have A3 := A2.up u3 (fun a ha => by simp at ha; rw [ha]; exact List.mem_cons_of_mem _ pO) (by simpa using nP)
    have al := A3.len
    rw [List.length_map] at al
    refine ⟨acc, A3.is, szl _ (by omega), ds ++ [d], acc ++ [v], j3, t2.go hk e, by simp [l2], (u2.trans u3).putN hD0, R3.put (by simp) nP, ?_⟩
    rw [List.map_append]
    exact A3.push rv
  · rintro H2 ⟨ds, acc, j, t2, l2, u2, R2, A2⟩
    exact hQ H2 ds j acc t2.fin u2 (R2.shrink pO) nO hD0 A2.is (A2.out nO).2
end
theorem rp_strs {K : PySem.W.Frag} {H : Hp} : ∀ {vs : List V} {t : List Nat}, RpAll K H vs (t.map chD) → vs = (t.map fun c => SX.S [c]).map V.str
  | _, [], h => by simpa using h.nil_inv
  | _, c :: t, h => by
    obtain ⟨x, xs, rfl, h1, h2⟩ := h.cons_inv
    rw [show x = .str (SX.S [c]) from h1.str_inv, rp_strs h2]
    rfl
theorem flat_ones : ∀ t : List Nat, (t.map fun c => [c]).flatten = t
  | [] => rfl
  | c :: t => by simp [flat_ones t]
theorem join_chars (t : List Nat) : Txt.join (SX.S []) (t.map fun c => SX.S [c]) = SX.S t := by
  have := join_flat (t.map fun c => [c])
  rw [List.map_map, flat_ones] at this
  exact this
theorem sum_chars (t : List Nat) : ((t.map fun c => SX.S [c]).map (·.length)).sum = t.length := by
  have := sum_len (t.map fun c => [c])
  rw [List.map_map, List.map_map, flat_ones] at this
  rw [List.map_map]
  exact this
theorem chain_ii {i j k : Int} {σ : L2.St} {H : Hp} {Q : VK} (h : Q (.bl (decide (i ≤ j ∧ j < k))) H) : if decide (i ≤ j) = true then tC (.int k) σ H (fun w' H4 => rI0 (fun a b => .bl (decide (a < b))) (.int j) w' H4 Q) else Q (.bl false) H := by
  by_cases c : i ≤ j
  · rw [if_pos (decide_eq_true c)]
    refine ⟨_, _, rfl, rfl, ?_⟩
    simpa [c] using h
  · rw [if_neg (by simp [c])]
    simpa [c] using h
def sB : Str := PySem.Str.ofString " !\"#$"
def sA : Str := PySem.Str.ofString "&'()*+,-./0123456789:;<=>?@ABCDEFGHIJKLMNOPQRSTUVWXYZ[\\]^_`abcdefghijklmnopqrstuvwxyz{|}~"
theorem sB_at : ∀ c : Nat, c < 5 → sB.cps.toList[c]? = some (c + 32) := by decide +kernel
theorem sA_at : ∀ c : Nat, c < 89 → sA.cps.toList[c]? = some (c + 38) := by decide +kernel
section
variable {P : Program} {w : World} {K : PySem.W.Frag} {mg : Str → Option Value} {base : Heap} {C CD : Addr}
theorem ok_Reader_read_character {f : Addr} {fd : FuncData} (F : Fun K "read_character" "Reader.read_character" s_Reader_read_character f fd) (T : Txt K mg) (T_Reader : TReader K C) (X_DamagedPacket : ExF K mg "DamagedPacket" CD)
    (M_read_number : GM P w K mg base (L2.CX P w) C "read_number" 2 ["self"] (spRd K C CD numAt natD)) : FnOk P w K mg base (L2.CX P w) 3 f fd ["self"] (spRd K C CD charAt chD) := by
  refine F.okX sc_Reader_read_character (fun vs H Q E h => ?_) (fun cdv A outer s H vs Q E hr h => ?_)
  · obtain ⟨_, _, _, _, rfl, _⟩ := h
    rfl
  obtain ⟨O, p, l, i, rfl, hR, hE, hQ⟩ := h
  refine ⟨_, (pss_cons (ps_set (i := 1) sc_Reader_read_character.nd rfl (Or.inl rfl) (pe_gmS0 (pv 0) T_Reader.cl M_read_number hr (takes_of rfl rfl rfl rfl)))
  (pss_cons (ps_if (pt_cmpR op_eq (pv 1) pe_int (nomark _)) (pss_one (ps_ret pe_str)) pss_nil)
  (pss_cons (ps_if (pt_chain op_le op_lt pe_int (pv 1) pe_int) (pss_one (ps_ret (pe_ix ix_str (pe_gs T.c_BEFORE_PERCENT rfl) (pe_op op_sub (pv 1) pe_int) (fun _ _ => rfl)))) pss_nil)
  (pss_cons (ps_if (pt_chain op_le op_lt pe_int (pv 1) pe_int) (pss_one (ps_ret (pe_ix ix_str (pe_gs T.c_AFTER_PERCENT rfl) (pe_op op_sub (pv 1) pe_int) (fun _ _ => rfl)))) pss_nil)
  (pss_one (ps_raise rfl (takes_of rfl rfl rfl rfl) (pmk_own PySem.F.excBase_ValueError X_DamagedPacket.x X_DamagedPacket.g X_DamagedPacket.k (raises_own X_DamagedPacket.b X_DamagedPacket.t) rfl))))))), ?_⟩
  obtain ⟨_, dx, a, h1, _⟩ := id hR.at'
  refine ⟨_, rfl, _, dx, _, rfl, h1, F2_no (by decide +kernel) (by decide +kernel), O, p, l, i, rfl, hR, fun H' j e u r => ?_, fun v n j H' e u r rp => ?_⟩
  · refine hE _ _ ?_ u r
    unfold charAt
    rw [e]
    rfl
  · cases rp.int_inv
    have yes : okC n = true → charAt l i = some (n, j) := fun c => by
      unfold charAt
      rw [e]
      simp [c]
    refine ⟨_, rfl, rfl, _, rfl, brD (fun c => ?_) (fun c => ?_)⟩
    · rw [int_inj] at c
      have c' : n = 10 := by omega
      subst c'
      exact hQ _ 10 j _ (yes rfl) u r (.str _)
    · rw [int_inj] at c
      refine ⟨_, rfl, _, _, rfl, rfl, _, rfl, chain_ii ⟨_, rfl, brD (fun c1 => ?_) (fun c1 => ?_)⟩⟩
      · obtain ⟨m, rfl⟩ : ∃ m, n = m + 32 := ⟨n - 32, by omega⟩
        have hm : m < 5 := by omega
        have hx : (((m + 32 : Nat) : Int) - 32) = (m : Int) := by omega
        refine ⟨_, rfl, _, _, rfl, rfl, sB, _, m + 32, rfl, rfl, by decide +kernel, ?_, ?_⟩
        · show atI sB.cps.toList (((m + 32 : Nat) : Int) - 32) = _
          rw [hx]
          exact atI_nat (sB_at m hm)
        · exact hQ _ (m + 32) j _ (yes (by simp [okC]; omega)) u r (.str _)
      refine ⟨_, rfl, _, _, rfl, rfl, _, rfl, chain_ii ⟨_, rfl, brD (fun c2 => ?_) (fun c2 => ?_)⟩⟩
      · obtain ⟨m, rfl⟩ : ∃ m, n = m + 38 := ⟨n - 38, by omega⟩
        have hm : m < 89 := by omega
        have hx : (((m + 38 : Nat) : Int) - 38) = (m : Int) := by omega
        refine ⟨_, rfl, _, _, rfl, rfl, sA, _, m + 38, rfl, rfl, by decide +kernel, ?_, ?_⟩
        · show atI sA.cps.toList (((m + 38 : Nat) : Int) - 38) = _
          rw [hx]
          exact atI_nat (sA_at m hm)
        · exact hQ _ (m + 38) j _ (yes (by simp [okC]; omega)) u r (.str _)
      refine hE _ _ ?_ u r
      unfold charAt
      rw [e, Option.bind_some, if_neg]
      simp [okC]
      omega
theorem ok_Reader_read_mark {f : Addr} {fd : FuncData} (F : Fun K "read_mark" "Reader.read_mark" s_Reader_read_mark f fd) (T : Txt K mg) (T_Reader : TReader K C)
    (M_read_number : GM P w K mg base (L2.CX P w) C "read_number" 2 ["self"] (spRd K C CD numAt natD)) : FnOk P w K mg base (L2.CX P w) 3 f fd ["self"] (spRd K C CD mkAt mkD) := by
  refine F.okX sc_Reader_read_mark (fun vs H Q E h => ?_) (fun cdv A outer s H vs Q E hr h => ?_)
  · obtain ⟨_, _, _, _, rfl, _⟩ := h
    rfl
  obtain ⟨O, p, l, i, rfl, hR, hE, hQ⟩ := h
  refine ⟨_, (pss_cons (ps_set (i := 1) sc_Reader_read_mark.nd rfl (Or.inl rfl) (pe_gmS0 (pv 0) T_Reader.cl M_read_number hr (takes_of rfl rfl rfl rfl)))
  (pss_one (ps_ret (pe_tup (pa_cons (pv 1) (pa_cons (pe_gmS0 (pv 0) T_Reader.cl M_read_number hr (takes_of rfl rfl rfl rfl)) pa_nil)))))), ?_⟩
  obtain ⟨_, dx, a, h1, _⟩ := id hR.at'
  refine ⟨_, rfl, _, dx, _, rfl, h1, F2_no (by decide +kernel) (by decide +kernel), O, p, l, i, rfl, hR, fun H' j e u r => ?_, fun v n j H' e u r rp => ?_⟩
  · exact hE _ _ (by unfold mkAt; rw [e]; rfl) u r
  cases rp.int_inv
  obtain ⟨_, dx2, a2, h2, _⟩ := id r.at'
  refine ⟨_, rfl, _, rfl, _, dx2, _, rfl, h2, F2_no (by decide +kernel) (by decide +kernel), O, p, l, j, rfl, r, fun H2 j2 e2 u2 r2 => ?_, fun v n2 j2 H2 e2 u2 r2 rp2 => ?_⟩
  · exact hE _ _ (by unfold mkAt; rw [e]; simp only [Option.bind_some]; rw [e2]; rfl) (u.trans u2) r2
  cases rp2.int_inv
  refine ⟨sz 2 (by decide), fun t ht => ?_⟩
  have st := same_upd (o := .tup [.int (n : Int), .int (n2 : Int)]) ht
  exact hQ _ (n, n2) j2 _ (by unfold mkAt; rw [e]; simp only [Option.bind_some]; rw [e2]; rfl) ((u.trans u2).trans (Up.of st)) (r2.same st) (rp_newT ht (r2.ow.out ht) (.cons (.int _) (.cons (.int _) .nil)))
theorem ok_Reader_read_string {f : Addr} {fd : FuncData} (F : Fun K "read_string" "Reader.read_string" s_Reader_read_string f fd) (T : Txt K mg) (T_Reader : TReader K C)
    (M_read_count : GM P w K mg base (L2.CX P w) C "read_count" 3 ["self"] (spRd K C CD cntAt natD)) (M_read_character : GM P w K mg base (L2.CX P w) C "read_character" 3 ["self"] (spRd K C CD charAt chD)) : FnOk P w K mg base (L2.CX P w) 4 f fd ["self"] (spRd K C CD textAt txD) := by
  refine F.okX sc_Reader_read_string (fun vs H Q E h => ?_) (fun cdv A outer s H vs Q E hr h => ?_)
  · obtain ⟨_, _, _, _, rfl, _⟩ := h
    rfl
  obtain ⟨O, p, l, i, rfl, hR, hE, hQ⟩ := h
  refine ⟨_, (pss_one (ps_ret (pe_join pe_str (pe_lcx (own := [("_", 1)]) (g := (gName 1)) (tt := tYes) rfl rfl (takes_of rfl rfl rfl rfl) rfl sc_Reader_read_string.nd (pi_range1 rfl T.b_range (pa_cons (pe_gmS0 (pv 0) T_Reader.cl M_read_count hr (takes_of rfl rfl rfl rfl)) pa_nil)) (blkOk_by (N := ["self", "_"]) (sc := defScope s_Reader_read_string) (by decide +kernel)) (fun _ _ _ _ _ => (pg_name (i := 1) sc_Reader_read_string.nd rfl (Or.inl rfl))) (fun _ _ _ _ _ => pts_nil) (fun _ _ _ _ _ _ _ tk => (pe_gmS0 (pv 0) T_Reader.cl M_read_character hr tk)))))), ?_⟩
  obtain ⟨_, dx, a, h1, _⟩ := id hR.at'
  refine ⟨⟨_, rfl⟩, _, rfl, _, dx, _, rfl, h1, F2_no (by decide +kernel) (by decide +kernel), O, p, l, i, rfl, hR, fun H' j e u r => ?_, fun v c j H' e u r rp => ?_⟩
  · exact hE _ _ (by unfold textAt; rw [e]; rfl) u r
  cases rp.int_inv
  have hl := r.ln
  have cl := (cntAt_some e).1
  have et : textAt l i = times (charAt l) c j := by unfold textAt; rw [e]; rfl
  refine ⟨(c : Int), rfl, by omega, by omega, fun D hD => rd_range (f := charAt) (gd := chD) (c := c) (M := "read_character") r hD u (by omega) (by decide +kernel) (by decide +kernel) (fun H2 j2 e2 u2 r2 => hE _ _ (et.trans e2) u2 r2) (fun H2 ds j2 acc e2 u2 r2 nO hD0 hDl ra => ?_) fun k H2 R dx fs g1 g2 sp => ⟨rfl, _, rfl, p, dx, fs, rfl, g1, g2, sp⟩⟩
  have dl := times_len e2
  refine ⟨SX.S [], D, ds.map fun c => SX.S [c], rfl, rfl, .inl (by rw [← rp_strs ra]; exact SqL.of hDl), ?_, ?_⟩
  · rw [sum_chars]
    show ds.length + _ * 0 ≤ _
    omega
  · rw [join_chars]
    exact hQ _ ds j2 _ (et.trans e2) u2 r2 (.str _)
end

theorem Rp.up1 {K : PySem.W.Frag} {O : List Addr} {H H' : Hp} {p : Addr} {v : V} {d : PyData} (r : Rp K (wo H O) v d) (u : Up [p] H H') (hp : p ∈ O) : Rp K (wo H' O) v d :=
  r.le (Up.wo (u.mono fun a ha => by simp at ha; rw [ha]; exact hp))
section
variable {P : Program} {w : World} {K : PySem.W.Frag} {mg : Str → Option Value} {base : Heap} {C CD : Addr}
theorem ok_Reader_read_deed {f : Addr} {fd : FuncData} (F : Fun K "read_deed" "Reader.read_deed" s_Reader_read_deed f fd) (T : Txt K mg) (T_Reader : TReader K C)
    (M_read_choice : GM P w K mg base (L2.CX P w) C "read_choice" 2 ["self", "count"] (spRCh K C CD)) (M_read_number : GM P w K mg base (L2.CX P w) C "read_number" 2 ["self"] (spRd K C CD numAt natD)) (M_read_count : GM P w K mg base (L2.CX P w) C "read_count" 3 ["self"] (spRd K C CD cntAt natD))
    (M_read_string : GM P w K mg base (L2.CX P w) C "read_string" 4 ["self"] (spRd K C CD textAt txD)) (M_read_mark : GM P w K mg base (L2.CX P w) C "read_mark" 3 ["self"] (spRd K C CD mkAt mkD)) : FnOk P w K mg base (L2.CX P w) 5 f fd ["self"] (spRd K C CD deedAt ddD) := by
  refine F.okX sc_Reader_read_deed (fun vs H Q E h => ?_) (fun cdv A outer s H vs Q E hr h => ?_)
  · obtain ⟨_, _, _, _, rfl, _⟩ := h
    rfl
  obtain ⟨O, p, l, i, rfl, hR, hE, hQ⟩ := h
  have pO : p ∈ O := hR.at'.op
  refine ⟨_, (Evl.pss_cut (ps_if (pt_cmpR op_eq (pe_gmS (pv 0) T_Reader.cl M_read_choice hr (takes_of rfl rfl rfl rfl) (pa_cons pe_int pa_nil)) pe_int (nomark _)) (pss_one (ps_ret (pe_tup (pa_cons pe_str (pa_cons (pe_gmS0 (pv 0) T_Reader.cl M_read_number hr (takes_of rfl rfl rfl rfl)) pa_nil))))) pss_nil)
  (pss_cons (ps_set (i := 1) sc_Reader_read_deed.nd rfl (Or.inl rfl) (pe_gmS0 (pv 0) T_Reader.cl M_read_string hr (takes_of rfl rfl rfl rfl)))
  (pss_cons (ps_set (i := 2) sc_Reader_read_deed.nd rfl (Or.inl rfl) (pe_callTy call_tuple_of (by rfl) T.b_tuple bt_tuple (pa_cons (pe_lcx (own := [("_", 5)]) (g := (gName 5)) (tt := tYes) rfl rfl (takes_of rfl rfl rfl rfl) rfl sc_Reader_read_deed.nd (pi_range1 rfl T.b_range (pa_cons (pe_gmS0 (pv 0) T_Reader.cl M_read_count hr (takes_of rfl rfl rfl rfl)) pa_nil)) (blkOk_by (N := ["self", "module", "removed", "behind", "number", "_"]) (sc := defScope s_Reader_read_deed) (by decide +kernel)) (fun _ _ _ _ _ => (pg_name (i := 5) sc_Reader_read_deed.nd rfl (Or.inl rfl))) (fun _ _ _ _ _ => pts_nil) (fun _ _ _ _ _ _ _ tk => (pe_gmS0 (pv 0) T_Reader.cl M_read_mark hr tk))) pa_nil)))
  (pss_cons (ps_set (i := 3) sc_Reader_read_deed.nd rfl (Or.inl rfl) pe_non)
  (Evl.pss_cut (ps_if (pt_cmpR op_eq (pe_gmS (pv 0) T_Reader.cl M_read_choice hr (takes_of rfl rfl rfl rfl) (pa_cons pe_int pa_nil)) pe_int (nomark _)) (pss_one (ps_set (i := 3) sc_Reader_read_deed.nd rfl (Or.inl rfl) (pe_gmS0 (pv 0) T_Reader.cl M_read_mark hr (takes_of rfl rfl rfl rfl)))) pss_nil)
  (pss_cons (ps_set (i := 4) sc_Reader_read_deed.nd rfl (Or.inl rfl) (pe_gmS0 (pv 0) T_Reader.cl M_read_number hr (takes_of rfl rfl rfl rfl)))
  (pss_one (ps_ret (pe_tup (pa_cons pe_str (pa_cons (pv 1) (pa_cons (pv 2) (pa_cons (pv 3) (pa_cons (pv 4) (pa_cons (pe_gmS0 (pv 0) T_Reader.cl M_read_string hr (takes_of rfl rfl rfl rfl)) pa_nil))))))))))))))), ?_⟩
  refine ⟨fun σ' H' => σ' = [some (.ref p), none, none, none, none, none] ∧ deedAt l i = chgAt l (i + 1) ∧ Up [p] H H' ∧ RdIn K C O H' p l (i + 1), ?_, ?_⟩
  · obtain ⟨_, dx, a, h1, _⟩ := id hR.at'
    refine ⟨_, rfl, _, dx, _, rfl, h1, F2_no (by decide +kernel) (by decide +kernel), O, p, l, i, rfl, hR, fun H' j e u r => ?_, fun b H' e u r => ?_⟩
    · exact hE _ _ (by unfold deedAt; rw [e]; rfl) u r
    refine ⟨rfl, _, rfl, brD (fun c => ?_) (fun c => ?_)⟩
    · rw [int_inj] at c
      obtain ⟨_, dx2, a2, h2, _⟩ := id r.at'
      have ed : deedAt l i = (numAt l (i + 1)).bind fun n => some (.back n.1, n.2) := by
        unfold deedAt
        rw [e]
        simp [c]
      refine ⟨_, rfl, _, dx2, _, rfl, h2, F2_no (by decide +kernel) (by decide +kernel), O, p, l, i + 1, rfl, r, fun H2 j2 e2 u2 r2 => ?_, fun v n j2 H2 e2 u2 r2 rp2 => ?_⟩
      · exact hE _ _ (by rw [ed, e2]; rfl) (u.trans u2) r2
      cases rp2.int_inv
      refine ⟨sz 2 (by decide), fun t ht => ?_⟩
      have st := same_upd (o := .tup [.str "back", .int (n : Int)]) ht
      exact hQ _ (.back n) j2 _ (by rw [ed, e2]; rfl) ((u.trans u2).trans (Up.of st)) (r2.same st) (rp_newT ht (r2.ow.out ht) (.cons (.str _) (.cons (.int _) .nil)))
    · rw [int_inj] at c
      refine ⟨rfl, ?_, u, r⟩
      unfold deedAt
      rw [e]
      simp [c]
  rintro σ' H1 ⟨rfl, ed, u, r⟩
  unfold chgAt at ed
  obtain ⟨_, dx, a, h1, _⟩ := id r.at'
  refine ⟨_, rfl, _, dx, _, rfl, h1, F2_no (by decide +kernel) (by decide +kernel), O, p, l, i + 1, rfl, r, fun H2 j2 e2 u2 r2 => ?_, fun v mo j1 H2 e2 u2 r2 rp2 => ?_⟩
  · exact hE _ _ (by rw [ed, e2]; rfl) (u.trans u2) r2
  cases rp2.str_inv
  rw [e2, Option.bind_some] at ed
  have u02 := u.trans u2
  obtain ⟨_, dx2, a2, h2, _⟩ := id r2.at'
  refine ⟨_, rfl, _, dx2, _, rfl, h2, F2_no (by decide +kernel) (by decide +kernel), O, p, l, j1, rfl, r2, fun H3 j3 e3 u3 r3 => ?_, fun v c j3 H3 e3 u3 r3 rp3 => ?_⟩
  · exact hE _ _ (by rw [ed, show marksAt l j1 = none by unfold marksAt; rw [e3]; rfl]; rfl) (u02.trans u3) r3
  cases rp3.int_inv
  have hl := r.ln
  have cl := (cntAt_some e3).1
  have em : marksAt l j1 = times (mkAt l) c j3 := by unfold marksAt; rw [e3]; rfl
  refine ⟨(c : Int), rfl, by omega, by omega, fun D hD => rd_range (f := mkAt) (gd := mkD) (c := c) (M := "read_mark") r3 hD (u02.trans u3) (by omega) (by decide +kernel) (by decide +kernel) (fun H4 j4 e4 u4 r4 => hE _ _ (by rw [ed, em, e4]; rfl) u4 r4) (fun H4 rm j4 acc e4 u4 r4 nO hD0 hDl ra => ?_) fun k H2 R dx fs g1 g2 sp => ⟨rfl, _, rfl, p, dx, fs, rfl, g1, g2, sp⟩⟩
  rw [em, e4, Option.bind_some] at ed
  refine ⟨D, acc, rfl, .inl ⟨SqL.of hDl, fun tt htt => ?_⟩⟩
  have R5 := rp_newT htt (r4.ow.out htt) ra
  have s5 := same_upd (o := .tup acc) htt
  have r5 := r4.same s5
  have u5 := u4.trans (Up.of s5)
  generalize upd H4 tt (.tup acc) = H5 at s5 r5 R5 u5 ⊢
  refine ⟨fun σ' H' => ∃ vb be j6, σ' = [some (.ref p), some (.str (SX.S mo)), some (.ref tt), some vb, none, none] ∧ optAt l j4 = some (be, j6) ∧ Up [p] H5 H' ∧ RdIn K C O H' p l j6 ∧ Rp K (wo H' O) vb (optD be), ?_, ?_⟩
  · obtain ⟨_, dx5, a5, h5, _⟩ := id r5.at'
    refine ⟨_, rfl, _, dx5, _, rfl, h5, F2_no (by decide +kernel) (by decide +kernel), O, p, l, j4, rfl, r5, fun H6 j6 e6 u6 r6 => ?_, fun b H6 e6 u6 r6 => ?_⟩
    · exact hE _ _ (by rw [ed, show optAt l j4 = none by unfold optAt; rw [e6]; rfl]; rfl) (u5.trans u6) r6
    refine ⟨rfl, _, rfl, brD (fun c => ?_) (fun c => ?_)⟩
    · rw [int_inj] at c
      have eo : optAt l j4 = (mkAt l (j4 + 1)).bind fun m => some (some m.1, m.2) := by
        unfold optAt
        rw [e6]
        simp [c]
      obtain ⟨_, dx6, a6, h6, _⟩ := id r6.at'
      refine ⟨_, rfl, _, dx6, _, rfl, h6, F2_no (by decide +kernel) (by decide +kernel), O, p, l, j4 + 1, rfl, r6, fun H7 j7 e7 u7 r7 => ?_, fun v m j7 H7 e7 u7 r7 rp7 => ?_⟩
      · exact hE _ _ (by rw [ed, eo, e7]; rfl) (u5.trans (u6.trans u7)) r7
      exact ⟨v, some m, j7, rfl, by rw [eo, e7]; rfl, u6.trans u7, r7, rp7⟩
    · rw [int_inj] at c
      refine ⟨_, none, j4 + 1, rfl, ?_, u6, r6, .non⟩
      unfold optAt
      rw [e6]
      simp [c]
  rintro σ' H6 ⟨vb, be, j6, rfl, eo, u6, r6, rb⟩
  rw [eo, Option.bind_some] at ed
  obtain ⟨_, dx6, a6, h6, _⟩ := id r6.at'
  refine ⟨_, rfl, _, dx6, _, rfl, h6, F2_no (by decide +kernel) (by decide +kernel), O, p, l, j6, rfl, r6, fun H7 j7 e7 u7 r7 => ?_, fun v nu j7 H7 e7 u7 r7 rp7 => ?_⟩
  · exact hE _ _ (by rw [ed, e7]; rfl) (u5.trans (u6.trans u7)) r7
  cases rp7.int_inv
  rw [e7, Option.bind_some] at ed
  obtain ⟨_, dx7, a7, h7, _⟩ := id r7.at'
  refine ⟨_, rfl, _, rfl, _, rfl, _, rfl, _, rfl, _, dx7, _, rfl, h7, F2_no (by decide +kernel) (by decide +kernel), O, p, l, j7, rfl, r7, fun H8 j8 e8 u8 r8 => ?_, fun v tx j8 H8 e8 u8 r8 rp8 => ?_⟩
  · exact hE _ _ (by rw [ed, e8]; rfl) (u5.trans (u6.trans (u7.trans u8))) r8
  cases rp8.str_inv
  rw [e8, Option.bind_some] at ed
  refine ⟨sz 6 (by decide), fun t ht => ?_⟩
  have st := same_upd (o := .tup [.str "change", .str (SX.S mo), .ref tt, vb, .int (nu : Int), .str (SX.S tx)]) ht
  refine hQ _ (.change mo rm be nu tx) j8 _ ed ((u5.trans (u6.trans (u7.trans u8))).trans (Up.of st)) (r8.same st) (rp_newT ht (r8.ow.out ht) (.cons (.str _) (.cons (.str _) (.cons ?_ (.cons ?_ (.cons (.int _) (.cons (.str _) .nil)))))))
  · exact R5.up1 (u6.trans (u7.trans u8)) pO
  · exact rb.up1 (u7.trans u8) pO
theorem ok_Reader_read_triple {f : Addr} {fd : FuncData} (F : Fun K "read_triple" "Reader.read_triple" s_Reader_read_triple f fd) (T : Txt K mg) (T_Reader : TReader K C)
    (M_read_number : GM P w K mg base (L2.CX P w) C "read_number" 2 ["self"] (spRd K C CD numAt natD)) (M_read_deed : GM P w K mg base (L2.CX P w) C "read_deed" 5 ["self"] (spRd K C CD deedAt ddD)) : FnOk P w K mg base (L2.CX P w) 6 f fd ["self"] (spRd K C CD trAt trD) := by
  refine F.okX sc_Reader_read_triple (fun vs H Q E h => ?_) (fun cdv A outer s H vs Q E hr h => ?_)
  · obtain ⟨_, _, _, _, rfl, _⟩ := h
    rfl
  obtain ⟨O, p, l, i, rfl, hR, hE, hQ⟩ := h
  have pO : p ∈ O := hR.at'.op
  refine ⟨_, (pss_cons (ps_set (i := 1) sc_Reader_read_triple.nd rfl (Or.inl rfl) (pe_gmS0 (pv 0) T_Reader.cl M_read_number hr (takes_of rfl rfl rfl rfl)))
  (pss_cons (ps_set (i := 2) sc_Reader_read_triple.nd rfl (Or.inl rfl) (pe_gmS0 (pv 0) T_Reader.cl M_read_number hr (takes_of rfl rfl rfl rfl)))
  (pss_one (ps_ret (pe_tup (pa_cons (pv 1) (pa_cons (pv 2) (pa_cons (pe_gmS0 (pv 0) T_Reader.cl M_read_deed hr (takes_of rfl rfl rfl rfl)) pa_nil)))))))), ?_⟩
  obtain ⟨_, dx, a, h1, _⟩ := id hR.at'
  refine ⟨_, rfl, _, dx, _, rfl, h1, F2_no (by decide +kernel) (by decide +kernel), O, p, l, i, rfl, hR, fun H' j e u r => ?_, fun v n j H' e u r rp => ?_⟩
  · exact hE _ _ (by unfold trAt; rw [e]; rfl) u r
  cases rp.int_inv
  have ed : trAt l i = (numAt l j).bind fun b => (deedAt l b.2).bind fun d => some ((n, b.1, d.1), d.2) := by unfold trAt; rw [e, Option.bind_some]
  obtain ⟨_, dx2, a2, h2, _⟩ := id r.at'
  refine ⟨_, rfl, _, dx2, _, rfl, h2, F2_no (by decide +kernel) (by decide +kernel), O, p, l, j, rfl, r, fun H2 j2 e2 u2 r2 => ?_, fun v n2 j2 H2 e2 u2 r2 rp2 => ?_⟩
  · exact hE _ _ (by rw [ed, e2]; rfl) (u.trans u2) r2
  cases rp2.int_inv
  rw [e2, Option.bind_some] at ed
  obtain ⟨_, dx3, a3, h3, _⟩ := id r2.at'
  refine ⟨_, rfl, _, rfl, _, rfl, _, dx3, _, rfl, h3, F2_no (by decide +kernel) (by decide +kernel), O, p, l, j2, rfl, r2, fun H3 j3 e3 u3 r3 => ?_, fun v d j3 H3 e3 u3 r3 rp3 => ?_⟩
  · exact hE _ _ (by rw [ed, e3]; rfl) ((u.trans u2).trans u3) r3
  rw [e3, Option.bind_some] at ed
  refine ⟨sz 3 (by decide), fun t ht => ?_⟩
  have st := same_upd (o := .tup [.int (n : Int), .int (n2 : Int), v]) ht
  exact hQ _ (n, n2, d) j3 _ ed (((u.trans u2).trans u3).trans (Up.of st)) (r3.same st) (rp_newT ht (r3.ow.out ht) (.cons (.int _) (.cons (.int _) (.cons rp3 .nil))))
theorem ok_Reader_read_triples {f : Addr} {fd : FuncData} (F : Fun K "read_triples" "Reader.read_triples" s_Reader_read_triples f fd) (T : Txt K mg) (T_Reader : TReader K C)
    (M_read_count : GM P w K mg base (L2.CX P w) C "read_count" 3 ["self"] (spRd K C CD cntAt natD)) (M_read_triple : GM P w K mg base (L2.CX P w) C "read_triple" 6 ["self"] (spRd K C CD trAt trD)) : FnOk P w K mg base (L2.CX P w) 7 f fd ["self"] (spRd K C CD trsAt tsD) := by
  refine F.okX sc_Reader_read_triples (fun vs H Q E h => ?_) (fun cdv A outer s H vs Q E hr h => ?_)
  · obtain ⟨_, _, _, _, rfl, _⟩ := h
    rfl
  obtain ⟨O, p, l, i, rfl, hR, hE, hQ⟩ := h
  refine ⟨_, (pss_one (ps_ret (pe_lcx (own := [("_", 1)]) (g := (gName 1)) (tt := tYes) rfl rfl (takes_of rfl rfl rfl rfl) rfl sc_Reader_read_triples.nd (pi_range1 rfl T.b_range (pa_cons (pe_gmS0 (pv 0) T_Reader.cl M_read_count hr (takes_of rfl rfl rfl rfl)) pa_nil)) (blkOk_by (N := ["self", "_"]) (sc := defScope s_Reader_read_triples) (by decide +kernel)) (fun _ _ _ _ _ => (pg_name (i := 1) sc_Reader_read_triples.nd rfl (Or.inl rfl))) (fun _ _ _ _ _ => pts_nil) (fun _ _ _ _ _ _ _ tk => (pe_gmS0 (pv 0) T_Reader.cl M_read_triple hr tk))))), ?_⟩
  obtain ⟨_, dx, a, h1, _⟩ := id hR.at'
  refine ⟨_, rfl, _, dx, _, rfl, h1, F2_no (by decide +kernel) (by decide +kernel), O, p, l, i, rfl, hR, fun H' j e u r => ?_, fun v c j H' e u r rp => ?_⟩
  · exact hE _ _ (by unfold trsAt; rw [e]; rfl) u r
  cases rp.int_inv
  have hl := r.ln
  have cl := (cntAt_some e).1
  have et : trsAt l i = times (trAt l) c j := by unfold trsAt; rw [e]; rfl
  refine ⟨(c : Int), rfl, by omega, by omega, fun D hD => rd_range (f := trAt) (gd := trD) (c := c) (M := "read_triple") r hD u (by omega) (by decide +kernel) (by decide +kernel) (fun H2 j2 e2 u2 r2 => hE _ _ (et.trans e2) u2 r2) (fun H2 ds j2 acc e2 u2 r2 nO hD0 hDl ra => ?_) fun k H2 R dx fs g1 g2 sp => ⟨rfl, _, rfl, p, dx, fs, rfl, g1, g2, sp⟩⟩
  exact hQ _ ds j2 _ (et.trans e2) u2 r2 (.lst (SqL.of (by rw [wo_out nO]; exact hDl)) ra)
theorem ok_Reader_read_packet {f : Addr} {fd : FuncData} (F : Fun K "read_packet" "Reader.read_packet" s_Reader_read_packet f fd) (T : Txt K mg) (T_Reader : TReader K C) (X_DamagedPacket : ExF K mg "DamagedPacket" CD)
    (M_read_byte : GM P w K mg base (L2.CX P w) C "read_byte" 1 ["self"] (spRByte K C CD)) (M_read_triples : GM P w K mg base (L2.CX P w) C "read_triples" 7 ["self"] (spRd K C CD trsAt tsD)) : FnOk P w K mg base (L2.CX P w) 8 f fd ["self"] (spRd K C CD pktAt tsD) := by
  refine F.okX sc_Reader_read_packet (fun vs H Q E h => ?_) (fun cdv A outer s H vs Q E hr h => ?_)
  · obtain ⟨_, _, _, _, rfl, _⟩ := h
    rfl
  obtain ⟨O, p, l, i, rfl, hR, hE, hQ⟩ := h
  refine ⟨_, (pss_cons (ps_if (pt_cmpR op_ne (pe_gmS0 (pv 0) T_Reader.cl M_read_byte hr (takes_of rfl rfl rfl rfl)) pe_int (nomark _)) (pss_one (ps_raise rfl (takes_of rfl rfl rfl rfl) (pmk_own PySem.F.excBase_ValueError X_DamagedPacket.x X_DamagedPacket.g X_DamagedPacket.k (raises_own X_DamagedPacket.b X_DamagedPacket.t) rfl))) pss_nil)
  (pss_one (ps_ret (pe_gmS0 (pv 0) T_Reader.cl M_read_triples hr (takes_of rfl rfl rfl rfl))))), ?_⟩
  obtain ⟨_, dx, a, h1, _⟩ := id hR.at'
  refine ⟨_, rfl, _, dx, _, rfl, h1, F2_no (by decide +kernel) (by decide +kernel), O, p, l, i, rfl, hR.at', fun e => ?_, fun b H' e u r => ?_⟩
  · exact hE _ _ (by unfold pktAt; rw [List.getElem?_eq_none e]; rfl) Up.rfl' hR
  replace r := hR.up u r
  refine ⟨rfl, _, rfl, brN (fun c => ?_) (fun c => ?_)⟩
  · rw [int_inj] at c
    refine hE _ _ ?_ u r
    unfold pktAt
    rw [e, Option.bind_some, if_neg c]
  · rw [int_inj] at c
    have ed : pktAt l i = trsAt l (i + 1) := by
      unfold pktAt
      rw [e, Option.bind_some, if_pos c]
    obtain ⟨_, dx2, a2, h2, _⟩ := id r.at'
    refine ⟨_, rfl, _, dx2, _, rfl, h2, F2_no (by decide +kernel) (by decide +kernel), O, p, l, i + 1, rfl, r, fun H2 j2 e2 u2 r2 => ?_, fun v d j2 H2 e2 u2 r2 rp2 => ?_⟩
    · exact hE _ _ (by rw [ed, e2]) (u.trans u2) r2
    · exact hQ _ d j2 _ (by rw [ed, e2]) (u.trans u2) r2 rp2
end

def spLr {α : Type} (K : PySem.W.Frag) (f : List Int → Nat → Option (α × Nat)) (g : α → PyData) : Sp := fun vs H Q _ => ∃ (O : List Addr) (a : Addr) (l : List Int) (i : Nat), vs = [.ref a, .int (i : Int)] ∧ Own O H ∧ SqL K H a (l.map V.int) ∧ (l.length ≤ 3000000 ∧ ∀ b ∈ l, 0 ≤ b) ∧
  (∀ H', f l i = none → Same H H' → Q .non H') ∧ (∀ t v d j H', f l i = some (d, j) → Same H H' → H' t = some (.tup [v, .int (j : Int)]) → Rp K (wo H' O) v (g d) → Q (.ref t) H')
theorem own0 {H : Hp} : Own [] H := fun _ z => by cases z
theorem chain_ie {i j k : Int} {σ : L2.St} {H : Hp} {Q : VK} (h : Q (.bl (decide (i ≤ j ∧ j ≤ k))) H) : if decide (i ≤ j) = true then tC (.int k) σ H (fun w' H4 => rI0 (fun a b => .bl (decide (a ≤ b))) (.int j) w' H4 Q) else Q (.bl false) H := by
  by_cases c : i ≤ j
  · rw [if_pos (decide_eq_true c)]
    refine ⟨_, _, rfl, rfl, ?_⟩
    simpa [c] using h
  · rw [if_neg (by simp [c])]
    simpa [c] using h
def spSign : Sp := fun vs H Q _ => ∃ n : Nat, vs = [.int (n : Int)] ∧ okC n = true ∧ Q (.str (SX.S [n])) H
section
variable {P : Program} {w : World} {K : PySem.W.Frag} {mg : Str → Option Value} {base : Heap} {C CD : Addr}
theorem ok_law_read_number {f : Addr} {fd : FuncData} (F : Fun K "_law_read_number" "_law_read_number" s_law_read_number f fd) (T : Txt K mg) : FnOk P w K mg base CX0 1 f fd ["data", "at"] (spLr K numAt natD) := by
  refine F.ok sc_law_read_number (fun vs H Q E h => ?_) (fun cdv A outer s H vs Q E hr h => ?_)
  · obtain ⟨_, _, _, _, rfl, _⟩ := h
    rfl
  obtain ⟨O, a, l, i0, rfl, hO, hA, hl, q1, q2⟩ := h
  refine ⟨_, (pss_cons (ps_set (i := 2) sc_law_read_number.nd rfl (Or.inl rfl) pe_int)
  (pss_cons (ps_set (i := 3) sc_law_read_number.nd rfl (Or.inl rfl) pe_int)
  (pss_cons (ps_for PassesOwn.never rfl (pi_range1 rfl T.b_range (pa_cons pe_int pa_nil)) (pg_name (i := 4) sc_law_read_number.nd rfl (Or.inl rfl)) (pss_cons (ps_if (pt_cmpR op_ge (pe_op op_add (pv 1) (pv 4)) (pe_callB call_len_seq (by rfl) T.b_len bt_len (pa_cons (pv 0) pa_nil)) (nomark _)) (pss_one (ps_ret pe_non)) pss_nil)
  (pss_cons (ps_set (i := 2) sc_law_read_number.nd rfl (Or.inl rfl) (pe_op op_add (pv 2) (pe_op op_mul (pe_op op_mod (pe_ix ix_list (pv 0) (pe_op op_add (pv 1) (pv 4)) (fun _ _ => rfl)) pe_int) (pv 3))))
  (pss_cons (ps_set (i := 3) sc_law_read_number.nd rfl (Or.inl rfl) (pe_op op_mul (pv 3) pe_int))
  (pss_one (ps_if (pt_cmpR op_lt (pe_ix ix_list (pv 0) (pe_op op_add (pv 1) (pv 4)) (fun _ _ => rfl)) pe_int (nomark _)) (pss_one (ps_ret (pe_ifExp (PW.pt (pw_and (pt_cmpR op_gt (pv 4) pe_int (nomark _)) (pw_and1 (pt_cmpR op_eq (pe_ix ix_list (pv 0) (pe_op op_add (pv 1) (pv 4)) (fun _ _ => rfl)) pe_int (nomark _))))) pe_non (pe_tup (pa_cons (pv 2) (pa_cons (pe_op op_add (pe_op op_add (pv 1) (pv 4)) pe_int) pa_nil)))))) pss_nil))))))
  (pss_one (ps_ret pe_non))))), ?_⟩
  refine ⟨60, rfl, by decide, by decide, for_range (fun k σ H' => ∃ (t : Int) (z : Option V), σ = [some (.ref a), some (.int (i0 : Int)), some (.int t), some (.int (128 ^ k)), z] ∧ Same H H' ∧
    rnum 60 true (l.drop i0) = (rnum (60 - k) (decide (k = 0)) (l.drop (i0 + k))).map fun z => (t + 128 ^ k * z.1, z.2 + k)) ⟨0, none, rfl, Same.refl _, by rw [Nat.add_zero]; cases h : rnum 60 true (l.drop i0) <;> simp [h]⟩ ?_ ?_⟩
  · rintro k σ H1 hk ⟨t, z, rfl, s1, e⟩
    have hk' : k < 60 := hk
    obtain ⟨g, hg⟩ : ∃ g, 60 - k = g + 1 := ⟨59 - k, by omega⟩
    rw [hg] at e
    have hA1 := sql_le s1 hA
    refine ⟨_, rfl, _, rfl, _, _, rfl, rfl, _, rfl, a, _, rfl, .inl hA1, _, _, rfl, rfl, _, rfl, brD (fun c => ?_) (fun c => ?_)⟩
    · rw [List.length_map] at c
      have hz : l.length ≤ i0 + k := by omega
      refine q1 _ (numAt_none ?_) s1
      rw [e, List.drop_eq_nil_of_le hz]
      rfl
    · rw [List.length_map] at c
      have hz : i0 + k < l.length := by omega
      generalize hb : l[i0 + k] = b at *
      have hb? : l[i0 + k]? = some b := by rw [List.getElem?_eq_getElem hz, hb]
      have hd : l.drop (i0 + k) = b :: l.drop (i0 + k + 1) := by rw [List.drop_eq_getElem_cons hz, hb]
      rw [hd, rnum_step] at e
      have hat : atI (l.map V.int) ((i0 : Int) + (0 + (k : Int))) = some (.int b) := by
        have : (i0 : Int) + (0 + (k : Int)) = ((i0 + k : Nat) : Int) := by omega
        rw [this]
        exact atI_nat (by rw [List.getElem?_map, hb?]; rfl)
      refine ⟨_, rfl, _, rfl, _, rfl, _, rfl, _, _, rfl, rfl, a, _, _, .int b, rfl, rfl, hA1, hat, ?_⟩
      refine ⟨_, _, rfl, rfl, (by show (0 : Int) < 128; decide), _, rfl, _, _, rfl, rfl, .inl ⟨by show -(2 ^ 64) < b % 128; omega, by show b % 128 < 2 ^ 64; omega⟩, _, _, rfl, rfl, ?_⟩
      refine ⟨_, rfl, _, _, rfl, rfl, .inr ⟨by decide, by decide⟩, _, rfl, _, rfl, _, rfl, _, _, rfl, rfl, a, _, _, .int b, rfl, rfl, hA1, hat, _, _, rfl, rfl, _, rfl, brD (fun c2 => ?_) (fun c2 => ?_)⟩
      · rw [if_pos c2] at e
        have fin : ¬ (b = 0 ∧ decide (k = 0) = false) → ∀ tt H2, Same H1 H2 → H2 tt = some (.tup [.int (t + b % 128 * 128 ^ k), .int ((i0 : Int) + (0 + (k : Int)) + 1)]) → Q (.ref tt) H2 := fun n tt H2 s2 ht => by
          rw [if_neg n] at e
          have e3 : t + b % 128 * 128 ^ k = t + 128 ^ k * (b % 128) := by rw [Int.mul_comm]
          obtain ⟨f1, f2⟩ := numAt_some e
          rw [e3] at ht
          refine q2 tt (.int (t + 128 ^ k * (b % 128))) _ _ H2 f1 (s1.trans s2) (ht.trans ?_) (by rw [natD, f2]; exact .int _)
          rw [show ((i0 : Int) + (0 + (k : Int)) + 1) = ((i0 + (1 + k) : Nat) : Int) by omega]
        refine ⟨_, rfl, _, _, rfl, rfl, _, rfl, brD (fun c3 => ?_) (fun c3 => ?_)⟩
        · have hk0 : k ≠ 0 := by omega
          refine ⟨_, rfl, _, rfl, _, rfl, _, _, rfl, rfl, a, _, _, .int b, rfl, rfl, hA1, hat, rfl, _, rfl, brD (fun c4 => ?_) (fun c4 => ?_)⟩
          · rw [int_inj] at c4
            refine q1 _ (numAt_none ?_) s1
            rw [e, if_pos ⟨c4, by simp [hk0]⟩]
            rfl
          · rw [int_inj] at c4
            exact ⟨_, rfl, _, rfl, _, rfl, _, _, rfl, rfl, _, _, rfl, rfl, sz 2 (by decide), fun tt ht => fin (fun z => c4 z.1) tt _ (same_upd ht) upd_same⟩
        · have hk0 : k = 0 := by omega
          refine iteF ⟨_, rfl, _, rfl, _, rfl, _, _, rfl, rfl, _, _, rfl, rfl, sz 2 (by decide), fun tt ht => fin (fun z => by simp [hk0] at z) tt _ (same_upd ht) upd_same⟩
      · rw [if_neg c2] at e
        refine ⟨t + b % 128 * 128 ^ k, some (.int (0 + (k : Int))), ?_, s1, ?_⟩
        · have e4 : (128 : Int) ^ (k + 1) = 128 ^ k * 128 := Int.pow_succ 128 k
          rw [e4]
          rfl
        · have e5 : 60 - (k + 1) = g := by omega
          have e6 : (decide (k + 1 = 0)) = false := by simp
          rw [e5, e6, e, Option.map_map]
          congr 1
          funext z
          show (t + 128 ^ k * (b % 128 + 128 * z.1), z.2 + 1 + k) = (t + b % 128 * 128 ^ k + 128 ^ (k + 1) * z.1, z.2 + (k + 1))
          rw [Int.mul_add, Int.pow_succ, Int.mul_comm (128 ^ k) (b % 128), Int.mul_assoc, Int.add_assoc]
          congr 1
          omega
  · rintro σ H1 ⟨t, z, rfl, s1, e⟩
    exact q1 _ (numAt_none (by rw [e]; rfl)) s1
theorem ok_law_sign {f : Addr} {fd : FuncData} (F : Fun K "_law_sign" "_law_sign" s_law_sign f fd) (T : Txt K mg) : FnOk P w K mg base CX0 1 f fd ["code"] spSign := by
  refine F.ok sc_law_sign (fun vs H Q E h => ?_) (fun cdv A outer s H vs Q E hr h => ?_)
  · obtain ⟨_, rfl, _⟩ := h
    rfl
  obtain ⟨n, rfl, hn, q⟩ := h
  refine ⟨_, (pss_cons (ps_set (i := 1) sc_law_sign.nd rfl (Or.inl rfl) pe_str)
  (pss_cons (ps_set (i := 2) sc_law_sign.nd rfl (Or.inl rfl) pe_str)
  (pss_cons (ps_if (pt_cmpR op_lt (pv 0) pe_int (nomark _)) (pss_one (ps_ret (pe_ifExp (pt_cmpR op_eq (pv 0) pe_int (nomark _)) pe_str (pe_ix ix_str (pv 1) (pe_op op_sub (pv 0) pe_int) (fun _ _ => rfl))))) pss_nil)
  (pss_one (ps_ret (pe_ix ix_str (pv 2) (pe_op op_sub (pv 0) pe_int) (fun _ _ => rfl))))))), ?_⟩
  refine ⟨_, rfl, _, _, rfl, rfl, _, rfl, brD (fun c => ?_) (fun c => ?_)⟩
  · refine ⟨_, rfl, rfl, _, rfl, brD (fun c1 => ?_) (fun c1 => ?_)⟩
    · rw [int_inj] at c1
      have c' : n = 10 := by omega
      subst c'
      exact q
    · rw [int_inj] at c1
      have h3 : 32 ≤ n := by
        simp [okC] at hn
        omega
      obtain ⟨m, rfl⟩ : ∃ m, n = m + 32 := ⟨n - 32, by omega⟩
      have hm : m < 5 := by omega
      have hx : (((m + 32 : Nat) : Int) - 32) = (m : Int) := by omega
      refine ⟨_, rfl, _, rfl, _, _, rfl, rfl, sB, _, m + 32, rfl, rfl, by decide +kernel, ?_, q⟩
      show atI sB.cps.toList (((m + 32 : Nat) : Int) - 32) = _
      rw [hx]
      exact atI_nat (sB_at m hm)
  · have h3 : 38 ≤ n ∧ n < 127 := by
      simp [okC] at hn
      omega
    obtain ⟨m, rfl⟩ : ∃ m, n = m + 38 := ⟨n - 38, by omega⟩
    have hm : m < 89 := by omega
    have hx : (((m + 38 : Nat) : Int) - 38) = (m : Int) := by omega
    refine ⟨_, rfl, _, rfl, _, _, rfl, rfl, sA, _, m + 38, rfl, rfl, by decide +kernel, ?_, q⟩
    show atI sA.cps.toList (((m + 38 : Nat) : Int) - 38) = _
    rw [hx]
    exact atI_nat (sA_at m hm)
theorem ok_law_read_mark {f : Addr} {fd : FuncData} (F : Fun K "_law_read_mark" "_law_read_mark" s_law_read_mark f fd) (T : Txt K mg) (G_law_read_number : GF P w K mg base CX0 "_law_read_number" 1 ["data", "at"] (spLr K numAt natD)) : FnOk P w K mg base CX0 2 f fd ["data", "at"] (spLr K mkAt mkD) := by
  refine F.ok sc_law_read_mark (fun vs H Q E h => ?_) (fun cdv A outer s H vs Q E hr h => ?_)
  · obtain ⟨_, _, _, _, rfl, _⟩ := h
    rfl
  obtain ⟨O, a, l, i, rfl, hO, hA, hl, q1, q2⟩ := h
  refine ⟨_, (pss_cons (ps_set (i := 2) sc_law_read_mark.nd rfl (Or.inl rfl) (pe_cg G_law_read_number hr rfl (pa_cons (pv 0) (pa_cons (pv 1) pa_nil))))
  (pss_cons (ps_set (i := 3) sc_law_read_mark.nd rfl (Or.inl rfl) (pe_ifExp (pt_cmp (pc_isN (pv 2))) pe_non (pe_cg G_law_read_number hr rfl (pa_cons (pv 0) (pa_cons (pe_ix ix_tup (pv 2) pe_int (fun _ _ => rfl)) pa_nil)))))
  (pss_one (ps_ret (pe_ifExp (pt_cmp (pc_isN (pv 3))) pe_non (pe_tup (pa_cons (pe_tup (pa_cons (pe_ix ix_tup (pv 2) pe_int (fun _ _ => rfl)) (pa_cons (pe_ix ix_tup (pv 3) pe_int (fun _ _ => rfl)) pa_nil))) (pa_cons (pe_ix ix_tup (pv 3) pe_int (fun _ _ => rfl)) pa_nil)))))))), ?_⟩
  refine ⟨_, rfl, _, rfl, [], a, l, i, rfl, own0, hA, hl, fun H1 e1 s1 => ?_, fun t1 v1 n1 j1 H1 e1 s1 h1 rp1 => ?_⟩
  · have ed : mkAt l i = none := by unfold mkAt; rw [e1]; rfl
    exact ⟨_, rfl, _, rfl, iteT ⟨_, rfl, _, rfl, iteT (q1 _ ed s1)⟩⟩
  cases rp1.int_inv
  have ed : mkAt l i = (numAt l j1).bind fun b => some ((n1, b.1), b.2) := by unfold mkAt; rw [e1, Option.bind_some]
  refine ⟨_, rfl, _, rfl, iteF ⟨_, rfl, _, rfl, t1, _, 1, _, rfl, rfl, SqT.of h1, rfl, [], a, l, j1, rfl, own0, sql_le s1 hA, hl, fun H2 e2 s2 => ?_, fun t2 v2 n2 j2 H2 e2 s2 h2 rp2 => ?_⟩⟩
  · exact ⟨_, rfl, _, rfl, iteT (q1 _ (by rw [ed, e2]; rfl) (s1.trans s2))⟩
  cases rp2.int_inv
  rw [e2, Option.bind_some] at ed
  refine ⟨_, rfl, _, rfl, iteF ⟨_, rfl, t1, _, 0, _, rfl, rfl, SqT.of (s2 _ _ h1), rfl, _, rfl, t2, _, 0, _, rfl, rfl, SqT.of h2, rfl, sz 2 (by decide), fun x hx => ?_⟩⟩
  have s12 := s1.trans s2
  have rx : Rp K (wo (upd H2 x (.tup [.int (n1 : Int), .int (n2 : Int)])) O) (.ref x) (mkD (n1, n2)) := rp_newT hx ((hO.le s12).out hx) (.cons (.int _) (.cons (.int _) .nil))
  have s3 := same_upd (o := .tup [.int (n1 : Int), .int (n2 : Int)]) hx
  generalize upd H2 x (.tup [.int (n1 : Int), .int (n2 : Int)]) = H3 at s3 rx ⊢
  refine ⟨_, rfl, t2, _, 1, _, rfl, rfl, SqT.of (s3 _ _ h2), rfl, sz 2 (by decide), fun y hy => ?_⟩
  have s4 := same_upd (o := .tup [.ref x, .int (j2 : Int)]) hy
  exact q2 y (.ref x) (n1, n2) j2 _ ed (s1.trans (s2.trans (s3.trans s4))) upd_same (rx.le (Same.wo s4))
theorem ok_law_read_text {f : Addr} {fd : FuncData} (F : Fun K "_law_read_text" "_law_read_text" s_law_read_text f fd) (T : Txt K mg) (G_law_read_number : GF P w K mg base CX0 "_law_read_number" 1 ["data", "at"] (spLr K numAt natD)) (G_law_sign : GF P w K mg base CX0 "_law_sign" 1 ["code"] spSign) : FnOk P w K mg base CX0 2 f fd ["data", "at"] (spLr K textAt txD) := by
  refine F.ok sc_law_read_text (fun vs H Q E h => ?_) (fun cdv A outer s H vs Q E hr h => ?_)
  · obtain ⟨_, _, _, _, rfl, _⟩ := h
    rfl
  obtain ⟨O, a, l, i, rfl, hO, hA, hl, q1, q2⟩ := h
  refine ⟨_, (pss_cons (ps_set (i := 2) sc_law_read_text.nd rfl (Or.inl rfl) (pe_cg G_law_read_number hr rfl (pa_cons (pv 0) (pa_cons (pv 1) pa_nil))))
  (pss_cons (ps_if (PW.pt (pw_or (pt_cmp (pc_isN (pv 2))) (pw_or1 (pt_cmpR op_gt (pe_ix ix_tup (pv 2) pe_int (fun _ _ => rfl)) (pe_op op_sub (pe_callB call_len_seq (by rfl) T.b_len bt_len (pa_cons (pv 0) pa_nil)) (pe_ix ix_tup (pv 2) pe_int (fun _ _ => rfl))) (nomark _))))) (pss_one (ps_ret pe_non)) pss_nil)
  (pss_cons (ps_asg (pv 2) (pg_tup rfl (pgs_cons (pg_name (i := 3) sc_law_read_text.nd rfl (Or.inl rfl)) (pgs_cons (pg_name (i := 1) sc_law_read_text.nd rfl (Or.inl rfl)) pgs_nil))))
  (pss_cons (ps_set (i := 4) sc_law_read_text.nd rfl (Or.inl rfl) pe_str)
  (pss_cons (ps_for PassesOwn.never rfl (pi_range1 rfl T.b_range (pa_cons (pv 3) pa_nil)) (pg_name (i := 5) sc_law_read_text.nd rfl (Or.inl rfl)) (pss_cons (ps_set (i := 2) sc_law_read_text.nd rfl (Or.inl rfl) (pe_cg G_law_read_number hr rfl (pa_cons (pv 0) (pa_cons (pv 1) pa_nil))))
  (pss_cons (ps_if (PW.pt (pw_or (pt_cmp (pc_isN (pv 2))) (pw_or (PW.pt (pw_and (pt_cmpR op_ne (pe_ix ix_tup (pv 2) pe_int (fun _ _ => rfl)) pe_int (nomark _)) (pw_and1 (pt_not (pt_chain op_le op_le pe_int (pe_ix ix_tup (pv 2) pe_int (fun _ _ => rfl)) pe_int))))) (pw_or1 (pt_cmpR op_eq (pe_ix ix_tup (pv 2) pe_int (fun _ _ => rfl)) pe_int (nomark _)))))) (pss_one (ps_ret pe_non)) pss_nil)
  (pss_cons (ps_set (i := 4) sc_law_read_text.nd rfl (Or.inl rfl) (pe_op op_add_str (pv 4) (pe_cg G_law_sign hr rfl (pa_cons (pe_ix ix_tup (pv 2) pe_int (fun _ _ => rfl)) pa_nil))))
  (pss_one (ps_set (i := 1) sc_law_read_text.nd rfl (Or.inl rfl) (pe_ix ix_tup (pv 2) pe_int (fun _ _ => rfl))))))))
  (pss_one (ps_ret (pe_tup (pa_cons (pv 4) (pa_cons (pv 1) pa_nil)))))))))), ?_⟩
  refine ⟨_, rfl, _, rfl, [], a, l, i, rfl, own0, hA, hl, fun H1 e1 s1 => ?_, fun t1 v1 c j1 H1 e1 s1 h1 rp1 => ?_⟩
  · have ed : textAt l i = none := by unfold textAt cntAt; rw [e1]; rfl
    exact ⟨_, rfl, _, rfl, iteT (q1 _ ed s1)⟩
  cases rp1.int_inv
  have hj := (numAt_le e1).2
  refine ⟨_, rfl, _, rfl, iteF ⟨_, rfl, t1, _, 0, _, rfl, rfl, SqT.of h1, rfl, _, rfl, a, _, rfl, .inl (sql_le s1 hA), _, rfl, t1, _, 1, _, rfl, rfl, SqT.of h1, rfl, _, _, rfl, rfl, _, _, rfl, rfl, _, rfl, brD (fun z => ?_) (fun z => ?_)⟩⟩
  · rw [List.length_map] at z
    refine q1 _ ?_ s1
    unfold textAt cntAt
    rw [e1, Option.bind_some, if_pos (by omega)]
    rfl
  rw [List.length_map] at z
  have ec : cntAt l i = some (c, j1) := by
    unfold cntAt
    rw [e1, Option.bind_some, if_neg (by omega)]
  have et : textAt l i = times (charAt l) c j1 := by unfold textAt; rw [ec]; rfl
  have hl1 := hl.1
  refine ⟨_, rfl, t1, _, rfl, SqT.of h1, rfl, _, _, rfl, _, _, rfl, rfl, ?_⟩
  refine ⟨_, rfl, (c : Int), rfl, by omega, by omega, for_range (fun k σ H' => ∃ (ds : List Nat) (j : Nat) (z1 z2 : Option V), σ = [some (.ref a), some (.int (j : Int)), z1, some (.int (c : Int)), some (.str (SX.S ds)), z2] ∧ Same H H' ∧ ds.length = k ∧ TmI (charAt l) c j1 k ds j) ⟨[], j1, _, none, rfl, s1, rfl, TmI.new⟩ ?_ ?_⟩
  · rintro k σ H2 hk ⟨ds, j, z1, z2, rfl, s2, dl, tm⟩
    refine ⟨_, rfl, _, rfl, [], a, l, j, rfl, own0, sql_le s2 hA, hl, fun H3 e3 s3 => ?_, fun t3 v3 n j3 H3 e3 s3 h3 rp3 => ?_⟩
    · exact ⟨_, rfl, _, rfl, iteT (q1 _ (et.trans (tm.no hk (by unfold charAt; rw [e3]; rfl))) (s2.trans s3))⟩
    cases rp3.int_inv
    have bad : okC n = false → Q .non H3 := fun z => q1 _ (et.trans (tm.no hk (by unfold charAt; rw [e3]; simp [z]))) (s2.trans s3)
    have good : okC n = true → ∃ (ds' : List Nat) (j' : Nat) (z1 z2 : Option V), [some (.ref a), some (.int (j3 : Int)), some (.ref t3), some (.int (c : Int)), some (.str (SX.S ds ++ SX.S [n])), some (.int (0 + (k : Int)))] = [some (.ref a), some (.int (j' : Int)), z1, some (.int (c : Int)), some (.str (SX.S ds')), z2] ∧ Same H H3 ∧ ds'.length = k + 1 ∧ TmI (charAt l) c j1 (k + 1) ds' j' := fun z =>
      ⟨ds ++ [n], j3, _, _, by rw [SX.S_cat], s2.trans s3, by simp [dl], tm.go hk (by unfold charAt; rw [e3]; simp [z])⟩
    have F0 : SqT K H3 t3 [.int (n : Int), .int (j3 : Int)] := SqT.of h3
    refine ⟨_, rfl, _, rfl, iteF ⟨_, rfl, t3, _, 0, _, rfl, rfl, F0, rfl, rfl, _, rfl, brN (fun c1 => ?_) (fun c1 => ?_)⟩⟩
    · rw [int_inj] at c1
      refine ⟨_, rfl, t3, _, 0, _, rfl, rfl, F0, rfl, _, _, rfl, rfl, _, rfl, chain_ie ⟨_, rfl, brN (fun c2 => ?_) (fun c2 => ?_)⟩⟩
      · exact iteT (bad (by simp [okC]; omega))
      · refine ⟨_, rfl, t3, _, 0, _, rfl, rfl, F0, rfl, rfl, _, rfl, brD (fun c3 => ?_) (fun c3 => ?_)⟩
        · rw [int_inj] at c3
          exact bad (by simp [okC]; omega)
        · rw [int_inj] at c3
          have ok : okC n = true := by simp [okC]; omega
          exact ⟨_, rfl, _, rfl, t3, _, 0, _, rfl, rfl, F0, rfl, n, rfl, ok, _, _, rfl, rfl, sz _ (by rw [len_S, len_S]; simp; omega), _, rfl, t3, _, 1, _, rfl, rfl, F0, rfl, good ok⟩
    · rw [int_inj] at c1
      refine iteF ⟨_, rfl, t3, _, 0, _, rfl, rfl, F0, rfl, rfl, _, rfl, brD (fun c3 => ?_) (fun c3 => ?_)⟩
      · rw [int_inj] at c3
        exact bad (by simp [okC]; omega)
      · rw [int_inj] at c3
        have ok : okC n = true := by simp [okC]; omega
        exact ⟨_, rfl, _, rfl, t3, _, 0, _, rfl, rfl, F0, rfl, n, rfl, ok, _, _, rfl, rfl, sz _ (by rw [len_S, len_S]; simp; omega), _, rfl, t3, _, 1, _, rfl, rfl, F0, rfl, good ok⟩
  · rintro σ H2 ⟨ds, j, z1, z2, rfl, s2, dl, tm⟩
    refine ⟨_, rfl, _, rfl, sz 2 (by decide), fun x hx => ?_⟩
    exact q2 x _ ds j _ (et.trans tm.fin) (s2.trans (same_upd hx)) upd_same (.str _)
theorem ok_law_read_deed {f : Addr} {fd : FuncData} (F : Fun K "_law_read_deed" "_law_read_deed" s_law_read_deed f fd) (T : Txt K mg) (G_law_read_number : GF P w K mg base CX0 "_law_read_number" 1 ["data", "at"] (spLr K numAt natD)) (G_law_read_text : GF P w K mg base CX0 "_law_read_text" 2 ["data", "at"] (spLr K textAt txD))
    (G_law_read_mark : GF P w K mg base CX0 "_law_read_mark" 2 ["data", "at"] (spLr K mkAt mkD)) : FnOk P w K mg base CX0 3 f fd ["data", "at"] (spLr K deedAt ddD) := by
  refine F.ok sc_law_read_deed (fun vs H Q E h => ?_) (fun cdv A outer s H vs Q E hr h => ?_)
  · obtain ⟨_, _, _, _, rfl, _⟩ := h
    rfl
  obtain ⟨O, a, l, i, rfl, hO, hA, hl, q1, q2⟩ := h
  refine ⟨_, (Evl.pss_cut (ps_if (PW.pt (pw_or (pt_cmpR op_ge (pv 1) (pe_callB call_len_seq (by rfl) T.b_len bt_len (pa_cons (pv 0) pa_nil)) (nomark _)) (pw_or1 (pt_cmpR op_gt (pe_ix ix_list (pv 0) (pv 1) (fun _ _ => rfl)) pe_int (nomark _))))) (pss_one (ps_ret pe_non)) pss_nil)
  (pss_cons (ps_if (pt_cmpR op_eq (pe_ix ix_list (pv 0) (pv 1) (fun _ _ => rfl)) pe_int (nomark _)) (pss_cons (ps_set (i := 2) sc_law_read_deed.nd rfl (Or.inl rfl) (pe_cg G_law_read_number hr rfl (pa_cons (pv 0) (pa_cons (pe_op op_add (pv 1) pe_int) pa_nil))))
  (pss_one (ps_ret (pe_ifExp (pt_cmp (pc_isN (pv 2))) pe_non (pe_tup (pa_cons (pe_tup (pa_cons pe_str (pa_cons (pe_ix ix_tup (pv 2) pe_int (fun _ _ => rfl)) pa_nil))) (pa_cons (pe_ix ix_tup (pv 2) pe_int (fun _ _ => rfl)) pa_nil))))))) pss_nil)
  (pss_cons (ps_set (i := 3) sc_law_read_deed.nd rfl (Or.inl rfl) (pe_cg G_law_read_text hr rfl (pa_cons (pv 0) (pa_cons (pe_op op_add (pv 1) pe_int) pa_nil))))
  (pss_cons (ps_set (i := 4) sc_law_read_deed.nd rfl (Or.inl rfl) (pe_ifExp (pt_cmp (pc_isN (pv 3))) pe_non (pe_cg G_law_read_number hr rfl (pa_cons (pv 0) (pa_cons (pe_ix ix_tup (pv 3) pe_int (fun _ _ => rfl)) pa_nil)))))
  (pss_cons (ps_if (PW.pt (pw_or (pt_cmp (pc_isN (pv 4))) (pw_or1 (pt_cmpR op_gt (pe_ix ix_tup (pv 4) pe_int (fun _ _ => rfl)) (pe_op op_sub (pe_callB call_len_seq (by rfl) T.b_len bt_len (pa_cons (pv 0) pa_nil)) (pe_ix ix_tup (pv 4) pe_int (fun _ _ => rfl))) (nomark _))))) (pss_one (ps_ret pe_non)) pss_nil)
  (pss_cons (ps_set (i := 1) sc_law_read_deed.nd rfl (Or.inl rfl) (pe_ix ix_tup (pv 4) pe_int (fun _ _ => rfl)))
  (pss_cons (ps_set (i := 5) sc_law_read_deed.nd rfl (Or.inl rfl) (pe_lst pa_nil))
  (pss_cons (ps_for PassesOwn.never rfl (pi_range1 rfl T.b_range (pa_cons (pe_ix ix_tup (pv 4) pe_int (fun _ _ => rfl)) pa_nil)) (pg_name (i := 6) sc_law_read_deed.nd rfl (Or.inl rfl)) (pss_cons (ps_set (i := 2) sc_law_read_deed.nd rfl (Or.inl rfl) (pe_cg G_law_read_mark hr rfl (pa_cons (pv 0) (pa_cons (pv 1) pa_nil))))
  (pss_cons (ps_if (pt_cmp (pc_isN (pv 2))) (pss_one (ps_ret pe_non)) pss_nil)
  (pss_cons (ps_expr (pe_bm PySem.F.plainAttrs_list PySem.F.slot_list_append PySem.F.type_list_append mt_append (pv 5) (pa_cons (pe_ix ix_tup (pv 2) pe_int (fun _ _ => rfl)) pa_nil)))
  (pss_one (ps_set (i := 1) sc_law_read_deed.nd rfl (Or.inl rfl) (pe_ix ix_tup (pv 2) pe_int (fun _ _ => rfl))))))))
  (Evl.pss_cut (ps_if (PW.pt (pw_or (pt_cmpR op_ge (pv 1) (pe_callB call_len_seq (by rfl) T.b_len bt_len (pa_cons (pv 0) pa_nil)) (nomark _)) (pw_or1 (pt_cmpR op_gt (pe_ix ix_list (pv 0) (pv 1) (fun _ _ => rfl)) pe_int (nomark _))))) (pss_one (ps_ret pe_non)) pss_nil)
  (Evl.pss_cut (ps_set (i := 7) sc_law_read_deed.nd rfl (Or.inl rfl) (pe_ifExp (pt_cmpR op_eq (pe_ix ix_list (pv 0) (pv 1) (fun _ _ => rfl)) pe_int (nomark _)) (pe_tup (pa_cons pe_non (pa_cons (pe_op op_add (pv 1) pe_int) pa_nil))) (pe_cg G_law_read_mark hr rfl (pa_cons (pv 0) (pa_cons (pe_op op_add (pv 1) pe_int) pa_nil)))))
  (pss_cons (ps_set (i := 8) sc_law_read_deed.nd rfl (Or.inl rfl) (pe_ifExp (pt_cmp (pc_isN (pv 7))) pe_non (pe_cg G_law_read_number hr rfl (pa_cons (pv 0) (pa_cons (pe_ix ix_tup (pv 7) pe_int (fun _ _ => rfl)) pa_nil)))))
  (pss_cons (ps_set (i := 9) sc_law_read_deed.nd rfl (Or.inl rfl) (pe_ifExp (pt_cmp (pc_isN (pv 8))) pe_non (pe_cg G_law_read_text hr rfl (pa_cons (pv 0) (pa_cons (pe_ix ix_tup (pv 8) pe_int (fun _ _ => rfl)) pa_nil)))))
  (pss_one (ps_ret (pe_ifExp (pt_cmp (pc_isN (pv 9))) pe_non (pe_tup (pa_cons (pe_tup (pa_cons pe_str (pa_cons (pe_ix ix_tup (pv 3) pe_int (fun _ _ => rfl)) (pa_cons (pe_callTy call_tuple_of (by rfl) T.b_tuple bt_tuple (pa_cons (pv 5) pa_nil)) (pa_cons (pe_ix ix_tup (pv 7) pe_int (fun _ _ => rfl)) (pa_cons (pe_ix ix_tup (pv 8) pe_int (fun _ _ => rfl)) (pa_cons (pe_ix ix_tup (pv 9) pe_int (fun _ _ => rfl)) pa_nil))))))) (pa_cons (pe_ix ix_tup (pv 9) pe_int (fun _ _ => rfl)) pa_nil)))))))))))))))))), ?_⟩
  refine ⟨fun σ' H' => σ' = [some (.ref a), some (.int (i : Int)), none, none, none, none, none, none, none, none] ∧ H = H' ∧ ∃ b, l[i]? = some b ∧ b < 2, ?_, ?_⟩
  · refine ⟨_, rfl, _, rfl, a, _, rfl, .inl hA, _, _, rfl, rfl, _, rfl, brD (fun c => ?_) (fun c => ?_)⟩
    · rw [List.length_map] at c
      refine iteT (q1 _ ?_ (Same.refl _))
      unfold deedAt chAt
      rw [List.getElem?_eq_none (by omega)]
      rfl
    · rw [List.length_map] at c
      have hi : i < l.length := by omega
      refine ⟨_, rfl, _, rfl, a, _, _, .int l[i], rfl, rfl, hA, atI_nat (by rw [List.getElem?_map, List.getElem?_eq_getElem hi]; rfl), _, _, rfl, rfl, _, rfl, brD (fun c2 => ?_) (fun c2 => ?_)⟩
      · refine q1 _ ?_ (Same.refl _)
        unfold deedAt chAt
        rw [List.getElem?_eq_getElem hi, Option.bind_some, if_pos (by omega)]
        rfl
      · exact ⟨rfl, rfl, l[i], List.getElem?_eq_getElem hi, by omega⟩
  rintro σ' H1 ⟨rfl, rfl, b, hb, hb2⟩
  have hat : atI (l.map V.int) (i : Int) = some (.int b) := atI_nat (by rw [List.getElem?_map, hb]; rfl)
  have ech : chAt l i = some (decide (b = 1), i + 1) := by
    unfold chAt
    rw [hb, Option.bind_some, if_neg (by omega)]
  refine ⟨_, rfl, _, rfl, a, _, _, .int b, rfl, rfl, hA, hat, rfl, _, rfl, brD (fun c => ?_) (fun c => ?_)⟩
  · rw [int_inj] at c
    have ed : deedAt l i = (numAt l (i + 1)).bind fun n => some (.back n.1, n.2) := by
      unfold deedAt
      rw [ech]
      simp [c]
    refine ⟨_, rfl, _, rfl, _, _, rfl, rfl, [], a, l, i + 1, rfl, own0, hA, hl, fun H2 e2 s2 => ?_, fun t2 v2 n2 j2 H2 e2 s2 h2 rp2 => ?_⟩
    · exact ⟨_, rfl, _, rfl, iteT (q1 _ (by rw [ed, e2]; rfl) s2)⟩
    cases rp2.int_inv
    rw [e2, Option.bind_some] at ed
    refine ⟨_, rfl, _, rfl, iteF ⟨_, rfl, t2, _, 0, _, rfl, rfl, SqT.of h2, rfl, sz 2 (by decide), fun x hx => ?_⟩⟩
    have rx : Rp K (wo (upd H2 x (.tup [.str "back", .int (n2 : Int)])) O) (.ref x) (ddD (.back n2)) := rp_newT hx ((hO.le s2).out hx) (.cons (.str _) (.cons (.int _) .nil))
    have s3 := same_upd (o := .tup [.str "back", .int (n2 : Int)]) hx
    generalize upd H2 x (.tup [.str "back", .int (n2 : Int)]) = H3 at s3 rx ⊢
    refine ⟨_, rfl, t2, _, 1, _, rfl, rfl, SqT.of (s3 _ _ h2), rfl, sz 2 (by decide), fun y hy => ?_⟩
    have s4 := same_upd (o := .tup [.ref x, .int (j2 : Int)]) hy
    exact q2 y (.ref x) (.back n2) j2 _ ed (s2.trans (s3.trans s4)) upd_same (rx.le (Same.wo s4))
  rw [int_inj] at c
  have ed : deedAt l i = chgAt l (i + 1) := by
    unfold deedAt
    rw [ech]
    simp [c]
  unfold chgAt at ed
  refine ⟨_, rfl, _, rfl, _, _, rfl, rfl, [], a, l, i + 1, rfl, own0, hA, hl, fun H2 e2 s2 => ?_, fun t2 v2 mo j2 H2 e2 s2 h2 rp2 => ?_⟩
  · exact ⟨_, rfl, _, rfl, iteT ⟨_, rfl, _, rfl, iteT (q1 _ (by rw [ed, e2]; rfl) s2)⟩⟩
  cases rp2.str_inv
  rw [e2, Option.bind_some] at ed
  refine ⟨_, rfl, _, rfl, iteF ⟨_, rfl, _, rfl, t2, _, 1, _, rfl, rfl, SqT.of h2, rfl, [], a, l, j2, rfl, own0, sql_le s2 hA, hl, fun H3 e3 s3 => ?_, fun t3 v3 c3 j3 H3 e3 s3 h3 rp3 => ?_⟩⟩
  · exact ⟨_, rfl, _, rfl, iteT (q1 _ (by rw [ed, show marksAt l j2 = none by unfold marksAt cntAt; rw [e3]; rfl]; rfl) (s2.trans s3))⟩
  cases rp3.int_inv
  have hj := (numAt_le e3).2
  have s23 := s2.trans s3
  have F3 : SqT K H3 t3 [.int (c3 : Int), .int (j3 : Int)] := SqT.of h3
  refine ⟨_, rfl, _, rfl, iteF ⟨_, rfl, t3, _, 0, _, rfl, rfl, F3, rfl, _, rfl, a, _, rfl, .inl (sql_le s23 hA), _, rfl, t3, _, 1, _, rfl, rfl, F3, rfl, _, _, rfl, rfl, _, _, rfl, rfl, _, rfl, brD (fun z => ?_) (fun z => ?_)⟩⟩
  · rw [List.length_map] at z
    refine q1 _ ?_ s23
    have : marksAt l j2 = none := by
      unfold marksAt cntAt
      rw [e3, Option.bind_some, if_pos (by omega)]
      rfl
    rw [ed, this]
    rfl
  rw [List.length_map] at z
  have em : marksAt l j2 = times (mkAt l) c3 j3 := by
    unfold marksAt cntAt
    rw [e3, Option.bind_some, if_neg (by omega)]
    rfl
  have hl1 := hl.1
  refine ⟨_, rfl, t3, _, 1, _, rfl, rfl, F3, rfl, Nat.zero_le _, fun D hD => ?_⟩
  have sD := same_upd (o := .lst []) hD
  have hD0 : H D = none := s23.free hD
  refine ⟨_, rfl, t3, _, 0, _, rfl, rfl, sqt_le sD F3, rfl, (c3 : Int), rfl, by omega, by omega, for_range (fun k σ H' => ∃ (ds : List Mk) (acc : List V) (j : Nat) (z1 z2 : Option V), σ = [some (.ref a), some (.int (j : Int)), z1, some (.ref t2), some (.ref t3), some (.ref D), z2, none, none, none] ∧ Same H3 H' ∧ Own (D :: O) H' ∧ ds.length = k ∧ TmI (mkAt l) c3 j3 k ds j ∧ Acc K (D :: O) D (ds.map mkD) acc H')
    ⟨[], [], j3, _, _, rfl, sD, (hO.le (s23.trans sD)).cons (some_ne upd_same), rfl, TmI.new, Acc.new (by simp)⟩ ?_ ?_⟩
  · rintro k σ H4 hk ⟨ds, acc, j, z1, z2, rfl, s4, ow, dl, tm, A4⟩
    refine ⟨_, rfl, _, rfl, D :: O, a, l, j, rfl, ow, sql_le (s23.trans s4) hA, hl, fun H5 e5 s5 => ?_, fun t5 v5 m j5 H5 e5 s5 h5 rp5 => ?_⟩
    · exact ⟨_, rfl, _, rfl, iteT (q1 _ (by rw [ed, em, tm.no hk e5]; rfl) (s23.trans (s4.trans s5)))⟩
    have A5 := A4.le s5
    have al := A5.len
    rw [List.length_map] at al
    have D5 : t5 ≠ D := fun z => by
      have := A5.is
      rw [← z, h5] at this
      cases this
    refine ⟨_, rfl, _, rfl, iteF ⟨_, rfl, .inl ⟨rfl, _, SqL.of A5.is⟩, _, rfl, t5, _, 0, _, rfl, rfl, SqT.of h5, rfl, D, acc, _, rfl, rfl, A5.is, szl _ (by omega), ?_⟩⟩
    have sP : Same H3 (upd H5 D (.lst (acc ++ [v5]))) := fun b o e => by
      rw [upd_ne (ne_of_none e hD)]
      exact s5 _ _ (s4 _ _ e)
    refine ⟨_, rfl, t5, _, 1, _, rfl, rfl, SqT.of (by rw [upd_ne D5]; exact h5), rfl, ds ++ [m], acc ++ [v5], j5, _, _, rfl, sP, (ow.le s5).up (S := [D]) (Up.put (by simp)) (by simp [upd_same]), by simp [dl], tm.go hk e5, ?_⟩
    rw [List.map_append]
    exact A5.push rp5
  · rintro σ H4 ⟨ds, acc, j, z1, z2, rfl, s4, ow, dl, tm, A4⟩
    have nO : D ∉ O := (hO.le s23).out hD
    have s04 := s23.trans s4
    rw [em, tm.fin, Option.bind_some] at ed
    refine ⟨fun σ' H' => σ' = [some (.ref a), some (.int (j : Int)), z1, some (.ref t2), some (.ref t3), some (.ref D), z2, none, none, none] ∧ H4 = H' ∧ ∃ b, l[j]? = some b ∧ b < 2, ?_, ?_⟩
    · refine ⟨_, rfl, _, rfl, a, _, rfl, .inl (sql_le s04 hA), _, _, rfl, rfl, _, rfl, brD (fun c => ?_) (fun c => ?_)⟩
      · rw [List.length_map] at c
        refine iteT (q1 _ ?_ s04)
        have : optAt l j = none := by
          unfold optAt chAt
          rw [List.getElem?_eq_none (by omega)]
          rfl
        rw [ed, this]
        rfl
      · rw [List.length_map] at c
        have hi : j < l.length := by omega
        refine ⟨_, rfl, _, rfl, a, _, _, .int l[j], rfl, rfl, sql_le s04 hA, atI_nat (by rw [List.getElem?_map, List.getElem?_eq_getElem hi]; rfl), _, _, rfl, rfl, _, rfl, brD (fun c2 => ?_) (fun c2 => ?_)⟩
        · refine q1 _ ?_ s04
          have : optAt l j = none := by
            unfold optAt chAt
            rw [List.getElem?_eq_getElem hi, Option.bind_some, if_pos (by omega)]
            rfl
          rw [ed, this]
          rfl
        · exact ⟨rfl, rfl, l[j], List.getElem?_eq_getElem hi, by omega⟩
    rintro σ' H5 ⟨rfl, rfl, b2, hb2', hb22⟩
    have nn : 0 ≤ b2 := hl.2 _ (List.mem_of_getElem? hb2')
    have hat2 : atI (l.map V.int) (j : Int) = some (.int b2) := atI_nat (by rw [List.getElem?_map, hb2']; rfl)
    have ech2 : chAt l j = some (decide (b2 = 1), j + 1) := by
      unfold chAt
      rw [hb2', Option.bind_some, if_neg (by omega)]
    refine ⟨fun σ' H' => ∃ fv, σ' = [some (.ref a), some (.int (j : Int)), z1, some (.ref t2), some (.ref t3), some (.ref D), z2, some fv, none, none] ∧ Same H4 H' ∧ ((fv = .non ∧ optAt l j = none) ∨ ∃ t v be j6, fv = .ref t ∧ optAt l j = some (be, j6) ∧ H' t = some (.tup [v, .int (j6 : Int)]) ∧ Rp K (wo H' O) v (optD be)), ?_, ?_⟩
    · refine ⟨_, rfl, _, rfl, a, _, _, .int b2, rfl, rfl, sql_le s04 hA, hat2, rfl, _, rfl, brD (fun c => ?_) (fun c => ?_)⟩
      · rw [int_inj] at c
        refine ⟨_, rfl, _, _, rfl, rfl, sz 2 (by decide), fun x hx => ⟨_, rfl, same_upd hx, .inr ⟨x, .non, none, j + 1, rfl, ?_, upd_same, .non⟩⟩⟩
        unfold optAt
        rw [ech2]
        simp [c]
      · rw [int_inj] at c
        have c1 : b2 = 1 := by omega
        have eo : optAt l j = (mkAt l (j + 1)).bind fun m => some (some m.1, m.2) := by
          unfold optAt
          rw [ech2]
          simp [c1]
        refine ⟨_, rfl, _, rfl, _, _, rfl, rfl, O, a, l, j + 1, rfl, hO.le s04, sql_le s04 hA, hl, fun H6 e6 s6 => ?_, fun t6 v6 m j6 H6 e6 s6 h6 rp6 => ?_⟩
        · exact ⟨_, rfl, s6, .inl ⟨rfl, by rw [eo, e6]; rfl⟩⟩
        · exact ⟨_, rfl, s6, .inr ⟨t6, v6, some m, j6, rfl, by rw [eo, e6]; rfl, h6, rp6⟩⟩
    rintro σ' H6 ⟨fv, rfl, s6, hfv⟩
    rcases hfv with ⟨rfl, eo⟩ | ⟨t6, v6, be, j6, rfl, eo, h6, rp6⟩
    · exact ⟨_, rfl, _, rfl, iteT ⟨_, rfl, _, rfl, iteT ⟨_, rfl, _, rfl, iteT (q1 _ (by rw [ed, eo]; rfl) (s04.trans s6))⟩⟩⟩
    rw [eo, Option.bind_some] at ed
    have s06 := s04.trans s6
    refine ⟨_, rfl, _, rfl, iteF ⟨_, rfl, _, rfl, t6, _, 1, _, rfl, rfl, SqT.of h6, rfl, [], a, l, j6, rfl, own0, sql_le s06 hA, hl, fun H7 e7 s7 => ?_, fun t7 v7 nu j7 H7 e7 s7 h7 rp7 => ?_⟩⟩
    · exact ⟨_, rfl, _, rfl, iteT ⟨_, rfl, _, rfl, iteT (q1 _ (by rw [ed, e7]; rfl) (s06.trans s7))⟩⟩
    cases rp7.int_inv
    rw [e7, Option.bind_some] at ed
    have s07 := s06.trans s7
    refine ⟨_, rfl, _, rfl, iteF ⟨_, rfl, _, rfl, t7, _, 1, _, rfl, rfl, SqT.of h7, rfl, [], a, l, j7, rfl, own0, sql_le s07 hA, hl, fun H8 e8 s8 => ?_, fun t8 v8 tx j8 H8 e8 s8 h8 rp8 => ?_⟩⟩
    · exact ⟨_, rfl, _, rfl, iteT (q1 _ (by rw [ed, e8]; rfl) (s07.trans s8))⟩
    cases rp8.str_inv
    rw [e8, Option.bind_some] at ed
    have s08 := s07.trans s8
    have s48 := s6.trans (s7.trans s8)
    have A8 := A4.le s48
    refine ⟨_, rfl, _, rfl, iteF ⟨_, rfl, t2, _, 0, _, rfl, rfl, SqT.of ((s3.trans (s4.trans s48)) _ _ h2), rfl, _, rfl, D, acc, rfl, .inl ⟨SqL.of A8.is, fun tt htt => ?_⟩⟩⟩
    have rT : Rp K (wo (upd H8 tt (.tup acc)) O) (.ref tt) (.tuple (ds.map mkD)) := rp_newT htt ((hO.le s08).out htt) (A8.out nO).2
    have sT := same_upd (o := .tup acc) htt
    have s8t := s8.trans sT
    refine ⟨_, rfl, t6, _, 0, _, rfl, rfl, SqT.of ((s7.trans s8t) _ _ h6), rfl, _, rfl, t7, _, 0, _, rfl, rfl, SqT.of (s8t _ _ h7), rfl, _, rfl, t8, _, 0, _, rfl, rfl, SqT.of (sT _ _ h8), rfl, sz 6 (by decide), fun x hx => ?_⟩
    have ox : x ∉ O := (hO.le (s08.trans sT)).out hx
    have rX : Rp K (wo (upd (upd H8 tt (.tup acc)) x (.tup [.str "change", .str (SX.S mo), .ref tt, v6, .int (nu : Int), .str (SX.S tx)])) O) (.ref x) (ddD (.change mo ds be nu tx)) :=
      rp_newT hx ox (.cons (.str _) (.cons (.str _) (.cons rT (.cons (rp6.le (Same.wo (s7.trans s8t))) (.cons (.int _) (.cons (.str _) .nil))))))
    have sX := same_upd (o := .tup [.str "change", .str (SX.S mo), .ref tt, v6, .int (nu : Int), .str (SX.S tx)]) hx
    generalize upd (upd H8 tt (.tup acc)) x (.tup [.str "change", .str (SX.S mo), .ref tt, v6, .int (nu : Int), .str (SX.S tx)]) = H9 at rX sX ⊢
    refine ⟨_, rfl, t8, _, 1, _, rfl, rfl, SqT.of (sX _ _ (sT _ _ h8)), rfl, sz 2 (by decide), fun y hy => ?_⟩
    have sY := same_upd (o := .tup [.ref x, .int (j8 : Int)]) hy
    exact q2 y (.ref x) _ j8 _ ed (s08.trans (sT.trans (sX.trans sY))) upd_same (rX.le (Same.wo sY))
theorem trAt_mk {l : List Int} {i : Nat} : trAt l i = (mkAt l i).bind fun m => (deedAt l m.2).bind fun d => some ((m.1.1, m.1.2, d.1), d.2) := by
  unfold trAt mkAt
  cases numAt l i with
  | none => rfl
  | some a =>
    simp only [Option.bind_some]
    cases numAt l a.2 <;> rfl
theorem ok_law_read_triples {f : Addr} {fd : FuncData} (F : Fun K "_law_read_triples" "_law_read_triples" s_law_read_triples f fd) (T : Txt K mg) (G_law_read_number : GF P w K mg base CX0 "_law_read_number" 1 ["data", "at"] (spLr K numAt natD))
    (G_law_read_mark : GF P w K mg base CX0 "_law_read_mark" 2 ["data", "at"] (spLr K mkAt mkD)) (G_law_read_deed : GF P w K mg base CX0 "_law_read_deed" 3 ["data", "at"] (spLr K deedAt ddD)) : FnOk P w K mg base CX0 4 f fd ["data", "at"] (spLr K trsAt tsD) := by
  refine F.ok sc_law_read_triples (fun vs H Q E h => ?_) (fun cdv A outer s H vs Q E hr h => ?_)
  · obtain ⟨_, _, _, _, rfl, _⟩ := h
    rfl
  obtain ⟨O, a, l, i, rfl, hO, hA, hl, q1, q2⟩ := h
  refine ⟨_, (pss_cons (ps_set (i := 2) sc_law_read_triples.nd rfl (Or.inl rfl) (pe_cg G_law_read_number hr rfl (pa_cons (pv 0) (pa_cons (pv 1) pa_nil))))
  (pss_cons (ps_if (PW.pt (pw_or (pt_cmp (pc_isN (pv 2))) (pw_or1 (pt_cmpR op_gt (pe_ix ix_tup (pv 2) pe_int (fun _ _ => rfl)) (pe_op op_sub (pe_callB call_len_seq (by rfl) T.b_len bt_len (pa_cons (pv 0) pa_nil)) (pe_ix ix_tup (pv 2) pe_int (fun _ _ => rfl))) (nomark _))))) (pss_one (ps_ret pe_non)) pss_nil)
  (pss_cons (ps_set (i := 1) sc_law_read_triples.nd rfl (Or.inl rfl) (pe_ix ix_tup (pv 2) pe_int (fun _ _ => rfl)))
  (pss_cons (ps_set (i := 3) sc_law_read_triples.nd rfl (Or.inl rfl) (pe_lst pa_nil))
  (pss_cons (ps_for PassesOwn.never rfl (pi_range1 rfl T.b_range (pa_cons (pe_ix ix_tup (pv 2) pe_int (fun _ _ => rfl)) pa_nil)) (pg_name (i := 4) sc_law_read_triples.nd rfl (Or.inl rfl)) (pss_cons (ps_set (i := 5) sc_law_read_triples.nd rfl (Or.inl rfl) (pe_cg G_law_read_mark hr rfl (pa_cons (pv 0) (pa_cons (pv 1) pa_nil))))
  (pss_cons (ps_set (i := 6) sc_law_read_triples.nd rfl (Or.inl rfl) (pe_ifExp (pt_cmp (pc_isN (pv 5))) pe_non (pe_cg G_law_read_deed hr rfl (pa_cons (pv 0) (pa_cons (pe_ix ix_tup (pv 5) pe_int (fun _ _ => rfl)) pa_nil)))))
  (pss_cons (ps_if (pt_cmp (pc_isN (pv 6))) (pss_one (ps_ret pe_non)) pss_nil)
  (pss_cons (ps_expr (pe_bm PySem.F.plainAttrs_list PySem.F.slot_list_append PySem.F.type_list_append mt_append (pv 3) (pa_cons (pe_op op_catA (pe_ix ix_tup (pv 5) pe_int (fun _ _ => rfl)) (pe_tup (pa_cons (pe_ix ix_tup (pv 6) pe_int (fun _ _ => rfl)) pa_nil))) pa_nil)))
  (pss_one (ps_set (i := 1) sc_law_read_triples.nd rfl (Or.inl rfl) (pe_ix ix_tup (pv 6) pe_int (fun _ _ => rfl)))))))))
  (pss_one (ps_ret (pe_tup (pa_cons (pv 3) (pa_cons (pv 1) pa_nil)))))))))), ?_⟩
  refine ⟨_, rfl, _, rfl, [], a, l, i, rfl, own0, hA, hl, fun H3 e3 s3 => ?_, fun t3 v3 c3 j3 H3 e3 s3 h3 rp3 => ?_⟩
  · exact ⟨_, rfl, _, rfl, iteT (q1 _ (by unfold trsAt cntAt; rw [e3]; rfl) s3)⟩
  cases rp3.int_inv
  have hj := (numAt_le e3).2
  have F3 : SqT K H3 t3 [.int (c3 : Int), .int (j3 : Int)] := SqT.of h3
  refine ⟨_, rfl, _, rfl, iteF ⟨_, rfl, t3, _, 0, _, rfl, rfl, F3, rfl, _, rfl, a, _, rfl, .inl (sql_le s3 hA), _, rfl, t3, _, 1, _, rfl, rfl, F3, rfl, _, _, rfl, rfl, _, _, rfl, rfl, _, rfl, brD (fun z => ?_) (fun z => ?_)⟩⟩
  · rw [List.length_map] at z
    refine q1 _ ?_ s3
    unfold trsAt cntAt
    rw [e3, Option.bind_some, if_pos (by omega)]
    rfl
  rw [List.length_map] at z
  have em : trsAt l i = times (trAt l) c3 j3 := by
    unfold trsAt cntAt
    rw [e3, Option.bind_some, if_neg (by omega)]
    rfl
  have hl1 := hl.1
  refine ⟨_, rfl, t3, _, 1, _, rfl, rfl, F3, rfl, Nat.zero_le _, fun D hD => ?_⟩
  have sD := same_upd (o := .lst []) hD
  have hD0 : H D = none := s3.free hD
  have nO : D ∉ O := (hO.le s3).out hD
  refine ⟨_, rfl, t3, _, 0, _, rfl, rfl, sqt_le sD F3, rfl, (c3 : Int), rfl, by omega, by omega, for_range (fun k σ H' => ∃ (ds : List Tr) (acc : List V) (j : Nat) (z1 z2 z3 : Option V), σ = [some (.ref a), some (.int (j : Int)), some (.ref t3), some (.ref D), z1, z2, z3] ∧ Same H3 H' ∧ Own (D :: O) H' ∧ ds.length = k ∧ TmI (trAt l) c3 j3 k ds j ∧ Acc K (D :: O) D (ds.map trD) acc H')
    ⟨[], [], j3, _, _, _, rfl, sD, (hO.le (s3.trans sD)).cons (some_ne upd_same), rfl, TmI.new, Acc.new (by simp)⟩ ?_ ?_⟩
  · rintro k σ H4 hk ⟨ds, acc, j, z1, z2, z3, rfl, s4, ow, dl, tm, A4⟩
    refine ⟨_, rfl, _, rfl, D :: O, a, l, j, rfl, ow, sql_le (s3.trans s4) hA, hl, fun H5 e5 s5 => ?_, fun t5 v5 m j5 H5 e5 s5 h5 rp5 => ?_⟩
    · have en : trAt l j = none := by rw [trAt_mk, e5]; rfl
      exact ⟨_, rfl, _, rfl, iteT ⟨_, rfl, _, rfl, iteT (q1 _ (by rw [em, tm.no hk en]) (s3.trans (s4.trans s5)))⟩⟩
    have s05 := s3.trans (s4.trans s5)
    refine ⟨_, rfl, _, rfl, iteF ⟨_, rfl, _, rfl, t5, _, 1, _, rfl, rfl, SqT.of h5, rfl, D :: O, a, l, j5, rfl, ow.le s5, sql_le s05 hA, hl, fun H6 e6 s6 => ?_, fun t6 v6 d j6 H6 e6 s6 h6 rp6 => ?_⟩⟩
    · have en : trAt l j = none := by rw [trAt_mk, e5, Option.bind_some, e6]; rfl
      exact ⟨_, rfl, _, rfl, iteT (q1 _ (by rw [em, tm.no hk en]) (s05.trans s6))⟩
    have en : trAt l j = some ((m.1, m.2, d), j6) := by rw [trAt_mk, e5, Option.bind_some, e6]; rfl
    have A6 := A4.le (s5.trans s6)
    have al := A6.len
    rw [List.length_map] at al
    obtain ⟨b, y0, y1, rfl, hB, r0, r1⟩ := (rp5.le (Same.wo s6)).tup2
    cases r0.int_inv
    cases r1.int_inv
    have hB' := sqt_le (wo_le _ _) hB
    refine ⟨_, rfl, _, rfl, iteF ⟨_, rfl, .inl ⟨rfl, _, SqL.of A6.is⟩, _, rfl, t5, _, 0, _, rfl, rfl, SqT.of (s6 _ _ h5), rfl, _, rfl, t6, _, 0, _, rfl, rfl, SqT.of h6, rfl, sz 1 (by decide), fun x hx => ?_⟩⟩
    have s7 := same_upd (o := .tup [v6]) hx
    have h7 := upd_same (H := H6) (a := x) (o := .tup [v6])
    have ow7 : Own (D :: O) (upd H6 x (.tup [v6])) := ((ow.le s5).le s6).le s7
    have rv7 : Rp K (wo (upd H6 x (.tup [v6])) (D :: O)) v6 (ddD d) := rp6.le (Same.wo s7)
    have A7 := A6.le s7
    generalize upd H6 x (.tup [v6]) = H7 at s7 h7 ow7 rv7 A7 ⊢
    refine ⟨b, x, _, _, rfl, rfl, sqt_le s7 hB', SqT.of h7, sz 3 (by decide), fun z => (nomatch z), fun _ z => (nomatch z), fun _ _ y hy => ?_⟩
    have ny : y ∉ D :: O := ow7.out hy
    have rY : Rp K (wo (upd H7 y (.tup ([V.int (m.1 : Int), V.int (m.2 : Int)] ++ [v6]))) (D :: O)) (.ref y) (trD (m.1, m.2, d)) := rp_newT hy ny (.cons (.int _) (.cons (.int _) (.cons rv7 .nil)))
    have s8 := same_upd (o := .tup ([V.int (m.1 : Int), V.int (m.2 : Int)] ++ [v6])) hy
    have A8 := A7.le s8
    have D6 : t6 ≠ D := fun z => by
      have := A6.is
      rw [← z, h6] at this
      cases this
    have s38 : Same H3 (upd H7 y (.tup ([V.int (m.1 : Int), V.int (m.2 : Int)] ++ [v6]))) := s4.trans (s5.trans (s6.trans (s7.trans s8)))
    have s68 := s7.trans s8
    have ow8 := ow7.le s8
    generalize upd H7 y (.tup ([V.int (m.1 : Int), V.int (m.2 : Int)] ++ [v6])) = H8 at rY s8 A8 s38 s68 ow8 ⊢
    refine ⟨D, acc, _, rfl, rfl, A8.is, szl _ (by omega), ?_⟩
    refine ⟨_, rfl, t6, _, 1, _, rfl, rfl, SqT.of (by rw [upd_ne D6]; exact s68 _ _ h6), rfl, ds ++ [(m.1, m.2, d)], acc ++ [.ref y], j6, _, _, _, rfl, fun b o e => ?_, ow8.up (S := [D]) (Up.put (by simp)) (by simp [upd_same]), by simp [dl], tm.go hk en, ?_⟩
    · rw [upd_ne (ne_of_none e hD)]
      exact s38 _ _ e
    · rw [List.map_append]
      exact A8.push rY
  · rintro σ H4 ⟨ds, acc, j, z1, z2, z3, rfl, s4, ow, dl, tm, A4⟩
    refine ⟨_, rfl, _, rfl, sz 2 (by decide), fun y hy => ?_⟩
    have sY := same_upd (o := .tup [.ref D, .int (j : Int)]) hy
    refine q2 y (.ref D) ds j _ (em.trans tm.fin) (s3.trans (s4.trans sY)) upd_same ?_
    exact (Rp.lst (SqL.of (by rw [wo_out nO]; exact A4.is)) (A4.out nO).2).le (Same.wo sY)
theorem ok_law_read_packet {f : Addr} {fd : FuncData} (F : Fun K "_law_read_packet" "_law_read_packet" s_law_read_packet f fd) (T : Txt K mg) (G_law_read_triples : GF P w K mg base CX0 "_law_read_triples" 4 ["data", "at"] (spLr K trsAt tsD)) : FnOk P w K mg base CX0 5 f fd ["data", "at"] (spLr K pktAt tsD) := by
  refine F.ok sc_law_read_packet (fun vs H Q E h => ?_) (fun cdv A outer s H vs Q E hr h => ?_)
  · obtain ⟨_, _, _, _, rfl, _⟩ := h
    rfl
  obtain ⟨O, a, l, i, rfl, hO, hA, hl, q1, q2⟩ := h
  refine ⟨_, (pss_cons (ps_if (PW.pt (pw_or (pt_cmpR op_ge (pv 1) (pe_callB call_len_seq (by rfl) T.b_len bt_len (pa_cons (pv 0) pa_nil)) (nomark _)) (pw_or1 (pt_cmpR op_ne (pe_ix ix_list (pv 0) (pv 1) (fun _ _ => rfl)) pe_int (nomark _))))) (pss_one (ps_ret pe_non)) pss_nil)
  (pss_one (ps_ret (pe_cg G_law_read_triples hr rfl (pa_cons (pv 0) (pa_cons (pe_op op_add (pv 1) pe_int) pa_nil)))))), ?_⟩
  refine ⟨_, rfl, _, rfl, a, _, rfl, .inl hA, _, _, rfl, rfl, _, rfl, brD (fun c => ?_) (fun c => ?_)⟩
  · rw [List.length_map] at c
    refine iteT (q1 _ ?_ (Same.refl _))
    unfold pktAt
    rw [List.getElem?_eq_none (by omega)]
    rfl
  · rw [List.length_map] at c
    have hi : i < l.length := by omega
    refine ⟨_, rfl, _, rfl, a, _, _, .int l[i], rfl, rfl, hA, atI_nat (by rw [List.getElem?_map, List.getElem?_eq_getElem hi]; rfl), rfl, _, rfl, brN (fun c2 => ?_) (fun c2 => ?_)⟩
    · rw [int_inj] at c2
      refine q1 _ ?_ (Same.refl _)
      unfold pktAt
      rw [List.getElem?_eq_getElem hi, Option.bind_some, if_neg c2]
    · rw [int_inj] at c2
      have ed : pktAt l i = trsAt l (i + 1) := by
        unfold pktAt
        rw [List.getElem?_eq_getElem hi, Option.bind_some, if_pos c2]
      exact ⟨_, rfl, _, rfl, _, _, rfl, rfl, O, a, l, i + 1, rfl, hO, hA, hl, fun H2 e2 s2 => q1 _ (ed.trans e2) s2, fun t v d j H2 e2 s2 h2 rp => q2 t v d j H2 (ed.trans e2) s2 h2 rp⟩
end

theorem ix_listK {X : Cx} {K : PySem.W.Frag} (h : X.K = K) : IxR X (rIxL K) := h ▸ ix_list
theorem ix_tupK {X : Cx} {K : PySem.W.Frag} (h : X.K = K) : IxR X (rIxT K) := h ▸ ix_tup
theorem StB.ne {K : PySem.W.Frag} {O : List Addr} {H : Hp} {st : Addr} (h : StB K O H st) : H st ≠ none := by
  obtain ⟨xs, hx⟩ := h.is
  exact some_ne hx
theorem Own.st {K : PySem.W.Frag} {O : List Addr} {H H' : Hp} {st : Addr} (h : Own O H) (u : Up [st] H H') (s : StB K O H' st) : Own O H' := h.up u fun a ha => by
  simp at ha
  rw [ha]
  exact s.ne
theorem Up.bk {K : PySem.W.Frag} {O : List Addr} {H H' : Hp} {st q : Addr} (u : Up [st] H H') (s : StB K O H' st) (hq : H' q = none) : H q = none :=
  u.back (by simpa using s.ne) hq
theorem pickL {xs : List Int} {r : Int} (h0 : 0 ≤ r) (h1 : r < (xs.length : Int)) : ∃ x, x ∈ xs ∧ atI (xs.map V.int) r = some (.int x) := by
  obtain ⟨n, rfl⟩ : ∃ n : Nat, r = (n : Int) := ⟨r.toNat, by omega⟩
  have hn : n < xs.length := by omega
  exact ⟨xs[n], List.getElem_mem hn, atI_nat (by rw [List.getElem?_map, List.getElem?_eq_getElem hn]; rfl)⟩
def spDn (K : PySem.W.Frag) : Sp := fun vs H Q _ => ∃ (O : List Addr) (st : Addr), vs = [.ref st] ∧ StB K O H st ∧ ∀ (n : Nat) (H' : Hp), smN n → Up [st] H H' → StB K O H' st → Q (.int (n : Int)) H'
def spDt (K : PySem.W.Frag) : Sp := fun vs H Q _ => ∃ (O : List Addr) (st : Addr), vs = [.ref st] ∧ StB K O H st ∧ ∀ (t : List Nat) (H' : Hp), okT t → Up [st] H H' → StB K O H' st → Q (.str (SX.S t)) H'
def spDdd (K : PySem.W.Frag) : Sp := fun vs H Q _ => ∃ (O : List Addr) (st : Addr), vs = [.ref st] ∧ StB K O H st ∧ Own O H ∧ ∀ (v : V) (d : Dd) (H' : Hp), okD d → Up [st] H H' → StB K O H' st → Rp K (wo H' O) v (ddD d) → Q v H'
def tx95 : Str := (PySem.Str.ofString "\n !\"#$&'()*+,-./0123456789:;<=>?@ABCDEFGHIJKLMNOPQRSTUVWXYZ[\\]^_`abcdefghijklmnopqrstuvwxyz{|}~" : Str)
theorem tx95_at : ∀ c : Nat, c < 95 → ∃ x, tx95.cps.toList[c]? = some x ∧ okC x = true := by decide +kernel
section
variable {P : Program} {w : World} {K : PySem.W.Frag} {mg : Str → Option Value} {base : Heap} {C CD : Addr}
theorem ok_law_drawn_number {f : Addr} {fd : FuncData} (F : Fun K "_law_drawn_number" "_law_drawn_number" s_law_drawn_number f fd) (T : Txt K mg) (G_law_next : GF P w K mg base CX0 "_law_next" 1 ["state", "limit"] (spNextW K)) : FnOk P w K mg base CX0 2 f fd ["state"] (spDn K) := by
  refine F.ok sc_law_drawn_number (fun vs H Q E h => ?_) (fun cdv A outer s H vs Q E hr h => ?_)
  · obtain ⟨_, _, rfl, _⟩ := h
    rfl
  obtain ⟨O, st, rfl, hS, q⟩ := h
  refine ⟨_, (pss_one (ps_ret (pe_cg G_law_next hr rfl (pa_cons (pv 0) (pa_cons (pe_ix ix_list (pe_lst (pa_cons pe_int (pa_cons pe_int (pa_cons pe_int (pa_cons (pe_op op_pow pe_int pe_int) (pa_cons (pe_op op_mul (pe_op op_pow pe_int pe_int) pe_int) pa_nil)))))) (pe_cg G_law_next hr rfl (pa_cons (pv 0) (pa_cons pe_int pa_nil))) (fun _ _ => rfl)) pa_nil))))), ?_⟩
  refine ⟨_, rfl, 128, 3, rfl, rfl, ⟨by decide, by decide, by decide⟩, 2, 60, rfl, rfl, ⟨by decide, by decide, by decide⟩, _, 1024, rfl, rfl, .inr ⟨by decide, by decide⟩, sz 5 (by decide), fun c hc => ?_⟩
  have s1 := same_upd (o := .lst ([3, 128, 300, 128 ^ 3, 2 ^ 60 * 1024].map V.int)) hc
  have hC := upd_same (H := H) (a := c) (o := .lst ([3, 128, 300, 128 ^ 3, 2 ^ 60 * 1024].map V.int))
  refine ⟨_, rfl, O, st, 5, rfl, by decide, by decide, hS.le s1, fun r H2 r0 r1 u2 S2 => ?_⟩
  obtain ⟨x, hx, hat⟩ := pickL (xs := [3, 128, 300, 128 ^ 3, 2 ^ 60 * 1024]) r0 r1
  obtain ⟨x0, x1⟩ := (by decide : ∀ x ∈ ([3, 128, 300, 128 ^ 3, 2 ^ 60 * 1024] : List Int), 0 < x ∧ x.natAbs < 2 ^ 80) x hx
  have ncs : c ∉ [st] := by
    simp only [List.mem_singleton]
    exact fun z => hS.ne (z ▸ hc)
  refine ⟨c, _, r, .int x, rfl, rfl, SqL.of (u2 _ _ ncs hC), hat, O, st, x, rfl, x0, x1, S2, fun y H3 y0 y1 u3 S3 => ?_⟩
  obtain ⟨n, rfl⟩ : ∃ n : Nat, y = (n : Int) := ⟨y.toNat, by omega⟩
  exact q n H3 (by unfold smN; omega) (((Up.of s1).trans u2).trans u3) S3
theorem ok_law_drawn_text {f : Addr} {fd : FuncData} (F : Fun K "_law_drawn_text" "_law_drawn_text" s_law_drawn_text f fd) (T : Txt K mg) (G_law_next : GF P w K mg base CX0 "_law_next" 1 ["state", "limit"] (spNextW K)) : FnOk P w K mg base CX0 2 f fd ["state"] (spDt K) := by
  refine F.ok sc_law_drawn_text (fun vs H Q E h => ?_) (fun cdv A outer s H vs Q E hr h => ?_)
  · obtain ⟨_, _, rfl, _⟩ := h
    rfl
  obtain ⟨O, st, rfl, hS, q⟩ := h
  refine ⟨_, (pss_cons (ps_set (i := 1) sc_law_drawn_text.nd rfl (Or.inr rfl) pe_str)
  (pss_one (ps_ret (pe_join pe_str (pe_lc (own := [("k", 2)]) (g := (gName 2)) (tt := tYes) rfl sc_law_drawn_text.nd (pi_range1 rfl T.b_range (pa_cons (pe_cg G_law_next hr rfl (pa_cons (pv 0) (pa_cons (pe_ix ix_list (pe_lst (pa_cons pe_int (pa_cons pe_int (pa_cons pe_int (pa_cons pe_int pa_nil))))) (pe_cg G_law_next hr rfl (pa_cons (pv 0) (pa_cons pe_int pa_nil))) (fun _ _ => rfl)) pa_nil))) pa_nil)) (blkOk_by (N := ["state", "letters", "k"]) (sc := defScope s_law_drawn_text) (by decide +kernel)) (fun _ _ _ _ _ => (pg_name (i := 2) sc_law_drawn_text.nd rfl (Or.inl rfl))) (fun _ _ _ _ _ => pts_nil) (fun _ _ _ _ _ => (pe_ix ix_str (pv 1) (pe_cg G_law_next hr rfl (pa_cons (pv 0) (pa_cons (pe_callB call_len_str (by rfl) T.b_len bt_len (pa_cons (pv 1) pa_nil)) pa_nil))) (fun _ _ => rfl)))))))), ?_⟩
  refine ⟨⟨_, rfl⟩, _, rfl, sz 4 (by decide), fun c hc => ?_⟩
  have s1 := same_upd (o := .lst ([1, 4, 9, 140].map V.int)) hc
  have hC := upd_same (H := H) (a := c) (o := .lst ([1, 4, 9, 140].map V.int))
  refine ⟨_, rfl, O, st, 4, rfl, by decide, by decide, hS.le s1, fun r H2 r0 r1 u2 S2 => ?_⟩
  obtain ⟨x, hx, hat⟩ := pickL (xs := [1, 4, 9, 140]) r0 r1
  obtain ⟨x0, x1⟩ := (by decide : ∀ x ∈ ([1, 4, 9, 140] : List Int), 0 < x ∧ x ≤ 140) x hx
  have ncs : c ∉ [st] := by
    simp only [List.mem_singleton]
    exact fun z => hS.ne (z ▸ hc)
  have u02 := (Up.of (O := [st]) s1).trans u2
  refine ⟨c, _, r, .int x, rfl, rfl, SqL.of (u2 _ _ ncs hC), hat, O, st, x, rfl, x0, by omega, S2, fun y H3 y0 y1 u3 S3 => ?_⟩
  have u03 := u02.trans u3
  refine ⟨y, rfl, by omega, by omega, fun D hD => lc_range (lo := 0) (n := y.toNat) (fun k H' => ∃ t : List Nat, t.length = k ∧ (∀ c ∈ t, okC c = true) ∧ Up [st] H3 H' ∧ StB K (D :: O) H' st ∧ H' D = some (.lst ((t.map fun c => SX.S [c]).map V.str))) ⟨[], rfl, fun m hm => by (cases hm), Up.new hD, S3.grow hD, upd_same⟩ ?_ ?_⟩
  · rintro k H4 hk ⟨t, tl, tc, u4, S4, h4⟩
    have nD : D ≠ st := fun z => S3.ne (z ▸ hD)
    refine ⟨rfl, _, rfl, _, rfl, _, rfl, tx95, rfl, by decide +kernel, D :: O, st, 95, rfl, by decide, by decide, S4, fun e H5 e0 e1 u5 S5 => ?_⟩
    obtain ⟨m, rfl⟩ : ∃ m : Nat, e = (m : Int) := ⟨e.toNat, by omega⟩
    obtain ⟨ch, hch, okc⟩ := tx95_at m (by omega)
    have h5 := u5 _ _ (by simpa using nD) h4
    refine ⟨tx95, _, ch, rfl, rfl, by decide +kernel, atI_nat hch, _, h5, szl _ (by rw [List.length_map, List.length_map]; omega), t ++ [ch], by simp [tl], fun x hx => ?_, (u4.trans u5).putN hD, S5.put (by simp) nD, ?_⟩
    · rcases List.mem_append.mp hx with hx | hx
      · exact tc x hx
      · simp only [List.mem_singleton] at hx
        rw [hx]
        exact okc
    · rw [upd_same]
      simp
  · rintro H4 ⟨t, tl, tc, u4, S4, h4⟩
    refine ⟨SX.S [], D, t.map fun c => SX.S [c], rfl, rfl, .inl (SqL.of h4), ?_, ?_⟩
    · rw [sum_chars]
      show t.length + _ * 0 ≤ _
      omega
    · rw [join_chars]
      exact q t H4 ⟨tc, by omega⟩ (u03.trans u4) (S4.shrink hS.1)
theorem ok_law_drawn_deed {f : Addr} {fd : FuncData} (F : Fun K "_law_drawn_deed" "_law_drawn_deed" s_law_drawn_deed f fd) (T : Txt K mg) (G_law_next : GF P w K mg base CX0 "_law_next" 1 ["state", "limit"] (spNextW K)) (G_law_drawn_number : GF P w K mg base CX0 "_law_drawn_number" 2 ["state"] (spDn K))
    (G_law_drawn_text : GF P w K mg base CX0 "_law_drawn_text" 2 ["state"] (spDt K)) : FnOk P w K mg base CX0 3 f fd ["state"] (spDdd K) := by
  refine F.ok sc_law_drawn_deed (fun vs H Q E h => ?_) (fun cdv A outer s H vs Q E hr h => ?_)
  · obtain ⟨_, _, rfl, _⟩ := h
    rfl
  obtain ⟨O, st, rfl, hS, hO, q⟩ := h
  refine ⟨_, (pss_cons (ps_if (pt_cmpR op_eq (pe_cg G_law_next hr rfl (pa_cons (pv 0) (pa_cons pe_int pa_nil))) pe_int (nomark _)) (pss_one (ps_ret (pe_tup (pa_cons pe_str (pa_cons (pe_cg G_law_drawn_number hr rfl (pa_cons (pv 0) pa_nil)) pa_nil))))) pss_nil)
  (pss_cons (ps_set (i := 1) sc_law_drawn_deed.nd rfl (Or.inl rfl) (pe_callTy call_tuple_of (by rfl) T.b_tuple bt_tuple (pa_cons (pe_lc (own := [("k", 3)]) (g := (gName 3)) (tt := tYes) rfl sc_law_drawn_deed.nd (pi_range1 rfl T.b_range (pa_cons (pe_cg G_law_next hr rfl (pa_cons (pv 0) (pa_cons pe_int pa_nil))) pa_nil)) (blkOk_by (N := ["state", "marks", "behind", "k"]) (sc := defScope s_law_drawn_deed) (by decide +kernel)) (fun _ _ _ _ _ => (pg_name (i := 3) sc_law_drawn_deed.nd rfl (Or.inl rfl))) (fun _ _ _ _ _ => pts_nil) (fun _ _ _ _ _ => (pe_tup (pa_cons (pe_cg G_law_drawn_number hr rfl (pa_cons (pv 0) pa_nil)) (pa_cons (pe_cg G_law_next hr rfl (pa_cons (pv 0) (pa_cons pe_int pa_nil))) pa_nil))))) pa_nil)))
  (pss_cons (ps_set (i := 2) sc_law_drawn_deed.nd rfl (Or.inl rfl) (pe_ix ix_list (pe_lst (pa_cons pe_non (pa_cons (pe_tup (pa_cons (pe_cg G_law_drawn_number hr rfl (pa_cons (pv 0) pa_nil)) (pa_cons (pe_cg G_law_next hr rfl (pa_cons (pv 0) (pa_cons pe_int pa_nil))) pa_nil))) pa_nil))) (pe_cg G_law_next hr rfl (pa_cons (pv 0) (pa_cons pe_int pa_nil))) (fun _ _ => rfl)))
  (pss_one (ps_ret (pe_tup (pa_cons pe_str (pa_cons (pe_cg G_law_drawn_text hr rfl (pa_cons (pv 0) pa_nil)) (pa_cons (pv 1) (pa_cons (pv 2) (pa_cons (pe_cg G_law_drawn_number hr rfl (pa_cons (pv 0) pa_nil)) (pa_cons (pe_cg G_law_drawn_text hr rfl (pa_cons (pv 0) pa_nil)) pa_nil)))))))))))), ?_⟩
  refine ⟨_, rfl, O, st, 3, rfl, by decide, by decide, hS, fun c H1 c0 c1 u1 S1 => ?_⟩
  have O1 := hO.st u1 S1
  refine ⟨rfl, _, rfl, brD (fun c => ?_) (fun c => ?_)⟩
  · refine ⟨_, rfl, O, st, rfl, S1, fun n H2 hn u2 S2 => ⟨sz 2 (by decide), fun t ht => ?_⟩⟩
    have O2 := O1.st u2 S2
    have s3 := same_upd (o := .tup [.str "back", .int (n : Int)]) ht
    exact q (.ref t) (.back n) _ hn ((u1.trans u2).trans (Up.of s3)) (S2.le s3) (rp_newT ht (O2.out ht) (.cons (.str _) (.cons (.int _) .nil)))
  refine ⟨_, rfl, O, st, 4, rfl, by decide, by decide, S1, fun mm H2 m0 m1 u2 S2 => ?_⟩
  have O2 := O1.st u2 S2
  refine ⟨mm, rfl, by omega, by omega, fun D hD => lc_range (lo := 0) (n := mm.toNat) (fun k H' => ∃ (ms : List Mk) (acc : List V), ms.length = k ∧ (∀ m ∈ ms, okM m) ∧ Up [st] H2 H' ∧ StB K (D :: O) H' st ∧ Own (D :: O) H' ∧ Acc K (D :: O) D (ms.map mkD) acc H') ⟨[], [], rfl, fun m hm => by (cases hm), Up.new hD, S2.grow hD, (O2.le (same_upd hD)).cons (some_ne upd_same), Acc.new (by simp)⟩ ?_ ?_⟩
  · rintro k H3 hk ⟨ms, acc, ml, mo, u3, S3, O3, A3⟩
    have nD : D ≠ st := fun z => S2.ne (z ▸ hD)
    refine ⟨rfl, _, rfl, D :: O, st, rfl, S3, fun n H4 hn u4 S4 => ?_⟩
    refine ⟨_, rfl, D :: O, st, 8, rfl, by decide, by decide, S4, fun y H5 y0 y1 u5 S5 => ⟨sz 2 (by decide), fun t ht => ?_⟩⟩
    obtain ⟨b, rfl⟩ : ∃ b : Nat, y = (b : Int) := ⟨y.toNat, by omega⟩
    have O5 := (O3.st u4 S4).st u5 S5
    have s6 := same_upd (o := .tup [.int (n : Int), .int (b : Int)]) ht
    have r6 : Rp K (wo (upd H5 t (.tup [.int (n : Int), .int (b : Int)])) (D :: O)) (.ref t) (mkD (n, b)) := rp_newT ht (O5.out ht) (.cons (.int _) (.cons (.int _) .nil))
    have stO : ∀ a ∈ [st], a ∈ D :: O := by simp only [List.mem_singleton, forall_eq]; exact S3.1
    have A6 := (A3.up (u4.trans u5) stO (by simpa using nD)).le s6
    have al := A6.len
    rw [List.length_map] at al
    exact ⟨acc, A6.is, szl _ (by omega), ms ++ [(n, b)], acc ++ [.ref t], by simp [ml], fun m hm => by
      rcases List.mem_append.mp hm with hm | hm
      · exact mo m hm
      · simp only [List.mem_singleton] at hm
        rw [hm]
        exact ⟨hn, by show b < 2 ^ 80; omega⟩, ((u3.trans (u4.trans u5)).trans (Up.of s6)).putN hD, (S5.le s6).put (by simp) nD, (O5.le s6).up (S := [D]) (Up.put (by simp)) (by simp [upd_same]), by rw [List.map_append]; exact A6.push r6⟩
  · rintro H3 ⟨ms, acc, ml, mo, u3, S3, O3, A3⟩
    have nO : D ∉ O := O2.out hD
    refine ⟨D, acc, rfl, .inl ⟨SqL.of A3.is, fun tt htt => ?_⟩⟩
    have O3' : Own O H3 := fun b hb => O3 b (List.mem_cons_of_mem _ hb)
    have R4 := rp_newT htt (O3'.out htt) (A3.out nO).2
    have s4 := same_upd (o := .tup acc) htt
    have S4 := (S3.shrink hS.1).le s4
    have O4 := O3'.le s4
    have u4 := (u1.trans (u2.trans u3)).trans (Up.of s4)
    generalize upd H3 tt (.tup acc) = H4 at R4 s4 S4 O4 u4 ⊢
    have stO : ∀ a ∈ [st], a ∈ O := by simp only [List.mem_singleton, forall_eq]; exact hS.1
    refine ⟨_, rfl, O, st, rfl, S4, fun n H5 hn u5 S5 => ?_⟩
    refine ⟨_, rfl, O, st, 8, rfl, by decide, by decide, S5, fun y H6 y0 y1 u6 S6 => ⟨sz 2 (by decide), fun t ht => ?_⟩⟩
    obtain ⟨b, rfl⟩ : ∃ b : Nat, y = (b : Int) := ⟨y.toNat, by omega⟩
    have O6 := (O4.st u5 S5).st u6 S6
    have s7 := same_upd (o := .tup [.int (n : Int), .int (b : Int)]) ht
    have r7 : Rp K (wo (upd H6 t (.tup [.int (n : Int), .int (b : Int)])) O) (.ref t) (mkD (n, b)) := rp_newT ht (O6.out ht) (.cons (.int _) (.cons (.int _) .nil))
    have S7 := S6.le s7
    have O7 := O6.le s7
    generalize upd H6 t (.tup [.int (n : Int), .int (b : Int)]) = H7 at s7 r7 S7 O7 ⊢
    refine ⟨sz 2 (by decide), fun c hc => ?_⟩
    have s8 := same_upd (o := .lst [V.non, .ref t]) hc
    have hC := upd_same (H := H7) (a := c) (o := .lst [V.non, .ref t])
    have ncs : c ∉ [st] := by
      simp only [List.mem_singleton]
      exact fun z => S7.ne (z ▸ hc)
    refine ⟨_, rfl, O, st, 2, rfl, by decide, by decide, S7.le s8, fun r H9 r0 r1 u9 S9 => ?_⟩
    have u79 := (Up.of (O := [st]) s8).trans u9
    obtain ⟨v, be, hat, rb, okb⟩ : ∃ v be, atI [V.non, .ref t] r = some v ∧ Rp K (wo H9 O) v (optD be) ∧ ∀ m, be = some m → okM m := by
      have : r = 0 ∨ r = 1 := by omega
      rcases this with rfl | rfl
      · exact ⟨.non, none, rfl, .non, fun m z => nomatch z⟩
      · refine ⟨.ref t, some (n, b), rfl, r7.le (Up.wo (u79.mono stO)), fun m z => ?_⟩
        cases z
        exact ⟨hn, by show b < 2 ^ 80; omega⟩
    refine ⟨c, _, r, v, rfl, rfl, SqL.of (u9 _ _ ncs hC), hat, ?_⟩
    have u49 := (u5.trans (u6.trans ((Up.of (O := [st]) s7).trans u79)))
    have O9 := (O7.le s8).st u9 S9
    refine ⟨_, rfl, O, st, rfl, S9, fun mo2 Ha hmo ua Sa => ?_⟩
    refine ⟨_, rfl, _, rfl, _, rfl, O, st, rfl, Sa, fun nu Hb hnu ub Sb => ?_⟩
    refine ⟨_, rfl, O, st, rfl, Sb, fun tx Hc htx uc Sc => ⟨sz 6 (by decide), fun x hx => ?_⟩⟩
    have u9c := ua.trans (ub.trans uc)
    have Oc := O9.st u9c Sc
    have s14 := same_upd (o := .tup [.str "change", .str (SX.S mo2), .ref tt, v, .int (nu : Int), .str (SX.S tx)]) hx
    exact q (.ref x) (.change mo2 ms be nu tx) _ ⟨hmo, ⟨mo, by omega⟩, okb, hnu, htx⟩ ((u4.trans (u49.trans u9c)).trans (Up.of s14)) (Sc.le s14)
      (rp_newT hx (Oc.out hx) (.cons (.str _) (.cons (.str _) (.cons (R4.le (Up.wo ((u49.trans u9c).mono stO))) (.cons (rb.le (Up.wo (u9c.mono stO))) (.cons (.int _) (.cons (.str _) .nil)))))))
def spSp (K : PySem.W.Frag) : Sp := fun vs H Q _ => ∃ (O : List Addr) (st a : Addr) (l : List Int), vs = [.ref st, .ref a] ∧ StB K O H st ∧ Own O H ∧ SqL K (wo H O) a (l.map V.int) ∧ (l.length ≤ 2900000 ∧ ∀ b ∈ l, 0 ≤ b) ∧
  ∀ (r : Addr) (l' : List Int) (H' : Hp), (l'.length ≤ 3000000 ∧ ∀ b ∈ l', 0 ≤ b) → Up [st] H H' → StB K O H' st → H' r = some (.lst (l'.map V.int)) → Q (.ref r) H'
theorem ok_law_spoilt {f : Addr} {fd : FuncData} (F : Fun K "_law_spoilt" "_law_spoilt" s_law_spoilt f fd) (T : Txt K mg) (G_law_next : GF P w K mg base CX0 "_law_next" 1 ["state", "limit"] (spNextW K)) : FnOk P w K mg base CX0 2 f fd ["state", "data"] (spSp K) := by
  refine F.ok sc_law_spoilt (fun vs H Q E h => ?_) (fun cdv A outer s H vs Q E hr h => ?_)
  · obtain ⟨_, _, _, _, rfl, _⟩ := h
    rfl
  obtain ⟨O, st, a, l, rfl, hS, hO, hA, ⟨hl, hb⟩, q⟩ := h
  have stO : ∀ a ∈ [st], a ∈ O := by simp only [List.mem_singleton, forall_eq]; exact hS.1
  refine ⟨_, (pss_cons (ps_set (i := 2) sc_law_spoilt.nd rfl (Or.inl rfl) (pe_cg G_law_next hr rfl (pa_cons (pv 0) (pa_cons (pe_op op_add (pe_callB call_len_seq (by rfl) T.b_len bt_len (pa_cons (pv 1) pa_nil)) pe_int) pa_nil))))
  (pss_cons (ps_set (i := 3) sc_law_spoilt.nd rfl (Or.inl rfl) (pe_ix ix_list (pe_lst (pa_cons pe_int (pa_cons pe_int (pa_cons pe_int (pa_cons pe_int (pa_cons pe_int (pa_cons pe_int (pa_cons pe_int pa_nil)))))))) (pe_cg G_law_next hr rfl (pa_cons (pv 0) (pa_cons pe_int pa_nil))) (fun _ _ => rfl)))
  (pss_cons (ps_set (i := 4) sc_law_spoilt.nd rfl (Or.inl rfl) (pe_cg G_law_next hr rfl (pa_cons (pv 0) (pa_cons pe_int pa_nil))))
  (pss_cons (ps_if (pt_cmpR op_eq (pv 4) pe_int (nomark _)) (pss_one (ps_ret (pe_slice sl_list (pv 1) po_none (po_some (pv 2))))) pss_nil)
  (pss_cons (ps_if (pt_cmpR op_eq (pv 4) pe_int (nomark _)) (pss_one (ps_ret (pe_op op_cat (pe_slice sl_list (pv 1) po_none (po_some (pv 2))) (pe_slice sl_list (pv 1) (po_some (pe_op op_add (pv 2) pe_int)) po_none)))) pss_nil)
  (pss_cons (ps_if (pt_cmpR op_eq (pv 4) pe_int (nomark _)) (pss_one (ps_ret (pe_op op_cat (pe_op op_cat (pe_slice sl_list (pv 1) po_none (po_some (pv 2))) (pe_lst (pa_cons (pv 3) pa_nil))) (pe_slice sl_list (pv 1) (po_some (pv 2)) po_none)))) pss_nil)
  (pss_cons (ps_if (pt_cmpR op_eq (pv 4) pe_int (nomark _)) (pss_one (ps_ret (pe_op op_cat (pe_op op_cat (pe_slice sl_list (pv 1) po_none (po_some (pv 2))) (pe_lst (pa_cons (pv 3) pa_nil))) (pe_slice sl_list (pv 1) (po_some (pe_op op_add (pv 2) pe_int)) po_none)))) pss_nil)
  (pss_one (ps_ret (pe_lc (own := [("k", 5)]) (g := (gName 5)) (tt := tYes) rfl sc_law_spoilt.nd (pi_range1 rfl T.b_range (pa_cons (pe_cg G_law_next hr rfl (pa_cons (pv 0) (pa_cons pe_int pa_nil))) pa_nil)) (blkOk_by (N := ["state", "data", "place", "byte", "pick", "k"]) (sc := defScope s_law_spoilt) (by decide +kernel)) (fun _ _ _ _ _ => (pg_name (i := 5) sc_law_spoilt.nd rfl (Or.inl rfl))) (fun _ _ _ _ _ => pts_nil) (fun _ _ _ _ _ => (pe_cg G_law_next hr rfl (pa_cons (pv 0) (pa_cons (pe_ix (ix_listK (K := K) rfl) (pe_lst (pa_cons pe_int (pa_cons pe_int pa_nil))) (pe_cg G_law_next hr rfl (pa_cons (pv 0) (pa_cons pe_int pa_nil))) (fun _ _ => rfl)) pa_nil)))))))))))))), ?_⟩
  refine ⟨_, rfl, _, rfl, a, _, rfl, .inl (sql_le (wo_le _ _) hA), _, _, rfl, rfl, O, st, _, rfl, by show (0 : Int) < ((l.map V.int).length : Int) + 1; omega, by rw [List.length_map]; omega, hS, fun y H1 y0 y1 u1 S1 => ?_⟩
  rw [List.length_map] at y1
  obtain ⟨p, rfl⟩ : ∃ p : Nat, y = (p : Int) := ⟨y.toNat, by omega⟩
  have hp : p ≤ l.length := by omega
  refine ⟨sz 7 (by decide), fun c hc => ?_⟩
  have s2 := same_upd (o := .lst ([0, 1, 2, 37, 127, 128, 255].map V.int)) hc
  have hC := upd_same (H := H1) (a := c) (o := .lst ([0, 1, 2, 37, 127, 128, 255].map V.int))
  have ncs : c ∉ [st] := by
    simp only [List.mem_singleton]
    exact fun z => S1.ne (z ▸ hc)
  refine ⟨_, rfl, O, st, 7, rfl, by decide, by decide, S1.le s2, fun r H3 r0 r1 u3 S3 => ?_⟩
  obtain ⟨x, hx, hat⟩ := pickL (xs := [0, 1, 2, 37, 127, 128, 255]) r0 r1
  have x0 := (by decide : ∀ x ∈ ([0, 1, 2, 37, 127, 128, 255] : List Int), 0 ≤ x) x hx
  refine ⟨c, _, r, .int x, rfl, rfl, SqL.of (u3 _ _ ncs hC), hat, ?_⟩
  refine ⟨_, rfl, O, st, 5, rfl, by decide, by decide, S3, fun pk H4 k0 k1 u4 S4 => ?_⟩
  have u04 := u1.trans ((Up.of (O := [st]) s2).trans (u3.trans u4))
  have hA4 := sql_le (wo_le _ _) (sql_le (Up.wo (u04.mono stO)) hA)
  clear hC s2 ncs hat hS hA hc u3 S3 u1 S1
  have e1 : cutV (l.map V.int) none (some (p : Int)) = (l.take p).map V.int := by rw [cut_up, List.map_take]
  have e2 : cutV (l.map V.int) (some ((p : Int) + 1)) none = (l.drop (p + 1)).map V.int := by
    rw [show (p : Int) + 1 = ((p + 1 : Nat) : Int) by omega, cut_fr, List.map_drop]
  have e3 : cutV (l.map V.int) (some (p : Int)) none = (l.drop p).map V.int := by rw [cut_fr, List.map_drop]
  have b1 : ∀ b ∈ l.take p, 0 ≤ b := fun b z => hb b (List.mem_of_mem_take z)
  have b2 : ∀ b ∈ l.drop (p + 1), 0 ≤ b := fun b z => hb b (List.mem_of_mem_drop z)
  have b3 : ∀ b ∈ l.drop p, 0 ≤ b := fun b z => hb b (List.mem_of_mem_drop z)
  have l1 : (l.take p).length ≤ l.length := by rw [List.length_take]; omega
  have l2 : (l.drop (p + 1)).length ≤ l.length := by rw [List.length_drop]; omega
  have l3 : (l.drop p).length ≤ l.length := by rw [List.length_drop]; omega
  have mb : ∀ (A B : List Int), (∀ b ∈ A, 0 ≤ b) → (∀ b ∈ B, 0 ≤ b) → ∀ b ∈ A ++ ([x] ++ B), 0 ≤ b := fun A B h1 h2 b hb => by
    simp only [List.mem_append, List.mem_singleton] at hb
    rcases hb with hb | rfl | hb
    · exact h1 b hb
    · exact x0
    · exact h2 b hb
  refine ⟨_, rfl, rfl, _, rfl, brD (fun z => ?_) (fun _ => ?_)⟩
  · refine ⟨_, rfl, _, rfl, _, rfl, a, _, rfl, hA4, fun d hd => ?_⟩
    rw [e1]
    have s5 := same_upd (o := .lst ((l.take p).map V.int)) hd
    exact q d (l.take p) _ ⟨by omega, b1⟩ (u04.trans (Up.of s5)) (S4.le s5) upd_same
  refine ⟨_, rfl, rfl, _, rfl, brD (fun z => ?_) (fun _ => ?_)⟩
  · refine ⟨_, rfl, _, rfl, _, rfl, a, _, rfl, hA4, fun d hd => ?_⟩
    rw [e1]
    have s5 := same_upd (o := .lst ((l.take p).map V.int)) hd; have h5 := upd_same (H := H4) (a := d) (o := .lst ((l.take p).map V.int)); generalize upd H4 d (.lst ((l.take p).map V.int)) = H5 at s5 h5 ⊢
    refine ⟨_, rfl, _, rfl, _, _, rfl, rfl, _, rfl, a, _, rfl, sql_le s5 hA4, fun e he => ?_⟩
    rw [e2]
    have s6 := same_upd (o := .lst ((l.drop (p + 1)).map V.int)) he; have h6 := upd_same (H := H5) (a := e) (o := .lst ((l.drop (p + 1)).map V.int)); generalize upd H5 e (.lst ((l.drop (p + 1)).map V.int)) = H6 at s6 h6 ⊢
    refine ⟨d, e, _, _, rfl, rfl, s6 _ _ h5, h6, sz _ (by rw [List.length_map, List.length_map]; omega), fun g hg => ?_⟩
    rw [← List.map_append]
    have s7 := same_upd (o := .lst ((l.take p ++ l.drop (p + 1)).map V.int)) hg
    have s57 := s5.trans (s6.trans s7)
    exact q g (l.take p ++ l.drop (p + 1)) _ ⟨by rw [List.length_append]; rw [List.length_take, List.length_drop]; omega, fun b z => (List.mem_append.mp z).elim (b1 b) (b2 b)⟩ (u04.trans (Up.of s57)) (S4.le s57) upd_same
  refine ⟨_, rfl, rfl, _, rfl, brD (fun z => ?_) (fun _ => ?_)⟩
  · refine ⟨_, rfl, _, rfl, _, rfl, a, _, rfl, hA4, fun d hd => ?_⟩
    rw [e1]
    have s5 := same_upd (o := .lst ((l.take p).map V.int)) hd; have h5 := upd_same (H := H4) (a := d) (o := .lst ((l.take p).map V.int)); generalize upd H4 d (.lst ((l.take p).map V.int)) = H5 at s5 h5 ⊢
    refine ⟨_, rfl, sz 1 (by decide), fun c1 hc1 => ?_⟩
    have s6 := same_upd (o := .lst [.int x]) hc1; have h6 := upd_same (H := H5) (a := c1) (o := .lst [.int x]); generalize upd H5 c1 (.lst [.int x]) = H6 at s6 h6 ⊢
    refine ⟨d, c1, _, _, rfl, rfl, s6 _ _ h5, h6, sz _ (by rw [List.length_map]; simp only [List.length_singleton]; omega), fun g hg => ?_⟩
    have s7 := same_upd (o := .lst ((l.take p).map V.int ++ [V.int x])) hg; have h7 := upd_same (H := H6) (a := g) (o := .lst ((l.take p).map V.int ++ [V.int x])); generalize upd H6 g (.lst ((l.take p).map V.int ++ [V.int x])) = H7 at s7 h7 ⊢
    have s47 := s5.trans (s6.trans s7)
    refine ⟨_, rfl, _, rfl, _, rfl, a, _, rfl, sql_le s47 hA4, fun e he => ?_⟩
    rw [e3]
    have s8 := same_upd (o := .lst ((l.drop p).map V.int)) he; have h8 := upd_same (H := H7) (a := e) (o := .lst ((l.drop p).map V.int)); generalize upd H7 e (.lst ((l.drop p).map V.int)) = H8 at s8 h8 ⊢
    refine ⟨g, e, _, _, rfl, rfl, s8 _ _ h7, h8, sz _ (by simp only [List.length_append, List.length_map, List.length_singleton]; omega), fun m hm => ?_⟩
    have s9 := s47.trans (s8.trans (same_upd (o := .lst ((l.take p).map V.int ++ [V.int x] ++ (l.drop p).map V.int)) hm))
    refine q m (l.take p ++ ([x] ++ l.drop p)) _ ⟨by simp only [List.length_append, List.length_singleton, List.length_take, List.length_drop]; omega, mb _ _ b1 b3⟩ (u04.trans (Up.of s9)) (S4.le s9) ?_
    rw [upd_same]
    simp
  refine ⟨_, rfl, rfl, _, rfl, brD (fun z => ?_) (fun _ => ?_)⟩
  · refine ⟨_, rfl, _, rfl, _, rfl, a, _, rfl, hA4, fun d hd => ?_⟩
    rw [e1]
    have s5 := same_upd (o := .lst ((l.take p).map V.int)) hd; have h5 := upd_same (H := H4) (a := d) (o := .lst ((l.take p).map V.int)); generalize upd H4 d (.lst ((l.take p).map V.int)) = H5 at s5 h5 ⊢
    refine ⟨_, rfl, sz 1 (by decide), fun c1 hc1 => ?_⟩
    have s6 := same_upd (o := .lst [.int x]) hc1; have h6 := upd_same (H := H5) (a := c1) (o := .lst [.int x]); generalize upd H5 c1 (.lst [.int x]) = H6 at s6 h6 ⊢
    refine ⟨d, c1, _, _, rfl, rfl, s6 _ _ h5, h6, sz _ (by rw [List.length_map]; simp only [List.length_singleton]; omega), fun g hg => ?_⟩
    have s7 := same_upd (o := .lst ((l.take p).map V.int ++ [V.int x])) hg; have h7 := upd_same (H := H6) (a := g) (o := .lst ((l.take p).map V.int ++ [V.int x])); generalize upd H6 g (.lst ((l.take p).map V.int ++ [V.int x])) = H7 at s7 h7 ⊢
    have s47 := s5.trans (s6.trans s7)
    refine ⟨_, rfl, _, rfl, _, _, rfl, rfl, _, rfl, a, _, rfl, sql_le s47 hA4, fun e he => ?_⟩
    rw [e2]
    have s8 := same_upd (o := .lst ((l.drop (p + 1)).map V.int)) he; have h8 := upd_same (H := H7) (a := e) (o := .lst ((l.drop (p + 1)).map V.int)); generalize upd H7 e (.lst ((l.drop (p + 1)).map V.int)) = H8 at s8 h8 ⊢
    refine ⟨g, e, _, _, rfl, rfl, s8 _ _ h7, h8, sz _ (by simp only [List.length_append, List.length_map, List.length_singleton]; omega), fun m hm => ?_⟩
    have s9 := s47.trans (s8.trans (same_upd (o := .lst ((l.take p).map V.int ++ [V.int x] ++ (l.drop (p + 1)).map V.int)) hm))
    refine q m (l.take p ++ ([x] ++ l.drop (p + 1))) _ ⟨by simp only [List.length_append, List.length_singleton, List.length_take, List.length_drop]; omega, mb _ _ b1 b2⟩ (u04.trans (Up.of s9)) (S4.le s9) ?_
    rw [upd_same]
    simp
  have O4 := hO.st u04 S4
  refine ⟨_, rfl, O, st, 12, rfl, by decide, by decide, S4, fun y H5 y0 y1 u5 S5 => ?_⟩
  refine ⟨y, rfl, by omega, by omega, fun D hD => lc_range (lo := 0) (n := y.toNat) (fun k H' => ∃ t : List Int, t.length = k ∧ (∀ c ∈ t, 0 ≤ c) ∧ Up [st] H5 H' ∧ StB K (D :: O) H' st ∧ H' D = some (.lst (t.map V.int))) ⟨[], rfl, fun m hm => by (cases hm), Up.new hD, S5.grow hD, upd_same⟩ ?_ ?_⟩
  · rintro k H6 hk ⟨t, tl, tc, u6, S6, h6⟩
    have nD : D ≠ st := fun z => S5.ne (z ▸ hD)
    refine ⟨rfl, _, rfl, sz 2 (by decide), fun c hc => ?_⟩
    have s7 := same_upd (o := .lst ([3, 256].map V.int)) hc
    have hC := upd_same (H := H6) (a := c) (o := .lst ([3, 256].map V.int))
    refine ⟨_, rfl, D :: O, st, 2, rfl, by decide, by decide, S6.le s7, fun r H8 r0 r1 u8 S8 => ?_⟩
    obtain ⟨x, hx, hat⟩ := pickL (xs := [3, 256]) r0 r1
    obtain ⟨x0, x1⟩ := (by decide : ∀ x ∈ ([3, 256] : List Int), 0 < x ∧ x ≤ 256) x hx
    have ncs : c ∉ [st] := by
      simp only [List.mem_singleton]
      exact fun z => S6.ne (z ▸ hc)
    refine ⟨c, _, r, .int x, rfl, rfl, SqL.of (u8 _ _ ncs hC), hat, D :: O, st, x, rfl, x0, by omega, S8, fun e H9 e0 e1 u9 S9 => ?_⟩
    have u69 := (Up.of (O := [st]) s7).trans (u8.trans u9)
    have h9 := u69 _ _ (by simpa using nD) h6
    refine ⟨_, h9, szl _ (by rw [List.length_map]; omega), t ++ [e], by simp [tl], fun x hx => ?_, (u6.trans u69).putN hD, S9.put (by simp) nD, ?_⟩
    · rcases List.mem_append.mp hx with hx | hx
      · exact tc x hx
      · simp only [List.mem_singleton] at hx
        rw [hx]
        exact e0
    · rw [upd_same]
      simp
  · rintro H6 ⟨t, tl, tc, u6, S6, h6⟩
    exact q D t H6 ⟨by omega, tc⟩ (u04.trans (u5.trans u6)) (S6.shrink (stO _ (by simp))) h6
end

theorem times_mem {α : Type} {f : Nat → Option (α × Nat)} : ∀ {c i j : Nat} {ds : List α}, times f c i = some (ds, j) → ∀ a ∈ ds, ∃ i' j', f i' = some (a, j')
  | 0, i, j, ds, h => by
    simp [times] at h
    rw [h.1]
    intro a z
    cases z
  | c + 1, i, j, ds, h => by
    simp only [times, Option.bind_eq_some_iff] at h
    obtain ⟨b, h1, r, h2, h3⟩ := h
    simp only [Option.some.injEq, Prod.mk.injEq] at h3
    intro a z
    rw [← h3.1] at z
    rcases List.mem_cons.mp z with rfl | z
    · exact ⟨_, _, h1⟩
    · exact times_mem (ds := r.1) (j := r.2) h2 a z
theorem times_bd {α : Type} {f : Nat → Option (α × Nat)} {N : Nat} (hf : ∀ i a j, f i = some (a, j) → j ≤ N) : ∀ {c i j : Nat} {ds : List α}, times f c i = some (ds, j) → i ≤ N → j ≤ N
  | 0, i, j, ds, h, hi => by
    simp [times] at h
    omega
  | c + 1, i, j, ds, h, hi => by
    simp only [times, Option.bind_eq_some_iff] at h
    obtain ⟨b, h1, r, h2, h3⟩ := h
    simp only [Option.some.injEq, Prod.mk.injEq] at h3
    rw [← h3.2]
    exact times_bd hf (ds := r.1) (j := r.2) h2 (hf _ _ _ h1)
section
variable {l : List Int} {i j : Nat}
theorem bd_text {t : List Nat} (h : textAt l i = some (t, j)) : j ≤ l.length := by
  unfold textAt at h
  rw [Option.bind_eq_some_iff] at h
  obtain ⟨c, h1, h2⟩ := h
  refine times_bd (fun i a j z => ?_) h2 (cntAt_some h1).2.1
  unfold charAt at z
  rw [Option.bind_eq_some_iff] at z
  obtain ⟨d, z1, z2⟩ := z
  split at z2
  · cases z2
    exact (numAt_le z1).2
  · cases z2
theorem bd_mk {m : Mk} (h : mkAt l i = some (m, j)) : j ≤ l.length := by
  unfold mkAt at h
  simp only [Option.bind_eq_some_iff] at h
  obtain ⟨a, h1, b, h2, h3⟩ := h
  cases h3
  exact (numAt_le h2).2
theorem bd_marks {m : List Mk} (h : marksAt l i = some (m, j)) : j ≤ l.length ∧ m.length ≤ l.length := by
  unfold marksAt at h
  rw [Option.bind_eq_some_iff] at h
  obtain ⟨c, h1, h2⟩ := h
  have := cntAt_some h1
  exact ⟨times_bd (fun i a j z => bd_mk z) h2 this.2.1, by rw [times_len h2]; exact this.1⟩
theorem bd_deed {d : Dd} (h : deedAt l i = some (d, j)) : j ≤ l.length ∧ (l.length ≤ 3000000 → fit (ddD d) = true) := by
  unfold deedAt at h
  simp only [Option.bind_eq_some_iff] at h
  obtain ⟨c, h1, h2⟩ := h
  split at h2
  · rw [Option.bind_eq_some_iff] at h2
    obtain ⟨n, h3, h4⟩ := h2
    cases h4
    exact ⟨(numAt_le h3).2, fun _ => rfl⟩
  · unfold chgAt at h2
    simp only [Option.bind_eq_some_iff] at h2
    obtain ⟨mo, h3, rm, h4, be, h5, nu, h6, tx, h7, h8⟩ := h2
    cases h8
    refine ⟨bd_text h7, fun hl => ?_⟩
    have hm := (bd_marks h4).2
    have : fitAll (rm.1.map mkD) = true := fitAll_of fun d hd => by
      obtain ⟨m, _, rfl⟩ := List.mem_map.mp hd
      rfl
    cases be.1 <;> simp [ddD, fit, fitAll, optD, mkD, this] <;> omega
theorem bd_trs {ts : List Tr} (h : trsAt l i = some (ts, j)) : j ≤ l.length ∧ (l.length ≤ 3000000 → fit (tsD ts) = true) := by
  unfold trsAt at h
  rw [Option.bind_eq_some_iff] at h
  obtain ⟨c, h1, h2⟩ := h
  have hc := cntAt_some h1
  have bt : ∀ i a j, trAt l i = some (a, j) → j ≤ l.length ∧ (l.length ≤ 3000000 → fit (trD a) = true) := fun i a j z => by
    rw [trAt_mk] at z
    simp only [Option.bind_eq_some_iff] at z
    obtain ⟨m, z1, d, z2, z3⟩ := z
    cases z3
    have := bd_deed z2
    exact ⟨this.1, fun hl => by simp [trD, fit, fitAll, this.2 hl]⟩
  refine ⟨times_bd (fun i a j z => (bt i a j z).1) h2 hc.2.1, fun hl => ?_⟩
  have : fitAll (ts.map trD) = true := fitAll_of fun d hd => by
    obtain ⟨t, ht, rfl⟩ := List.mem_map.mp hd
    obtain ⟨i', j', e⟩ := times_mem h2 t ht
    exact (bt _ _ _ e).2 hl
  have tl := times_len h2
  simp [tsD, fit, this]
  omega
theorem bd_pkt {ts : List Tr} (h : pktAt l i = some (ts, j)) : j ≤ l.length ∧ (l.length ≤ 3000000 → fit (tsD ts) = true) := by
  unfold pktAt at h
  rw [Option.bind_eq_some_iff] at h
  obtain ⟨b, h1, h2⟩ := h
  split at h2
  · exact bd_trs h2
  · cases h2
end
theorem dep_dd (d : Dd) : dep (ddD d) ≤ 3 := by
  cases d with
  | back n => simp [ddD, dep, depAll]
  | change mo rm be nu tx =>
    have : depAll (rm.map mkD) ≤ 1 := depAll_le fun d hd => by
      obtain ⟨m, _, rfl⟩ := List.mem_map.mp hd
      simp [mkD, dep, depAll]
    cases be <;> simp [ddD, dep, depAll, optD, mkD] <;> omega
theorem dep_ts (ts : List Tr) : dep (tsD ts) ≤ 5 := by
  have : depAll (ts.map trD) ≤ 4 := depAll_le fun d hd => by
    obtain ⟨t, _, rfl⟩ := List.mem_map.mp hd
    have := dep_dd t.2.2
    simp [trD, dep, depAll]
    omega
  simp [tsD, dep]
  omega
def pairD {α : Type} (g : α → PyData) : Option (α × Nat) → PyData
  | none => .none
  | some z => .tuple [g z.1, .int (z.2 : Int)]
def toldD (k : Nat) (l : List Int) : PyData := match k with
  | 0 => pairD natD (numAt l 0) | 1 => pairD txD (textAt l 0) | 2 => pairD ddD (deedAt l 0) | 3 => pairD tsD (trsAt l 0) | _ => pairD tsD (pktAt l 0)
theorem fit_pair {α : Type} {g : α → PyData} {z : Option (α × Nat)} (h : ∀ a j, z = some (a, j) → fit (g a) = true ∧ dep (g a) ≤ 5) : fit (pairD g z) = true ∧ dep (pairD g z) < 7 := by
  cases z with
  | none => exact ⟨rfl, by simp [pairD, dep]⟩
  | some z =>
    have := h z.1 z.2 rfl
    refine ⟨by simp [pairD, fit, fitAll, this.1], ?_⟩
    simp only [pairD, dep, depAll]
    omega
theorem fit_told {k : Nat} {l : List Int} (hl : l.length ≤ 3000000) : fit (toldD k l) = true ∧ dep (toldD k l) < 7 := by
  unfold toldD
  split
  · exact fit_pair fun a j _ => ⟨rfl, by simp [natD, dep]⟩
  · exact fit_pair fun a j _ => ⟨rfl, by simp [txD, dep]⟩
  · exact fit_pair fun a j h => ⟨(bd_deed h).2 hl, Nat.le_trans (dep_dd a) (by decide)⟩
  · exact fit_pair fun a j h => ⟨(bd_trs h).2 hl, dep_ts a⟩
  · exact fit_pair fun a j h => ⟨(bd_pkt h).2 hl, dep_ts a⟩
def spOwn (K : PySem.W.Frag) : Sp := fun vs H Q _ => ∃ (k : Nat) (a : Addr) (l : List Int), vs = [.int (k : Int), .ref a] ∧ k < 5 ∧ SqL K H a (l.map V.int) ∧ (l.length ≤ 3000000 ∧ ∀ b ∈ l, 0 ≤ b) ∧ ∀ (v : V) (H' : Hp), Same H H' → Rp K H' v (toldD k l) → Q v H'
theorem pairX {α : Type} {K : PySem.W.Frag} {f : List Int → Nat → Option (α × Nat)} {g : α → PyData} {H : Hp} {Q : VK} {E : XK} {a : Addr} {l : List Int} (hA : SqL K H a (l.map V.int)) (hl : l.length ≤ 3000000 ∧ ∀ b ∈ l, 0 ≤ b) (q : ∀ (v : V) (H' : Hp), Same H H' → Rp K H' v (pairD g (f l 0)) → Q v H') : spLr K f g [.ref a, .int 0] H Q E :=
  ⟨[], a, l, 0, rfl, own0, hA, hl, fun H' e s => q _ _ s (by rw [e]; exact .non), fun t v d j H' e s h r => q _ _ s (by rw [e]; exact .tup (SqT.of h) (.cons (by rw [wo_nil] at r; exact r) (.cons (.int _) .nil)))⟩
section
variable {P : Program} {w : World} {K : PySem.W.Frag} {mg : Str → Option Value} {base : Heap} {C CD : Addr}
theorem ok_law_own {f : Addr} {fd : FuncData} (F : Fun K "_law_own" "_law_own" s_law_own f fd) (T : Txt K mg) (G_law_read_number : GF P w K mg base CX0 "_law_read_number" 1 ["data", "at"] (spLr K numAt natD)) (G_law_read_text : GF P w K mg base CX0 "_law_read_text" 2 ["data", "at"] (spLr K textAt txD))
    (G_law_read_deed : GF P w K mg base CX0 "_law_read_deed" 3 ["data", "at"] (spLr K deedAt ddD)) (G_law_read_triples : GF P w K mg base CX0 "_law_read_triples" 4 ["data", "at"] (spLr K trsAt tsD)) (G_law_read_packet : GF P w K mg base CX0 "_law_read_packet" 5 ["data", "at"] (spLr K pktAt tsD)) : FnOk P w K mg base CX0 6 f fd ["kind", "data"] (spOwn K) := by
  refine F.ok sc_law_own (fun vs H Q E h => ?_) (fun cdv A outer s H vs Q E hr h => ?_)
  · obtain ⟨_, _, _, rfl, _⟩ := h
    rfl
  obtain ⟨k, a, l, rfl, hk, hA, hl, q⟩ := h
  refine ⟨_, (pss_cons (ps_if (pt_cmpR op_eq (pv 0) pe_int (nomark _)) (pss_one (ps_ret (pe_cg G_law_read_number hr rfl (pa_cons (pv 1) (pa_cons pe_int pa_nil))))) pss_nil)
  (pss_cons (ps_if (pt_cmpR op_eq (pv 0) pe_int (nomark _)) (pss_one (ps_ret (pe_cg G_law_read_text hr rfl (pa_cons (pv 1) (pa_cons pe_int pa_nil))))) pss_nil)
  (pss_cons (ps_if (pt_cmpR op_eq (pv 0) pe_int (nomark _)) (pss_one (ps_ret (pe_cg G_law_read_deed hr rfl (pa_cons (pv 1) (pa_cons pe_int pa_nil))))) pss_nil)
  (pss_one (ps_ret (pe_ifExp (pt_cmpR op_eq (pv 0) pe_int (nomark _)) (pe_cg G_law_read_triples hr rfl (pa_cons (pv 1) (pa_cons pe_int pa_nil))) (pe_cg G_law_read_packet hr rfl (pa_cons (pv 1) (pa_cons pe_int pa_nil))))))))), ?_⟩
  have cs : k = 0 ∨ k = 1 ∨ k = 2 ∨ k = 3 ∨ k = 4 := by omega
  refine ⟨_, rfl, rfl, _, rfl, brD (fun z => ?_) (fun z0 => ?_)⟩
  · rw [int_inj] at z
    have : k = 0 := by omega
    subst this
    have q' := pairX (f := numAt) (g := natD) (E := E0) hA hl q
    exact ⟨_, rfl, q'⟩
  refine ⟨_, rfl, rfl, _, rfl, brD (fun z => ?_) (fun z1 => ?_)⟩
  · rw [int_inj] at z
    have : k = 1 := by omega
    subst this
    have q' := pairX (f := textAt) (g := txD) (E := E0) hA hl q
    exact ⟨_, rfl, q'⟩
  refine ⟨_, rfl, rfl, _, rfl, brD (fun z => ?_) (fun z2 => ?_)⟩
  · rw [int_inj] at z
    have : k = 2 := by omega
    subst this
    have q' := pairX (f := deedAt) (g := ddD) (E := E0) hA hl q
    exact ⟨_, rfl, q'⟩
  refine ⟨_, rfl, rfl, _, rfl, brD (fun z => ?_) (fun z3 => ?_)⟩
  · rw [int_inj] at z
    have : k = 3 := by omega
    subst this
    have q' := pairX (f := trsAt) (g := tsD) (E := E0) hA hl q
    exact ⟨_, rfl, q'⟩
  · rw [int_inj] at z0 z1 z2 z3
    have : k = 4 := by omega
    subst this
    have q' := pairX (f := pktAt) (g := tsD) (E := E0) hA hl q
    exact ⟨_, rfl, q'⟩
theorem ok_law_told {f : Addr} {fd : FuncData} (F : Fun K "_law_told" "_law_told" s_law_told f fd) (T : Txt K mg) (T_Reader : TReader K C) (X_DamagedPacket : ExF K mg "DamagedPacket" CD)
    (C_Reader : GC P w K mg base CX0 "Reader" C 1 ["self", "data"] (spRInit K C)) (M_end : GM P w K mg base (L2.CX P w) C "end" 1 ["self"] (spREnd K C CD)) (M_read_number : GM P w K mg base (L2.CX P w) C "read_number" 2 ["self"] (spRd K C CD numAt natD)) (M_read_string : GM P w K mg base (L2.CX P w) C "read_string" 4 ["self"] (spRd K C CD textAt txD))
    (M_read_deed : GM P w K mg base (L2.CX P w) C "read_deed" 5 ["self"] (spRd K C CD deedAt ddD)) (M_read_triples : GM P w K mg base (L2.CX P w) C "read_triples" 7 ["self"] (spRd K C CD trsAt tsD)) (M_read_packet : GM P w K mg base (L2.CX P w) C "read_packet" 8 ["self"] (spRd K C CD pktAt tsD)) : FnOk P w K mg base CX0 9 f fd ["kind", "data"] (spOwn K) := by
  refine F.ok sc_law_told (fun vs H Q E h => ?_) (fun cdv A outer s H vs Q E hr h => ?_)
  · obtain ⟨_, _, _, rfl, _⟩ := h
    rfl
  obtain ⟨k, a, l, rfl, hk, hA, hl, q⟩ := h
  refine ⟨_, (pss_cons (ps_set (i := 2) sc_law_told.nd rfl (Or.inl rfl) (pe_gk C_Reader hr rfl (pa_cons (pe_callTy call_list_of (by rfl) T.b_list bt_list (pa_cons (pv 1) pa_nil)) pa_nil)))
  (Evl.pss_cut (ps_try_only rfl rfl ⟨rfl, by decide, .inl X_DamagedPacket.g⟩ takes0 (fun W pn xe tk po => (pss_one (ps_if (pt_cmpR op_eq (pv 0) pe_int (nomark _)) (pss_one (ps_set (i := 3) sc_law_told.nd rfl (Or.inl rfl) (pe_gmS0 (pv 2) T_Reader.cl M_read_number hr tk))) (pss_one (ps_if (pt_cmpR op_eq (pv 0) pe_int (nomark _)) (pss_one (ps_set (i := 3) sc_law_told.nd rfl (Or.inl rfl) (pe_gmS0 (pv 2) T_Reader.cl M_read_string hr tk))) (pss_one (ps_if (pt_cmpR op_eq (pv 0) pe_int (nomark _)) (pss_one (ps_set (i := 3) sc_law_told.nd rfl (Or.inl rfl) (pe_gmS0 (pv 2) T_Reader.cl M_read_deed hr tk))) (pss_one (ps_if (pt_cmpR op_eq (pv 0) pe_int (nomark _)) (pss_one (ps_set (i := 3) sc_law_told.nd rfl (Or.inl rfl) (pe_gmS0 (pv 2) T_Reader.cl M_read_triples hr tk))) (pss_one (ps_set (i := 3) sc_law_told.nd rfl (Or.inl rfl) (pe_gmS0 (pv 2) T_Reader.cl M_read_packet hr tk)))))))))))) (fun a oe cls d pn _ _ => (pss_one (ps_ret pe_non))))
  (pss_cons (ps_set (i := 4) sc_law_told.nd rfl (Or.inl rfl) (pe_fld (pv 2) rfl))
  (Evl.pss_cut (ps_try_only rfl rfl ⟨rfl, by decide, .inl X_DamagedPacket.g⟩ takes0 (fun W pn xe tk po => (pss_cons (ps_expr (pe_gmS0 (pv 2) T_Reader.cl M_end hr tk))
  (pss_one (ps_set (i := 5) sc_law_told.nd rfl (Or.inl rfl) pe_bl)))) (fun a oe cls d pn _ _ => (pss_one (ps_set (i := 5) sc_law_told.nd rfl (Or.inl rfl) pe_bl))))
  (pss_one (ps_ret (pe_ifExp (pt_cmpR op_eq (pv 5) (pe_cmpR op_eq (pv 4) (pe_callB call_len_seq (by rfl) T.b_len bt_len (pa_cons (pv 1) pa_nil)) (nomark _)) (nomark _)) (pe_tup (pa_cons (pv 3) (pa_cons (pv 4) pa_nil))) (pe_tup (pa_cons pe_str (pa_cons (pv 4) pa_nil)))))))))), ?_⟩
  refine ⟨_, rfl, a, _, rfl, .inl hA, fun c hc => ?_⟩
  have s1 := same_upd (o := .lst (l.map V.int)) hc; have hC := upd_same (H := H) (a := c) (o := .lst (l.map V.int)); generalize upd H c (.lst (l.map V.int)) = H1 at s1 hC ⊢
  intro x dx hx hdx hne
  have s2 := mk_same (C := C) hx hdx hne
  have ow2 := mk_own (O := []) (C := C) own0 hx hdx hne
  refine ⟨[x], x, c, dx, l, rfl, upd_same, by simp, ow2, SqL.of (s2 _ _ hC), fun H2 u2 R => ⟨rfl, ?_⟩⟩
  have s02 : Same H H2 := s1.trans (Up.mk s2 hx u2)
  have hx0 : H x = none := s1.free hx
  have R2 : RdIn K C [x] H2 x l 0 := ⟨R, ow2.up u2 (by simpa using R.ne), by have := hl.1; omega⟩
  refine ⟨fun σ' H' => ∃ (v : V) (d : PyData) (j : Nat), σ' = [some (.int (k : Int)), some (.ref a), some (.ref x), some v, none, none] ∧ toldD k l = .tuple [d, .int (j : Int)] ∧ j ≤ l.length ∧ Same H H' ∧ RdIn K C [x] H' x l j ∧ Rp K (wo H' [x]) v d, ?_, ?_⟩
  · obtain ⟨_, dx2, a2, h2, _⟩ := id R2.at'
    refine ⟨_, rfl, rfl, _, rfl, brD (fun z => ?_) (fun z0 => ?_)⟩
    · rw [int_inj] at z
      have : k = 0 := by omega
      subst this
      have et : toldD 0 l = pairD natD (numAt l 0) := rfl
      refine ⟨_, rfl, _, dx2, _, rfl, h2, F2_no (by decide +kernel) (by decide +kernel), [x], x, l, 0, rfl, R2, fun H3 j e u r => ⟨true, X_DamagedPacket.e, fun _ a ha => ?_, fun z => nomatch z⟩, fun v d j H3 e u r rp => ?_⟩
      · exact q .non H3 (Up.mk s02 hx0 u) (by rw [et, e]; exact .non)
      · exact ⟨v, natD d, j, rfl, by rw [et, e]; rfl, (numAt_le e).2, Up.mk s02 hx0 u, r, rp⟩
    refine ⟨_, rfl, rfl, _, rfl, brD (fun z => ?_) (fun z1 => ?_)⟩
    · rw [int_inj] at z
      have : k = 1 := by omega
      subst this
      have et : toldD 1 l = pairD txD (textAt l 0) := rfl
      refine ⟨_, rfl, _, dx2, _, rfl, h2, F2_no (by decide +kernel) (by decide +kernel), [x], x, l, 0, rfl, R2, fun H3 j e u r => ⟨true, X_DamagedPacket.e, fun _ a ha => ?_, fun z => nomatch z⟩, fun v d j H3 e u r rp => ?_⟩
      · exact q .non H3 (Up.mk s02 hx0 u) (by rw [et, e]; exact .non)
      · exact ⟨v, txD d, j, rfl, by rw [et, e]; rfl, bd_text e, Up.mk s02 hx0 u, r, rp⟩
    refine ⟨_, rfl, rfl, _, rfl, brD (fun z => ?_) (fun z2 => ?_)⟩
    · rw [int_inj] at z
      have : k = 2 := by omega
      subst this
      have et : toldD 2 l = pairD ddD (deedAt l 0) := rfl
      refine ⟨_, rfl, _, dx2, _, rfl, h2, F2_no (by decide +kernel) (by decide +kernel), [x], x, l, 0, rfl, R2, fun H3 j e u r => ⟨true, X_DamagedPacket.e, fun _ a ha => ?_, fun z => nomatch z⟩, fun v d j H3 e u r rp => ?_⟩
      · exact q .non H3 (Up.mk s02 hx0 u) (by rw [et, e]; exact .non)
      · exact ⟨v, ddD d, j, rfl, by rw [et, e]; rfl, (bd_deed e).1, Up.mk s02 hx0 u, r, rp⟩
    refine ⟨_, rfl, rfl, _, rfl, brD (fun z => ?_) (fun z3 => ?_)⟩
    · rw [int_inj] at z
      have : k = 3 := by omega
      subst this
      have et : toldD 3 l = pairD tsD (trsAt l 0) := rfl
      refine ⟨_, rfl, _, dx2, _, rfl, h2, F2_no (by decide +kernel) (by decide +kernel), [x], x, l, 0, rfl, R2, fun H3 j e u r => ⟨true, X_DamagedPacket.e, fun _ a ha => ?_, fun z => nomatch z⟩, fun v d j H3 e u r rp => ?_⟩
      · exact q .non H3 (Up.mk s02 hx0 u) (by rw [et, e]; exact .non)
      · exact ⟨v, tsD d, j, rfl, by rw [et, e]; rfl, (bd_trs e).1, Up.mk s02 hx0 u, r, rp⟩
    rw [int_inj] at z0 z1 z2 z3
    have : k = 4 := by omega
    subst this
    have et : toldD 4 l = pairD tsD (pktAt l 0) := rfl
    refine ⟨_, rfl, _, dx2, _, rfl, h2, F2_no (by decide +kernel) (by decide +kernel), [x], x, l, 0, rfl, R2, fun H3 j e u r => ⟨true, X_DamagedPacket.e, fun _ a ha => ?_, fun z => nomatch z⟩, fun v d j H3 e u r rp => ?_⟩
    · exact q .non H3 (Up.mk s02 hx0 u) (by rw [et, e]; exact .non)
    · exact ⟨v, tsD d, j, rfl, by rw [et, e]; rfl, (bd_pkt e).1, Up.mk s02 hx0 u, r, rp⟩
  rintro σ' H3 ⟨v, d, j, rfl, et, hj, s03, R3, rv⟩
  obtain ⟨_, dx3, a3, h3, _⟩ := id R3.at'
  refine ⟨_, rfl, x, C, dx3, _, _, rfl, h3, T_Reader.cl, T_Reader.n_at, F2_b, ?_⟩
  refine ⟨fun σ' H' => σ' = [some (.int (k : Int)), some (.ref a), some (.ref x), some v, some (.int (j : Int)), some (.bl (decide (j = l.length)))] ∧ H3 = H', ?_, ?_⟩
  · refine ⟨_, rfl, _, dx3, _, rfl, h3, F2_no (by decide +kernel) (by decide +kernel), [x], x, l, j, rfl, R3, fun z => ⟨true, X_DamagedPacket.e, fun _ a ha => ?_, fun z => nomatch z⟩, fun z => ?_⟩
    · exact ⟨by rw [decide_eq_false (by omega)]; rfl, rfl⟩
    · exact ⟨by rw [decide_eq_true (by omega)]; rfl, rfl⟩
  rintro σ' H4 ⟨rfl, rfl⟩
  refine ⟨_, rfl, _, rfl, _, rfl, a, _, rfl, .inl (sql_le s03 hA), rfl, rfl, _, rfl, brD (fun z => ?_) (fun z => ?_)⟩
  · refine ⟨_, rfl, _, rfl, sz 2 (by decide), fun t ht => ?_⟩
    have s4 := same_upd (o := .tup [v, .int (j : Int)]) ht
    exact q (.ref t) _ (s03.trans s4) (by rw [et]; exact .tup (SqT.of upd_same) (.cons ((rv.le (wo_le _ _)).le s4) (.cons (.int _) .nil)))
  · exfalso
    apply z
    rw [List.length_map]
    simp
    omega
end

def Nn (l : List Int) : Prop := ∀ b ∈ l, 0 ≤ b
theorem Nn.app {a b : List Int} (h : Nn a) (h' : Nn b) : Nn (a ++ b) := fun x z => (List.mem_append.mp z).elim (h x) (h' x)
theorem Nn.flat {α : Type} {g : α → List Int} {as : List α} (h : ∀ a, Nn (g a)) : Nn (as.map g).flatten := fun x z => by
  simp only [List.mem_flatten, List.mem_map] at z
  obtain ⟨_, ⟨a, _, rfl⟩, z⟩ := z
  exact h a x z
theorem Nn.cons {x : Int} {l : List Int} (hx : 0 ≤ x) (h : Nn l) : Nn (x :: l) := fun b z => by
  rcases List.mem_cons.mp z with rfl | z
  · exact hx
  · exact h b z
theorem wnum_nn' : ∀ (k n : Nat), n < k → Nn (wnum n)
  | 0, n, h => by omega
  | k + 1, n, h => by
    by_cases c : n < 128
    · rw [wnum_lt c]
      exact Nn.cons (by omega) fun b z => by cases z
    · rw [wnum_ge (by omega)]
      exact Nn.cons (by omega) (wnum_nn' k (n / 128) (by omega))
theorem wnum_nn (n : Nat) : Nn (wnum n) := wnum_nn' (n + 1) n (by omega)
theorem encT_nn (t : List Nat) : Nn (encT t) := (wnum_nn _).app (Nn.flat wnum_nn)
theorem encM_nn (m : Mk) : Nn (encM m) := (wnum_nn _).app (wnum_nn _)
theorem encL_nn (t : List Mk) : Nn (encL t) := (wnum_nn _).app (Nn.flat encM_nn)
theorem encB_nn : ∀ b, Nn (encB b)
  | none => Nn.cons (by decide) fun b z => by cases z
  | some m => Nn.cons (by decide) (encM_nn m)
theorem encD_nn : ∀ d, Nn (encD d)
  | .back n => Nn.cons (by decide) (wnum_nn n)
  | .change mo rm be nu tx => Nn.cons (by decide) ((encT_nn mo).app ((encL_nn rm).app ((encB_nn be).app ((wnum_nn nu).app (encT_nn tx)))))
theorem encTr_nn (t : Tr) : Nn (encTr t) := (wnum_nn _).app ((wnum_nn _).app (encD_nn _))
theorem encTs_nn (t : List Tr) : Nn (encTs t) := (wnum_nn _).app (Nn.flat encTr_nn)
theorem encP_nn (t : List Tr) : Nn (encP t) := Nn.cons (by decide) (encTs_nn t)
theorem encP_le {ts : List Tr} (h : okTs ts) : (encP ts).length ≤ 2500001 := by
  have := encTs_le h
  simp only [encP, List.length_cons]
  omega
theorem fit_dd {d : Dd} (h : okD d) : fit (ddD d) = true := by
  cases d with
  | back n => rfl
  | change mo rm be nu tx =>
    obtain ⟨_, ⟨_, h2⟩, _⟩ := h
    have : fitAll (rm.map mkD) = true := fitAll_of fun d hd => by
      obtain ⟨m, _, rfl⟩ := List.mem_map.mp hd
      rfl
    cases be <;> simp [ddD, fit, fitAll, optD, mkD, this] <;> omega
theorem fit_ts {ts : List Tr} (h : okTs ts) : fit (tsD ts) = true := by
  have : fitAll (ts.map trD) = true := fitAll_of fun d hd => by
    obtain ⟨t, ht, rfl⟩ := List.mem_map.mp hd
    simp [trD, fit, fitAll, fit_dd (h.1 t ht).2.2]
  have := h.2
  simp [tsD, fit, *]
  omega
structure Drawn (n : Nat) (t : List Nat) (d : Dd) (ts : List Tr) : Prop where
  n : smN n
  t : okT t
  d : okD d
  ts : okTs ts
abbrev thD (n : Nat) (t : List Nat) (d : Dd) (ts : List Tr) : List PyData := [natD n, txD t, ddD d, tsD ts, tsD ts]
abbrev wrL (n : Nat) (t : List Nat) (d : Dd) (ts : List Tr) : List (List Int) := [wnum n, encT t, encD d, encTs ts, encP ts]
section
variable {n : Nat} {t : List Nat} {d : Dd} {ts : List Tr}
theorem Drawn.fit (h : Drawn n t d ts) : fit (.list (thD n t d ts)) = true := by
  simp [thD, SW.fit, fitAll, natD, txD, fit_dd h.d, fit_ts h.ts]
theorem thD_dep : dep (.list (thD n t d ts)) < 7 := by
  have := dep_dd d
  have := dep_ts ts
  simp only [thD, dep, depAll, natD, txD]
  omega
theorem Drawn.lens (h : Drawn n t d ts) : (wnum n).length ≤ 12 ∧ (encT t).length ≤ 2500 ∧ (encD d).length ≤ 12000 ∧ (encTs ts).length ≤ 2500000 ∧ (encP ts).length ≤ 2500001 := ⟨smN_len h.n, encT_le h.t, encD_le h.d, encTs_le h.ts, encP_le h.ts⟩
theorem Drawn.wfit (h : Drawn n t d ts) : SW.fit (.list ((wrL n t d ts).map fun x => .list (x.map .int))) = true := by
  obtain ⟨h1, h2, h3, h4, h5⟩ := h.lens
  have a : fitAll ((wrL n t d ts).map fun x => PyData.list (x.map .int)) = true := fitAll_of fun e he => by
    obtain ⟨x, hx, rfl⟩ := List.mem_map.mp he
    refine fit_ints ?_
    simp only [wrL, List.mem_cons, List.not_mem_nil, or_false] at hx
    rcases hx with rfl | rfl | rfl | rfl | rfl <;> omega
  rw [SW.fit, a]
  simp
theorem wr_dep (rs : List (List Int)) : dep (.list (rs.map fun x => .list (x.map .int))) < 7 := by
  have : depAll (rs.map fun x => PyData.list (x.map .int)) ≤ 1 := depAll_le fun d hd => by
    obtain ⟨x, _, rfl⟩ := List.mem_map.mp hd
    exact dep_ints x
  simp only [dep]
  omega
theorem Drawn.told (h : Drawn n t d ts) {i : Nat} (hi : i < 5) : ∃ g l, (thD n t d ts)[i]? = some g ∧ (wrL n t d ts)[i]? = some l ∧ toldD i l = .tuple [g, .int (l.length : Int)] ∧ l.length ≤ 2500001 ∧ Nn l := by
  obtain ⟨h1, h2, h3, h4, h5⟩ := h.lens
  have cs : i = 0 ∨ i = 1 ∨ i = 2 ∨ i = 3 ∨ i = 4 := by omega
  rcases cs with rfl | rfl | rfl | rfl | rfl
  · have := (reads_smN h.n).at (l := wnum n) (pre := []) (post := []) (i := 0) (by simp) rfl
    exact ⟨_, _, rfl, rfl, by show pairD natD (numAt _ 0) = _; rw [this]; simp [pairD], by omega, wnum_nn n⟩
  · have := (reads_text h.t).at (l := encT t) (pre := []) (post := []) (i := 0) (by simp) rfl
    exact ⟨_, _, rfl, rfl, by show pairD txD (textAt _ 0) = _; rw [this]; simp [pairD], by omega, encT_nn t⟩
  · have := (reads_deed h.d).at (l := encD d) (pre := []) (post := []) (i := 0) (by simp) rfl
    exact ⟨_, _, rfl, rfl, by show pairD ddD (deedAt _ 0) = _; rw [this]; simp [pairD], by omega, encD_nn d⟩
  · have := (reads_trs h.ts).at (l := encTs ts) (pre := []) (post := []) (i := 0) (by simp) rfl
    exact ⟨_, _, rfl, rfl, by show pairD tsD (trsAt _ 0) = _; rw [this]; simp [pairD], by omega, encTs_nn ts⟩
  · have := (reads_pkt h.ts).at (l := encP ts) (pre := []) (post := []) (i := 0) (by simp) rfl
    exact ⟨_, _, rfl, rfl, by show pairD tsD (pktAt _ 0) = _; rw [this]; simp [pairD], by omega, encP_nn ts⟩
end
def spRow (K : PySem.W.Frag) : Sp := fun vs H Q _ => ∃ (tv : V) (wr : Addr) (ws : List V) (n : Nat) (t : List Nat) (d : Dd) (ts : List Tr), vs = [tv, .ref wr] ∧ Drawn n t d ts ∧ Rp K H tv (.list (thD n t d ts)) ∧ SqL K H wr ws ∧ LLs H ws (wrL n t d ts) ∧ ∀ H', Same H H' → Q (.bl true) H'
section
variable {P : Program} {w : World} {K : PySem.W.Frag} {mg : Str → Option Value} {base : Heap} {C CD : Addr}
theorem ok_law_in_a_row {f : Addr} {fd : FuncData} (F : Fun K "_law_in_a_row" "_law_in_a_row" s_law_in_a_row f fd) (T : Txt K mg) (T_Reader : TReader K C)
    (C_Reader : GC P w K mg base CX0 "Reader" C 1 ["self", "data"] (spRInit K C)) (M_end : GM P w K mg base (L2.CX P w) C "end" 1 ["self"] (spREnd K C CD)) (M_read_number : GM P w K mg base (L2.CX P w) C "read_number" 2 ["self"] (spRd K C CD numAt natD)) (M_read_string : GM P w K mg base (L2.CX P w) C "read_string" 4 ["self"] (spRd K C CD textAt txD))
    (M_read_deed : GM P w K mg base (L2.CX P w) C "read_deed" 5 ["self"] (spRd K C CD deedAt ddD)) (M_read_triples : GM P w K mg base (L2.CX P w) C "read_triples" 7 ["self"] (spRd K C CD trsAt tsD)) (M_read_packet : GM P w K mg base (L2.CX P w) C "read_packet" 8 ["self"] (spRd K C CD pktAt tsD))
    (G_law_same : GF P w K mg base CX0 "_law_same" 7 ["actual", "expected"] (spSame K 7)) : FnOk P w K mg base CX0 9 f fd ["things", "written"] (spRow K) := by
  refine F.ok sc_law_in_a_row (fun vs H Q E h => ?_) (fun cdv A outer s H vs Q E hr h => ?_)
  · obtain ⟨_, _, _, _, _, _, _, rfl, _⟩ := h
    rfl
  obtain ⟨tv, wr, ws, n, t, d, ts, rfl, hd, hT, hW, hL, q⟩ := h
  obtain ⟨l1, l2, l3, l4, l5⟩ := hd.lens
  have hu64 := hr.units
  refine ⟨_, (pss_cons (ps_set (i := 2) sc_law_in_a_row.nd rfl (Or.inl rfl) (pe_lst pa_nil))
  (pss_cons (ps_for PassesOwn.never rfl (pi_list (pv 1)) (pg_name (i := 3) sc_law_in_a_row.nd rfl (Or.inl rfl)) (pss_one (ps_set (i := 2) sc_law_in_a_row.nd rfl (Or.inl rfl) (pe_op op_cat (pv 2) (pv 3)))))
  (pss_cons (ps_set (i := 4) sc_law_in_a_row.nd rfl (Or.inl rfl) (pe_gk C_Reader hr rfl (pa_cons (pv 2) pa_nil)))
  (pss_cons (ps_expr (pe_bm PySem.F.plainAttrs_list PySem.F.slot_list_append PySem.F.type_list_append mt_append (pv 2) (pa_cons pe_int pa_nil)))
  (pss_cons (ps_if (pt_cmpR op_ne (pe_fld (pv 4) rfl) pe_int (nomark _)) (pss_one (ps_ret pe_bl)) pss_nil)
  (pss_cons (ps_set (i := 5) sc_law_in_a_row.nd rfl (Or.inl rfl) (pe_lst (pa_cons (pe_gmS0 (pv 4) T_Reader.cl M_read_number hr takes0) (pa_cons (pe_gmS0 (pv 4) T_Reader.cl M_read_string hr takes0) (pa_cons (pe_gmS0 (pv 4) T_Reader.cl M_read_deed hr takes0) (pa_cons (pe_gmS0 (pv 4) T_Reader.cl M_read_triples hr takes0) (pa_cons (pe_gmS0 (pv 4) T_Reader.cl M_read_packet hr takes0) pa_nil)))))))
  (pss_cons (ps_expr (pe_gmS0 (pv 4) T_Reader.cl M_end hr takes0))
  (pss_one (ps_ret (pe_cg G_law_same hr rfl (pa_cons (pv 5) (pa_cons (pv 0) pa_nil)))))))))))), ?_⟩
  refine ⟨Nat.zero_le _, fun D hD => ?_⟩
  have wl : ws.length = 5 := hL.length
  generalize hrs : wrL n t d ts = rs at hL
  have ftot : rs.flatten.length ≤ 5100000 := by
    rw [← hrs]
    simp only [wrL, List.flatten_cons, List.flatten_nil, List.length_append, List.length_nil]
    omega
  have s0 := same_upd (o := .lst []) hD
  refine ⟨_, rfl, wr, rfl, ⟨ws, sql_le s0 hW⟩, for_list (K := K) (a := wr) (xs := ws) (fun i σ H' => ∃ (dd : Addr) (z : Option V), σ = [some tv, some (.ref wr), some (.ref dd), z, none, none] ∧ Same H H' ∧ H dd = none ∧ H' dd = some (.lst (((rs.take i).flatten).map V.int))) ⟨D, none, rfl, s0, hD, upd_same⟩ (fun i σ H' _ z => ?_) ?_ ?_⟩
  · obtain ⟨_, _, _, z, _⟩ := z
    exact sql_le z hW
  · rintro i x σ H1 hx ⟨dd, z, rfl, s1, nd, h1⟩
    obtain ⟨b, r, rfl, hr1, hb⟩ := hL.get hx
    have hsum := flat_take hr1
    refine ⟨_, rfl, _, rfl, dd, b, _, _, rfl, rfl, h1, s1 _ _ hb, sz _ (by rw [List.length_map, List.length_map]; omega), fun e he => ?_⟩
    refine ⟨e, _, rfl, s1.trans (same_upd he), s1.free he, ?_⟩
    rw [upd_same, take_snoc hr1]
    simp
  rintro σ H1 ⟨dd, z, rfl, s1, nd, h1⟩
  rw [wl, ← hrs] at h1
  generalize hl : (wrL n t d ts).flatten = l at *
  have el : l = wnum n ++ (encT t ++ (encD d ++ (encTs ts ++ encP ts))) := by rw [← hl]; simp [wrL]
  have h1' : H1 dd = some (.lst (l.map V.int)) := by
    rw [← hl]
    exact h1
  clear h1
  refine ⟨_, rfl, ?_⟩
  intro x dx hx hdx hne
  have s2 := mk_same (C := C) hx hdx hne
  have ow2 : Own [x, dd] _ := mk_own (O := [dd]) (C := C) (by intro a ha; simp at ha; rw [ha]; exact some_ne h1') hx hdx hne
  refine ⟨[x, dd], x, dd, dx, l, rfl, upd_same, by simp, ow2, SqL.of (s2 _ _ h1'), fun H2 u2 R => ⟨rfl, ?_⟩⟩
  have ndx : dd ≠ x := ne_of_none h1' hx
  have h2 : H2 dd = some (.lst (l.map V.int)) := u2 _ _ (by simpa using ndx) (s2 _ _ h1')
  have sH2 : Same H H2 := s1.trans (Up.mk s2 hx u2)
  have R2 : RdIn K C [x, dd] H2 x l 0 := ⟨R, ow2.up u2 (by simpa using R.ne), by rw [el]; simp only [List.length_append]; omega⟩
  refine ⟨_, rfl, .inl ⟨rfl, _, SqL.of h2⟩, dd, _, _, rfl, rfl, h2, szl _ (by rw [List.length_map, el]; simp only [List.length_append]; omega), ?_⟩
  have R3 := R2.put (o := .lst (l.map V.int ++ [.int 7])) (t := dd) (by simp) ndx
  have s3 : Same H (upd H2 dd (.lst (l.map V.int ++ [.int 7]))) := fun b o e => by
    rw [upd_ne (ne_of_none e nd)]
    exact sH2 _ _ e
  have hx0 : H x = none := s1.free hx
  generalize upd H2 dd (.lst (l.map V.int ++ [.int 7])) = H3 at R3 s3 ⊢
  obtain ⟨_, dx3, a3, g3, _⟩ := id R3.at'
  refine ⟨_, rfl, x, C, dx3, _, _, rfl, g3, T_Reader.cl, T_Reader.n_at, F2_b, rfl, _, rfl, brN (fun z => absurd rfl z) (fun _ => ?_)⟩
  have xO : x ∈ [x, dd] := by simp
  have k1 : numAt l 0 = some (n, 0 + (wnum n).length) := (reads_smN hd.n).at (pre := []) (post := encT t ++ (encD d ++ (encTs ts ++ encP ts))) (by rw [el]; simp) rfl
  have k2 := (reads_text hd.t).at (l := l) (pre := wnum n) (post := encD d ++ (encTs ts ++ encP ts)) (i := 0 + (wnum n).length) (by rw [el]) (by simp)
  have k3 := (reads_deed hd.d).at (l := l) (pre := wnum n ++ encT t) (post := encTs ts ++ encP ts) (i := 0 + (wnum n).length + (encT t).length) (by rw [el]; simp) (by simp)
  have k4 := (reads_trs hd.ts).at (l := l) (pre := wnum n ++ encT t ++ encD d) (post := encP ts) (i := 0 + (wnum n).length + (encT t).length + (encD d).length) (by rw [el]; simp) (by simp; omega)
  have k5 := (reads_pkt hd.ts).at (l := l) (pre := wnum n ++ encT t ++ encD d ++ encTs ts) (post := []) (i := 0 + (wnum n).length + (encT t).length + (encD d).length + (encTs ts).length) (by rw [el]; simp) (by simp; omega)
  refine ⟨_, rfl, _, dx3, _, rfl, g3, F2_no (by decide +kernel) (by decide +kernel), [x, dd], x, l, 0, rfl, R3, fun _ _ e => absurd (e.symm.trans k1) (fun z => nomatch z), fun v1 n' j1 H4 e1 u4 R4 r1 => ?_⟩
  cases k1.symm.trans e1
  obtain ⟨_, dx4, a4, g4, _⟩ := id R4.at'
  refine ⟨_, rfl, _, dx4, _, rfl, g4, F2_no (by decide +kernel) (by decide +kernel), [x, dd], x, l, _, rfl, R4, fun _ _ e => absurd (e.symm.trans k2) (fun z => nomatch z), fun v2 n' j1 H5 e1 u5 R5 r2 => ?_⟩
  cases k2.symm.trans e1
  obtain ⟨_, dx5, a5, g5, _⟩ := id R5.at'
  refine ⟨_, rfl, _, dx5, _, rfl, g5, F2_no (by decide +kernel) (by decide +kernel), [x, dd], x, l, _, rfl, R5, fun _ _ e => absurd (e.symm.trans k3) (fun z => nomatch z), fun v3 n' j1 H6 e1 u6 R6 r3 => ?_⟩
  cases k3.symm.trans e1
  obtain ⟨_, dx6, a6, g6, _⟩ := id R6.at'
  refine ⟨_, rfl, _, dx6, _, rfl, g6, F2_no (by decide +kernel) (by decide +kernel), [x, dd], x, l, _, rfl, R6, fun _ _ e => absurd (e.symm.trans k4) (fun z => nomatch z), fun v4 n' j1 H7 e1 u7 R7 r4 => ?_⟩
  cases k4.symm.trans e1
  obtain ⟨_, dx7, a7, g7, _⟩ := id R7.at'
  refine ⟨_, rfl, _, dx7, _, rfl, g7, F2_no (by decide +kernel) (by decide +kernel), [x, dd], x, l, _, rfl, R7, fun _ _ e => absurd (e.symm.trans k5) (fun z => nomatch z), fun v5 n' j1 H8 e1 u8 R8 r5 => ?_⟩
  cases k5.symm.trans e1
  have u38 := u4.trans (u5.trans (u6.trans (u7.trans u8)))
  refine ⟨sz 5 (by decide), fun tl htl => ?_⟩
  have s9 := same_upd (o := .lst [v1, v2, v3, v4, v5]) htl
  have h9 := upd_same (H := H8) (a := tl) (o := .lst [v1, v2, v3, v4, v5])
  have rT : RpAll K H8 [v1, v2, v3, v4, v5] (thD n t d ts) := .cons ((r1.up1 (u5.trans (u6.trans (u7.trans u8))) xO).le (wo_le _ _)) (.cons ((r2.up1 (u6.trans (u7.trans u8)) xO).le (wo_le _ _)) (.cons ((r3.up1 (u7.trans u8) xO).le (wo_le _ _)) (.cons ((r4.up1 u8 xO).le (wo_le _ _)) (.cons (r5.le (wo_le _ _)) .nil))))
  have R9 := R8.same s9
  have s09 : Same H (upd H8 tl (.lst [v1, v2, v3, v4, v5])) := fun b o e => s9 _ _ (u38 _ _ (by simp only [List.mem_singleton]; exact ne_of_none e hx0) (s3 _ _ e))
  generalize upd H8 tl (.lst [v1, v2, v3, v4, v5]) = H9 at s9 h9 R9 s09 ⊢
  obtain ⟨_, dx9, a9, g9, _⟩ := id R9.at'
  refine ⟨_, rfl, _, dx9, _, rfl, g9, F2_no (by decide +kernel) (by decide +kernel), [x, dd], x, l, _, rfl, R9, fun z => absurd z (by rw [el]; simp only [List.length_append]; omega), fun _ => ?_⟩
  refine ⟨_, rfl, _, rfl, _, _, _, _, rfl, .lst (SqL.of h9) (rT.le s9), hT.le s09, hd.fit, thD_dep, fun H' sH => ?_⟩
  rw [sameD_refl]
  exact q H' (s09.trans sH)
end

structure Made (K : PySem.W.Frag) (st : Addr) (H : Hp) (th wr : Addr) (xs ws : List V) (n : Nat) (t : List Nat) (d : Dd) (ts : List Tr) : Prop where
  th : SqL K (wo H [st]) th xs
  ths : RpAll K (wo H [st]) xs (thD n t d ts)
  wr : SqL K (wo H [st]) wr ws
  wrs : LLs (wo H [st]) ws (wrL n t d ts)
section
variable {K : PySem.W.Frag} {st th wr : Addr} {H H' : Hp} {xs ws : List V} {n : Nat} {t : List Nat} {d : Dd} {ts : List Tr}
theorem Made.up (h : Made K st H th wr xs ws n t d ts) (u : Up [st] H H') : Made K st H' th wr xs ws n t d ts :=
  ⟨sql_le u.wo h.th, h.ths.le u.wo, sql_le u.wo h.wr, h.wrs.le u.wo⟩
theorem LLs.getI {vs : List V} {rs : List (List Int)} {i : Nat} {l : List Int} (h : LLs H vs rs) (e : rs[i]? = some l) : ∃ a, vs[i]? = some (.ref a) ∧ H a = some (.lst (l.map V.int)) := by
  have hi : i < rs.length := (List.getElem?_eq_some_iff.mp e).1
  have hi2 : i < vs.length := by rw [h.length]; exact hi
  have hv : vs[i]? = some vs[i] := List.getElem?_eq_getElem hi2
  obtain ⟨a, r, e1, e2, e3⟩ := h.get hv
  rw [e] at e2
  cases e2
  exact ⟨a, by rw [hv, e1], e3⟩
theorem Made.item (h : Made K st H th wr xs ws n t d ts) (hd : Drawn n t d ts) {i : Nat} (hi : i < 5) : ∃ x g a l, xs[i]? = some x ∧ Rp K (wo H [st]) x g ∧ ws[i]? = some (.ref a) ∧ wo H [st] a = some (.lst (l.map V.int)) ∧ toldD i l = .tuple [g, .int (l.length : Int)] ∧ l.length ≤ 2500001 ∧ Nn l := by
  obtain ⟨g, l, h1, h2, h3, h4, h5⟩ := hd.told hi
  obtain ⟨x, hx, rx⟩ := h.ths.get h1
  obtain ⟨a, ha, hl⟩ := h.wrs.getI h2
  exact ⟨x, g, a, l, hx, rx, ha, hl, h3, h4, h5⟩
theorem LLs.off {st sc : Addr} {ys : List V} (h : H st = some (.lst (.ref sc :: ys))) : ∀ {vs : List V} {rs : List (List Int)}, LLs H vs rs → LLs (wo H [st]) vs rs
  | _, _, .nil => .nil
  | _, _, .cons (a := a) (r := r) e m => .cons (by
      rw [wo_out]
      · exact e
      · simp only [List.mem_singleton]
        intro z
        rw [z, h] at e
        cases r <;> cases e) (LLs.off h m)
end
def spLaw (K : PySem.W.Frag) : Sp := fun vs H Q _ => ∃ (a : Addr) (ns : List Int), vs = [.ref a] ∧ SqL K H a (ns.map V.int) ∧ ns.length ≤ 63 ∧ ∀ H', Q (.bl true) H'
section
variable {P : Program} {w : World} {K : PySem.W.Frag} {mg : Str → Option Value} {base : Heap} {C CD : Addr}
theorem ok_law {f : Addr} {fd : FuncData} (F : Fun K "law" "law" s_law f fd) (T : Txt K mg) (G_law_next : GF P w K mg base CX0 "_law_next" 1 ["state", "limit"] (spNextW K)) (G_law_same : GF P w K mg base CX0 "_law_same" 7 ["actual", "expected"] (spSame K 7))
    (G_write_number : GF P w K mg base CX0 "write_number" 1 ["number"] spWnum) (G_write_string : GF P w K mg base CX0 "write_string" 3 ["text"] spWtext) (G_write_deed : GF P w K mg base CX0 "write_deed" 4 ["deed"] (spWdeed K)) (G_write_triples : GF P w K mg base CX0 "write_triples" 5 ["triples"] (spWtrs K)) (G_write_packet : GF P w K mg base CX0 "write_packet" 6 ["packet"] (spWpkt K))
    (G_law_number : GF P w K mg base CX0 "_law_number" 1 ["number"] spWnum) (G_law_text : GF P w K mg base CX0 "_law_text" 2 ["text"] spWtext) (G_law_deed : GF P w K mg base CX0 "_law_deed" 3 ["deed"] (spWdeed K)) (G_law_triples : GF P w K mg base CX0 "_law_triples" 4 ["triples"] (spWtrs K))
    (G_law_drawn_number : GF P w K mg base CX0 "_law_drawn_number" 2 ["state"] (spDn K)) (G_law_drawn_text : GF P w K mg base CX0 "_law_drawn_text" 2 ["state"] (spDt K)) (G_law_drawn_deed : GF P w K mg base CX0 "_law_drawn_deed" 3 ["state"] (spDdd K)) (G_law_spoilt : GF P w K mg base CX0 "_law_spoilt" 2 ["state", "data"] (spSp K))
    (G_law_own : GF P w K mg base CX0 "_law_own" 6 ["kind", "data"] (spOwn K)) (G_law_told : GF P w K mg base CX0 "_law_told" 9 ["kind", "data"] (spOwn K)) (G_law_in_a_row : GF P w K mg base CX0 "_law_in_a_row" 9 ["things", "written"] (spRow K)) : FnOk P w K mg base CX0 10 f fd ["script"] (spLaw K) := by
  refine F.ok sc_law (fun vs H Q E h => ?_) (fun cdv A outer s H vs Q E hr h => ?_)
  · obtain ⟨_, _, rfl, _⟩ := h
    rfl
  obtain ⟨a, ns, rfl, hA, hlen, q⟩ := h
  refine ⟨_, (pss_cons (ps_set (i := 1) sc_law.nd rfl (Or.inr rfl) (pe_lst (pa_cons (pe_callTy call_list_of (by rfl) T.b_list bt_list (pa_cons (pv 0) pa_nil)) (pa_cons pe_int (pa_cons pe_int (pa_cons pe_int pa_nil))))))
  (pss_cons (ps_for PassesOwn.never rfl (pi_range1 rfl T.b_range (pa_cons pe_int pa_nil)) (pg_name (i := 2) sc_law.nd rfl (Or.inl rfl)) (pss_cons (ps_set (i := 3) sc_law.nd rfl (Or.inl rfl) (pe_cg G_law_drawn_number hr rfl (pa_cons (pv 1) pa_nil)))
  (pss_cons (ps_set (i := 4) sc_law.nd rfl (Or.inl rfl) (pe_cg G_law_drawn_text hr rfl (pa_cons (pv 1) pa_nil)))
  (pss_cons (ps_set (i := 5) sc_law.nd rfl (Or.inl rfl) (pe_cg G_law_drawn_deed hr rfl (pa_cons (pv 1) pa_nil)))
  (pss_cons (ps_setLc (i := 6) (own := [("j", 12)]) (g := (gName 12)) (tt := tYes) rfl sc_law.nd rfl rfl (sw_true rfl rfl rfl (by decide +kernel)) (pi_range1 rfl T.b_range (pa_cons (pe_cg G_law_next hr rfl (pa_cons (pv 1) (pa_cons pe_int pa_nil))) pa_nil)) (blkOk_by (N := ["script", "state", "k", "number", "text", "deed", "triples", "written", "own", "things", "long", "kind", "j", "data"]) (sc := defScope s_law) (by decide +kernel)) (fun _ _ _ _ _ => (pg_name (i := 12) sc_law.nd rfl (Or.inl rfl))) (fun _ _ _ _ _ => pts_nil) (fun _ _ _ _ _ => (pe_tup (pa_cons (pe_cg G_law_next hr rfl (pa_cons (pv 1) (pa_cons pe_int pa_nil))) (pa_cons (pe_cg G_law_drawn_number hr rfl (pa_cons (pv 1) pa_nil)) (pa_cons (pe_cg G_law_drawn_deed hr rfl (pa_cons (pv 1) pa_nil)) pa_nil))))))
  (pss_cons (ps_set (i := 7) sc_law.nd rfl (Or.inl rfl) (pe_lst (pa_cons (pe_cg G_write_number hr rfl (pa_cons (pv 3) pa_nil)) (pa_cons (pe_cg G_write_string hr rfl (pa_cons (pv 4) pa_nil)) (pa_cons (pe_cg G_write_deed hr rfl (pa_cons (pv 5) pa_nil)) (pa_cons (pe_cg G_write_triples hr rfl (pa_cons (pe_callTy call_list_of (by rfl) T.b_list bt_list (pa_cons (pv 6) pa_nil)) pa_nil)) (pa_cons (pe_cg G_write_packet hr rfl (pa_cons (pe_callTy call_list_of (by rfl) T.b_list bt_list (pa_cons (pv 6) pa_nil)) pa_nil)) pa_nil)))))))
  (pss_cons (ps_set (i := 8) sc_law.nd rfl (Or.inl rfl) (pe_cg G_law_triples hr rfl (pa_cons (pv 6) pa_nil)))
  (pss_cons (ps_if (pt_not (pt_val (pe_cg G_law_same hr rfl (pa_cons (pv 7) (pa_cons (pe_lst (pa_cons (pe_cg G_law_number hr rfl (pa_cons (pv 3) pa_nil)) (pa_cons (pe_cg G_law_text hr rfl (pa_cons (pv 4) pa_nil)) (pa_cons (pe_cg G_law_deed hr rfl (pa_cons (pv 5) pa_nil)) (pa_cons (pv 8) (pa_cons (pe_op op_cat (pe_lst (pa_cons pe_int pa_nil)) (pv 8)) pa_nil)))))) pa_nil))))) (pss_one (ps_ret pe_bl)) pss_nil)
  (pss_cons (ps_set (i := 9) sc_law.nd rfl (Or.inl rfl) (pe_lst (pa_cons (pv 3) (pa_cons (pv 4) (pa_cons (pv 5) (pa_cons (pv 6) (pa_cons (pv 6) pa_nil)))))))
  (pss_cons (ps_if (pt_not (pt_val (pe_cg G_law_in_a_row hr rfl (pa_cons (pv 9) (pa_cons (pv 7) pa_nil))))) (pss_one (ps_ret pe_bl)) pss_nil)
  (pss_cons (ps_set (i := 10) sc_law.nd rfl (Or.inl rfl) (pe_op op_cat (pe_lc (own := [("j", 12)]) (g := (gName 12)) (tt := tYes) rfl sc_law.nd (pi_range1 rfl T.b_range (pa_cons (pe_cg G_law_next hr rfl (pa_cons (pv 1) (pa_cons pe_int pa_nil))) pa_nil)) (blkOk_by (N := ["script", "state", "k", "number", "text", "deed", "triples", "written", "own", "things", "long", "kind", "j", "data"]) (sc := defScope s_law) (by decide +kernel)) (fun _ _ _ _ _ => (pg_name (i := 12) sc_law.nd rfl (Or.inl rfl))) (fun _ _ _ _ _ => pts_nil) (fun _ _ _ _ _ => (pe_op op_add pe_int (pe_cg G_law_next hr rfl (pa_cons (pv 1) (pa_cons pe_int pa_nil)))))) (pe_lst (pa_cons (pe_cg G_law_next hr rfl (pa_cons (pv 1) (pa_cons pe_int pa_nil))) pa_nil))))
  (pss_cons (ps_if (pt_not (pt_val (pe_cg G_law_same hr rfl (pa_cons (pe_cg G_law_told hr rfl (pa_cons pe_int (pa_cons (pv 10) pa_nil))) (pa_cons (pe_cg G_law_own hr rfl (pa_cons pe_int (pa_cons (pv 10) pa_nil))) pa_nil))))) (pss_one (ps_ret pe_bl)) pss_nil)
  (pss_one (ps_for PassesOwn.never rfl (pi_range1 rfl T.b_range (pa_cons pe_int pa_nil)) (pg_name (i := 11) sc_law.nd rfl (Or.inl rfl)) (pss_cons (ps_if (pt_not (pt_val (pe_cg G_law_same hr rfl (pa_cons (pe_cg G_law_told hr rfl (pa_cons (pv 11) (pa_cons (pe_ix ix_list (pv 7) (pv 11) (fun _ _ => rfl)) pa_nil))) (pa_cons (pe_tup (pa_cons (pe_ix ix_list (pv 9) (pv 11) (fun _ _ => rfl)) (pa_cons (pe_callB call_len_seq (by rfl) T.b_len bt_len (pa_cons (pe_ix ix_list (pv 7) (pv 11) (fun _ _ => rfl)) pa_nil)) pa_nil))) pa_nil))))) (pss_one (ps_ret pe_bl)) pss_nil)
  (pss_one (ps_for PassesOwn.never rfl (pi_range1 rfl T.b_range (pa_cons pe_int pa_nil)) (pg_name (i := 12) sc_law.nd rfl (Or.inl rfl)) (pss_cons (ps_set (i := 13) sc_law.nd rfl (Or.inl rfl) (pe_cg G_law_spoilt hr rfl (pa_cons (pv 1) (pa_cons (pe_callTy call_list_of (by rfl) T.b_list bt_list (pa_cons (pe_ix ix_list (pv 7) (pv 11) (fun _ _ => rfl)) pa_nil)) pa_nil))))
  (pss_one (ps_if (pt_not (pt_val (pe_cg G_law_same hr rfl (pa_cons (pe_cg G_law_told hr rfl (pa_cons (pv 11) (pa_cons (pv 13) pa_nil))) (pa_cons (pe_cg G_law_own hr rfl (pa_cons (pv 11) (pa_cons (pv 13) pa_nil))) pa_nil))))) (pss_one (ps_ret pe_bl)) pss_nil))))))))))))))))))))
  (pss_one (ps_ret pe_bl)))), ?_⟩
  refine ⟨_, rfl, a, _, rfl, .inl hA, fun sc hsc => ⟨sz 4 (by decide), fun st hst => ?_⟩⟩
  have S0 : StB K [st] (upd (upd H sc (.lst (ns.map V.int))) st (.lst [.ref sc, .int 0, .int 0, .int 1])) st := by
    have ne : sc ≠ st := fun e => by
      rw [← e, upd_same] at hst
      cases hst
    exact ⟨by simp, sc, ns, 0, 0, 1, upd_same, SqL.of (by rw [wo_out (by simpa using ne)]; exact same_upd hst _ _ upd_same), Nat.zero_le _, hlen, by decide, by decide, by decide⟩
  generalize upd (upd H sc (.lst (ns.map V.int))) st (.lst [.ref sc, .int 0, .int 0, .int 1]) = H0 at *
  have stO : ∀ a ∈ [st], a ∈ [st] := fun _ z => z
  have own : ∀ {H' : Hp}, StB K [st] H' st → Own [st] H' := fun S a ha => by
    simp only [List.mem_singleton] at ha
    rw [ha]
    exact S.ne
  refine ⟨4, rfl, by decide, by decide, for_range (fun k σ H' => (∃ z2 z3 z4 z5 z6 z7 z8 z9 za zb zc zd : Option V, σ = [some (.ref a), some (.ref st), z2, z3, z4, z5, z6, z7, z8, z9, za, zb, zc, zd]) ∧ StB K [st] H' st) ⟨⟨none, none, none, none, none, none, none, none, none, none, none, none, rfl⟩, S0⟩ ?_ ?_⟩
  · rintro k σ Hk hk ⟨⟨z2, z3, z4, z5, z6, z7, z8, z9, za, zb, zc, zd, rfl⟩, Sk⟩
    refine ⟨_, rfl, [st], st, rfl, Sk, fun n H1 hn u1 S1 => ?_⟩
    refine ⟨_, rfl, [st], st, rfl, S1, fun t H2 ht u2 S2 => ?_⟩
    refine ⟨_, rfl, [st], st, rfl, S2, own S2, fun dv d H3 hd u3 S3 rd => ?_⟩
    refine ⟨_, rfl, [st], st, 7, rfl, by decide, by decide, S3, fun mm H4 m0 m1 u4 S4 => ?_⟩
    have rd4 := rd.le (Up.wo u4)
    refine ⟨mm, rfl, by omega, by omega, fun D hD => lc_range (lo := 0) (n := mm.toNat) (fun k H' => ∃ (ts : List Tr) (acc : List V), ts.length = k ∧ (∀ m ∈ ts, okTr m) ∧ Up [st] H4 H' ∧ StB K (D :: [st]) H' st ∧ Own (D :: [st]) H' ∧ Acc K (D :: [st]) D (ts.map trD) acc H') ⟨[], [], rfl, fun m hm => by (cases hm), Up.new hD, S4.grow hD, ((own S4).le (same_upd hD)).cons (some_ne upd_same), Acc.new (by simp)⟩ ?_ ?_⟩
    · rintro j H5 hj ⟨ts, acc, tl, tok, u5, S5, O5, A5⟩
      have nD : D ≠ st := fun z => S4.ne (z ▸ hD)
      refine ⟨rfl, _, rfl, D :: [st], st, 9, rfl, by decide, by decide, S5, fun y H6 y0 y1 u6 S6 => ?_⟩
      refine ⟨_, rfl, D :: [st], st, rfl, S6, fun n2 H7 hn2 u7 S7 => ?_⟩
      refine ⟨_, rfl, D :: [st], st, rfl, S7, (O5.st u6 S6).st u7 S7, fun v d2 H8 hd2 u8 S8 r8 => ⟨sz 3 (by decide), fun x hx => ?_⟩⟩
      obtain ⟨b, rfl⟩ : ∃ b : Nat, y = (b : Int) := ⟨y.toNat, by omega⟩
      have O8 := ((O5.st u6 S6).st u7 S7).st u8 S8
      have s9 := same_upd (o := .tup [.int (b : Int), .int (n2 : Int), v]) hx
      have r9 : Rp K (wo (upd H8 x (.tup [.int (b : Int), .int (n2 : Int), v])) (D :: [st])) (.ref x) (trD (b, n2, d2)) := rp_newT hx (O8.out hx) (.cons (.int _) (.cons (.int _) (.cons r8 .nil)))
      have A9 := (A5.up (u6.trans (u7.trans u8)) (by simp) (by simpa using nD)).le s9
      have al := A9.len
      rw [List.length_map] at al
      exact ⟨acc, A9.is, szl _ (by omega), ts ++ [(b, n2, d2)], acc ++ [.ref x], by simp [tl], fun m hm => by
        rcases List.mem_append.mp hm with hm | hm
        · exact tok m hm
        · simp only [List.mem_singleton] at hm
          rw [hm]
          exact ⟨by show b < 2 ^ 80; omega, hn2, hd2⟩, ((u5.trans (u6.trans (u7.trans u8))).trans (Up.of s9)).putN hD, (S8.le s9).put (by simp) nD, (O8.le s9).up (S := [D]) (Up.put (by simp)) (by simp [upd_same]), by rw [List.map_append]; exact A9.push r9⟩
    rintro H5 ⟨ts, acc, tl, tok, u5, S5', O5', A5⟩
    have S5 := S5'.shrink (by simp)
    have nO : D ∉ [st] := (own S4).out hD
    have rT : Rp K (wo H5 [st]) (.ref D) (tsD ts) := .lst (SqL.of (by rw [wo_out nO]; exact A5.is)) (A5.out nO).2
    have rd5 := rd4.le (Up.wo u5)
    have hts : okTs ts := ⟨tok, by omega⟩
    have hL5 : H5 D = some (.lst acc) := A5.is
    have rA5 : RpAll K H5 acc (ts.map trD) := (A5.out nO).2.le (wo_le _ _)
    clear rd rd4 A5 S5' O5'
    have dr : Drawn n t d ts := ⟨hn, ht, hd, hts⟩
    obtain ⟨l1, l2, l3, l4, l5⟩ := dr.lens
    refine ⟨_, rfl, n, rfl, hn, fun r1 H6 n1 s6 h6 => ?_⟩
    refine ⟨_, rfl, t, rfl, ht, fun r2 H7 n2 s7 h7 => ?_⟩
    have s57 := s6.trans s7
    refine ⟨_, rfl, dv, d, rfl, (rd5.le (wo_le _ _)).le s57, hd, fun r3 H8 n3 s8 h8 => ?_⟩
    have s58 := s57.trans s8
    refine ⟨_, rfl, D, acc, rfl, .inl (SqL.of (s58 _ _ hL5)), fun c1 hc1 => ?_⟩
    have s9 := same_upd (o := .lst acc) hc1; have h9 := upd_same (H := H8) (a := c1) (o := .lst acc); generalize upd H8 c1 (.lst acc) = H9 at s9 h9 ⊢
    have rc1 : Rp K H9 (.ref c1) (tsD ts) := .lst (SqL.of h9) (rA5.le (s58.trans s9))
    refine ⟨.ref c1, ts, rfl, rc1, hts, fun r4 Ha n4 sa ha => ?_⟩
    have s5a := s58.trans (s9.trans sa)
    refine ⟨_, rfl, D, acc, rfl, .inl (SqL.of (s5a _ _ hL5)), fun c2 hc2 => ?_⟩
    have sb := same_upd (o := .lst acc) hc2; have hb := upd_same (H := Ha) (a := c2) (o := .lst acc); generalize upd Ha c2 (.lst acc) = Hb at sb hb ⊢
    have rc2 : Rp K Hb (.ref c2) (tsD ts) := .lst (SqL.of hb) (rA5.le (s5a.trans sb))
    refine ⟨.ref c2, ts, rfl, rc2, hts, fun r5 Hc n5 sc hc => ⟨sz 5 (by decide), fun wr hwr => ?_⟩⟩
    have sd := same_upd (o := .lst [V.ref r1, .ref r2, .ref r3, .ref r4, .ref r5]) hwr; have hw := upd_same (H := Hc) (a := wr) (o := .lst [V.ref r1, .ref r2, .ref r3, .ref r4, .ref r5]); generalize upd Hc wr (.lst [V.ref r1, .ref r2, .ref r3, .ref r4, .ref r5]) = Hd at sd hw ⊢
    have s5d := s5a.trans (sb.trans (sc.trans sd))
    have LW : LLs Hd [.ref r1, .ref r2, .ref r3, .ref r4, .ref r5] (wrL n t d ts) :=
      .cons ((s7.trans (s8.trans (s9.trans (sa.trans (sb.trans (sc.trans sd)))))) _ _ h6) (.cons ((s8.trans (s9.trans (sa.trans (sb.trans (sc.trans sd))))) _ _ h7) (.cons ((s9.trans (sa.trans (sb.trans (sc.trans sd)))) _ _ h8) (.cons ((sb.trans (sc.trans sd)) _ _ ha) (.cons (sd _ _ hc) .nil))))
    refine ⟨_, rfl, .ref D, ts, rfl, (rT.le (wo_le _ _)).le s5d, hts, fun ro He no se he => ?_⟩
    have s5e := s5d.trans se
    refine ⟨_, rfl, _, rfl, n, rfl, hn, fun p1 Hf m1 sf hf => ?_⟩
    refine ⟨_, rfl, t, rfl, ht, fun p2 Hg m2 sg hg => ?_⟩
    have s5g := s5e.trans (sf.trans sg)
    refine ⟨_, rfl, dv, d, rfl, (rd5.le (wo_le _ _)).le s5g, hd, fun p3 Hh m3 sh hh => ?_⟩
    refine ⟨_, rfl, sz 1 (by decide), fun c3 hc3 => ?_⟩
    have si := same_upd (o := .lst [.int 1]) hc3; have hi := upd_same (H := Hh) (a := c3) (o := .lst [.int 1]); generalize upd Hh c3 (.lst [.int 1]) = Hi at si hi ⊢
    refine ⟨_, rfl, c3, ro, _, _, rfl, rfl, hi, (sf.trans (sg.trans (sh.trans si))) _ _ he, sz _ (by rw [List.length_map]; simp only [List.length_singleton]; omega), fun p5 hp5 => ?_⟩
    have sj := same_upd (o := .lst ([V.int 1] ++ (encTs ts).map V.int)) hp5; have hj := upd_same (H := Hi) (a := p5) (o := .lst ([V.int 1] ++ (encTs ts).map V.int)); generalize upd Hi p5 (.lst ([V.int 1] ++ (encTs ts).map V.int)) = Hj at sj hj ⊢
    have hj' : Hj p5 = some (.lst ((encP ts).map V.int)) := hj
    refine ⟨sz 5 (by decide), fun wr2 hwr2 => ?_⟩
    have sl := same_upd (o := .lst [V.ref p1, .ref p2, .ref p3, .ref ro, .ref p5]) hwr2; have hl := upd_same (H := Hj) (a := wr2) (o := .lst [V.ref p1, .ref p2, .ref p3, .ref ro, .ref p5]); generalize upd Hj wr2 (.lst [V.ref p1, .ref p2, .ref p3, .ref ro, .ref p5]) = Hl at sl hl ⊢
    have LW2 : LLs Hl [.ref p1, .ref p2, .ref p3, .ref ro, .ref p5] (wrL n t d ts) :=
      .cons ((sg.trans (sh.trans (si.trans (sj.trans sl)))) _ _ hf) (.cons ((sh.trans (si.trans (sj.trans sl))) _ _ hg) (.cons ((si.trans (sj.trans sl)) _ _ hh) (.cons ((sf.trans (sg.trans (sh.trans (si.trans (sj.trans sl))))) _ _ he) (.cons (sl _ _ hj') .nil))))
    have sdl := se.trans (sf.trans (sg.trans (sh.trans (si.trans (sj.trans sl)))))
    refine ⟨.ref wr, .ref wr2, _, _, rfl, .lst (SqL.of (sdl _ _ hw)) (LW.le sdl).rp, .lst (SqL.of hl) LW2.rp, dr.wfit, wr_dep _, fun Hm sm => ?_⟩
    rw [sameD_refl]
    have s5m := s5d.trans (sdl.trans sm)
    have sdm := sdl.trans sm
    refine ⟨_, rfl, iteF ?_⟩
    clear LW2 hl sl hj' hj sj hi si
    refine ⟨_, rfl, _, rfl, _, rfl, _, rfl, _, rfl, sz 5 (by decide), fun th hth => ?_⟩
    have sn := same_upd (o := .lst [V.int (n : Int), .str (SX.S t), dv, .ref D, .ref D]) hth; have htn := upd_same (H := Hm) (a := th) (o := .lst [V.int (n : Int), .str (SX.S t), dv, .ref D, .ref D]); generalize upd Hm th (.lst [V.int (n : Int), .str (SX.S t), dv, .ref D, .ref D]) = Hn at sn htn ⊢
    have s5n := s5m.trans sn
    have Sn := S5.le s5n
    have hwn := sn _ _ (sdm _ _ hw)
    have thn : th ∉ [st] := ((own S5).le s5m).out hth
    have wrn : wr ∉ [st] := fun z => by
      have e := hwr
      simp only [List.mem_singleton] at z
      rw [z] at e
      exact (S5.le (s5a.trans (sb.trans sc))).ne e
    obtain ⟨_, sc0, ns0, i0, c0, s0, hst0, _⟩ := id Sn
    have M : Made K st Hn th wr [V.int (n : Int), .str (SX.S t), dv, .ref D, .ref D] [V.ref r1, .ref r2, .ref r3, .ref r4, .ref r5] n t d ts :=
      ⟨SqL.of (by rw [wo_out thn]; exact htn), .cons (.int _) (.cons (.str _) (.cons (rd5.le (Same.wo s5n)) (.cons (rT.le (Same.wo s5n)) (.cons (rT.le (Same.wo s5n)) .nil)))), SqL.of (by rw [wo_out wrn]; exact hwn), (LW.le (sdm.trans sn)).off hst0⟩
    clear hst0 htn hwn LW hw rd5 rT hL5 rA5
    refine ⟨_, rfl, _, rfl, .ref th, wr, _, n, t, d, ts, rfl, dr, .lst (sql_le (wo_le _ _) M.th) (M.ths.le (wo_le _ _)), sql_le (wo_le _ _) M.wr, M.wrs.le (wo_le _ _), fun Ho so => ⟨_, rfl, iteF ?_⟩⟩
    have Mo := M.up (Up.of so)
    have So := Sn.le so
    refine ⟨_, rfl, [st], st, 63, rfl, by decide, by decide, So, fun y Hp y0 y1 up Sp => ?_⟩
    refine ⟨y, rfl, by omega, by omega, fun D2 hD2 => lc_range (lo := 0) (n := y.toNat) (fun k H' => ∃ t : List Int, t.length = k ∧ (∀ c ∈ t, 0 ≤ c) ∧ Up [st] Hp H' ∧ StB K (D2 :: [st]) H' st ∧ H' D2 = some (.lst (t.map V.int))) ⟨[], rfl, fun m hm => by (cases hm), Up.new hD2, Sp.grow hD2, upd_same⟩ ?_ ?_⟩
    · rintro j H6 hj ⟨t, tl, tc, u6, S6, h6⟩
      have nD : D2 ≠ st := fun z => Sp.ne (z ▸ hD2)
      refine ⟨rfl, _, rfl, D2 :: [st], st, 128, rfl, by decide, by decide, S6, fun e H9 e0 e1 u9 S9 => ?_⟩
      have h9 := u9 _ _ (by simpa using nD) h6
      refine ⟨_, _, rfl, rfl, _, h9, szl _ (by rw [List.length_map]; omega), t ++ [128 + e], by simp [tl], fun x hx => ?_, (u6.trans u9).putN hD2, S9.put (by simp) nD, ?_⟩
      · rcases List.mem_append.mp hx with hx | hx
        · exact tc x hx
        · simp only [List.mem_singleton] at hx
          omega
      · rw [upd_same]
        simp
    rintro Hq ⟨lt, ltl, ltc, uq, Sq', hq⟩
    have Sq := Sq'.shrink (by simp)
    have nD2 : D2 ∉ [st] := (own Sp).out hD2
    refine ⟨_, rfl, [st], st, 3, rfl, by decide, by decide, Sq, fun e Hr e0 e1 ur Sr => ⟨sz 1 (by decide), fun c4 hc4 => ?_⟩⟩
    have hr2 := ur _ _ nD2 hq
    have Mr := Mo.up (up.trans (uq.trans ur))
    have ss := same_upd (o := .lst [.int e]) hc4; have hs := upd_same (H := Hr) (a := c4) (o := .lst [.int e]); generalize upd Hr c4 (.lst [.int e]) = Hs at ss hs ⊢
    refine ⟨D2, c4, _, _, rfl, rfl, ss _ _ hr2, hs, sz _ (by rw [List.length_map]; simp only [List.length_singleton]; omega), fun lo hlo => ?_⟩
    have st2 := same_upd (o := .lst (lt.map V.int ++ [V.int e])) hlo; have ht2 := upd_same (H := Hs) (a := lo) (o := .lst (lt.map V.int ++ [V.int e])); generalize upd Hs lo (.lst (lt.map V.int ++ [V.int e])) = Ht at st2 ht2 ⊢
    have hlo2 : Ht lo = some (.lst ((lt ++ [e]).map V.int)) := by rw [ht2]; simp
    have nnl : ∀ b ∈ lt ++ [e], 0 ≤ b := fun b hb => by
      rcases List.mem_append.mp hb with hb | hb
      · exact ltc b hb
      · simp only [List.mem_singleton] at hb
        omega
    have lll : (lt ++ [e]).length ≤ 3000000 := by simp; omega
    have srt := ss.trans st2
    have Mt := Mr.up (Up.of srt)
    have St := Sr.le srt
    refine ⟨_, rfl, 0, lo, lt ++ [e], rfl, by decide, SqL.of hlo2, ⟨lll, nnl⟩, fun v1 Hu su ru => ?_⟩
    refine ⟨_, rfl, 0, lo, lt ++ [e], rfl, by decide, SqL.of (su _ _ hlo2), ⟨lll, nnl⟩, fun v2 Hv sv rv => ?_⟩
    refine ⟨v1, v2, _, _, rfl, ru.le sv, rv, (fit_told lll).1, (fit_told lll).2, fun Hw sw => ?_⟩
    rw [sameD_refl]
    have stw := su.trans (sv.trans sw)
    have Mw := Mt.up (Up.of stw)
    have Sw := St.le stw
    refine ⟨_, rfl, iteF ?_⟩
    clear ru rv hlo2 ht2 hs hr2 hq h6 h7 h8 h9
    refine ⟨5, rfl, by decide, by decide, for_range (fun i σ H' => (∃ z11 z12 z13 : Option V, σ = [some (.ref a), some (.ref st), some (.int (0 + (k : Int))), some (.int (n : Int)), some (.str (SX.S t)), some dv, some (.ref D), some (.ref wr), some (.ref ro), some (.ref th), some (.ref lo), z11, z12, z13]) ∧ StB K [st] H' st ∧ Made K st H' th wr [V.int (n : Int), .str (SX.S t), dv, .ref D, .ref D] [V.ref r1, .ref r2, .ref r3, .ref r4, .ref r5] n t d ts) ⟨⟨_, _, _, rfl⟩, Sw, Mw⟩ ?_ ?_⟩
    · rintro i σ Hx hi ⟨⟨z11, z12, z13, rfl⟩, Sx, Mx⟩
      have hi5 : i < 5 := hi
      have hz : (0 + (i : Int)) = (i : Int) := by omega
      obtain ⟨xv, g, aw, l, hxv, rxv, haw, hl, htold, hll, hnn⟩ := Mx.item dr hi5
      have Wx := sql_le (wo_le _ _) Mx.wr
      have Tx := sql_le (wo_le _ _) Mx.th
      have hl' := wo_le _ _ _ _ hl
      have ll3 : l.length ≤ 3000000 := by omega
      have atw : atI [V.ref r1, .ref r2, .ref r3, .ref r4, .ref r5] (0 + (i : Int)) = some (.ref aw) := by rw [hz]; exact atI_nat haw
      have att : atI [V.int (n : Int), .str (SX.S t), dv, .ref D, .ref D] (0 + (i : Int)) = some xv := by rw [hz]; exact atI_nat hxv
      refine ⟨_, rfl, _, rfl, _, rfl, wr, _, _, .ref aw, rfl, rfl, Wx, atw, i, aw, l, by rw [hz], hi5, SqL.of hl', ⟨ll3, hnn⟩, fun v1 Hy sy ry => ?_⟩
      refine ⟨_, rfl, _, rfl, th, _, _, xv, rfl, rfl, sql_le sy Tx, att, ?_⟩
      refine ⟨_, rfl, _, rfl, wr, _, _, .ref aw, rfl, rfl, sql_le sy Wx, atw, aw, _, rfl, .inl (SqL.of (sy _ _ hl')), sz 2 (by decide), fun p hp => ?_⟩
      have sp := same_upd (o := .tup [xv, .int ((l.map V.int).length : Int)]) hp
      have rP : Rp K (upd Hy p (.tup [xv, .int ((l.map V.int).length : Int)])) (.ref p) (toldD i l) := by
        rw [htold]
        refine .tup (SqT.of upd_same) (.cons ((rxv.le (wo_le _ _)).le (sy.trans sp)) (.cons ?_ .nil))
        rw [List.length_map]
        exact .int _
      refine ⟨v1, .ref p, _, _, rfl, ry.le sp, rP, (fit_told ll3).1, (fit_told ll3).2, fun Hz sz' => ?_⟩
      rw [sameD_refl]
      have sxz := sy.trans (sp.trans sz')
      refine ⟨_, rfl, iteF ?_⟩
      refine ⟨4, rfl, by decide, by decide, for_range (fun j σ H' => (∃ z12 z13 : Option V, σ = [some (.ref a), some (.ref st), some (.int (0 + (k : Int))), some (.int (n : Int)), some (.str (SX.S t)), some dv, some (.ref D), some (.ref wr), some (.ref ro), some (.ref th), some (.ref lo), some (.int (0 + (i : Int))), z12, z13]) ∧ StB K [st] H' st ∧ Made K st H' th wr [V.int (n : Int), .str (SX.S t), dv, .ref D, .ref D] [V.ref r1, .ref r2, .ref r3, .ref r4, .ref r5] n t d ts) ⟨⟨_, _, rfl⟩, Sx.le sxz, Mx.up (Up.of sxz)⟩ ?_ ?_⟩
      · rintro j σ Hx2 hj ⟨⟨z12, z13, rfl⟩, Sx2, Mx2⟩
        obtain ⟨xv2, g2, aw2, l2, _, _, haw2, hl2, _, hll2, hnn2⟩ := Mx2.item dr hi5
        have atw2 : atI [V.ref r1, .ref r2, .ref r3, .ref r4, .ref r5] (0 + (i : Int)) = some (.ref aw2) := by rw [hz]; exact atI_nat haw2
        have hl2' := wo_le _ _ _ _ hl2
        refine ⟨_, rfl, _, rfl, _, rfl, wr, _, _, .ref aw2, rfl, rfl, sql_le (wo_le _ _) Mx2.wr, atw2, aw2, _, rfl, .inl (SqL.of hl2'), fun c hc => ?_⟩
        have ncs : c ∉ [st] := (own Sx2).out hc
        have sc2 := same_upd (o := .lst (l2.map V.int)) hc; have hcc := upd_same (H := Hx2) (a := c) (o := .lst (l2.map V.int)); generalize upd Hx2 c (.lst (l2.map V.int)) = Hc2 at sc2 hcc ⊢
        have Sc2 := Sx2.le sc2
        refine ⟨[st], st, c, l2, rfl, Sc2, own Sc2, SqL.of (by rw [wo_out ncs]; exact hcc), ⟨by omega, hnn2⟩, fun r l' Hd2 hl' ud2 Sd2 hr => ?_⟩
        have Md := Mx2.up ((Up.of sc2).trans ud2)
        refine ⟨_, rfl, _, rfl, i, r, l', by rw [hz], hi5, SqL.of hr, hl', fun v1 Hu su ru => ?_⟩
        refine ⟨_, rfl, _, rfl, i, r, l', by rw [hz], hi5, SqL.of (su _ _ hr), hl', fun v2 Hv sv rv => ?_⟩
        refine ⟨v1, v2, _, _, rfl, ru.le sv, rv, (fit_told hl'.1).1, (fit_told hl'.1).2, fun Hw sw => ?_⟩
        rw [sameD_refl]
        have stw := su.trans (sv.trans sw)
        exact ⟨_, rfl, iteF ⟨⟨_, _, rfl⟩, Sd2.le stw, Md.up (Up.of stw)⟩⟩
      · rintro σ Hx2 ⟨⟨z12, z13, rfl⟩, Sx2, Mx2⟩
        exact ⟨⟨_, _, _, rfl⟩, Sx2, Mx2⟩
    · rintro σ Hx ⟨⟨z11, z12, z13, rfl⟩, Sx, Mx⟩
      exact ⟨⟨_, _, _, _, _, _, _, _, _, _, _, _, rfl⟩, Sx⟩
  · rintro σ H' _
    exact q H'
end

theorem all_mk {l : PySem.W.OpenLaw} {w : World} {K : PySem.W.Frag} {h : Heap} {mg : Str → Option Value} {fa f1 f2 f3 f4 f5 f6 f7 f8 f9 f10 f11 f12 f13 f14 f15 f16 f17 f18 f19 f20 f21 f22 f23 f24 f25 f26 f27 f28 f29 f30 f31 f32 f33 f34 f35 f36 f37 f38 f39 f40 f41 f42 K_Reader K_DamagedPacket : Addr} (X : K.In h) (G : h.Ns mainGlobals mg) (hfa : mg "law" = some (.ref fa))
    {od1 od2 od3 od4 od5 od6 od7 od8 od9 od10 od11 od12 od13 od14 od15 od16 od17 od18 od19 od20 od21 od22 od23 od24 od25 od26 od27 od28 od29 od30 od31 od32 od33 od34 od35 od36 od37 od38 od39 od40 od41 od42 an1 an2 an3 an4 an5 an6 an7 an8 an9 an10 an11 an12 an13 an14 an15 an16 an17 an18 an19 an20 an21 an22 an23 an24 an25 an26 an27 an28 an29 an30 an31 an32 an33 an34 an35 an36 an37 an38 an39 an40 an41 an42 : Option Addr} {sl1 sl2 sl3 sl4 sl5 sl6 sl7 sl8 sl9 sl10 sl11 sl12 sl13 sl14 sl15 sl16 sl17 sl18 sl19 sl20 sl21 sl22 sl23 sl24 sl25 sl26 sl27 sl28 sl29 sl30 sl31 sl32 sl33 sl34 sl35 sl36 sl37 sl38 sl39 sl40 sl41 sl42 : Array (Option Value)} {oc1 oc2 oc3 oc4 oc5 oc6 oc7 oc8 oc9 oc10 oc11 oc12 oc13 oc14 oc15 oc16 oc17 oc18 oc19 oc20 oc21 oc22 oc23 oc24 oc25 oc26 oc27 oc28 oc29 oc30 oc31 oc32 oc33 oc34 oc35 oc36 oc37 oc38 oc39 oc40 oc41 oc42 kV1 kV2 kV3 kV4 kV5 kV6 kV7 kV8 kV9 kV10 kV11 kV12 kV13 kV14 kV15 kV16 kV17 kV18 kV19 kV20 kV21 kV22 kV23 kV24 kV25 kV26 kV27 kV28 kV29 kV30 kV31 kV32 kV33 kV34 kV35 kV36 kV37 kV38 kV39 kV40 kV41 kV42 dc1 dc2 dc3 dc4 dc5 dc6 dc7 dc8 dc9 dc10 dc11 dc12 dc13 dc14 dc15 dc16 dc17 dc18 dc19 dc20 dc21 dc22 dc23 dc24 dc25 dc26 dc27 dc28 dc29 dc30 dc31 dc32 dc33 dc34 dc35 dc36 dc37 dc38 dc39 dc40 dc41 dc42 pm1 pm2 pm3 pm4 pm5 pm6 pm7 pm8 pm9 pm10 pm11 pm12 pm13 pm14 pm15 pm16 pm17 pm18 pm19 pm20 pm21 pm22 pm23 pm24 pm25 pm26 pm27 pm28 pm29 pm30 pm31 pm32 pm33 pm34 pm35 pm36 pm37 pm38 pm39 pm40 pm41 pm42 cd1 cd2 cd3 cd4 cd5 cd6 cd7 cd8 cd9 cd10 cd11 cd12 cd13 cd14 cd15 cd16 cd17 cd18 cd19 cd20 cd21 cd22 cd23 cd24 cd25 cd26 cd27 cd28 cd29 cd30 cd31 cd32 cd33 cd34 cd35 cd36 cd37 cd38 cd39 cd40 cd41 cd42 ct1 ct2 ct3 ct4 ct5 ct6 ct7 ct8 ct9 ct10 ct11 ct12 ct13 ct14 ct15 ct16 ct17 ct18 ct19 ct20 ct21 ct22 ct23 ct24 ct25 ct26 ct27 ct28 ct29 ct30 ct31 ct32 ct33 ct34 ct35 ct36 ct37 ct38 ct39 ct40 ct41 ct42 : Value} {u1 u2 u3 : Tok}
    (q_Reader : PySem.W.nsIn K mainGlobals "Reader" = some (some (.ref K_Reader)))
    (pg_Reader : PySem.W.plainGet K K_Reader Str.empty = true)
    (hd_Reader : PySem.W.hasDictIn K K_Reader = true)
    (po_Reader : PySem.W.plainOver K K_Reader = true)
    (sa_Reader : PySem.W.findIn K (.ref K_Reader) "__setattr__" = some (some (.builtin "object.__setattr__")))
    (mk_Reader : PySem.W.makesIn K K_Reader = true)
    (kc_Reader : PySem.W.keepIn K (.ref K_Reader) = true)
    (n_Reader_data : PySem.W.findIn K (.ref K_Reader) "data" = some none)
    (n_Reader_at : PySem.W.findIn K (.ref K_Reader) "at" = some none)
    (xg_DamagedPacket : PySem.W.nsIn K mainGlobals "DamagedPacket" = some (some (.ref K_DamagedPacket)))
    (xx_DamagedPacket : PySem.W.excIn K K_DamagedPacket [.type "ValueError", .type "Exception", .type "BaseException", .type "object"] "ValueError.__new__" = true)
    (xk_DamagedPacket : PySem.W.keepIn K (.ref K_DamagedPacket) = true)
    (xb_DamagedPacket : PySem.W.subIn K (.ref K_DamagedPacket) (.type "BaseException") = some true)
    (xt_DamagedPacket : PySem.W.typeIn K (.ref K_DamagedPacket) = some (.type "type"))
    (xh_DamagedPacket : PySem.W.hasDictIn K K_DamagedPacket = true)
    (xs_DamagedPacket : PySem.W.subIn K (.ref K_DamagedPacket) (.ref K_DamagedPacket) = some true)
    (a1 : PySem.W.nsIn K mainGlobals "_law_next" = some (some (.ref f1)))
    (l1 : K.lookup f1 = some ⟨oc1, od1, .func (PySem.W.fnOf "_law_next" "_law_next" (defArgs s_law_next) (defBody s_law_next) (defScope s_law_next) .none kV1 dc1 pm1 an1 cd1 ct1), sl1⟩)
    (c1 : PySem.W.codeIn K cd1 "_law_next" = true)
    (k1 : PySem.W.keepIn K (.ref f1) = true)
    (a2 : PySem.W.nsIn K mainGlobals "_law_same" = some (some (.ref f2)))
    (l2 : K.lookup f2 = some ⟨oc2, od2, .func (PySem.W.fnOf "_law_same" "_law_same" (defArgs s_law_same) (defBody s_law_same) (defScope s_law_same) .none kV2 dc2 pm2 an2 cd2 ct2), sl2⟩)
    (c2 : PySem.W.codeIn K cd2 "_law_same" = true)
    (k2 : PySem.W.keepIn K (.ref f2) = true)
    (a3 : PySem.W.nsIn K mainGlobals "write_number" = some (some (.ref f3)))
    (l3 : K.lookup f3 = some ⟨oc3, od3, .func (PySem.W.fnOf "write_number" "write_number" (defArgs s_write_number) (defBody s_write_number) (defScope s_write_number) .none kV3 dc3 pm3 an3 cd3 ct3), sl3⟩)
    (c3 : PySem.W.codeIn K cd3 "write_number" = true)
    (k3 : PySem.W.keepIn K (.ref f3) = true)
    (a4 : PySem.W.nsIn K mainGlobals "write_list" = some (some (.ref f4)))
    (l4 : K.lookup f4 = some ⟨oc4, od4, .func (PySem.W.fnOf "write_list" "write_list" (defArgs s_write_list) (defBody s_write_list) (defScope s_write_list) .none kV4 dc4 pm4 an4 cd4 ct4), sl4⟩)
    (c4 : PySem.W.codeIn K cd4 "write_list" = true)
    (k4 : PySem.W.keepIn K (.ref f4) = true)
    (a5 : PySem.W.nsIn K mainGlobals "write_string" = some (some (.ref f5)))
    (l5 : K.lookup f5 = some ⟨oc5, od5, .func (PySem.W.fnOf "write_string" "write_string" (defArgs s_write_string) (defBody s_write_string) (defScope s_write_string) .none kV5 dc5 pm5 an5 cd5 ct5), sl5⟩)
    (c5 : PySem.W.codeIn K cd5 "write_string" = true)
    (k5 : PySem.W.keepIn K (.ref f5) = true)
    (a6 : PySem.W.nsIn K mainGlobals "write_mark" = some (some (.ref f6)))
    (l6 : K.lookup f6 = some ⟨oc6, od6, .func (PySem.W.fnOf "write_mark" "write_mark" (defArgs s_write_mark) (defBody s_write_mark) (defScope s_write_mark) .none kV6 dc6 pm6 an6 cd6 ct6), sl6⟩)
    (c6 : PySem.W.codeIn K cd6 "write_mark" = true)
    (k6 : PySem.W.keepIn K (.ref f6) = true)
    (a7 : PySem.W.nsIn K mainGlobals "write_deed" = some (some (.ref f7)))
    (l7 : K.lookup f7 = some ⟨oc7, od7, .func (PySem.W.fnOf "write_deed" "write_deed" (defArgs s_write_deed) (defBody s_write_deed) (defScope s_write_deed) .none kV7 dc7 pm7 an7 cd7 ct7), sl7⟩)
    (c7 : PySem.W.codeIn K cd7 "write_deed" = true)
    (k7 : PySem.W.keepIn K (.ref f7) = true)
    (a8 : PySem.W.nsIn K mainGlobals "write_triples" = some (some (.ref f8)))
    (l8 : K.lookup f8 = some ⟨oc8, od8, .func (PySem.W.fnOf "write_triples" "write_triples" (defArgs s_write_triples) (defBody s_write_triples) (defScope s_write_triples) .none kV8 dc8 pm8 an8 cd8 ct8), sl8⟩)
    (c8 : PySem.W.codeIn K cd8 "write_triples" = true)
    (k8 : PySem.W.keepIn K (.ref f8) = true)
    (a9 : PySem.W.nsIn K mainGlobals "write_packet" = some (some (.ref f9)))
    (l9 : K.lookup f9 = some ⟨oc9, od9, .func (PySem.W.fnOf "write_packet" "write_packet" (defArgs s_write_packet) (defBody s_write_packet) (defScope s_write_packet) .none kV9 dc9 pm9 an9 cd9 ct9), sl9⟩)
    (c9 : PySem.W.codeIn K cd9 "write_packet" = true)
    (k9 : PySem.W.keepIn K (.ref f9) = true)
    (a10 : PySem.W.nsIn K mainGlobals "_law_number" = some (some (.ref f10)))
    (l10 : K.lookup f10 = some ⟨oc10, od10, .func (PySem.W.fnOf "_law_number" "_law_number" (defArgs s_law_number) (defBody s_law_number) (defScope s_law_number) .none kV10 dc10 pm10 an10 cd10 ct10), sl10⟩)
    (c10 : PySem.W.codeIn K cd10 "_law_number" = true)
    (k10 : PySem.W.keepIn K (.ref f10) = true)
    (a11 : PySem.W.nsIn K mainGlobals "_law_text" = some (some (.ref f11)))
    (l11 : K.lookup f11 = some ⟨oc11, od11, .func (PySem.W.fnOf "_law_text" "_law_text" (defArgs s_law_text) (defBody s_law_text) (defScope s_law_text) .none kV11 dc11 pm11 an11 cd11 ct11), sl11⟩)
    (c11 : PySem.W.codeIn K cd11 "_law_text" = true)
    (k11 : PySem.W.keepIn K (.ref f11) = true)
    (a12 : PySem.W.nsIn K mainGlobals "_law_mark" = some (some (.ref f12)))
    (l12 : K.lookup f12 = some ⟨oc12, od12, .func (PySem.W.fnOf "_law_mark" "_law_mark" (defArgs s_law_mark) (defBody s_law_mark) (defScope s_law_mark) .none kV12 dc12 pm12 an12 cd12 ct12), sl12⟩)
    (c12 : PySem.W.codeIn K cd12 "_law_mark" = true)
    (k12 : PySem.W.keepIn K (.ref f12) = true)
    (a13 : PySem.W.nsIn K mainGlobals "_law_deed" = some (some (.ref f13)))
    (l13 : K.lookup f13 = some ⟨oc13, od13, .func (PySem.W.fnOf "_law_deed" "_law_deed" (defArgs s_law_deed) (defBody s_law_deed) (defScope s_law_deed) .none kV13 dc13 pm13 an13 cd13 ct13), sl13⟩)
    (c13 : PySem.W.codeIn K cd13 "_law_deed" = true)
    (k13 : PySem.W.keepIn K (.ref f13) = true)
    (a14 : PySem.W.nsIn K mainGlobals "_law_triples" = some (some (.ref f14)))
    (l14 : K.lookup f14 = some ⟨oc14, od14, .func (PySem.W.fnOf "_law_triples" "_law_triples" (defArgs s_law_triples) (defBody s_law_triples) (defScope s_law_triples) .none kV14 dc14 pm14 an14 cd14 ct14), sl14⟩)
    (c14 : PySem.W.codeIn K cd14 "_law_triples" = true)
    (k14 : PySem.W.keepIn K (.ref f14) = true)
    (a15 : PySem.W.findIn K (.ref K_Reader) "__init__" = some (some (.ref f15)))
    (i15 : PySem.W.isFn K (.ref f15) = true)
    (l15 : K.lookup f15 = some ⟨oc15, od15, .func (PySem.W.fnOf "__init__" "Reader.__init__" (defArgs s_Reader___init__) (defBody s_Reader___init__) (defScope s_Reader___init__) .none kV15 dc15 pm15 an15 cd15 ct15), sl15⟩)
    (c15 : PySem.W.codeIn K cd15 "Reader.__init__" = true)
    (k15 : PySem.W.keepIn K (.ref f15) = true)
    (a16 : PySem.W.findIn K (.ref K_Reader) "read_byte" = some (some (.ref f16)))
    (i16 : PySem.W.isFn K (.ref f16) = true)
    (l16 : K.lookup f16 = some ⟨oc16, od16, .func (PySem.W.fnOf "read_byte" "Reader.read_byte" (defArgs s_Reader_read_byte) (defBody s_Reader_read_byte) (defScope s_Reader_read_byte) .none kV16 dc16 pm16 an16 cd16 ct16), sl16⟩)
    (c16 : PySem.W.codeIn K cd16 "Reader.read_byte" = true)
    (k16 : PySem.W.keepIn K (.ref f16) = true)
    (a17 : PySem.W.findIn K (.ref K_Reader) "read_choice" = some (some (.ref f17)))
    (i17 : PySem.W.isFn K (.ref f17) = true)
    (l17 : K.lookup f17 = some ⟨oc17, od17, .func (PySem.W.fnOf "read_choice" "Reader.read_choice" (defArgs s_Reader_read_choice) (defBody s_Reader_read_choice) (defScope s_Reader_read_choice) .none kV17 dc17 pm17 an17 cd17 ct17), sl17⟩)
    (c17 : PySem.W.codeIn K cd17 "Reader.read_choice" = true)
    (k17 : PySem.W.keepIn K (.ref f17) = true)
    (a18 : PySem.W.findIn K (.ref K_Reader) "end" = some (some (.ref f18)))
    (i18 : PySem.W.isFn K (.ref f18) = true)
    (l18 : K.lookup f18 = some ⟨oc18, od18, .func (PySem.W.fnOf "end" "Reader.end" (defArgs s_Reader_end) (defBody s_Reader_end) (defScope s_Reader_end) .none kV18 dc18 pm18 an18 cd18 ct18), sl18⟩)
    (c18 : PySem.W.codeIn K cd18 "Reader.end" = true)
    (k18 : PySem.W.keepIn K (.ref f18) = true)
    (a19 : PySem.W.findIn K (.ref K_Reader) "read_number" = some (some (.ref f19)))
    (i19 : PySem.W.isFn K (.ref f19) = true)
    (l19 : K.lookup f19 = some ⟨oc19, od19, .func (PySem.W.fnOf "read_number" "Reader.read_number" (defArgs s_Reader_read_number) (defBody s_Reader_read_number) (defScope s_Reader_read_number) .none kV19 dc19 pm19 an19 cd19 ct19), sl19⟩)
    (c19 : PySem.W.codeIn K cd19 "Reader.read_number" = true)
    (k19 : PySem.W.keepIn K (.ref f19) = true)
    (a20 : PySem.W.findIn K (.ref K_Reader) "read_count" = some (some (.ref f20)))
    (i20 : PySem.W.isFn K (.ref f20) = true)
    (l20 : K.lookup f20 = some ⟨oc20, od20, .func (PySem.W.fnOf "read_count" "Reader.read_count" (defArgs s_Reader_read_count) (defBody s_Reader_read_count) (defScope s_Reader_read_count) .none kV20 dc20 pm20 an20 cd20 ct20), sl20⟩)
    (c20 : PySem.W.codeIn K cd20 "Reader.read_count" = true)
    (k20 : PySem.W.keepIn K (.ref f20) = true)
    (a21 : PySem.W.findIn K (.ref K_Reader) "read_character" = some (some (.ref f21)))
    (i21 : PySem.W.isFn K (.ref f21) = true)
    (l21 : K.lookup f21 = some ⟨oc21, od21, .func (PySem.W.fnOf "read_character" "Reader.read_character" (defArgs s_Reader_read_character) (defBody s_Reader_read_character) (defScope s_Reader_read_character) .none kV21 dc21 pm21 an21 cd21 ct21), sl21⟩)
    (c21 : PySem.W.codeIn K cd21 "Reader.read_character" = true)
    (k21 : PySem.W.keepIn K (.ref f21) = true)
    (a22 : PySem.W.findIn K (.ref K_Reader) "read_string" = some (some (.ref f22)))
    (i22 : PySem.W.isFn K (.ref f22) = true)
    (l22 : K.lookup f22 = some ⟨oc22, od22, .func (PySem.W.fnOf "read_string" "Reader.read_string" (defArgs s_Reader_read_string) (defBody s_Reader_read_string) (defScope s_Reader_read_string) .none kV22 dc22 pm22 an22 cd22 ct22), sl22⟩)
    (c22 : PySem.W.codeIn K cd22 "Reader.read_string" = true)
    (k22 : PySem.W.keepIn K (.ref f22) = true)
    (a23 : PySem.W.findIn K (.ref K_Reader) "read_mark" = some (some (.ref f23)))
    (i23 : PySem.W.isFn K (.ref f23) = true)
    (l23 : K.lookup f23 = some ⟨oc23, od23, .func (PySem.W.fnOf "read_mark" "Reader.read_mark" (defArgs s_Reader_read_mark) (defBody s_Reader_read_mark) (defScope s_Reader_read_mark) .none kV23 dc23 pm23 an23 cd23 ct23), sl23⟩)
    (c23 : PySem.W.codeIn K cd23 "Reader.read_mark" = true)
    (k23 : PySem.W.keepIn K (.ref f23) = true)
    (a24 : PySem.W.findIn K (.ref K_Reader) "read_deed" = some (some (.ref f24)))
    (i24 : PySem.W.isFn K (.ref f24) = true)
    (l24 : K.lookup f24 = some ⟨oc24, od24, .func (PySem.W.fnOf "read_deed" "Reader.read_deed" (defArgs s_Reader_read_deed) (defBody s_Reader_read_deed) (defScope s_Reader_read_deed) .none kV24 dc24 pm24 an24 cd24 ct24), sl24⟩)
    (c24 : PySem.W.codeIn K cd24 "Reader.read_deed" = true)
    (k24 : PySem.W.keepIn K (.ref f24) = true)
    (a25 : PySem.W.findIn K (.ref K_Reader) "read_triple" = some (some (.ref f25)))
    (i25 : PySem.W.isFn K (.ref f25) = true)
    (l25 : K.lookup f25 = some ⟨oc25, od25, .func (PySem.W.fnOf "read_triple" "Reader.read_triple" (defArgs s_Reader_read_triple) (defBody s_Reader_read_triple) (defScope s_Reader_read_triple) .none kV25 dc25 pm25 an25 cd25 ct25), sl25⟩)
    (c25 : PySem.W.codeIn K cd25 "Reader.read_triple" = true)
    (k25 : PySem.W.keepIn K (.ref f25) = true)
    (a26 : PySem.W.findIn K (.ref K_Reader) "read_triples" = some (some (.ref f26)))
    (i26 : PySem.W.isFn K (.ref f26) = true)
    (l26 : K.lookup f26 = some ⟨oc26, od26, .func (PySem.W.fnOf "read_triples" "Reader.read_triples" (defArgs s_Reader_read_triples) (defBody s_Reader_read_triples) (defScope s_Reader_read_triples) .none kV26 dc26 pm26 an26 cd26 ct26), sl26⟩)
    (c26 : PySem.W.codeIn K cd26 "Reader.read_triples" = true)
    (k26 : PySem.W.keepIn K (.ref f26) = true)
    (a27 : PySem.W.findIn K (.ref K_Reader) "read_packet" = some (some (.ref f27)))
    (i27 : PySem.W.isFn K (.ref f27) = true)
    (l27 : K.lookup f27 = some ⟨oc27, od27, .func (PySem.W.fnOf "read_packet" "Reader.read_packet" (defArgs s_Reader_read_packet) (defBody s_Reader_read_packet) (defScope s_Reader_read_packet) .none kV27 dc27 pm27 an27 cd27 ct27), sl27⟩)
    (c27 : PySem.W.codeIn K cd27 "Reader.read_packet" = true)
    (k27 : PySem.W.keepIn K (.ref f27) = true)
    (a28 : PySem.W.nsIn K mainGlobals "_law_read_number" = some (some (.ref f28)))
    (l28 : K.lookup f28 = some ⟨oc28, od28, .func (PySem.W.fnOf "_law_read_number" "_law_read_number" (defArgs s_law_read_number) (defBody s_law_read_number) (defScope s_law_read_number) .none kV28 dc28 pm28 an28 cd28 ct28), sl28⟩)
    (c28 : PySem.W.codeIn K cd28 "_law_read_number" = true)
    (k28 : PySem.W.keepIn K (.ref f28) = true)
    (a29 : PySem.W.nsIn K mainGlobals "_law_sign" = some (some (.ref f29)))
    (l29 : K.lookup f29 = some ⟨oc29, od29, .func (PySem.W.fnOf "_law_sign" "_law_sign" (defArgs s_law_sign) (defBody s_law_sign) (defScope s_law_sign) .none kV29 dc29 pm29 an29 cd29 ct29), sl29⟩)
    (c29 : PySem.W.codeIn K cd29 "_law_sign" = true)
    (k29 : PySem.W.keepIn K (.ref f29) = true)
    (a30 : PySem.W.nsIn K mainGlobals "_law_read_text" = some (some (.ref f30)))
    (l30 : K.lookup f30 = some ⟨oc30, od30, .func (PySem.W.fnOf "_law_read_text" "_law_read_text" (defArgs s_law_read_text) (defBody s_law_read_text) (defScope s_law_read_text) .none kV30 dc30 pm30 an30 cd30 ct30), sl30⟩)
    (c30 : PySem.W.codeIn K cd30 "_law_read_text" = true)
    (k30 : PySem.W.keepIn K (.ref f30) = true)
    (a31 : PySem.W.nsIn K mainGlobals "_law_read_mark" = some (some (.ref f31)))
    (l31 : K.lookup f31 = some ⟨oc31, od31, .func (PySem.W.fnOf "_law_read_mark" "_law_read_mark" (defArgs s_law_read_mark) (defBody s_law_read_mark) (defScope s_law_read_mark) .none kV31 dc31 pm31 an31 cd31 ct31), sl31⟩)
    (c31 : PySem.W.codeIn K cd31 "_law_read_mark" = true)
    (k31 : PySem.W.keepIn K (.ref f31) = true)
    (a32 : PySem.W.nsIn K mainGlobals "_law_read_deed" = some (some (.ref f32)))
    (l32 : K.lookup f32 = some ⟨oc32, od32, .func (PySem.W.fnOf "_law_read_deed" "_law_read_deed" (defArgs s_law_read_deed) (defBody s_law_read_deed) (defScope s_law_read_deed) .none kV32 dc32 pm32 an32 cd32 ct32), sl32⟩)
    (c32 : PySem.W.codeIn K cd32 "_law_read_deed" = true)
    (k32 : PySem.W.keepIn K (.ref f32) = true)
    (a33 : PySem.W.nsIn K mainGlobals "_law_read_triples" = some (some (.ref f33)))
    (l33 : K.lookup f33 = some ⟨oc33, od33, .func (PySem.W.fnOf "_law_read_triples" "_law_read_triples" (defArgs s_law_read_triples) (defBody s_law_read_triples) (defScope s_law_read_triples) .none kV33 dc33 pm33 an33 cd33 ct33), sl33⟩)
    (c33 : PySem.W.codeIn K cd33 "_law_read_triples" = true)
    (k33 : PySem.W.keepIn K (.ref f33) = true)
    (a34 : PySem.W.nsIn K mainGlobals "_law_read_packet" = some (some (.ref f34)))
    (l34 : K.lookup f34 = some ⟨oc34, od34, .func (PySem.W.fnOf "_law_read_packet" "_law_read_packet" (defArgs s_law_read_packet) (defBody s_law_read_packet) (defScope s_law_read_packet) .none kV34 dc34 pm34 an34 cd34 ct34), sl34⟩)
    (c34 : PySem.W.codeIn K cd34 "_law_read_packet" = true)
    (k34 : PySem.W.keepIn K (.ref f34) = true)
    (a35 : PySem.W.nsIn K mainGlobals "_law_drawn_number" = some (some (.ref f35)))
    (l35 : K.lookup f35 = some ⟨oc35, od35, .func (PySem.W.fnOf "_law_drawn_number" "_law_drawn_number" (defArgs s_law_drawn_number) (defBody s_law_drawn_number) (defScope s_law_drawn_number) .none kV35 dc35 pm35 an35 cd35 ct35), sl35⟩)
    (c35 : PySem.W.codeIn K cd35 "_law_drawn_number" = true)
    (k35 : PySem.W.keepIn K (.ref f35) = true)
    (a36 : PySem.W.nsIn K mainGlobals "_law_drawn_text" = some (some (.ref f36)))
    (l36 : K.lookup f36 = some ⟨oc36, od36, .func (PySem.W.fnOf "_law_drawn_text" "_law_drawn_text" (defArgs s_law_drawn_text) (defBody s_law_drawn_text) (defScope s_law_drawn_text) .none kV36 dc36 pm36 an36 cd36 ct36), sl36⟩)
    (c36 : PySem.W.codeIn K cd36 "_law_drawn_text" = true)
    (k36 : PySem.W.keepIn K (.ref f36) = true)
    (a37 : PySem.W.nsIn K mainGlobals "_law_drawn_deed" = some (some (.ref f37)))
    (l37 : K.lookup f37 = some ⟨oc37, od37, .func (PySem.W.fnOf "_law_drawn_deed" "_law_drawn_deed" (defArgs s_law_drawn_deed) (defBody s_law_drawn_deed) (defScope s_law_drawn_deed) .none kV37 dc37 pm37 an37 cd37 ct37), sl37⟩)
    (c37 : PySem.W.codeIn K cd37 "_law_drawn_deed" = true)
    (k37 : PySem.W.keepIn K (.ref f37) = true)
    (a38 : PySem.W.nsIn K mainGlobals "_law_spoilt" = some (some (.ref f38)))
    (l38 : K.lookup f38 = some ⟨oc38, od38, .func (PySem.W.fnOf "_law_spoilt" "_law_spoilt" (defArgs s_law_spoilt) (defBody s_law_spoilt) (defScope s_law_spoilt) .none kV38 dc38 pm38 an38 cd38 ct38), sl38⟩)
    (c38 : PySem.W.codeIn K cd38 "_law_spoilt" = true)
    (k38 : PySem.W.keepIn K (.ref f38) = true)
    (a39 : PySem.W.nsIn K mainGlobals "_law_own" = some (some (.ref f39)))
    (l39 : K.lookup f39 = some ⟨oc39, od39, .func (PySem.W.fnOf "_law_own" "_law_own" (defArgs s_law_own) (defBody s_law_own) (defScope s_law_own) .none kV39 dc39 pm39 an39 cd39 ct39), sl39⟩)
    (c39 : PySem.W.codeIn K cd39 "_law_own" = true)
    (k39 : PySem.W.keepIn K (.ref f39) = true)
    (a40 : PySem.W.nsIn K mainGlobals "_law_told" = some (some (.ref f40)))
    (l40 : K.lookup f40 = some ⟨oc40, od40, .func (PySem.W.fnOf "_law_told" "_law_told" (defArgs s_law_told) (defBody s_law_told) (defScope s_law_told) .none kV40 dc40 pm40 an40 cd40 ct40), sl40⟩)
    (c40 : PySem.W.codeIn K cd40 "_law_told" = true)
    (k40 : PySem.W.keepIn K (.ref f40) = true)
    (a41 : PySem.W.nsIn K mainGlobals "_law_in_a_row" = some (some (.ref f41)))
    (l41 : K.lookup f41 = some ⟨oc41, od41, .func (PySem.W.fnOf "_law_in_a_row" "_law_in_a_row" (defArgs s_law_in_a_row) (defBody s_law_in_a_row) (defScope s_law_in_a_row) .none kV41 dc41 pm41 an41 cd41 ct41), sl41⟩)
    (c41 : PySem.W.codeIn K cd41 "_law_in_a_row" = true)
    (k41 : PySem.W.keepIn K (.ref f41) = true)
    (a42 : PySem.W.nsIn K mainGlobals "law" = some (some (.ref f42)))
    (l42 : K.lookup f42 = some ⟨oc42, od42, .func (PySem.W.fnOf "law" "law" (defArgs s_law) (defBody s_law) (defScope s_law) .none kV42 dc42 pm42 an42 cd42 ct42), sl42⟩)
    (c42 : PySem.W.codeIn K cd42 "law" = true)
    (k42 : PySem.W.keepIn K (.ref f42) = true)
    (z1 : PySem.W.nsIn K mainGlobals "bool" = some none)
    (z2 : PySem.W.nsIn K mainGlobals "int" = some none)
    (z3 : PySem.W.nsIn K mainGlobals "isinstance" = some none)
    (z4 : PySem.W.nsIn K mainGlobals "len" = some none)
    (z5 : PySem.W.nsIn K mainGlobals "list" = some none)
    (z6 : PySem.W.nsIn K mainGlobals "ord" = some none)
    (z7 : PySem.W.nsIn K mainGlobals "range" = some none)
    (z8 : PySem.W.nsIn K mainGlobals "str" = some none)
    (z9 : PySem.W.nsIn K mainGlobals "tuple" = some none)
    (y1 : PySem.W.nsIn K mainGlobals "NUMBER_BYTES" = some (some (.int 60 u1)))
    (y2 : PySem.W.nsIn K mainGlobals "BEFORE_PERCENT" = some (some (.str (PySem.Str.ofString " !\"#$") u2)))
    (y3 : PySem.W.nsIn K mainGlobals "AFTER_PERCENT" = some (some (.str (PySem.Str.ofString "&'()*+,-./0123456789:;<=>?@ABCDEFGHIJKLMNOPQRSTUVWXYZ[\\]^_`abcdefghijklmnopqrstuvwxyz{|}~") u3)))
    : ∃ fd : FuncData, (∀ (s : Shared) (v : Value), BindsTo s fd ⟨[v], []⟩ [("script", v)]) ∧ ∀ base : Heap, K.In base → base.Ns mainGlobals mg → FnOk l.prog w K mg base CX0 10 fa fd ["script"] (spLaw K) := by
  have e := hfa.symm.trans (PySem.W.mg_of X G a42)
  cases e
  have T : Txt K mg := ⟨PySem.W.mg_none_of X G z1, PySem.W.mg_none_of X G z2, PySem.W.mg_none_of X G z3, PySem.W.mg_none_of X G z4, PySem.W.mg_none_of X G z5, PySem.W.mg_none_of X G z6, PySem.W.mg_none_of X G z7, PySem.W.mg_none_of X G z8, PySem.W.mg_none_of X G z9, ⟨_, PySem.W.mg_of X G y1⟩, ⟨_, PySem.W.mg_of X G y2⟩, ⟨_, PySem.W.mg_of X G y3⟩⟩
  have X_DamagedPacket : ExF K mg "DamagedPacket" K_DamagedPacket := ⟨PySem.W.mg_of X G xg_DamagedPacket, xx_DamagedPacket, xk_DamagedPacket, xb_DamagedPacket, xt_DamagedPacket, PySem.W.exm_ref xb_DamagedPacket xh_DamagedPacket xt_DamagedPacket xs_DamagedPacket⟩
  have T_Reader : TReader K K_Reader := ⟨⟨pg_Reader, hd_Reader, po_Reader, sa_Reader⟩, n_Reader_data, n_Reader_at⟩
  have F_law_next := fun_mk (st := s_law_next) l1 c1 k1
  have b_law_next := F_law_next.binds (ps := ["state", "limit"]) fun _ _ _ _ _ _ us hl => match us, hl with | [_, _], _ => rfl
  have m_law_next := PySem.W.mg_of X G a1
  have F_law_same := fun_mk (st := s_law_same) l2 c2 k2
  have b_law_same := F_law_same.binds (ps := ["actual", "expected"]) fun _ _ _ _ _ _ us hl => match us, hl with | [_, _], _ => rfl
  have m_law_same := PySem.W.mg_of X G a2
  have F_write_number := fun_mk (st := s_write_number) l3 c3 k3
  have b_write_number := F_write_number.binds (ps := ["number"]) fun _ _ _ _ _ _ us hl => match us, hl with | [_], _ => rfl
  have m_write_number := PySem.W.mg_of X G a3
  have F_write_list := fun_mk (st := s_write_list) l4 c4 k4
  have b_write_list := F_write_list.binds (ps := ["items"]) fun _ _ _ _ _ _ us hl => match us, hl with | [_], _ => rfl
  have m_write_list := PySem.W.mg_of X G a4
  have F_write_string := fun_mk (st := s_write_string) l5 c5 k5
  have b_write_string := F_write_string.binds (ps := ["text"]) fun _ _ _ _ _ _ us hl => match us, hl with | [_], _ => rfl
  have m_write_string := PySem.W.mg_of X G a5
  have F_write_mark := fun_mk (st := s_write_mark) l6 c6 k6
  have b_write_mark := F_write_mark.binds (ps := ["mark"]) fun _ _ _ _ _ _ us hl => match us, hl with | [_], _ => rfl
  have m_write_mark := PySem.W.mg_of X G a6
  have F_write_deed := fun_mk (st := s_write_deed) l7 c7 k7
  have b_write_deed := F_write_deed.binds (ps := ["deed"]) fun _ _ _ _ _ _ us hl => match us, hl with | [_], _ => rfl
  have m_write_deed := PySem.W.mg_of X G a7
  have F_write_triples := fun_mk (st := s_write_triples) l8 c8 k8
  have b_write_triples := F_write_triples.binds (ps := ["triples"]) fun _ _ _ _ _ _ us hl => match us, hl with | [_], _ => rfl
  have m_write_triples := PySem.W.mg_of X G a8
  have F_write_packet := fun_mk (st := s_write_packet) l9 c9 k9
  have b_write_packet := F_write_packet.binds (ps := ["packet"]) fun _ _ _ _ _ _ us hl => match us, hl with | [_], _ => rfl
  have m_write_packet := PySem.W.mg_of X G a9
  have F_law_number := fun_mk (st := s_law_number) l10 c10 k10
  have b_law_number := F_law_number.binds (ps := ["number"]) fun _ _ _ _ _ _ us hl => match us, hl with | [_], _ => rfl
  have m_law_number := PySem.W.mg_of X G a10
  have F_law_text := fun_mk (st := s_law_text) l11 c11 k11
  have b_law_text := F_law_text.binds (ps := ["text"]) fun _ _ _ _ _ _ us hl => match us, hl with | [_], _ => rfl
  have m_law_text := PySem.W.mg_of X G a11
  have F_law_mark := fun_mk (st := s_law_mark) l12 c12 k12
  have b_law_mark := F_law_mark.binds (ps := ["mark"]) fun _ _ _ _ _ _ us hl => match us, hl with | [_], _ => rfl
  have m_law_mark := PySem.W.mg_of X G a12
  have F_law_deed := fun_mk (st := s_law_deed) l13 c13 k13
  have b_law_deed := F_law_deed.binds (ps := ["deed"]) fun _ _ _ _ _ _ us hl => match us, hl with | [_], _ => rfl
  have m_law_deed := PySem.W.mg_of X G a13
  have F_law_triples := fun_mk (st := s_law_triples) l14 c14 k14
  have b_law_triples := F_law_triples.binds (ps := ["triples"]) fun _ _ _ _ _ _ us hl => match us, hl with | [_], _ => rfl
  have m_law_triples := PySem.W.mg_of X G a14
  have F_Reader___init__ := fun_mk (st := s_Reader___init__) l15 c15 k15
  have b_Reader___init__ := F_Reader___init__.binds (ps := ["self", "data"]) fun _ _ _ _ _ _ us hl => match us, hl with | [_, _], _ => rfl
  have F_Reader_read_byte := fun_mk (st := s_Reader_read_byte) l16 c16 k16
  have b_Reader_read_byte := F_Reader_read_byte.binds (ps := ["self"]) fun _ _ _ _ _ _ us hl => match us, hl with | [_], _ => rfl
  have F_Reader_read_choice := fun_mk (st := s_Reader_read_choice) l17 c17 k17
  have b_Reader_read_choice := F_Reader_read_choice.binds (ps := ["self", "count"]) fun _ _ _ _ _ _ us hl => match us, hl with | [_, _], _ => rfl
  have F_Reader_end := fun_mk (st := s_Reader_end) l18 c18 k18
  have b_Reader_end := F_Reader_end.binds (ps := ["self"]) fun _ _ _ _ _ _ us hl => match us, hl with | [_], _ => rfl
  have F_Reader_read_number := fun_mk (st := s_Reader_read_number) l19 c19 k19
  have b_Reader_read_number := F_Reader_read_number.binds (ps := ["self"]) fun _ _ _ _ _ _ us hl => match us, hl with | [_], _ => rfl
  have F_Reader_read_count := fun_mk (st := s_Reader_read_count) l20 c20 k20
  have b_Reader_read_count := F_Reader_read_count.binds (ps := ["self"]) fun _ _ _ _ _ _ us hl => match us, hl with | [_], _ => rfl
  have F_Reader_read_character := fun_mk (st := s_Reader_read_character) l21 c21 k21
  have b_Reader_read_character := F_Reader_read_character.binds (ps := ["self"]) fun _ _ _ _ _ _ us hl => match us, hl with | [_], _ => rfl
  have F_Reader_read_string := fun_mk (st := s_Reader_read_string) l22 c22 k22
  have b_Reader_read_string := F_Reader_read_string.binds (ps := ["self"]) fun _ _ _ _ _ _ us hl => match us, hl with | [_], _ => rfl
  have F_Reader_read_mark := fun_mk (st := s_Reader_read_mark) l23 c23 k23
  have b_Reader_read_mark := F_Reader_read_mark.binds (ps := ["self"]) fun _ _ _ _ _ _ us hl => match us, hl with | [_], _ => rfl
  have F_Reader_read_deed := fun_mk (st := s_Reader_read_deed) l24 c24 k24
  have b_Reader_read_deed := F_Reader_read_deed.binds (ps := ["self"]) fun _ _ _ _ _ _ us hl => match us, hl with | [_], _ => rfl
  have F_Reader_read_triple := fun_mk (st := s_Reader_read_triple) l25 c25 k25
  have b_Reader_read_triple := F_Reader_read_triple.binds (ps := ["self"]) fun _ _ _ _ _ _ us hl => match us, hl with | [_], _ => rfl
  have F_Reader_read_triples := fun_mk (st := s_Reader_read_triples) l26 c26 k26
  have b_Reader_read_triples := F_Reader_read_triples.binds (ps := ["self"]) fun _ _ _ _ _ _ us hl => match us, hl with | [_], _ => rfl
  have F_Reader_read_packet := fun_mk (st := s_Reader_read_packet) l27 c27 k27
  have b_Reader_read_packet := F_Reader_read_packet.binds (ps := ["self"]) fun _ _ _ _ _ _ us hl => match us, hl with | [_], _ => rfl
  have F_law_read_number := fun_mk (st := s_law_read_number) l28 c28 k28
  have b_law_read_number := F_law_read_number.binds (ps := ["data", "at"]) fun _ _ _ _ _ _ us hl => match us, hl with | [_, _], _ => rfl
  have m_law_read_number := PySem.W.mg_of X G a28
  have F_law_sign := fun_mk (st := s_law_sign) l29 c29 k29
  have b_law_sign := F_law_sign.binds (ps := ["code"]) fun _ _ _ _ _ _ us hl => match us, hl with | [_], _ => rfl
  have m_law_sign := PySem.W.mg_of X G a29
  have F_law_read_text := fun_mk (st := s_law_read_text) l30 c30 k30
  have b_law_read_text := F_law_read_text.binds (ps := ["data", "at"]) fun _ _ _ _ _ _ us hl => match us, hl with | [_, _], _ => rfl
  have m_law_read_text := PySem.W.mg_of X G a30
  have F_law_read_mark := fun_mk (st := s_law_read_mark) l31 c31 k31
  have b_law_read_mark := F_law_read_mark.binds (ps := ["data", "at"]) fun _ _ _ _ _ _ us hl => match us, hl with | [_, _], _ => rfl
  have m_law_read_mark := PySem.W.mg_of X G a31
  have F_law_read_deed := fun_mk (st := s_law_read_deed) l32 c32 k32
  have b_law_read_deed := F_law_read_deed.binds (ps := ["data", "at"]) fun _ _ _ _ _ _ us hl => match us, hl with | [_, _], _ => rfl
  have m_law_read_deed := PySem.W.mg_of X G a32
  have F_law_read_triples := fun_mk (st := s_law_read_triples) l33 c33 k33
  have b_law_read_triples := F_law_read_triples.binds (ps := ["data", "at"]) fun _ _ _ _ _ _ us hl => match us, hl with | [_, _], _ => rfl
  have m_law_read_triples := PySem.W.mg_of X G a33
  have F_law_read_packet := fun_mk (st := s_law_read_packet) l34 c34 k34
  have b_law_read_packet := F_law_read_packet.binds (ps := ["data", "at"]) fun _ _ _ _ _ _ us hl => match us, hl with | [_, _], _ => rfl
  have m_law_read_packet := PySem.W.mg_of X G a34
  have F_law_drawn_number := fun_mk (st := s_law_drawn_number) l35 c35 k35
  have b_law_drawn_number := F_law_drawn_number.binds (ps := ["state"]) fun _ _ _ _ _ _ us hl => match us, hl with | [_], _ => rfl
  have m_law_drawn_number := PySem.W.mg_of X G a35
  have F_law_drawn_text := fun_mk (st := s_law_drawn_text) l36 c36 k36
  have b_law_drawn_text := F_law_drawn_text.binds (ps := ["state"]) fun _ _ _ _ _ _ us hl => match us, hl with | [_], _ => rfl
  have m_law_drawn_text := PySem.W.mg_of X G a36
  have F_law_drawn_deed := fun_mk (st := s_law_drawn_deed) l37 c37 k37
  have b_law_drawn_deed := F_law_drawn_deed.binds (ps := ["state"]) fun _ _ _ _ _ _ us hl => match us, hl with | [_], _ => rfl
  have m_law_drawn_deed := PySem.W.mg_of X G a37
  have F_law_spoilt := fun_mk (st := s_law_spoilt) l38 c38 k38
  have b_law_spoilt := F_law_spoilt.binds (ps := ["state", "data"]) fun _ _ _ _ _ _ us hl => match us, hl with | [_, _], _ => rfl
  have m_law_spoilt := PySem.W.mg_of X G a38
  have F_law_own := fun_mk (st := s_law_own) l39 c39 k39
  have b_law_own := F_law_own.binds (ps := ["kind", "data"]) fun _ _ _ _ _ _ us hl => match us, hl with | [_, _], _ => rfl
  have m_law_own := PySem.W.mg_of X G a39
  have F_law_told := fun_mk (st := s_law_told) l40 c40 k40
  have b_law_told := F_law_told.binds (ps := ["kind", "data"]) fun _ _ _ _ _ _ us hl => match us, hl with | [_, _], _ => rfl
  have m_law_told := PySem.W.mg_of X G a40
  have F_law_in_a_row := fun_mk (st := s_law_in_a_row) l41 c41 k41
  have b_law_in_a_row := F_law_in_a_row.binds (ps := ["things", "written"]) fun _ _ _ _ _ _ us hl => match us, hl with | [_, _], _ => rfl
  have m_law_in_a_row := PySem.W.mg_of X G a41
  have F_law := fun_mk (st := s_law) l42 c42 k42
  have b_law := F_law.binds (ps := ["script"]) fun _ _ _ _ _ _ us hl => match us, hl with | [_], _ => rfl
  have m_law := PySem.W.mg_of X G a42
  refine ⟨PySem.W.fnOf "law" "law" (defArgs s_law) (defBody s_law) (defScope s_law) .none kV42 dc42 pm42 an42 cd42 ct42, fun s v => .of_eq rfl, fun base _ _ => ?_⟩
  have G_law_next : GF l.prog w K mg base CX0 "_law_next" 1 ["state", "limit"] (spNextW K) := ⟨f1, _, ok_law_nextW F_law_next T, m_law_next, k1, b_law_next⟩
  have G_law_same : GF l.prog w K mg base CX0 "_law_same" 7 ["actual", "expected"] (spSame K 7) := gf_law_same F_law_same T m_law_same b_law_same 7
  have G_write_number : GF l.prog w K mg base CX0 "write_number" 1 ["number"] (spWnum) := ⟨f3, _, ok_write_number F_write_number T, m_write_number, k3, b_write_number⟩
  have G_write_list : GF l.prog w K mg base CX0 "write_list" 2 ["items"] (spWlist K) := ⟨f4, _, ok_write_list F_write_list T G_write_number, m_write_list, k4, b_write_list⟩
  have G_write_string : GF l.prog w K mg base CX0 "write_string" 3 ["text"] (spWtext) := ⟨f5, _, ok_write_string F_write_string T G_write_number G_write_list, m_write_string, k5, b_write_string⟩
  have G_write_mark : GF l.prog w K mg base CX0 "write_mark" 2 ["mark"] (spWmark K) := ⟨f6, _, ok_write_mark F_write_mark T G_write_number, m_write_mark, k6, b_write_mark⟩
  have G_write_deed : GF l.prog w K mg base CX0 "write_deed" 4 ["deed"] (spWdeed K) := ⟨f7, _, ok_write_deed F_write_deed T G_write_number G_write_list G_write_string G_write_mark, m_write_deed, k7, b_write_deed⟩
  have G_write_triples : GF l.prog w K mg base CX0 "write_triples" 5 ["triples"] (spWtrs K) := ⟨f8, _, ok_write_triples F_write_triples T G_write_number G_write_list G_write_deed, m_write_triples, k8, b_write_triples⟩
  have G_write_packet : GF l.prog w K mg base CX0 "write_packet" 6 ["packet"] (spWpkt K) := ⟨f9, _, ok_write_packet F_write_packet T G_write_triples, m_write_packet, k9, b_write_packet⟩
  have G_law_number : GF l.prog w K mg base CX0 "_law_number" 1 ["number"] (spWnum) := ⟨f10, _, ok_law_number F_law_number T, m_law_number, k10, b_law_number⟩
  have G_law_text : GF l.prog w K mg base CX0 "_law_text" 2 ["text"] (spWtext) := ⟨f11, _, ok_law_text F_law_text T G_law_number, m_law_text, k11, b_law_text⟩
  have G_law_mark : GF l.prog w K mg base CX0 "_law_mark" 2 ["mark"] (spWmark K) := ⟨f12, _, ok_law_mark F_law_mark T G_law_number, m_law_mark, k12, b_law_mark⟩
  have G_law_deed : GF l.prog w K mg base CX0 "_law_deed" 3 ["deed"] (spWdeed K) := ⟨f13, _, ok_law_deed F_law_deed T G_law_number G_law_text G_law_mark, m_law_deed, k13, b_law_deed⟩
  have G_law_triples : GF l.prog w K mg base CX0 "_law_triples" 4 ["triples"] (spWtrs K) := ⟨f14, _, ok_law_triples F_law_triples T G_law_number G_law_deed, m_law_triples, k14, b_law_triples⟩
  have C_Reader : GC l.prog w K mg base CX0 "Reader" K_Reader 1 ["self", "data"] (spRInit K K_Reader) := ⟨f15, _, ok_Reader_init F_Reader___init__ T T_Reader, ⟨mk_Reader, a15, i15, kc_Reader⟩, PySem.W.mg_of X G q_Reader, b_Reader___init__⟩
  have M_read_byte : GM l.prog w K mg base (L2.CX l.prog w) K_Reader "read_byte" 1 ["self"] (spRByte K K_Reader K_DamagedPacket) := ⟨f16, _, ok_Reader_read_byte F_Reader_read_byte T T_Reader X_DamagedPacket, ⟨a16, i16, k16⟩, b_Reader_read_byte⟩
  have M_read_choice : GM l.prog w K mg base (L2.CX l.prog w) K_Reader "read_choice" 2 ["self", "count"] (spRCh K K_Reader K_DamagedPacket) := ⟨f17, _, ok_Reader_read_choice F_Reader_read_choice T T_Reader X_DamagedPacket M_read_byte, ⟨a17, i17, k17⟩, b_Reader_read_choice⟩
  have M_end : GM l.prog w K mg base (L2.CX l.prog w) K_Reader "end" 1 ["self"] (spREnd K K_Reader K_DamagedPacket) := ⟨f18, _, ok_Reader_end F_Reader_end T T_Reader X_DamagedPacket, ⟨a18, i18, k18⟩, b_Reader_end⟩
  have M_read_number : GM l.prog w K mg base (L2.CX l.prog w) K_Reader "read_number" 2 ["self"] (spRd K K_Reader K_DamagedPacket numAt natD) := ⟨f19, _, (ok_Reader_read_number F_Reader_read_number T T_Reader X_DamagedPacket M_read_byte).imp fun _ _ _ _ => numX, ⟨a19, i19, k19⟩, b_Reader_read_number⟩
  have M_read_count : GM l.prog w K mg base (L2.CX l.prog w) K_Reader "read_count" 3 ["self"] (spRd K K_Reader K_DamagedPacket cntAt natD) := ⟨f20, _, ok_Reader_read_count F_Reader_read_count T T_Reader X_DamagedPacket M_read_number, ⟨a20, i20, k20⟩, b_Reader_read_count⟩
  have M_read_character : GM l.prog w K mg base (L2.CX l.prog w) K_Reader "read_character" 3 ["self"] (spRd K K_Reader K_DamagedPacket charAt chD) := ⟨f21, _, ok_Reader_read_character F_Reader_read_character T T_Reader X_DamagedPacket M_read_number, ⟨a21, i21, k21⟩, b_Reader_read_character⟩
  have M_read_string : GM l.prog w K mg base (L2.CX l.prog w) K_Reader "read_string" 4 ["self"] (spRd K K_Reader K_DamagedPacket textAt txD) := ⟨f22, _, ok_Reader_read_string F_Reader_read_string T T_Reader M_read_count M_read_character, ⟨a22, i22, k22⟩, b_Reader_read_string⟩
  have M_read_mark : GM l.prog w K mg base (L2.CX l.prog w) K_Reader "read_mark" 3 ["self"] (spRd K K_Reader K_DamagedPacket mkAt mkD) := ⟨f23, _, ok_Reader_read_mark F_Reader_read_mark T T_Reader M_read_number, ⟨a23, i23, k23⟩, b_Reader_read_mark⟩
  have M_read_deed : GM l.prog w K mg base (L2.CX l.prog w) K_Reader "read_deed" 5 ["self"] (spRd K K_Reader K_DamagedPacket deedAt ddD) := ⟨f24, _, ok_Reader_read_deed F_Reader_read_deed T T_Reader M_read_choice M_read_number M_read_count M_read_string M_read_mark, ⟨a24, i24, k24⟩, b_Reader_read_deed⟩
  have M_read_triple : GM l.prog w K mg base (L2.CX l.prog w) K_Reader "read_triple" 6 ["self"] (spRd K K_Reader K_DamagedPacket trAt trD) := ⟨f25, _, ok_Reader_read_triple F_Reader_read_triple T T_Reader M_read_number M_read_deed, ⟨a25, i25, k25⟩, b_Reader_read_triple⟩
  have M_read_triples : GM l.prog w K mg base (L2.CX l.prog w) K_Reader "read_triples" 7 ["self"] (spRd K K_Reader K_DamagedPacket trsAt tsD) := ⟨f26, _, ok_Reader_read_triples F_Reader_read_triples T T_Reader M_read_count M_read_triple, ⟨a26, i26, k26⟩, b_Reader_read_triples⟩
  have M_read_packet : GM l.prog w K mg base (L2.CX l.prog w) K_Reader "read_packet" 8 ["self"] (spRd K K_Reader K_DamagedPacket pktAt tsD) := ⟨f27, _, ok_Reader_read_packet F_Reader_read_packet T T_Reader X_DamagedPacket M_read_byte M_read_triples, ⟨a27, i27, k27⟩, b_Reader_read_packet⟩
  have G_law_read_number : GF l.prog w K mg base CX0 "_law_read_number" 1 ["data", "at"] (spLr K numAt natD) := ⟨f28, _, ok_law_read_number F_law_read_number T, m_law_read_number, k28, b_law_read_number⟩
  have G_law_sign : GF l.prog w K mg base CX0 "_law_sign" 1 ["code"] (spSign) := ⟨f29, _, ok_law_sign F_law_sign T, m_law_sign, k29, b_law_sign⟩
  have G_law_read_text : GF l.prog w K mg base CX0 "_law_read_text" 2 ["data", "at"] (spLr K textAt txD) := ⟨f30, _, ok_law_read_text F_law_read_text T G_law_read_number G_law_sign, m_law_read_text, k30, b_law_read_text⟩
  have G_law_read_mark : GF l.prog w K mg base CX0 "_law_read_mark" 2 ["data", "at"] (spLr K mkAt mkD) := ⟨f31, _, ok_law_read_mark F_law_read_mark T G_law_read_number, m_law_read_mark, k31, b_law_read_mark⟩
  have G_law_read_deed : GF l.prog w K mg base CX0 "_law_read_deed" 3 ["data", "at"] (spLr K deedAt ddD) := ⟨f32, _, ok_law_read_deed F_law_read_deed T G_law_read_number G_law_read_text G_law_read_mark, m_law_read_deed, k32, b_law_read_deed⟩
  have G_law_read_triples : GF l.prog w K mg base CX0 "_law_read_triples" 4 ["data", "at"] (spLr K trsAt tsD) := ⟨f33, _, ok_law_read_triples F_law_read_triples T G_law_read_number G_law_read_mark G_law_read_deed, m_law_read_triples, k33, b_law_read_triples⟩
  have G_law_read_packet : GF l.prog w K mg base CX0 "_law_read_packet" 5 ["data", "at"] (spLr K pktAt tsD) := ⟨f34, _, ok_law_read_packet F_law_read_packet T G_law_read_triples, m_law_read_packet, k34, b_law_read_packet⟩
  have G_law_drawn_number : GF l.prog w K mg base CX0 "_law_drawn_number" 2 ["state"] (spDn K) := ⟨f35, _, ok_law_drawn_number F_law_drawn_number T G_law_next, m_law_drawn_number, k35, b_law_drawn_number⟩
  have G_law_drawn_text : GF l.prog w K mg base CX0 "_law_drawn_text" 2 ["state"] (spDt K) := ⟨f36, _, ok_law_drawn_text F_law_drawn_text T G_law_next, m_law_drawn_text, k36, b_law_drawn_text⟩
  have G_law_drawn_deed : GF l.prog w K mg base CX0 "_law_drawn_deed" 3 ["state"] (spDdd K) := ⟨f37, _, ok_law_drawn_deed F_law_drawn_deed T G_law_next G_law_drawn_number G_law_drawn_text, m_law_drawn_deed, k37, b_law_drawn_deed⟩
  have G_law_spoilt : GF l.prog w K mg base CX0 "_law_spoilt" 2 ["state", "data"] (spSp K) := ⟨f38, _, ok_law_spoilt F_law_spoilt T G_law_next, m_law_spoilt, k38, b_law_spoilt⟩
  have G_law_own : GF l.prog w K mg base CX0 "_law_own" 6 ["kind", "data"] (spOwn K) := ⟨f39, _, ok_law_own F_law_own T G_law_read_number G_law_read_text G_law_read_deed G_law_read_triples G_law_read_packet, m_law_own, k39, b_law_own⟩
  have G_law_told : GF l.prog w K mg base CX0 "_law_told" 9 ["kind", "data"] (spOwn K) := ⟨f40, _, ok_law_told F_law_told T T_Reader X_DamagedPacket C_Reader M_end M_read_number M_read_string M_read_deed M_read_triples M_read_packet, m_law_told, k40, b_law_told⟩
  have G_law_in_a_row : GF l.prog w K mg base CX0 "_law_in_a_row" 9 ["things", "written"] (spRow K) := ⟨f41, _, ok_law_in_a_row F_law_in_a_row T T_Reader C_Reader M_end M_read_number M_read_string M_read_deed M_read_triples M_read_packet G_law_same, m_law_in_a_row, k41, b_law_in_a_row⟩
  exact ok_law F_law T G_law_next G_law_same G_write_number G_write_string G_write_deed G_write_triples G_write_packet G_law_number G_law_text G_law_deed G_law_triples G_law_drawn_number G_law_drawn_text G_law_drawn_deed G_law_spoilt G_law_own G_law_told G_law_in_a_row
theorem walk {l : PySem.W.OpenLaw} {q : Program} {loose : List Str} {XP : (Str → Option Value) → Heap → Prop} {YP : World → Heap → Prop} {d : DefRec} {K : Params → PySem.W.Frag} (hn : l.most = some 63) (hdf : d.params.defaults = [])
    (hY : ∀ (w : World) (h : Heap), YP w h → (K w.params).In h)
    (F : ∀ (w : World) (mg : Str → Option Value) (fa : Addr) (h : Heap), (K w.params).In h → h.Ns mainGlobals mg → mg d.name = some (.ref fa) →
      ∃ fd : FuncData, (∀ (s : Shared) (u : Value), BindsTo s fd ⟨[u], []⟩ [("script", u)]) ∧ ∀ base : Heap, (K w.params).In base → base.Ns mainGlobals mg → FnOk l.prog w (K w.params) mg base CX0 10 fa fd ["script"] (spLaw (K w.params))) :
    PySem.W.WalkO q loose XP YP l.row.toRowW d [] (fun f vs => PySem.call f vs) :=
  L2.walk_of (n := 63) (k := 10) (x := "script") (CX := fun _ => CX0) (sp := fun w => spLaw (K w.params)) hn (by decide) hdf ⟨rfl, by decide, by decide⟩ hY F (fun _ _ a ns hl _ hS => ⟨a, ns, rfl, hS, hl, fun _ => rfl⟩) fun _ _ _ _ _ z => z
end SW
open PySem PySem.W PyProof.Rows
set_option maxRecDepth 100000 in
set_option maxHeartbeats 0 in
theorem PySem.Challenge.cw_shapewhole_k12_bytes_written_and_read_holds : PySem.Challenge.rw_shapewhole_k12_bytes_written_and_read.Holds := by
  w_on; o_law; k_head; (case hw => w_witness2)
  k_fill
  refine SW.walk (l := PySem.Challenge.rw_shapewhole_k12_bytes_written_and_read) rfl rfl (fun w h Y => PySem.W.kIn_of Y) ?F
  case F =>
    intro w mg fa h KX G hmg
    refine' SW.all_mk KX G hmg ?q_Reader ?pg_Reader ?hd_Reader ?po_Reader ?sa_Reader ?mk_Reader ?kc_Reader ?n_Reader_data ?n_Reader_at ?xg_DamagedPacket ?xx_DamagedPacket ?xk_DamagedPacket ?xb_DamagedPacket ?xt_DamagedPacket ?xh_DamagedPacket ?xs_DamagedPacket ?a1 ?l1 ?c1 ?k1 ?a2 ?l2 ?c2 ?k2 ?a3 ?l3 ?c3 ?k3 ?a4 ?l4 ?c4 ?k4 ?a5 ?l5 ?c5 ?k5 ?a6 ?l6 ?c6 ?k6 ?a7 ?l7 ?c7 ?k7 ?a8 ?l8 ?c8 ?k8 ?a9 ?l9 ?c9 ?k9 ?a10 ?l10 ?c10 ?k10 ?a11 ?l11 ?c11 ?k11 ?a12 ?l12 ?c12 ?k12 ?a13 ?l13 ?c13 ?k13 ?a14 ?l14 ?c14 ?k14 ?a15 ?i15 ?l15 ?c15 ?k15 ?a16 ?i16 ?l16 ?c16 ?k16 ?a17 ?i17 ?l17 ?c17 ?k17 ?a18 ?i18 ?l18 ?c18 ?k18 ?a19 ?i19 ?l19 ?c19 ?k19 ?a20 ?i20 ?l20 ?c20 ?k20 ?a21 ?i21 ?l21 ?c21 ?k21 ?a22 ?i22 ?l22 ?c22 ?k22 ?a23 ?i23 ?l23 ?c23 ?k23 ?a24 ?i24 ?l24 ?c24 ?k24 ?a25 ?i25 ?l25 ?c25 ?k25 ?a26 ?i26 ?l26 ?c26 ?k26 ?a27 ?i27 ?l27 ?c27 ?k27 ?a28 ?l28 ?c28 ?k28 ?a29 ?l29 ?c29 ?k29 ?a30 ?l30 ?c30 ?k30 ?a31 ?l31 ?c31 ?k31 ?a32 ?l32 ?c32 ?k32 ?a33 ?l33 ?c33 ?k33 ?a34 ?l34 ?c34 ?k34 ?a35 ?l35 ?c35 ?k35 ?a36 ?l36 ?c36 ?k36 ?a37 ?l37 ?c37 ?k37 ?a38 ?l38 ?c38 ?k38 ?a39 ?l39 ?c39 ?k39 ?a40 ?l40 ?c40 ?k40 ?a41 ?l41 ?c41 ?k41 ?a42 ?l42 ?c42 ?k42 ?z1 ?z2 ?z3 ?z4 ?z5 ?z6 ?z7 ?z8 ?z9 ?y1 ?y2 ?y3
    (case q_Reader => k_is)
    (case pg_Reader => k_is)
    (case hd_Reader => k_is)
    (case po_Reader => k_is)
    (case sa_Reader => k_is)
    (case mk_Reader => k_is)
    (case kc_Reader => k_is)
    (case n_Reader_data => k_is)
    (case n_Reader_at => k_is)
    (case xg_DamagedPacket => k_is)
    (case xx_DamagedPacket => k_exc)
    (case xk_DamagedPacket => k_is)
    (case xb_DamagedPacket => k_is)
    (case xt_DamagedPacket => k_is)
    (case xh_DamagedPacket => k_is)
    (case xs_DamagedPacket => k_is)
    (case a1 => k_is)
    (case l1 => k_is)
    (case c1 => k_is)
    (case k1 => k_is)
    (case a2 => k_is)
    (case l2 => k_is)
    (case c2 => k_is)
    (case k2 => k_is)
    (case a3 => k_is)
    (case l3 => k_is)
    (case c3 => k_is)
    (case k3 => k_is)
    (case a4 => k_is)
    (case l4 => k_is)
    (case c4 => k_is)
    (case k4 => k_is)
    (case a5 => k_is)
    (case l5 => k_is)
    (case c5 => k_is)
    (case k5 => k_is)
    (case a6 => k_is)
    (case l6 => k_is)
    (case c6 => k_is)
    (case k6 => k_is)
    (case a7 => k_is)
    (case l7 => k_is)
    (case c7 => k_is)
    (case k7 => k_is)
    (case a8 => k_is)
    (case l8 => k_is)
    (case c8 => k_is)
    (case k8 => k_is)
    (case a9 => k_is)
    (case l9 => k_is)
    (case c9 => k_is)
    (case k9 => k_is)
    (case a10 => k_is)
    (case l10 => k_is)
    (case c10 => k_is)
    (case k10 => k_is)
    (case a11 => k_is)
    (case l11 => k_is)
    (case c11 => k_is)
    (case k11 => k_is)
    (case a12 => k_is)
    (case l12 => k_is)
    (case c12 => k_is)
    (case k12 => k_is)
    (case a13 => k_is)
    (case l13 => k_is)
    (case c13 => k_is)
    (case k13 => k_is)
    (case a14 => k_is)
    (case l14 => k_is)
    (case c14 => k_is)
    (case k14 => k_is)
    (case a15 => k_is)
    (case i15 => k_is)
    (case l15 => k_is)
    (case c15 => k_is)
    (case k15 => k_is)
    (case a16 => k_is)
    (case i16 => k_is)
    (case l16 => k_is)
    (case c16 => k_is)
    (case k16 => k_is)
    (case a17 => k_is)
    (case i17 => k_is)
    (case l17 => k_is)
    (case c17 => k_is)
    (case k17 => k_is)
    (case a18 => k_is)
    (case i18 => k_is)
    (case l18 => k_is)
    (case c18 => k_is)
    (case k18 => k_is)
    (case a19 => k_is)
    (case i19 => k_is)
    (case l19 => k_is)
    (case c19 => k_is)
    (case k19 => k_is)
    (case a20 => k_is)
    (case i20 => k_is)
    (case l20 => k_is)
    (case c20 => k_is)
    (case k20 => k_is)
    (case a21 => k_is)
    (case i21 => k_is)
    (case l21 => k_is)
    (case c21 => k_is)
    (case k21 => k_is)
    (case a22 => k_is)
    (case i22 => k_is)
    (case l22 => k_is)
    (case c22 => k_is)
    (case k22 => k_is)
    (case a23 => k_is)
    (case i23 => k_is)
    (case l23 => k_is)
    (case c23 => k_is)
    (case k23 => k_is)
    (case a24 => k_is)
    (case i24 => k_is)
    (case l24 => k_is)
    (case c24 => k_is)
    (case k24 => k_is)
    (case a25 => k_is)
    (case i25 => k_is)
    (case l25 => k_is)
    (case c25 => k_is)
    (case k25 => k_is)
    (case a26 => k_is)
    (case i26 => k_is)
    (case l26 => k_is)
    (case c26 => k_is)
    (case k26 => k_is)
    (case a27 => k_is)
    (case i27 => k_is)
    (case l27 => k_is)
    (case c27 => k_is)
    (case k27 => k_is)
    (case a28 => k_is)
    (case l28 => k_is)
    (case c28 => k_is)
    (case k28 => k_is)
    (case a29 => k_is)
    (case l29 => k_is)
    (case c29 => k_is)
    (case k29 => k_is)
    (case a30 => k_is)
    (case l30 => k_is)
    (case c30 => k_is)
    (case k30 => k_is)
    (case a31 => k_is)
    (case l31 => k_is)
    (case c31 => k_is)
    (case k31 => k_is)
    (case a32 => k_is)
    (case l32 => k_is)
    (case c32 => k_is)
    (case k32 => k_is)
    (case a33 => k_is)
    (case l33 => k_is)
    (case c33 => k_is)
    (case k33 => k_is)
    (case a34 => k_is)
    (case l34 => k_is)
    (case c34 => k_is)
    (case k34 => k_is)
    (case a35 => k_is)
    (case l35 => k_is)
    (case c35 => k_is)
    (case k35 => k_is)
    (case a36 => k_is)
    (case l36 => k_is)
    (case c36 => k_is)
    (case k36 => k_is)
    (case a37 => k_is)
    (case l37 => k_is)
    (case c37 => k_is)
    (case k37 => k_is)
    (case a38 => k_is)
    (case l38 => k_is)
    (case c38 => k_is)
    (case k38 => k_is)
    (case a39 => k_is)
    (case l39 => k_is)
    (case c39 => k_is)
    (case k39 => k_is)
    (case a40 => k_is)
    (case l40 => k_is)
    (case c40 => k_is)
    (case k40 => k_is)
    (case a41 => k_is)
    (case l41 => k_is)
    (case c41 => k_is)
    (case k41 => k_is)
    (case a42 => k_is)
    (case l42 => k_is)
    (case c42 => k_is)
    (case k42 => k_is)
    (case z1 => k_is)
    (case z2 => k_is)
    (case z3 => k_is)
    (case z4 => k_is)
    (case z5 => k_is)
    (case z6 => k_is)
    (case z7 => k_is)
    (case z8 => k_is)
    (case z9 => k_is)
    (case y1 => k_is)
    (case y2 => k_is)
    (case y3 => k_is)
