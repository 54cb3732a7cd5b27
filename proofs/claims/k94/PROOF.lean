import PyProof.Rows.All
import Wide.All
import OpenK.AllK
import Wide.FinOn
import HandS.ForMost
import HandS.Conv
import HandS.SetFor
import HandS.IsInst
import HandS.Property
import HandS.Wide
import HandS.Defaults
import HandS.Codes
import HandS.Zip
import HandS.Style
import PySem.Challenge.RW_nodice_k94_whole_walkers_in_any_order
section
set_option Elab.async false
set_option linter.all false
set_option maxRecDepth 100000
set_option maxHeartbeats 4000000
/-! Nd: rules by values in one, the heap in hand (Cur), readings step by step. -/
namespace Nd
open PySem PySem.Spec PyProof.Rows L2

/-! ### the heap in hand -/
/-- what a call leaves: all that was tracked stands, but for S -/
structure Ret (S : List Addr) (H H' : Hp) : Prop where
  fr : ∀ a o, H a = some o → a ∉ S → H' a = some o
  keep : ∀ a, H a ≠ none → H' a ≠ none
theorem Ret.refl {S : List Addr} {H : Hp} : Ret S H H := ⟨fun _ _ h _ => h, fun _ h => h⟩
theorem Ret.trans {S : List Addr} {H H1 H2 : Hp} (a : Ret S H H1) (b : Ret S H1 H2) : Ret S H H2 :=
  ⟨fun x o h n => b.fr x o (a.fr x o h n) n, fun x h => b.keep x (a.keep x h)⟩
theorem Ret.mono {S T : List Addr} {H H' : Hp} (h : Ret S H H') (st : ∀ a ∈ S, a ∈ T) : Ret T H H' :=
  ⟨fun a o e n => h.fr a o e fun m => n (st a m), h.keep⟩
theorem Ret.nil {S : List Addr} {H H' : Hp} (h : Ret [] H H') : Ret S H H' := h.mono fun _ m => nomatch m
theorem Ret.new {S : List Addr} {H : Hp} {p : Addr} {o : HO} (hp : H p = none) : Ret S H (upd H p o) :=
  ⟨fun a u h _ => by rw [upd_ne (ne_of_none h hp)]; exact h, fun a h => by
    by_cases e : a = p
    · subst e; exact absurd hp h
    · rw [upd_ne e]; exact h⟩
theorem Ret.set {S : List Addr} {H : Hp} {p : Addr} {o : HO} (hp : p ∈ S) : Ret S H (upd H p o) :=
  ⟨fun a u h n => by rw [upd_ne (show a ≠ p from fun e => n (by rw [e]; exact hp))]; exact h, fun a h => by
    by_cases e : a = p
    · subst e; rw [upd_same]; simp
    · rw [upd_ne e]; exact h⟩
/-- what is no changed thing -/
theorem Ret.tup {S : List Addr} {H H' : Hp} (r : Ret S H H') (hs : ∀ s ∈ S, ∀ xs, H s ≠ some (.tup xs)) {a : Addr} {xs : List V} (h : H a = some (.tup xs)) : H' a = some (.tup xs) :=
  r.fr a _ h fun m => hs a m xs h

structure Cur (H0 : Hp) (S : List Addr) (H : Hp) (L : List (Addr × HO)) : Prop where
  nd : (L.map (·.1)).Nodup
  own : ∀ p ∈ L, H p.1 = some p.2
  ret : Ret S H0 H
section
variable {H0 H H' : Hp} {S S1 : List Addr} {L L' : List (Addr × HO)} {a b p : Addr} {o o' : HO} {i j : Nat}
theorem Cur.start (nd : (L.map (·.1)).Nodup) (own : ∀ p ∈ L, H p.1 = some p.2) : Cur H S H L := ⟨nd, own, .refl⟩
theorem Cur.mem (C : Cur H0 S H L) (h : (a, o) ∈ L) : H a = some o := C.own _ h
theorem Cur.get (C : Cur H0 S H L) (i : Nat) (h : L[i]? = some (a, o)) : H a = some o := C.own _ (List.mem_of_getElem? h)
theorem Cur.fresh (C : Cur H0 S H L) (hp : H p = none) : H0 p = none := by
  cases e : H0 p with
  | none => rfl
  | some u => exact absurd hp (C.ret.keep p (by rw [e]; simp))
theorem Cur.out (C : Cur H0 S H L) (hp : H p = none) : p ∉ L.map (·.1) := fun m => by
  obtain ⟨q, hq, e⟩ := List.mem_map.mp m
  have := C.own q hq
  rw [e, hp] at this
  cases this
theorem Cur.new (C : Cur H0 S H L) (hp : H p = none) : Cur H0 S (upd H p o) ((p, o) :: L) where
  nd := List.nodup_cons.mpr ⟨C.out hp, C.nd⟩
  own := fun q hq => by
    rcases List.mem_cons.mp hq with e | hq
    · subst e; exact upd_same
    · have h := C.own q hq
      rw [upd_ne (ne_of_none h hp)]; exact h
  ret := C.ret.trans (.new hp)
theorem Cur.ne (C : Cur H0 S H L) {o2 : HO} (i j : Nat) (hi : L[i]? = some (a, o)) (hj : L[j]? = some (b, o2)) (n : i ≠ j) : a ≠ b := fun e => by
  subst e
  have h1 : (L.map (·.1))[i]? = some a := by rw [List.getElem?_map, hi]; rfl
  have h2 : (L.map (·.1))[j]? = some a := by rw [List.getElem?_map, hj]; rfl
  obtain ⟨l1, e1⟩ := List.getElem?_eq_some_iff.mp h1
  obtain ⟨l2, e2⟩ := List.getElem?_eq_some_iff.mp h2
  exact n ((List.getElem_inj C.nd).mp (e1.trans e2.symm))
theorem set_fst {L : List (Addr × HO)} {i : Nat} (h : L[i]? = some (a, o)) : (L.set i (a, o')).map (·.1) = L.map (·.1) := by
  rw [List.map_set]
  have h1 : (L.map (·.1))[i]? = some a := by rw [List.getElem?_map, h]; rfl
  obtain ⟨l1, e1⟩ := List.getElem?_eq_some_iff.mp h1
  show (L.map (·.1)).set i a = _
  conv => lhs; rw [← e1]
  exact List.set_getElem_self l1
/-- a changed object, in general -/
theorem Cur.at' (C : Cur H0 S H L) (i : Nat) (hi : L[i]? = some (a, o)) (r : Ret S H0 H') (h1 : H' a = some o') (hk : ∀ b u, H b = some u → b ≠ a → b ∈ L.map (·.1) → H' b = some u) : Cur H0 S H' (L.set i (a, o')) where
  nd := by rw [set_fst hi]; exact C.nd
  own := fun q hq => by
    obtain ⟨k, hk1, e⟩ := List.mem_iff_getElem.mp hq
    rw [List.length_set] at hk1
    by_cases hki : i = k
    · subst hki
      rw [List.getElem_set_self] at e
      subst e
      exact h1
    · rw [List.getElem_set_ne hki] at e
      have hq' : q ∈ L := e ▸ List.getElem_mem hk1
      have hne : q.1 ≠ a := fun z => by
        have g : L[k]? = some (q.1, q.2) := by rw [List.getElem?_eq_getElem hk1, e]
        exact C.ne k i g hi (Ne.symm hki) z
      exact hk _ _ (C.own q hq') hne (List.mem_map_of_mem hq')
  ret := r
theorem Cur.set (C : Cur H0 S H L) (i : Nat) (hi : L[i]? = some (a, o)) (m : a ∈ S ∨ H0 a = none) : Cur H0 S (upd H a o') (L.set i (a, o')) := by
  refine C.at' i hi ?_ upd_same fun b u h n _ => by rw [upd_ne n]; exact h
  refine ⟨fun b u h n => ?_, fun b h => ?_⟩
  · have hne : b ≠ a := fun e => by
      subst e
      rcases m with m | m
      · exact n m
      · rw [h] at m; cases m
    rw [upd_ne hne]
    exact C.ret.fr b u h n
  · by_cases e : b = a
    · subst e; rw [upd_same]; simp
    · rw [upd_ne e]; exact C.ret.keep b h
theorem Cur.retTo (C : Cur H0 S H L) (r : Ret S1 H H') (m : ∀ a ∈ S1, a ∈ S ∨ H0 a = none) : Ret S H0 H' where
  fr := fun b u h n => r.fr b u (C.ret.fr b u h n) fun z => (m b z).elim (fun q => n q) fun q => nomatch (h.symm.trans q)
  keep := fun b h => r.keep b (C.ret.keep b h)
/-- behind a call that changes nothing of ours -/
theorem Cur.call0 (C : Cur H0 S H L) (r : Ret [] H H') : Cur H0 S H' L :=
  ⟨C.nd, fun p hp => r.fr _ _ (C.own p hp) (fun m => nomatch m), C.retTo r fun _ m => nomatch m⟩
/-- behind a call that changes one thing -/
theorem Cur.call1 (C : Cur H0 S H L) (i : Nat) (hi : L[i]? = some (a, o)) (m : a ∈ S ∨ H0 a = none) (r : Ret [a] H H') (h1 : H' a = some o') : Cur H0 S H' (L.set i (a, o')) :=
  C.at' i hi (C.retTo r fun b hb => by rw [List.mem_singleton.mp hb]; exact m) h1 fun b u h n _ => r.fr b u h fun z => n (List.mem_singleton.mp z)
/-- a new thing of a call's -/
theorem Cur.add (C : Cur H0 S H' L) (hp : p ∉ L.map (·.1)) (h : H' p = some o) : Cur H0 S H' ((p, o) :: L) where
  nd := List.nodup_cons.mpr ⟨hp, C.nd⟩
  own := fun q hq => (List.mem_cons.mp hq).elim (fun e => by subst e; exact h) (fun hq => C.own q hq)
  ret := C.ret
theorem Cur.call0n (C : Cur H0 S H L) (r : Ret [] H H') (hp : H p = none) (h : H' p = some o) : Cur H0 S H' ((p, o) :: L) := (C.call0 r).add (C.out hp) h
theorem Cur.call1n (C : Cur H0 S H L) (i : Nat) (hi : L[i]? = some (a, o)) (m : a ∈ S ∨ H0 a = none) (r : Ret [a] H H') (h1 : H' a = some o') {u : HO} (hp : H p = none) (h : H' p = some u) : Cur H0 S H' ((p, u) :: L.set i (a, o')) :=
  (C.call1 i hi m r h1).add (by rw [set_fst hi]; exact C.out hp) h
/-- fewer things, in another order -/
theorem Cur.sub (C : Cur H0 S H L) (nd : (L'.map (·.1)).Nodup) (hs : ∀ p ∈ L', p ∈ L) : Cur H0 S H L' := ⟨nd, fun p hp => C.own p (hs p hp), C.ret⟩
theorem Cur.drop (C : Cur H0 S H (p' :: L)) : Cur H0 S H L := ⟨(List.nodup_cons.mp C.nd).2, fun q hq => C.own q (List.mem_cons_of_mem _ hq), C.ret⟩
theorem Cur.toRet (C : Cur H0 S H L) : Ret S H0 H := C.ret
/-- begin anew: what is owned is owned at the heap as it stands -/
theorem Cur.again (C : Cur H0 S H L) : Cur H S1 H L := ⟨C.nd, C.own, .refl⟩
end

/-! ### rules in one -/
section
variable {X : Cx}
def rAddU : R2 := fun x y H Q => rI0 (fun i j => .int (i + j)) x y H Q ∨ rCat x y H Q ∨ ∃ i j, x = .str i ∧ y = .str j ∧ i.length + j.length ≤ sizeLine ∧ Q (.str (i ++ j)) H
theorem op_addU : OpR X (binaryOp .Add) rAddU := OpR.or op_add (OpR.or op_cat op_add_str)
def rMulU : R2 := fun x y H Q => rI CMul (fun i j => .int (i * j)) x y H Q ∨ rRep x y H Q
theorem op_mulU : OpR X (binaryOp .Mult) rMulU := OpR.or op_mul op_rep
def rEqU (K : PySem.W.Frag) : R2 := fun x y H Q => rEq x y H Q ∨ rEqD K x y H Q
theorem op_eqU (hu : X.A.units + 64 < cLine) : OpR X (compareOp .Eq) (rEqU X.K) := OpR.or op_eq (op_eqD hu)
def rNeU (K : PySem.W.Frag) : R2 := fun x y H Q => rNe x y H Q ∨ rNeD K x y H Q
theorem op_neU (hu : X.A.units + 64 < cLine) : OpR X (compareOp .NotEq) (rNeU X.K) := OpR.or op_ne (op_neD hu)
def rLtI : R2 := rI0 fun i j => .bl (decide (i < j))
theorem op_ltI : OpR X (compareOp .Lt) rLtI := op_lt
def rLeI : R2 := rI0 fun i j => .bl (decide (i ≤ j))
theorem op_leI : OpR X (compareOp .LtE) rLeI := op_le
def rGtI : R2 := rI0 fun i j => .bl (decide (j < i))
theorem op_gtI : OpR X (compareOp .Gt) rGtI := op_gt
def rGeI : R2 := rI0 fun i j => .bl (decide (j ≤ i))
theorem op_geI : OpR X (compareOp .GtE) rGeI := op_ge
def rSubI : R2 := rI0 fun i j => .int (i - j)
theorem op_subI : OpR X (binaryOp .Sub) rSubI := op_sub
def rModI : R2 := rI (fun _ j => 0 < j) fun i j => .int (i % j)
theorem op_modI : OpR X (binaryOp .Mod) rModI := op_mod
def rDivI : R2 := rI CDivN fun i j => .int (i.fdiv j)
theorem op_divI : OpR X (binaryOp .FloorDiv) rDivI := op_fdivN
def rPowI : R2 := rI CPow fun i j => .int (i ^ j.toNat)
theorem op_powI : OpR X (binaryOp .Pow) rPowI := op_pow
def rIsN : R2 := fun x y H Q => y = .non ∧ Q (.bl (decide (x = .non))) H
theorem op_isNU : OpR X (compareOp .Is) rIsN := op_isN
def rNotN : R2 := fun x y H Q => y = .non ∧ Q (.bl (!decide (x = .non))) H
theorem op_notNU : OpR X (compareOp .IsNot) rNotN := op_notN
def uNegI : V → Hp → VK → Prop := rU fun i => .int (-i)
theorem un_negI : UnR X (unaryOp .USub) uNegI := un_neg
def cLen (K : PySem.W.Frag) : List V → Hp → VK → Prop := fun xs H Q => (∃ p ys, xs = [.ref p] ∧ (SqL K H p ys ∨ SqT K H p ys) ∧ Q (.int ys.length) H)
theorem call_lenU : CallR X (.builtin "len") (cLen X.K) := call_len_seq
def cInt : List V → Hp → VK → Prop := fun xs H Q => (∃ i, xs = [.int i] ∧ Q (.int i) H) ∨ ∃ k, xs = [.bl k] ∧ Q (.int (if k then 1 else 0)) H
theorem call_intU : CallR X (.type "int") cInt := call_int1
def cAbs : List V → Hp → VK → Prop := fun xs H Q => ∃ i, xs = [.int i] ∧ Q (.int (if i < 0 then -i else i)) H
theorem call_absU : CallR X (.builtin "abs") cAbs := call_abs
def cList (K : PySem.W.Frag) : List V → Hp → VK → Prop := fun xs H Q => ∃ p ys, xs = [.ref p] ∧ (SqL K H p ys ∨ SqT K H p ys) ∧ ∀ l, H l = none → Q (.ref l) (upd H l (.lst ys))
theorem call_listU : CallR X (.type "list") (cList X.K) := call_list_of
def cTuple (K : PySem.W.Frag) : List V → Hp → VK → Prop := fun xs H Q => ∃ p ys, xs = [.ref p] ∧ ((SqL K H p ys ∧ ∀ l, H l = none → Q (.ref l) (upd H l (.tup ys))) ∨ (SqT K H p ys ∧ Q (.ref p) H))
theorem call_tupleU : CallR X (.type "tuple") (cTuple X.K) := call_tuple_of
theorem call_allU (hc : X.calm = true) : CallR X (.builtin "all") (rAll X.K) := cr_all hc
theorem call_anyU (hc : X.calm = true) : CallR X (.builtin "any") (rAny X.K) := cr_any hc
theorem call_sumU (hc : X.calm = true) : CallR X (.builtin "sum") (rSum X.K) := cr_sum hc
def rSlU (K : PySem.W.Frag) : V → Option Int → Option Int → Hp → VK → Prop := rSlL K
theorem sl_listU : SlR X (rSlU X.K) := sl_list
theorem ix_seqU : IxR X (rIx X.K) := ix_seq
/-- a walked thing: a list or a tuple -/
def iSeq (K : PySem.W.Frag) (tl : TE) : TI := fun σ H R => iList K tl σ H R ∨ iTup K tl σ H R
theorem pi_seq {tg e : Expr} {tl : TE} (he : PE X e tl) : PI X tg e (iSeq X.K tl) :=
  ⟨fun pins s σ H R I h => h.elim (fun h => (pi_list he).run pins s σ H R I h) fun h => (pi_tup he).run pins s σ H R I h⟩
/-- a call of an own def -/
structure Gd (P : Program) (w : World) (K : PySem.W.Frag) (mg : Str → Option Value) (base : Heap) (CX : CXT) (k : Nat) (x : Str) (ps : List Str) (dvs : List V) (sp : Sp) : Prop where
  ex : ∃ f fd ds, FnOk P w K mg base CX k f fd ps sp ∧ mg x = some (.ref f) ∧ PySem.W.keepIn K (.ref f) = true ∧ Binds K fd ps ds ∧ Vals dvs ds
theorem pe_callG {CX : CXT} {k : Nat} {ps : List Str} {dvs : List V} {sp : Sp} {E : XK} {x : Str} {p pos : Pos} {e : Expr} {es : List Expr} {t : TA} (G : Gd X.prog X.w X.K X.mg X.base CX k x ps dvs sp) (hr : Room k X.A) (hg : Gl X x) (hx : Passes CX X E) (ha : PA X (e :: es) t)
    (hdb : (x == ("__debug__" : Str)) = false := by decide) (he : starEach (e :: es) X.env = (false, eval e X.env) :: starEach es X.env := by rfl) (hpl : (backTo pos (starEach es X.env)).any (·.1) = false := by rfl) :
    PE X (.Call (.Name x p) (e :: es) [] pos) (tCall sp dvs E t) := by
  obtain ⟨f, fd, ds, F, hm, hk, hb, hd⟩ := G.ex
  exact pe_call F hr hg hm hk hb hd hx ha hdb he hpl
/-- a class made -/
structure Gm (P : Program) (w : World) (K : PySem.W.Frag) (mg : Str → Option Value) (base : Heap) (CX : CXT) (k : Nat) (x : Str) (C : Addr) (ps : List Str) (dvs : List V) (sp : Sp) : Prop where
  ex : ∃ f fd ds, FnOk P w K mg base CX k f fd ps sp ∧ mg x = some (.ref C) ∧ Mk K C f ∧ Binds K fd ps ds ∧ Vals dvs ds
theorem pe_makeG {CX : CXT} {k : Nat} {C : Addr} {ps : List Str} {dvs : List V} {sp : Sp} {E : XK} {x : Str} {p pos : Pos} {e : Expr} {es : List Expr} {t : TA} (G : Gm X.prog X.w X.K X.mg X.base CX k x C ps dvs sp) (hr : Room (k + 1) X.A) (hg : Gl X x) (hx : Passes CX X E) (ha : PA X (e :: es) t)
    (hdb : (x == ("__debug__" : Str)) = false := by decide) (he : starEach (e :: es) X.env = (false, eval e X.env) :: starEach es X.env := by rfl) (hpl : (backTo pos (starEach es X.env)).any (·.1) = false := by rfl) :
    PE X (.Call (.Name x p) (e :: es) [] pos) (tMake C sp dvs E t) := by
  obtain ⟨f, fd, ds, F, hm, M, hb, hd⟩ := G.ex
  exact pe_make M F hr hg hm hb hd hx ha hdb he hpl
/-- a method -/
structure Gv (P : Program) (w : World) (K : PySem.W.Frag) (mg : Str → Option Value) (base : Heap) (CX : CXT) (k : Nat) (C : Addr) (m : Str) (ps : List Str) (dvs : List V) (sp : Sp) : Prop where
  ex : ∃ f fd ds, FnOk P w K mg base CX k f fd ps sp ∧ Meth K C m f ∧ Binds K fd ps ds ∧ Vals dvs ds
theorem pe_methG {CX : CXT} {k : Nat} {C : Addr} {m : Str} {ps : List Str} {dvs : List V} {sp : Sp} {E : XK} {o e : Expr} {es : List Expr} {apos pos : Pos} {ta : TE} {t : TA} (G : Gv X.prog X.w X.K X.mg X.base CX k C m ps dvs sp) (c : Cls X.K C) (hr : Room k X.A) (hx : Passes CX X E) (he : PE X o ta) (ha : PA X (e :: es) t) {pl : Sem Bool}
    (hst : starEach (e :: es) X.env = (false, eval e X.env) :: starEach es X.env := by rfl) (hpl : (backTo pos (starEach es X.env)).any (·.1) = false := by rfl)
    (ht : eval (.Call (.Attribute o m apos) (e :: es) [] pos) X.env = (do
      let ov ← eval o X.env
      standAt apos.atName
      let (f, first) ← holding [ov] (getMethod ov m pl)
      callWith pos f first (backTo pos (starEach (e :: es) X.env)) (backToKw pos (keywordEach [] X.env))) := by rfl) :
    PE X (.Call (.Attribute o m apos) (e :: es) [] pos) (tMeth C m sp dvs E ta t) := by
  obtain ⟨f, fd, ds, F, hm, hb, hd⟩ := G.ex
  exact pe_meth he c hm F hr hb hd hx ha hst hpl ht
theorem pe_meth0G {CX : CXT} {k : Nat} {C : Addr} {m : Str} {ps : List Str} {dvs : List V} {sp : Sp} {E : XK} {o : Expr} {apos pos : Pos} {ta : TE} (G : Gv X.prog X.w X.K X.mg X.base CX k C m ps dvs sp) (c : Cls X.K C) (hr : Room k X.A) (hx : Passes CX X E) (he : PE X o ta) {pl : Sem Bool}
    (ht : eval (.Call (.Attribute o m apos) [] [] pos) X.env = (do
      let ov ← eval o X.env
      standAt apos.atName
      let (f, first) ← holding [ov] (getMethod ov m pl)
      callWith pos f first (backTo pos (starEach [] X.env)) (backToKw pos (keywordEach [] X.env))) := by rfl) :
    PE X (.Call (.Attribute o m apos) [] [] pos) (tMeth C m sp dvs E ta tNil) := by
  obtain ⟨f, fd, ds, F, hm, hb, hd⟩ := G.ex
  exact pe_meth0 he c hm F hr hb hd hx ht
/-- a property -/
structure Gp (P : Program) (w : World) (K : PySem.W.Frag) (mg : Str → Option Value) (base : Heap) (CX : CXT) (k : Nat) (C : Addr) (m : Str) (ps : List Str) (sp : Sp) : Prop where
  ex : ∃ p g fd, FnOk P w K mg base CX k g fd ps sp ∧ PropOf K C m p g ∧ Binds K fd ps []
theorem pe_propG {CX : CXT} {k : Nat} {C : Addr} {m : Str} {ps : List Str} {sp : Sp} {E : XK} {e : Expr} {pos : Pos} {ta : TE} (G : Gp X.prog X.w X.K X.mg X.base CX k C m ps sp) (c : Cls X.K C) (hr : Room (k + 1) X.A) (hx : Passes CX X.nox E) (he : PE X e ta)
    (hab : attributeBase e m X.env (eval e X.env) = eval e X.env := by rfl) : PE X (.Attribute e m pos) (tProp C sp [] E ta) := by
  obtain ⟨p, g, fd, F, hp, hb⟩ := G.ex
  exact pe_prop he c hp F hr hb .nil hx hab
end
end Nd

end

section
set_option Elab.async false
set_option linter.all false
set_option maxRecDepth 100000
set_option maxHeartbeats 4000000
/-! Nd: readings, one lemma a word; attributes as targets; three names at once. -/
namespace Nd
open PySem PySem.Spec PyProof.Rows L2
/-! ### more targets -/
section
variable {X : Cx}
/-- o.f as one of several targets -/
def gFld (K : PySem.W.Frag) (to : TE) (f : Str) : TG := fun v σ H Q => to σ H fun x H1 => ∃ a C dx fs, x = .ref a ∧ H1 a = some (.ins C dx fs) ∧ Cls K C ∧ NoAttr K C f ∧ fs.length < 1000 ∧ Q σ (upd H1 a (.ins C dx (putF f v fs)))
theorem pg_fld {o : Expr} {f : Str} {to : TE} {pos : Pos} (ho : PE X o to) : PG X (.Attribute o f pos) (gFld X.K to f) := by
  refine ⟨fun pins s σ H v u Q I r h => ?_⟩
  refine PySem.W.kas_attr (thn (ho.run pins s σ H _ I h) fun ov s1 ⟨x, H1, I1, rx, a, C, dx, fs, ex, ea, c, n, l, q⟩ => ?_)
  subst ex
  obtain rfl : ov = Value.ref a := rx
  exact setattr_ok I1 ea c n l r fun s2 I2 => ⟨σ, _, I2, q⟩
end

/-! ### new things, changed things -/
/-- a new thing o is laid, then Q -/
def NewO (Q : VK) (H : Hp) (o : HO) : Prop := ∀ p, H p = none → Q (.ref p) (upd H p o)
/-- the thing at p becomes o, then k -/
def ModO (k : Hp → Prop) (H : Hp) (p : Addr) (o : HO) : Prop := k (upd H p o)
section
variable {H0 H H' : Hp} {S : List Addr} {L : List (Addr × HO)} {p : Addr} {o o' : HO} {Q : VK} {k : Hp → Prop}
theorem new_c (C : Cur H0 S H L) (h : ∀ p H1, H0 p = none → Cur H0 S H1 ((p, o) :: L) → Q (.ref p) H1) : NewO Q H o := fun p hp => h p _ (C.fresh hp) (C.new hp)
theorem mod_c (C : Cur H0 S H L) (i : Nat) (hi : L[i]? = some (p, o)) (m : p ∈ S ∨ H0 p = none) (h : ∀ H1, Cur H0 S H1 (L.set i (p, o')) → k H1) : ModO k H p o' := h _ (C.set i hi m)
end

/-! ### one lemma a word -/
section
variable {D : Ends} {σ : L2.St} {H : Hp} {Q : VK} {QA : List V → Hp → Prop} {QT : Bool → Hp → Prop} {te ta tb tc : TE} {t u : TS} {tt tu : TT} {tl tr : TA} {g : TG} {gs : TGs} {v : V} {K : PySem.W.Frag} {f m : Str} {i : Nat} {r : R2} {sp : Sp} {E : XK} {C : Addr}
theorem u_seq (h : t { D with nx := u D } σ H) : tSeq t u D σ H := h
theorem u_next (h : D.nx σ H) : tNext D σ H := h
theorem u_asg (h : te σ H fun x H1 => g x σ H1 D.nx) : tAsg te g D σ H := h
theorem u_if (h : tt σ H fun b H1 => if b = true then t D σ H1 else u D σ H1) : tIfS tt t u D σ H := h
theorem u_ret (h : te σ H D.rt) : tRet te D σ H := h
theorem u_retN (h : D.rt .non H) : tRetN D σ H := h
theorem u_drop (h : te σ H fun _ H1 => D.nx σ H1) : tDrop te D σ H := h
theorem u_brk (h : D.bk σ H) : tBreak D σ H := h
theorem u_cont (h : D.ct σ H) : tCont D σ H := h
theorem u_fld {tv : TE} (h : tv σ H fun y H1 => ta σ H1 fun x H2 => ∃ a C dx fs, x = .ref a ∧ H2 a = some (.ins C dx fs) ∧ Cls K C ∧ NoAttr K C f ∧ fs.length < 1000 ∧ ModO (D.nx σ) H2 a (.ins C dx (putF f y fs))) : sFld K ta tv f D σ H := h
theorem u_par {j : Nat} (h : tl σ H fun vs H1 => ∃ v w, vs = [v, w] ∧ D.nx ((σ.set i (some v)).set j (some w)) H1) : tPar i j tl D σ H := h
theorem u_gname {k : L2.St → Hp → Prop} (h : k (σ.set i (some v)) H) : gName i v σ H k := h
theorem u_gsub {to ti : TE} {ts : TSet} {k : L2.St → Hp → Prop} (h : to σ H fun o H1 => ti σ H1 fun i H2 => ts o i v H2 fun H3 => k σ H3) : gSub to ti ts v σ H k := h
theorem u_gfld {to : TE} {k : L2.St → Hp → Prop} (h : to σ H fun x H1 => ∃ a C dx fs, x = .ref a ∧ H1 a = some (.ins C dx fs) ∧ Cls K C ∧ NoAttr K C f ∧ fs.length < 1000 ∧ ModO (k σ) H1 a (.ins C dx (putF f v fs))) : gFld K to f v σ H k := h
theorem u_gtup {n : Nat} {a : Addr} {xs : List V} {k : L2.St → Hp → Prop} (hs : SqT K H a xs) (hn : xs.length = n) (h : gs xs σ H k) : gTup K n gs (.ref a) σ H k := ⟨a, xs, rfl, hs, hn, h⟩
theorem u_gcons {xs : List V} {k : L2.St → Hp → Prop} (h : g v σ H fun σ' H' => gs xs σ' H' k) : gCons g gs (v :: xs) σ H k := ⟨v, xs, rfl, h⟩
theorem u_gnil {k : L2.St → Hp → Prop} (h : k σ H) : gNil [] σ H k := ⟨rfl, h⟩
theorem u_var (hv : σ[i]? = some (some v)) (h : Q v H) : tVar i σ H Q := ⟨v, hv, h⟩
theorem u_c (h : Q v H) : tC v σ H Q := h
theorem u_op (h : ta σ H fun x H1 => tb σ H1 fun y H2 => r x y H2 Q) : tOp r ta tb σ H Q := h
theorem u_un {r : V → Hp → VK → Prop} (h : ta σ H fun x H1 => r x H1 Q) : tUn r ta σ H Q := h
theorem u_ifE (h : tt σ H fun c H1 => if c = true then ta σ H1 Q else tb σ H1 Q) : tIf tt ta tb σ H Q := h
theorem u_call {dvs : List V} (h : tl σ H fun vs H1 => sp (vs ++ dvs) H1 Q E) : tCall sp dvs E tl σ H Q := h
theorem u_cb {r : List V → Hp → VK → Prop} (h : tl σ H fun vs H1 => r vs H1 Q) : tCB r tl σ H Q := h
theorem u_cons (h : ta σ H fun x H1 => tr σ H1 fun xs H2 => QA (x :: xs) H2) : tCons ta tr σ H QA := h
theorem u_nil (h : QA [] H) : tNil σ H QA := h
theorem u_lst (h : tl σ H fun xs H1 => xs.length ≤ sizeLine ∧ NewO Q H1 (.lst xs)) : tLst tl σ H Q := h
theorem u_tup (h : tl σ H fun xs H1 => xs.length ≤ sizeLine ∧ NewO Q H1 (.tup xs)) : tTup tl σ H Q := h
theorem u_test (h : te σ H fun x H1 => ∃ k, x = .bl k ∧ QT k H1) : tTest te σ H QT := h
theorem u_tB (h : te σ H fun x H1 => ∃ c, x = .bl c ∧ QT c H1) : tB te σ H QT := h
theorem u_and (h : tt σ H fun c H1 => if c = true then tu σ H1 QT else QT false H1) : tAnd tt tu σ H QT := h
theorem u_or (h : tt σ H fun c H1 => if c = true then QT true H1 else tu σ H1 QT) : tOr tt tu σ H QT := h
theorem u_not (h : tt σ H fun c H1 => QT (!c) H1) : tNot tt σ H QT := h
theorem u_chain {r r' : R2} (h : ta σ H fun x H1 => tb σ H1 fun y H2 => r x y H2 fun z H3 => ∃ k, z = .bl k ∧ (if k = true then tc σ H3 fun w' H4 => r' y w' H4 Q else Q (.bl false) H3)) : tChain r r' ta tb tc σ H Q := h
theorem u_andV (h : ta σ H fun x H1 => ∃ c, x = .bl c ∧ if c = true then tb σ H1 Q else Q (.bl false) H1) : tAndV ta tb σ H Q := h
theorem u_orV (h : ta σ H fun x H1 => ∃ c, x = .bl c ∧ if c = true then Q (.bl true) H1 else tb σ H1 Q) : tOrV ta tb σ H Q := h
theorem u_notV (h : ta σ H fun x H1 => ∃ c, x = .bl c ∧ Q (.bl (!c)) H1) : tNotV ta σ H Q := h
theorem u_bm {T : String} {r : V → List V → Hp → VK → Prop} (h : ta σ H fun x H1 => tyV K T x H1 ∧ tl σ H1 fun xs H2 => r x xs H2 Q) : tBM K T r ta tl σ H Q := h
theorem u_bm0 {T : String} {r : V → List V → Hp → VK → Prop} (h : ta σ H fun x H1 => tyV K T x H1 ∧ r x [] H1 Q) : tBM0 K T r ta σ H Q := h
theorem u_sl {r : V → Option Int → Option Int → Hp → VK → Prop} {tlo thi : TO} (h : ta σ H fun x H1 => tlo σ H1 fun l H2 => thi σ H2 fun u H3 => r x l u H3 Q) : tSl r ta tlo thi σ H Q := h
theorem u_noPart {k : Option Int → Hp → Prop} (h : k none H) : tNoPart σ H k := h
theorem u_part {k : Option Int → Hp → Prop} (h : ta σ H fun x H1 => ∃ i, x = .int i ∧ k (some i) H1) : tPart ta σ H k := h
theorem u_sseqL {R : It → Hp → Prop} (h : ta σ H fun x H1 => ∃ a, x = .ref a ∧ (∃ xs, SqL K H1 a xs) ∧ R (Itl K a) H1) : iSeq K ta σ H R := .inl h
theorem u_sseqT {R : It → Hp → Prop} (h : ta σ H fun x H1 => ∃ a, x = .ref a ∧ (∃ xs, SqT K H1 a xs) ∧ R (Itt K a) H1) : iSeq K ta σ H R := .inr h
theorem k_seqL {A : Addr → Prop} {a : Addr} {xs : List V} (hs : SqL K H a xs) (h : A a) : ∃ a', V.ref a = .ref a' ∧ (∃ xs, SqL K H a' xs) ∧ A a' := ⟨a, rfl, ⟨xs, hs⟩, h⟩
theorem k_seqT {A : Addr → Prop} {a : Addr} {xs : List V} (hs : SqT K H a xs) (h : A a) : ∃ a', V.ref a = .ref a' ∧ (∃ xs, SqT K H a' xs) ∧ A a' := ⟨a, rfl, ⟨xs, hs⟩, h⟩
theorem u_rng1 {R : It → Hp → Prop} (h : tl σ H fun vs H1 => ∃ j : Int, vs = [.int j] ∧ -(2 ^ 62) ≤ j ∧ j < 2 ^ 62 ∧ R (Itr 0 j.toNat) H1) : iRng1 tl σ H R := h
theorem u_rng2 {R : It → Hp → Prop} (h : tl σ H fun vs H1 => ∃ i j : Int, vs = [.int i, .int j] ∧ (-(2 ^ 62) ≤ i ∧ i < 2 ^ 62 ∧ -(2 ^ 62) ≤ j ∧ j < 2 ^ 62) ∧ R (Itr i (j - i).toNat) H1) : iRng2 tl σ H R := h
theorem k_rng1 {j : Int} {A : Int → Prop} (h1 : 0 ≤ j) (h2 : j ≤ 1000000) (h : A j) : ∃ j' : Int, [V.int j] = [.int j'] ∧ -(2 ^ 62) ≤ j' ∧ j' < 2 ^ 62 ∧ A j' := ⟨j, rfl, by omega, by omega, h⟩
theorem k_rng2 {i j : Int} {A : Int → Int → Prop} (h1 : 0 ≤ i) (h2 : i ≤ 1000000) (h3 : 0 ≤ j) (h4 : j ≤ 1000000) (h : A i j) : ∃ i' j' : Int, [V.int i, V.int j] = [.int i', .int j'] ∧ (-(2 ^ 62) ≤ i' ∧ i' < 2 ^ 62 ∧ -(2 ^ 62) ≤ j' ∧ j' < 2 ^ 62) ∧ A i' j' := ⟨i, j, rfl, ⟨by omega, by omega, by omega, by omega⟩, h⟩
/-- a loop over what comes -/
def ForO (J : It) (g : TG) (tb : TS) (D : Ends) (σ : L2.St) (H : Hp) : Prop := ∃ W : Nat → Nat → L2.St → Hp → Prop, (∃ m, W 0 m σ H) ∧ ∀ i m σ H, W i m σ H →
  (J.stop i H ∧ D.nx σ H) ∨ (J.go i H ∧ ∃ N : L2.St → Hp → Prop, (∀ σ' H', N σ' H' → ∃ m', m' < m ∧ W (i + 1) m' σ' H') ∧ ∀ x H', J.yld i H x H' → g x σ H' fun σ2 H2 => tb { D with nx := N, ct := N, bk := D.nx } σ2 H2)
theorem u_for {wi : TI} (h : wi σ H fun J H1 => ForO J g t D σ H1) : tFor wi g t D σ H := h
theorem for_l {a : Addr} {xs : List V} (P : Nat → L2.St → Hp → Prop) (h0 : P 0 σ H) (hl : ∀ i σ H, i ≤ xs.length → P i σ H → SqL K H a xs)
    (hs : ∀ i x σ H, xs[i]? = some x → P i σ H → g x σ H fun σ2 H2 => t { D with nx := P (i + 1), ct := P (i + 1), bk := D.nx } σ2 H2) (hd : ∀ σ H, P xs.length σ H → D.nx σ H) : ForO (Itl K a) g t D σ H := for_list P h0 hl hs hd
theorem for_t {a : Addr} {xs : List V} (P : Nat → L2.St → Hp → Prop) (h0 : P 0 σ H) (hl : ∀ i σ H, i ≤ xs.length → P i σ H → SqT K H a xs)
    (hs : ∀ i x σ H, xs[i]? = some x → P i σ H → g x σ H fun σ2 H2 => t { D with nx := P (i + 1), ct := P (i + 1), bk := D.nx } σ2 H2) (hd : ∀ σ H, P xs.length σ H → D.nx σ H) : ForO (Itt K a) g t D σ H := for_tup P h0 hl hs hd
theorem for_r {lo : Int} {n : Nat} (P : Nat → L2.St → Hp → Prop) (h0 : P 0 σ H)
    (hs : ∀ i σ H, i < n → P i σ H → g (.int (lo + i)) σ H fun σ2 H2 => t { D with nx := P (i + 1), ct := P (i + 1), bk := D.nx } σ2 H2) (hd : ∀ σ H, P n σ H → D.nx σ H) : ForO (Itr lo n) g t D σ H := for_range P h0 hs hd
/-- a while by a number that falls -/
def WhB (P : Nat → L2.St → Hp → Prop) (m : Nat) (t : TS) (D : Ends) (σ : L2.St) (H : Hp) : Prop := ∃ N : L2.St → Hp → Prop, (∀ σ' H', N σ' H' → ∃ m', m' < m ∧ P m' σ' H') ∧ t { D with nx := N, ct := N, bk := D.nx } σ H
theorem u_while (P : Nat → L2.St → Hp → Prop) {m0 : Nat} (h0 : P m0 σ H) (hs : ∀ m σ H, P m σ H → tt σ H fun b H1 => if b = true then WhB P m t D σ H1 else D.nx σ H1) : tWhile tt t D σ H := ⟨P, ⟨m0, h0⟩, hs⟩
theorem wh_b {P : Nat → L2.St → Hp → Prop} {m : Nat} (h : t { D with nx := fun σ' H' => ∃ m', m' < m ∧ P m' σ' H', ct := fun σ' H' => ∃ m', m' < m ∧ P m' σ' H', bk := D.nx } σ H) : WhB P m t D σ H := ⟨_, fun _ _ h => h, h⟩
/-- a comprehension -/
def LcO (J : It) (g : TG) (tt : TT) (te : TE) (vs : List Nat) (σ : L2.St) (H : Hp) (Q : VK) : Prop := ∀ D, H D = none → ∃ W : Nat → Nat → Hp → Prop, (∃ m, W 0 m (upd H D (.lst []))) ∧ ∀ i m H, W i m H →
  (J.stop i H ∧ Q (.ref D) H) ∨ (J.go i H ∧ ∃ Nx : Hp → Prop, (∀ H', Nx H' → ∃ m', m' < m ∧ W (i + 1) m' H') ∧ ∀ x H', J.yld i H x H' → g x (wipe σ vs) H' fun σ2 H2 => wipe σ2 vs = wipe σ vs ∧ tt σ2 H2 fun b H3 =>
    if b = true then te σ2 H3 fun y H4 => ∃ acc, H4 D = some (.lst acc) ∧ acc.length < sizeLine ∧ Nx (upd H4 D (.lst (acc ++ [y]))) else Nx H3)
theorem u_lc {wi : TI} {vs : List Nat} (h : wi σ H fun J H1 => LcO J g tt te vs σ H1 Q) : tLc wi g tt te vs σ H Q := h
section
variable {H0 : Hp} {S : List Addr} {L : List (Addr × HO)} {vs : List Nat}
theorem lc_l {a : Addr} {xs : List V} (c : Cur H0 S H L) (P : Addr → Nat → Hp → Prop) (h0 : ∀ D H1, H0 D = none → Cur H0 S H1 ((D, .lst []) :: L) → P D 0 H1) (hl : ∀ D i H, i ≤ xs.length → P D i H → SqL K H a xs)
    (hs : ∀ D i x H, H0 D = none → xs[i]? = some x → P D i H → g x (wipe σ vs) H fun σ2 H2 => wipe σ2 vs = wipe σ vs ∧ tt σ2 H2 fun b H3 =>
      if b = true then te σ2 H3 fun y H4 => ∃ acc, H4 D = some (.lst acc) ∧ acc.length < sizeLine ∧ ModO (P D (i + 1)) H4 D (.lst (acc ++ [y])) else P D (i + 1) H3) (hd : ∀ D H, H0 D = none → P D xs.length H → Q (.ref D) H) : LcO (Itl K a) g tt te vs σ H Q :=
  fun D hD => lc_list (P D) (h0 D _ (c.fresh hD) (c.new hD)) (hl D) (fun i x H => hs D i x H (c.fresh hD)) (fun H => hd D H (c.fresh hD))
theorem lc_t {a : Addr} {xs : List V} (c : Cur H0 S H L) (P : Addr → Nat → Hp → Prop) (h0 : ∀ D H1, H0 D = none → Cur H0 S H1 ((D, .lst []) :: L) → P D 0 H1) (hl : ∀ D i H, i ≤ xs.length → P D i H → SqT K H a xs)
    (hs : ∀ D i x H, H0 D = none → xs[i]? = some x → P D i H → g x (wipe σ vs) H fun σ2 H2 => wipe σ2 vs = wipe σ vs ∧ tt σ2 H2 fun b H3 =>
      if b = true then te σ2 H3 fun y H4 => ∃ acc, H4 D = some (.lst acc) ∧ acc.length < sizeLine ∧ ModO (P D (i + 1)) H4 D (.lst (acc ++ [y])) else P D (i + 1) H3) (hd : ∀ D H, H0 D = none → P D xs.length H → Q (.ref D) H) : LcO (Itt K a) g tt te vs σ H Q :=
  fun D hD => lc_tup (P D) (h0 D _ (c.fresh hD) (c.new hD)) (hl D) (fun i x H => hs D i x H (c.fresh hD)) (fun H => hd D H (c.fresh hD))
theorem lc_r {lo : Int} {n : Nat} (c : Cur H0 S H L) (P : Addr → Nat → Hp → Prop) (h0 : ∀ D H1, H0 D = none → Cur H0 S H1 ((D, .lst []) :: L) → P D 0 H1)
    (hs : ∀ D i H, H0 D = none → i < n → P D i H → g (.int (lo + i)) (wipe σ vs) H fun σ2 H2 => wipe σ2 vs = wipe σ vs ∧ tt σ2 H2 fun b H3 =>
      if b = true then te σ2 H3 fun y H4 => ∃ acc, H4 D = some (.lst acc) ∧ acc.length < sizeLine ∧ ModO (P D (i + 1)) H4 D (.lst (acc ++ [y])) else P D (i + 1) H3) (hd : ∀ D H, H0 D = none → P D n H → Q (.ref D) H) : LcO (Itr lo n) g tt te vs σ H Q :=
  fun D hD => lc_range (P D) (h0 D _ (c.fresh hD) (c.new hD)) (fun i H => hs D i H (c.fresh hD)) (fun H => hd D H (c.fresh hD))
theorem k_acc {k : Hp → Prop} {D : Addr} {acc : List V} {y : V} (hD : H D = some (.lst acc)) (hn : acc.length < 100000) (h : ModO k H D (.lst (acc ++ [y]))) : ∃ acc, H D = some (.lst acc) ∧ acc.length < sizeLine ∧ ModO k H D (.lst (acc ++ [y])) := ⟨acc, hD, Nat.lt_of_lt_of_le hn (by decide), h⟩
end
theorem u_yes (h : QT true H) : tYes σ H QT := h
/-- values handed on -/
theorem k_bl {b : Bool} (h : QT b H) : ∃ k, V.bl b = .bl k ∧ QT k H := ⟨b, rfl, h⟩
theorem k_blA {b : Bool} {A : Bool → Prop} (h : A b) : ∃ k, V.bl b = .bl k ∧ A k := ⟨b, rfl, h⟩
theorem k_int {j : Int} {A : Int → Prop} (h : A j) : ∃ i, V.int j = .int i ∧ A i := ⟨j, rfl, h⟩
theorem k_two {A : V → V → Prop} {a b : V} (h : A a b) : ∃ v w, [a, b] = [v, w] ∧ A v w := ⟨a, b, rfl, h⟩
theorem k_size {xs : List V} {A : Prop} (hn : xs.length ≤ 1000) (h : A) : xs.length ≤ sizeLine ∧ A := ⟨Nat.le_trans hn (by decide), h⟩
/-- fields -/
theorem u_tfld {a dx : Addr} {fs : List (Str × V)} (e : ta σ H fun x H1 => ∃ a dx fs v, x = .ref a ∧ H1 a = some (.ins C dx fs) ∧ fs.lookup f = some v ∧ Q v H1) (c : Cls K C) (n : NoAttr K C f) (mono : ∀ Q Q' : VK, (∀ v H, Q v H → Q' v H) → ta σ H Q → ta σ H Q') : tFld K ta f σ H Q := by
  refine mono _ _ (fun x H1 h => ?_) e
  obtain ⟨a, dx, fs, v, rfl, h1, h2, h3⟩ := h
  exact ⟨a, C, dx, fs, v, rfl, h1, c, n, h2, h3⟩
/-- a field of what stands in a slot -/
theorem u_fldv {a dx : Addr} {fs : List (Str × V)} (hv : σ[i]? = some (some (.ref a))) (ha : H a = some (.ins C dx fs)) (c : Cls K C) (n : NoAttr K C f) (hl : fs.lookup f = some v) (h : Q v H) : tFld K (tVar i) f σ H Q := ⟨.ref a, hv, a, C, dx, fs, v, rfl, ha, c, n, hl, h⟩
theorem u_tf (h : ta σ H fun x H1 => ∃ a C dx fs v, x = .ref a ∧ H1 a = some (.ins C dx fs) ∧ Cls K C ∧ NoAttr K C f ∧ fs.lookup f = some v ∧ Q v H1) : tFld K ta f σ H Q := h
theorem k_fld {a dx : Addr} {fs : List (Str × V)} {A : V → Prop} (ha : H a = some (.ins C dx fs)) (c : Cls K C) (n : NoAttr K C f) (hl : fs.lookup f = some v) (h : A v) : ∃ a' C dx fs v, V.ref a = .ref a' ∧ H a' = some (.ins C dx fs) ∧ Cls K C ∧ NoAttr K C f ∧ fs.lookup f = some v ∧ A v := ⟨a, C, dx, fs, v, rfl, ha, c, n, hl, h⟩
theorem k_put {a dx : Addr} {fs : List (Str × V)} {k : Hp → Prop} (ha : H a = some (.ins C dx fs)) (c : Cls K C) (n : NoAttr K C f) (hl : fs.length < 1000) (h : ModO k H a (.ins C dx (putF f v fs))) : ∃ a' C dx fs, V.ref a = .ref a' ∧ H a' = some (.ins C dx fs) ∧ Cls K C ∧ NoAttr K C f ∧ fs.length < 1000 ∧ ModO k H a' (.ins C dx (putF f v fs)) := ⟨a, C, dx, fs, rfl, ha, c, n, hl, h⟩
theorem u_meth {dvs : List V} (h : ta σ H fun x H1 => ∃ a dx fs, x = .ref a ∧ H1 a = some (.ins C dx fs) ∧ fs.lookup m = none ∧ tl σ H1 fun vs H2 => sp (x :: (vs ++ dvs)) H2 Q E) : tMeth C m sp dvs E ta tl σ H Q := h
theorem k_meth {a dx : Addr} {fs : List (Str × V)} {A : Prop} (ha : H a = some (.ins C dx fs)) (hl : fs.lookup m = none) (h : A) : ∃ a' dx fs, V.ref a = .ref a' ∧ H a' = some (.ins C dx fs) ∧ fs.lookup m = none ∧ A := ⟨a, dx, fs, rfl, ha, hl, h⟩
theorem u_prop {dvs : List V} (h : ta σ H fun x H1 => ∃ a dx fs, x = .ref a ∧ H1 a = some (.ins C dx fs) ∧ sp (.ref a :: dvs) H1 Q E) : tProp C sp dvs E ta σ H Q := h
theorem k_prop {a dx : Addr} {fs : List (Str × V)} {A : Addr → Prop} (ha : H a = some (.ins C dx fs)) (h : A a) : ∃ a' dx fs, V.ref a = .ref a' ∧ H a' = some (.ins C dx fs) ∧ A a' := ⟨a, dx, fs, rfl, ha, h⟩
/-- a new instance, then its __init__ -/
def MakeO (C : Addr) (sp : Sp) (E : XK) (vs : List V) (H : Hp) (Q : VK) : Prop := ∀ x dx, H x = none → H dx = none → dx ≠ x → sp (.ref x :: vs) (upd (upd H dx (.own x)) x (.ins C dx [])) (fun v H2 => v = .non ∧ Q (.ref x) H2) E
theorem make_c {H0 : Hp} {S : List Addr} {L : List (Addr × HO)} {vs : List V} (c : Cur H0 S H L) (h : ∀ x dx H1, H0 x = none → H0 dx = none → Cur H0 S H1 ((x, .ins C dx []) :: (dx, .own x) :: L) → sp (.ref x :: vs) H1 (fun v H2 => v = .non ∧ Q (.ref x) H2) E) : MakeO C sp E vs H Q := fun x dx hx hd n =>
  h x dx _ (c.fresh hx) (c.fresh hd) ((c.new (o := .own x) hd).new (by rw [upd_ne (Ne.symm n)]; exact hx))
theorem u_make {dvs : List V} (h : tl σ H fun vs H1 => MakeO C sp E (vs ++ dvs) H1 Q) : tMake C sp dvs E tl σ H Q := h
/-! operators -/
variable {a b : Int} {p q : Addr} {xs ys : List V} {x y : V}
theorem r_add (h : Q (.int (a + b)) H) : rAddU (.int a) (.int b) H Q := .inl ⟨a, b, rfl, rfl, h⟩
theorem r_cat {zs : List V} (h1 : H p = some (.lst xs)) (h2 : H q = some (.lst zs)) (hn : xs.length + zs.length ≤ 1000) (h : NewO Q H (.lst (xs ++ zs))) : rAddU (.ref p) (.ref q) H Q := .inr (.inl ⟨p, q, xs, zs, rfl, rfl, h1, h2, Nat.le_trans hn (by decide), h⟩)
theorem r_sub (h : Q (.int (a - b)) H) : rSubI (.int a) (.int b) H Q := ⟨a, b, rfl, rfl, h⟩
theorem r_mul (c : CMul a b) (h : Q (.int (a * b)) H) : rMulU (.int a) (.int b) H Q := .inl ⟨a, b, rfl, rfl, c, h⟩
theorem r_rep (h1 : H p = some (.lst xs)) (h0 : 0 ≤ b) (hb : b ≤ 1000) (hn : xs.length ≤ 1000) (h : NewO Q H (.lst (List.replicate b.toNat xs).flatten)) : rMulU (.ref p) (.int b) H Q :=
  .inr ⟨p, b, xs, rfl, rfl, h1, by omega, by omega, Nat.le_trans (Nat.mul_le_mul hn (show b.toNat ≤ 1000 by omega)) (by decide), h⟩
theorem r_mod (c : 0 < b) (h : Q (.int (a % b)) H) : rModI (.int a) (.int b) H Q := ⟨a, b, rfl, rfl, c, h⟩
theorem r_div (c : CDivN a b) (h : Q (.int (a.fdiv b)) H) : rDivI (.int a) (.int b) H Q := ⟨a, b, rfl, rfl, c, h⟩
theorem r_pow (c : CPow a b) (h : Q (.int (a ^ b.toNat)) H) : rPowI (.int a) (.int b) H Q := ⟨a, b, rfl, rfl, c, h⟩
theorem r_lt (h : Q (.bl (decide (a < b))) H) : rLtI (.int a) (.int b) H Q := ⟨a, b, rfl, rfl, h⟩
theorem r_le (h : Q (.bl (decide (a ≤ b))) H) : rLeI (.int a) (.int b) H Q := ⟨a, b, rfl, rfl, h⟩
theorem r_gt (h : Q (.bl (decide (b < a))) H) : rGtI (.int a) (.int b) H Q := ⟨a, b, rfl, rfl, h⟩
theorem r_ge (h : Q (.bl (decide (b ≤ a))) H) : rGeI (.int a) (.int b) H Q := ⟨a, b, rfl, rfl, h⟩
theorem r_isN (h : Q (.bl (decide (x = .non))) H) : rIsN x .non H Q := ⟨rfl, h⟩
theorem r_notN (h : Q (.bl (!decide (x = .non))) H) : rNotN x .non H Q := ⟨rfl, h⟩
theorem r_eq (hs : scal x y = true) (h : Q (.bl (decide (x = y))) H) : rEqU K x y H Q := .inl ⟨hs, h⟩
theorem r_ne (hs : scal x y = true) (h : Q (.bl (!decide (x = y))) H) : rNeU K x y H Q := .inl ⟨hs, h⟩
theorem r_eqI (h : Q (.bl (decide (a = b))) H) : rEqU K (.int a) (.int b) H Q := .inl ⟨rfl, by
  have e : decide ((V.int a) = V.int b) = decide (a = b) := decide_eq_decide.mpr ⟨fun e => V.int.inj e, fun e => by rw [e]⟩
  rw [e]; exact h⟩
theorem r_neI (h : Q (.bl (!decide (a = b))) H) : rNeU K (.int a) (.int b) H Q := .inl ⟨rfl, by
  have e : decide ((V.int a) = V.int b) = decide (a = b) := decide_eq_decide.mpr ⟨fun e => V.int.inj e, fun e => by rw [e]⟩
  rw [e]; exact h⟩
theorem r_neg (h : Q (.int (-a)) H) : uNegI (.int a) H Q := ⟨a, rfl, h⟩
theorem r_ixL (hs : SqL K H p xs) (ha : atI xs a = some v) (h : Q v H) : rIx K (.ref p) (.int a) H Q := .inl ⟨p, xs, a, v, rfl, rfl, hs, ha, h⟩
theorem r_ixT (hs : SqT K H p xs) (ha : atI xs a = some v) (h : Q v H) : rIx K (.ref p) (.int a) H Q := .inr (.inl ⟨p, xs, a, v, rfl, rfl, hs, ha, h⟩)
theorem r_slL {lo hi : Option Int} (hs : SqL K H p xs) (h : NewO Q H (.lst (cutV xs lo hi))) : rSlU K (.ref p) lo hi H Q := ⟨p, xs, rfl, hs, h⟩
theorem r_setL {j : Nat} {k : Hp → Prop} (hp : H p = some (.lst xs)) (hj : ixN xs.length a = some j) (h : ModO k H p (.lst (xs.set j v))) : rSetL (.ref p) (.int a) v H k := ⟨p, xs, a, j, rfl, rfl, hp, hj, h⟩
theorem r_len (hs : SqL K H p xs) (h : Q (.int xs.length) H) : cLen K [.ref p] H Q := ⟨p, xs, rfl, .inl hs, h⟩
theorem r_lenT (hs : SqT K H p xs) (h : Q (.int xs.length) H) : cLen K [.ref p] H Q := ⟨p, xs, rfl, .inr hs, h⟩
theorem r_int (h : Q (.int a) H) : cInt [.int a] H Q := .inl ⟨a, rfl, h⟩
theorem r_intB {k : Bool} (h : Q (.int (if k then 1 else 0)) H) : cInt [.bl k] H Q := .inr ⟨k, rfl, h⟩
theorem r_abs (h : Q (.int (if a < 0 then -a else a)) H) : cAbs [.int a] H Q := ⟨a, rfl, h⟩
theorem r_listL (hs : SqL K H p xs) (h : NewO Q H (.lst xs)) : cList K [.ref p] H Q := ⟨p, xs, rfl, .inl hs, h⟩
theorem r_listT (hs : SqT K H p xs) (h : NewO Q H (.lst xs)) : cList K [.ref p] H Q := ⟨p, xs, rfl, .inr hs, h⟩
theorem r_tupL (hs : SqL K H p xs) (h : NewO Q H (.tup xs)) : cTuple K [.ref p] H Q := ⟨p, xs, rfl, .inl ⟨hs, h⟩⟩
theorem r_tupT (hs : SqT K H p xs) (h : Q (.ref p) H) : cTuple K [.ref p] H Q := ⟨p, xs, rfl, .inr ⟨hs, h⟩⟩
theorem r_app {c : VK} (hp : H p = some (.lst xs)) (hn : xs.length < 1000) (h : ModO (c .non) H p (.lst (xs ++ [v]))) : rAppend (.ref p) [v] H c := ⟨p, xs, v, rfl, rfl, hp, Nat.lt_of_lt_of_le hn (by decide), h⟩
theorem ty_list (hp : H p = some (.lst xs)) : tyV K "list" (.ref p) H := .inl ⟨rfl, _, SqL.of hp⟩
/-- branches -/
theorem b_dec {c : Prop} [Decidable c] {A B : Prop} (h1 : c → A) (h2 : ¬ c → B) : if decide c = true then A else B := by
  by_cases h : c
  · rw [decide_eq_true h]; exact iteT (h1 h)
  · rw [decide_eq_false h]; exact iteF (h2 h)
theorem b_ndec {c : Prop} [Decidable c] {A B : Prop} (h1 : ¬ c → A) (h2 : c → B) : if (!decide c) = true then A else B := by
  by_cases h : c
  · rw [decide_eq_true h]; exact iteF (h2 h)
  · rw [decide_eq_false h]; exact iteT (h1 h)
theorem b_t {c : Bool} {A B : Prop} (hc : c = true) (h : A) : if c = true then A else B := by rw [hc]; exact iteT h
theorem b_f {c : Bool} {A B : Prop} (hc : c = false) (h : B) : if c = true then A else B := by rw [hc]; exact iteF h
theorem b_dt {c : Prop} [Decidable c] {A B : Prop} (hc : c) (h : A) : if decide c = true then A else B := b_t (decide_eq_true hc) h
theorem b_df {c : Prop} [Decidable c] {A B : Prop} (hc : ¬ c) (h : B) : if decide c = true then A else B := b_f (decide_eq_false hc) h
end
end Nd

end

section
set_option Elab.async false
set_option linter.all false
set_option maxRecDepth 100000
set_option maxHeartbeats 4000000
/-! Nd: == of lists of whole numbers. -/
namespace Nd
open PySem PySem.Spec PyProof.Rows L2
def pyI (ns : List Int) : List PyData := ns.map PyData.int
theorem dp_ints {K : PySem.W.Frag} {H : Hp} : ∀ ns : List Int, DpAll K H (ns.map V.int) (pyI ns)
  | [] => .nil
  | n :: r => .cons (.int n) (dp_ints r)
theorem eqv_ints : ∀ ns ms : List Int, PyData.eqvAll (pyI ns) (pyI ms) = decide (ns = ms)
  | [], [] => by simp [pyI, PyData.eqvAll]
  | [], m :: ms => by simp [pyI, PyData.eqvAll]
  | n :: ns, [] => by simp [pyI, PyData.eqvAll]
  | n :: ns, m :: ms => by
    have ih := eqv_ints ns ms
    show (PyData.eqv (.int n) (.int m) && PyData.eqvAll (pyI ns) (pyI ms)) = _
    rw [ih]
    by_cases h : n = m <;> by_cases h2 : ns = ms <;> simp [PyData.eqv, h, h2]
theorem lay_ints : ∀ ns : List Int, PyData.canLayAll0 (pyI ns) = true
  | [] => rfl
  | n :: r => by
    show (PyData.canLay0 (.int n) && PyData.canLayAll0 (pyI r)) = true
    rw [lay_ints r]; rfl
theorem dep_ints : ∀ ns : List Int, PyData.depthAll (pyI ns) = 0
  | [] => rfl
  | n :: r => by
    show max (PyData.depth (.int n)) (PyData.depthAll (pyI r)) = 0
    rw [dep_ints r]; rfl
theorem shape_l (ns : List Int) : SeqAt.shaped (.list (pyI ns)) = true := by
  have h1 : PyData.canLay0 (.list (pyI ns)) = true := lay_ints ns
  have h2 : PyData.depth (.list (pyI ns)) = 1 := by show PyData.depthAll (pyI ns) + 1 = 1; rw [dep_ints]
  unfold SeqAt.shaped
  rw [h1, h2]; rfl
theorem shape_t (ns : List Int) : SeqAt.shaped (.tuple (pyI ns)) = true := by
  have h1 : PyData.canLay0 (.tuple (pyI ns)) = true := lay_ints ns
  have h2 : PyData.depth (.tuple (pyI ns)) = 1 := by show PyData.depthAll (pyI ns) + 1 = 1; rw [dep_ints]
  unfold SeqAt.shaped
  rw [h1, h2]; rfl
section
variable {K : PySem.W.Frag} {H : Hp} {Q : VK} {a b : Addr} {ns ms : List Int}
theorem r_neL (h1 : SqL K H a (ns.map V.int)) (h2 : SqL K H b (ms.map V.int)) (h : Q (.bl (!decide (ns = ms))) H) : rNeU K (.ref a) (.ref b) H Q :=
  .inr ⟨.list (pyI ns), .list (pyI ms), .lst h1 (dp_ints ns), .lst h2 (dp_ints ms), shape_l ns, shape_l ms, by show Q (.bl (!PyData.eqvAll (pyI ns) (pyI ms))) H; rw [eqv_ints]; exact h⟩
theorem r_eqL (h1 : SqL K H a (ns.map V.int)) (h2 : SqL K H b (ms.map V.int)) (h : Q (.bl (decide (ns = ms))) H) : rEqU K (.ref a) (.ref b) H Q :=
  .inr ⟨.list (pyI ns), .list (pyI ms), .lst h1 (dp_ints ns), .lst h2 (dp_ints ms), shape_l ns, shape_l ms, by show Q (.bl (PyData.eqvAll (pyI ns) (pyI ms))) H; rw [eqv_ints]; exact h⟩
theorem r_neT (h1 : SqT K H a (ns.map V.int)) (h2 : SqT K H b (ms.map V.int)) (h : Q (.bl (!decide (ns = ms))) H) : rNeU K (.ref a) (.ref b) H Q :=
  .inr ⟨.tuple (pyI ns), .tuple (pyI ms), .tup h1 (dp_ints ns), .tup h2 (dp_ints ms), shape_t ns, shape_t ms, by show Q (.bl (!PyData.eqvAll (pyI ns) (pyI ms))) H; rw [eqv_ints]; exact h⟩
theorem r_eqT (h1 : SqT K H a (ns.map V.int)) (h2 : SqT K H b (ms.map V.int)) (h : Q (.bl (decide (ns = ms))) H) : rEqU K (.ref a) (.ref b) H Q :=
  .inr ⟨.tuple (pyI ns), .tuple (pyI ms), .tup h1 (dp_ints ns), .tup h2 (dp_ints ms), shape_t ns, shape_t ms, by show Q (.bl (PyData.eqvAll (pyI ns) (pyI ms))) H; rw [eqv_ints]; exact h⟩
end
/-! ### places in lists of numbers -/
theorem atI_int {ns : List Int} {i : Int} (h0 : 0 ≤ i) (h1 : i < ns.length) : atI (ns.map V.int) i = some (.int (ns[i.toNat]'(by omega))) := by
  obtain ⟨k, rfl⟩ : ∃ k : Nat, i = (k : Int) := ⟨i.toNat, by omega⟩
  refine atI_nat ?_
  rw [List.getElem?_map, List.getElem?_eq_getElem (show k < ns.length by omega)]
  rfl
theorem atI_of {α : Type} {xs : List α} {i : Int} {x : α} (h0 : 0 ≤ i) (h : xs[i.toNat]? = some x) : atI xs i = some x := by
  obtain ⟨k, rfl⟩ : ∃ k : Nat, i = (k : Int) := ⟨i.toNat, by omega⟩
  exact atI_nat h
theorem ixN_of {n : Nat} {i : Int} (h0 : 0 ≤ i) (h1 : i < n) : ixN n i = some i.toNat := by
  unfold ixN
  rw [if_pos h0, if_pos h1]
theorem take_one {α : Type} {xs : List α} {i : Nat} {x : α} (h : xs[i]? = some x) : xs.take (i + 1) = xs.take i ++ [x] := by rw [List.take_add_one, h]; rfl
theorem cut_to {xs : List V} {k : Int} (h : 0 ≤ k) : cutV xs none (some k) = xs.take k.toNat := by
  obtain ⟨j, rfl⟩ : ∃ j : Nat, k = (j : Int) := ⟨k.toNat, by omega⟩
  unfold cutV
  rw [HT.sIx_none, HT.sIx_nat, List.drop_zero, Nat.sub_zero, Int.toNat_natCast, ← List.take_take, List.take_length]
theorem cut_from {xs : List V} {k : Int} (h : 0 ≤ k) : cutV xs (some k) none = xs.drop k.toNat := by
  obtain ⟨j, rfl⟩ : ∃ j : Nat, k = (j : Int) := ⟨k.toNat, by omega⟩
  unfold cutV
  rw [HT.sIx_none, HT.sIx_nat, Int.toNat_natCast]
  by_cases h : j ≤ xs.length
  · rw [Nat.min_eq_left h]
    exact List.take_of_length_le (by rw [List.length_drop]; omega)
  · rw [Nat.min_eq_right (by omega), Nat.sub_self, List.take_zero, List.drop_eq_nil_of_le (by omega)]
theorem int_of {ns : List Int} {i : Nat} {x : V} (h : (ns.map V.int)[i]? = some x) : ∃ n, ns[i]? = some n ∧ x = .int n := by
  rw [List.getElem?_map] at h
  cases e : ns[i]? with
  | none => rw [e] at h; cases h
  | some n => rw [e] at h; exact ⟨n, rfl, (Option.some.inj h).symm⟩
theorem len_map (ns : List Int) : (ns.map V.int).length = ns.length := List.length_map ..
end Nd

end

section
set_option Elab.async false
set_option linter.all false
set_option maxRecDepth 100000
set_option maxHeartbeats 4000000
/-! Nd: what the top has written, one fact a def. -/
namespace Nd
open PySem PySem.Spec PyProof.Rows L2
section
variable {K : PySem.W.Frag} {mg : Str → Option Value} {h : Heap} {x qual m : Str} {st : Stmt} {f p C : Addr} {oc kV dc pm cd ct : Value} {od an : Option Addr} {sl : Array (Option Value)} {rest : List Value}
theorem tx_fn (X : K.In h) (G : h.Ns mainGlobals mg) (a : PySem.W.nsIn K mainGlobals x = some (some (.ref f)))
    (l : K.lookup f = some ⟨oc, od, .func (PySem.W.fnOf x x (defArgs st) (defBody st) (defScope st) .none kV dc pm an cd ct), sl⟩) (c : PySem.W.codeIn K cd x = true) (k : PySem.W.keepIn K (.ref f) = true) :
    ∃ f fd, Fun K x x st f fd ∧ mg x = some (.ref f) := ⟨f, _, fun_mk l c k, PySem.W.mg_of X G a⟩
theorem tx_fnD {T : Addr} {o : Obj} {its : List Value} {n : Nat} {dvs : List V} (hne : dvs ≠ []) (X : K.In h) (G : h.Ns mainGlobals mg) (a : PySem.W.nsIn K mainGlobals x = some (some (.ref f)))
    (l : K.lookup f = some ⟨oc, od, .func (PySem.W.fnOf x x (defArgs st) (defBody st) (defScope st) (.ref T) kV dc pm an cd ct), sl⟩) (c : PySem.W.codeIn K cd x = true) (k : PySem.W.keepIn K (.ref f) = true)
    (d : K.lookup T = some o) (od' : o.data = .seq its.toArray n) (v : Vals dvs its) :
    ∃ f fd, FunD K x x (defArgs st) (defBody st) (defScope st) dvs [] f fd ∧ mg x = some (.ref f) := ⟨f, _, ⟨⟨oc, od, .ref T, kV, dc, pm, an, cd, ct, sl, rfl, l, c, .inr ⟨hne, T, o, its, n, rfl, d, od', v⟩, .inl rfl⟩, k⟩, PySem.W.mg_of X G a⟩
theorem tx_meth (a : PySem.W.findIn K (.ref C) m = some (some (.ref f))) (i : PySem.W.isFn K (.ref f) = true)
    (l : K.lookup f = some ⟨oc, od, .func (PySem.W.fnOf m qual (defArgs st) (defBody st) (defScope st) .none kV dc pm an cd ct), sl⟩) (c : PySem.W.codeIn K cd qual = true) (k : PySem.W.keepIn K (.ref f) = true) :
    ∃ f fd, Fun K m qual st f fd ∧ Meth K C m f := ⟨f, _, fun_mk l c k, ⟨a, i, k⟩⟩
theorem tx_init {cn : Str} (X : K.In h) (G : h.Ns mainGlobals mg) (g : PySem.W.nsIn K mainGlobals cn = some (some (.ref C))) (a : PySem.W.findIn K (.ref C) "__init__" = some (some (.ref f))) (i : PySem.W.isFn K (.ref f) = true)
    (l : K.lookup f = some ⟨oc, od, .func (PySem.W.fnOf "__init__" qual (defArgs st) (defBody st) (defScope st) .none kV dc pm an cd ct), sl⟩) (c : PySem.W.codeIn K cd qual = true) (k : PySem.W.keepIn K (.ref f) = true)
    (mk : PySem.W.makesIn K C = true) (kc : PySem.W.keepIn K (.ref C) = true) :
    ∃ f fd, Fun K "__init__" qual st f fd ∧ Mk K C f ∧ mg cn = some (.ref C) := ⟨f, _, fun_mk l c k, ⟨mk, a, i, kc⟩, PySem.W.mg_of X G g⟩
theorem tx_prop (a : PySem.W.findIn K (.ref C) m = some (some (.ref p))) (g : PySem.W.specialIn K (.ref p) "__get__" = some (some (.builtin "property.__get__"))) (t : PySem.W.takesIn K (.ref p) = some true) (r : PySem.W.recIn K p "property" = some (.ref f :: rest))
    (l : K.lookup f = some ⟨oc, od, .func (PySem.W.fnOf m qual (defArgs st) (defBody st) (defScope st) .none kV dc pm an cd ct), sl⟩) (c : PySem.W.codeIn K cd qual = true) (k : PySem.W.keepIn K (.ref f) = true) :
    ∃ p f fd, Fun K m qual st f fd ∧ PropOf K C m p f := ⟨p, f, _, fun_mk l c k, ⟨a, g, t, rest, r⟩⟩
theorem tx_int {i : Int} {t : Tok} (X : K.In h) (G : h.Ns mainGlobals mg) (a : PySem.W.nsIn K mainGlobals x = some (some (.int i t))) : ∃ t, mg x = some (.int i t) := ⟨t, PySem.W.mg_of X G a⟩
theorem tx_str {i : Str} {t : Tok} (X : K.In h) (G : h.Ns mainGlobals mg) (a : PySem.W.nsIn K mainGlobals x = some (some (.str i t))) : ∃ t, mg x = some (.str i t) := ⟨t, PySem.W.mg_of X G a⟩
end
end Nd

end

section
set_option Elab.async false
set_option linter.all false
set_option maxRecDepth 100000
set_option maxHeartbeats 4000000
/-! Nd: isinstance, step by step. -/
namespace Nd
open PySem PySem.Spec PyProof.Rows L2
section
variable {K : PySem.W.Frag} {H : Hp} {Q : VK} {a p : Addr} {xs : List V} {i : Int}
theorem q_isInt (h : Q (.bl true) H) : rIsi K [.int i, .ty "int"] H Q := ⟨_, _, _, _, true, rfl, .ty "int", .base (.int i), kit_ty (by decide +kernel), h⟩
theorem q_isBool (h : Q (.bl false) H) : rIsi K [.int i, .ty "bool"] H Q := ⟨_, _, _, _, false, rfl, .ty "bool", .base (.int i), kit_ty (by decide +kernel), h⟩
theorem q_kitL : PySem.W.kitAny K (.type "list") [.type "list", .type "tuple"] = some true := kitAny_cons (b := true) (kit_ty (by decide +kernel)) (fun z => nomatch z) fun _ => rfl
theorem q_kitT : PySem.W.kitAny K (.type "tuple") [.type "list", .type "tuple"] = some true :=
  kitAny_cons (b := false) (kit_ty (by decide +kernel)) (fun _ => kitAny_cons (b := true) (kit_ty (by decide +kernel)) (fun z => nomatch z) fun _ => rfl) fun z => nomatch z
theorem q_isSeqL (hp : H p = some (.tup [.ty "list", .ty "tuple"])) (ha : H a = some (.lst xs)) (h : Q (.bl true) H) : rIsiT K [.ref a, .ref p] H Q :=
  ⟨_, _, _, _, _, true, rfl, hp, .cons (.ty _) (.cons (.ty _) .nil), .base (.lst ha), q_kitL, h⟩
theorem q_isSeqT (hp : H p = some (.tup [.ty "list", .ty "tuple"])) (ha : H a = some (.tup xs)) (h : Q (.bl true) H) : rIsiT K [.ref a, .ref p] H Q :=
  ⟨_, _, _, _, _, true, rfl, hp, .cons (.ty _) (.cons (.ty _) .nil), .base (.tup ha), q_kitT, h⟩
theorem b_nT {A B : Prop} (h : B) : if (!true) = true then A else B := h
theorem b_nF {A B : Prop} (h : A) : if (!false) = true then A else B := h
theorem r_isNi (h : Q (.bl false) H) : rIsN (.int i) .non H Q := ⟨rfl, h⟩
theorem r_isNn (h : Q (.bl true) H) : rIsN .non .non H Q := ⟨rfl, h⟩
theorem r_isNr (h : Q (.bl false) H) : rIsN (.ref a) .non H Q := ⟨rfl, h⟩
theorem r_isNs {z : Str} (h : Q (.bl false) H) : rIsN (.str z) .non H Q := ⟨rfl, h⟩
/-- several places may be changed: a part of what we hold, at the front -/
theorem callApp {H0 H H' : Hp} {S : List Addr} {L1 L2 L1' : List (Addr × HO)} (C : Cur H0 S H (L1 ++ L2)) (r : Ret (L1.map (·.1)) H H') (m : ∀ a ∈ L1.map (·.1), a ∈ S ∨ H0 a = none) (hm : L1'.map (·.1) = L1.map (·.1)) (h1 : ∀ p ∈ L1', H' p.1 = some p.2) : Cur H0 S H' (L1' ++ L2) where
  nd := by rw [List.map_append, hm, ← List.map_append]; exact C.nd
  own := fun p hp => by
    rcases List.mem_append.mp hp with h | h
    · exact h1 p h
    · refine r.fr _ _ (C.own p (List.mem_append_right _ h)) fun z => ?_
      have nd := C.nd
      rw [List.map_append] at nd
      exact (List.nodup_append.mp nd).2.2 _ z _ (List.mem_map_of_mem h) rfl
  ret := C.retTo r m
end
end Nd

end

section
set_option Elab.async false
set_option linter.all false
set_option maxRecDepth 100000
set_option maxHeartbeats 4000000
/-! Nd: enumerate and zip over lists and tuples, each of either kind (k: whether a tuple). -/
namespace Nd
open PySem PySem.Spec PyProof.Rows L2
/-- a sequence at l: a tuple, or a list; its iterator at it -/
def Sq (k : Bool) (h : Heap) (l : Addr) (items : Array Value) : Prop := cond k (h.IsTuple l items) (h.IsList l items)
def SqIt (k : Bool) (h : Heap) (it l : Addr) (i : Nat) : Prop := cond k (h.IsTupleIter it l i) (h.IsListIter it l i)
def SqV (k : Bool) (K : PySem.W.Frag) (H : Hp) (a : Addr) (xs : List V) : Prop := cond k (SqT K H a xs) (SqL K H a xs)
abbrev itName (k : Bool) : String := cond k "tuple_iterator" "list_iterator"
section
variable {h h' : Heap} {k : Bool} {a b l : Addr} {i : Nat} {items : Array Value}
theorem Sq.ext (x : Sq k h a items) (hs : Heap.ExtBut b h h') (n : a ≠ b) : Sq k h' a items := by
  cases k with
  | true => exact Heap.IsTuple.extBut x hs n
  | false => exact Heap.IsList.extBut x hs n
theorem SqIt.ext (x : SqIt k h a l i) (hs : Heap.ExtBut b h h') (n : a ≠ b) : SqIt k h' a l i := by
  cases k with
  | true => exact Heap.IsTupleIter.extBut x hs n
  | false => exact Heap.IsListIter.extBut x hs n
theorem SqIt.to (x : SqIt k h a l i) (e : ∀ o, h.get? a = some o → h'.get? a = some o) : SqIt k h' a l i := by
  cases k with
  | true => exact Heap.IsTupleIter.at x e
  | false => exact Heap.IsListIter.at x e
theorem SqIt.obj (x : SqIt k h a l i) : ∃ o, h.get? a = some o ∧ o.data = .fields #[.ref l, .int i 0] := by
  cases k with
  | true => obtain ⟨o, h1, _, h2⟩ := (show h.IsTupleIter a l i from x); exact ⟨o, h1, h2⟩
  | false => obtain ⟨o, h1, _, h2⟩ := (show h.IsListIter a l i from x); exact ⟨o, h1, h2⟩
theorem Sq.obj (x : Sq k h a items) : ∃ o, h.get? a = some o ∧ o.cls = .type (cond k "tuple" "list") := by
  cases k with
  | true => obtain ⟨o, h1, h2, _⟩ := (show h.IsTuple a items from x); exact ⟨o, h1, h2⟩
  | false => obtain ⟨o, h1, h2, _⟩ := (show h.IsList a items from x); exact ⟨o, h1, h2⟩
theorem Sq.push (x : Sq k h a items) (o : Obj) : Sq k (h.push o) a items := by
  cases k with
  | true => exact Heap.IsTuple.push x o
  | false => exact Heap.IsList.push x o
end
section
variable {prog : Program} {w : World} {A : Around} {E : Value → Shared → Prop} {s : Shared} {k k1 k2 : Bool}
theorem sq_item {it l : Addr} {i : Nat} {items : Array Value} {x : Value} {Q : Value → Shared → Prop} (hit : SqIt k s.heap it l i) (hl : Sq k s.heap l items) (hx : items[i]? = some x)
    (hQ : ∀ h', SqIt k h' it l (i + 1) → Heap.SameBut it s.heap h' → Q x { s with heap := h' }) : wpAny (model prog w) A (Builtin.SmallTypes.nextOf (.ref it)) Q E s := by
  cases k with
  | true => exact RZ.nextOf_tuple_item hit hl hx hQ
  | false => exact wpAny_nextOf_list_item hit hl hx hQ
theorem sq_end {it l : Addr} {i : Nat} {items : Array Value} {Q : Value → Shared → Prop} (hh : A.handled = none) (hit : SqIt k s.heap it l i) (hl : Sq k s.heap l items) (hx : items[i]? = none)
    (hE : ∀ h' e, Heap.ExtBut it s.heap h' → (∃ o, h'.get? e = some o ∧ o.cls = .type "StopIteration") → E (.ref e) { s with heap := h' }) : wpAny (model prog w) A (Builtin.SmallTypes.nextOf (.ref it)) Q E s := by
  cases k with
  | true => exact RZ.nextOf_tuple_end hh hit hl hx hE
  | false => exact wpAny_nextOf_list_end hh hit hl hx hE
theorem sq_iter {l : Addr} {items : Array Value} {Q : Value → Shared → Prop} (hl : Sq k s.heap l items)
    (hQ : Q (.ref s.heap.objs.size) { s with heap := s.heap.push { cls := .type (itName k), data := .fields #[.ref l, .int 0 0] } }) : wpAny (model prog w) A (pyIter (.ref l)) Q E s := by
  cases k with
  | true => exact wpAny_pyIter_tuple hl hQ
  | false => exact wpAny_pyIter_list hl hQ
theorem sq_new {l : Addr} {h : Heap} : SqIt k (h.push { cls := .type (itName k), data := .fields #[.ref l, .int 0 0] }) h.objs.size l 0 := by
  cases k with
  | true => exact ⟨_, Heap.get?_push_size _ rfl, rfl, rfl⟩
  | false => exact ⟨_, Heap.get?_push_size _ rfl, rfl, rfl⟩
/-- what draws from such an iterator -/
theorem sq_draws (hh : A.handled = none) (it l : Addr) (hne : l ≠ it) (items : Array Value) : Draws prog w A it [it, l] items.size (fun i v => items[i]? = some v) (fun i h => SqIt k h it l i ∧ Sq k h l items) where
  live := fun i h st => let ⟨o, e, _⟩ := st.1.obj; ⟨o, e⟩
  frame := fun i h h' st f => ⟨st.1.to fun o e => f it (by simp) o e, by
    have g : ∀ o, h.get? l = some o → h'.get? l = some o := fun o e => f l (by simp) o e
    cases k with
    | true => exact Heap.IsTuple.at st.2 g
    | false => exact Heap.IsList.at st.2 g⟩
  item := fun i s Q E hi st hQ => sq_item st.1 st.2 (Array.getElem?_eq_getElem hi) fun h' a b => hQ _ h' s.toks (Array.getElem?_eq_getElem hi) ⟨a, st.2.ext b.extBut hne⟩ b
  done := fun s Q E st hE => sq_end hh st.1 st.2 (Array.getElem?_eq_none (Nat.le_refl _)) hE
end
/-! ### enumerate -/
def IteV (k : Bool) (K : PySem.W.Frag) (a : Addr) : It :=
  ⟨fun i H => ∃ (xs : List V) (x : V), SqV k K H a xs ∧ xs[i]? = some x, fun i H v H' => ∃ T x, v = .ref T ∧ H T = none ∧ H' = upd H T (.tup [.int (i : Nat), x]) ∧ ∀ xs, SqV k K H a xs → xs[i]? = some x, fun i H => ∃ xs : List V, SqV k K H a xs ∧ xs.length ≤ i⟩
section
variable {X : Cx} {pins : List (Addr × Obj)} {σ : L2.St} {H : Hp} {s : Shared}
theorem sqv_get {k : Bool} {a : Addr} {xs : List V} (I : Inv X pins σ H s) (h : SqV k X.K H a xs) : ∃ its : List Value, Vals xs its ∧ Sq k s.heap a its.toArray := by
  cases k with
  | true => obtain ⟨its, rv, p, _⟩ := I.tuple h; exact ⟨its, rv, p⟩
  | false => obtain ⟨its, rv, p, _⟩ := I.list h; exact ⟨its, rv, p.isList⟩
theorem sqv_inj {k : Bool} {a : Addr} {xs ys : List V} (I : Inv X pins σ H s) (h : SqV k X.K H a xs) (h' : SqV k X.K H a ys) : xs = ys := by
  cases k with
  | true => exact I.tuple_inj h h'
  | false => exact I.list_inj h h'
end
theorem turn_enumV {P : Program} {w : World} {K : PySem.W.Frag} {elts : List Expr} {kk : Nat} {tpos : Pos} (k : Bool) (a e it : Addr) :
    Turn P w K (.Tuple elts kk tpos) (IteV k K a) [e, it] e (fun i h => (∃ old, IsEnum h e it ((i : Nat) : Int) old) ∧ SqIt k h it a i ∧ e ≠ it) where
  mem := List.mem_cons_self
  obj := fun i h st b hb => by
    obtain ⟨⟨old, he⟩, hi, _⟩ := st
    rcases List.mem_cons.mp hb with z | z
    · rw [z]; exact ⟨_, he, fun v q => nomatch q⟩
    · obtain ⟨o, ho, hd⟩ := hi.obj
      exact ⟨o, (List.mem_singleton.mp z) ▸ ho, fun v q => by rw [hd] at q; cases q⟩
  keep := fun i h h' st kp => ⟨st.1.elim fun old he => ⟨old, kp e (by simp) _ he⟩, st.2.1.to fun o q => kp it (by simp) o q, st.2.2⟩
  item := by
    intro X hP hw hK hc i pins s σ H E I hf st hg
    subst hP hw hK
    obtain ⟨⟨old, he⟩, hit, hne⟩ := st
    obtain ⟨xs, x, hq, hx⟩ := hg
    obtain ⟨its, rv, p⟩ := sqv_get I hq
    obtain ⟨u, hu, ru⟩ := rv.get hx
    obtain ⟨oa, hoa, hca⟩ := p.obj
    obtain ⟨oi, hoi, hdi⟩ := hit.obj
    have hel : e < s.heap.objs.size := Heap.lt_size he
    have hil : it < s.heap.objs.size := Heap.lt_size hoi
    have aie : a ≠ it := fun z => by
      subst z
      cases k with
      | true => obtain ⟨o1, e1, _, _, d1⟩ := (show s.heap.IsTuple a its.toArray from p); rw [hoi] at e1; cases e1; rw [hdi] at d1; cases d1
      | false => obtain ⟨o1, e1, _, _, d1⟩ := (show s.heap.IsList a its.toArray from p); rw [hoi] at e1; cases e1; rw [hdi] at d1; cases d1
    have aee : e ≠ a := fun z => by
      subst z
      rw [show s.heap.get? e = some _ from he] at hoa
      cases hoa
      cases k <;> simp at hca
    have hlt : i < its.toArray.size := by
      rcases Nat.lt_or_ge i its.toArray.size with g | g
      · exact g
      · rw [List.getElem?_eq_none (by simpa using g)] at hu; cases hu
    refine wpAny_pyNext_enum_itemD (sq_draws (show X.A.in1.handled = none from I.ok.hd hc) it a aie its.toArray) he ⟨hit, p⟩ hlt hne (by simp [hne, aee]) fun v h' tk hv ho hst hT hsz hk => ?_
    have ev : v = u := by
      have : its.toArray[i]? = some u := by simpa using hu
      rw [this] at hv; exact (Option.some.inj hv).symm
    subst ev
    refine ⟨_, rfl, wpAny_letOwnedTupleGo_enum (s := { s with heap := h', toks := tk + 1 }) ho fun h'' he' sb => ?_⟩
    have hT2 : h''.get? s.heap.objs.size = some { cls := .type "tuple", data := .seq #[.int i tk, v] } := (sb.2 _ (Nat.ne_of_gt hel)).trans hT
    have new : ObjOk X.prog X.w (upd H s.heap.objs.size (.tup [.int (i : Nat), x])) h'' s.heap.objs.size (.tup [.int (i : Nat), x]) :=
      ⟨by show 2 ≤ sizeLine; decide, [.int i tk, v], .cons ⟨_, rfl⟩ (.cons ru .nil), _, hT2, rfl, _, rfl⟩
    have I1 : Inv X pins σ (upd H s.heap.objs.size (.tup [.int (i : Nat), x])) { s with heap := h'', toks := tk + 1 } :=
      I.turnedNew (ch := [e, it]) (fun b ob hb q => by
        have b1 : b ≠ e := fun z => hb (by simp [z])
        have b2 : b ≠ it := fun z => hb (by simp [z])
        exact (sb.2 b b1).trans (hk b ob b1 b2 q)) hf (Nat.le_refl _) new
    refine ⟨.ref s.heap.objs.size, _, I1, rfl, ⟨_, x, rfl, I.hok.fresh (Nat.le_refl _), rfl, fun ys hy => (sqv_inj I hy hq) ▸ hx⟩, ⟨⟨v, ?_⟩, hst.1.to fun o q => (sb.2 it (Ne.symm hne)).trans q, hne⟩, fun b hb => ?_⟩
    · rw [show ((i + 1 : Nat) : Int) = (i : Int) + 1 from Int.natCast_succ i]; exact he'
    · have hb' : b < s.heap.objs.size := by
        rcases List.mem_cons.mp hb with z | z
        · exact z ▸ hel
        · exact (List.mem_singleton.mp z) ▸ hil
      rw [upd_ne (Nat.ne_of_lt hb')]
      exact (hf b hb).1
  done := by
    intro X hP hw hK hc i pins s σ H E I hf st hg
    subst hP hw hK
    obtain ⟨⟨old, he⟩, hit, hne⟩ := st
    obtain ⟨xs, hq, hx⟩ := hg
    obtain ⟨its, rv, p⟩ := sqv_get I hq
    obtain ⟨f0, f1, f2, f3, f4, f5⟩ := hf it (by simp)
    have hl := rv.length
    have fin : ∀ h', Heap.ExtBut it s.heap h' → (none : Option Value) = none ∧ Inv X pins σ H { s with heap := h' } := fun h' eb => ⟨rfl, I.turned (t' := s.toks) (fun b o hb q => eb b o hb q) f0 f1 f3 f4 f5⟩
    have hnone : its.toArray[i]? = none := Array.getElem?_eq_none (by simp only [List.size_toArray]; omega)
    have hT : s.TypeIs (.ref e) "enumerate" := ⟨_, he, rfl⟩
    unfold pyNext
    refine wpAny_bind (wpAny_attempt (wpAny_callSpecial?_slot (name := Str.ofString "__next__") hT F.slot_enumerate_next (wpAny_call_entry F.slot_enumerate_next hT F.entry_enumerate_next ?_ (F.args_enumerate_next_1 _))))
    show wpAny _ _ (field (.ref e) 2 >>= _) _ _ _
    refine wpAny_bind (wpAny_field he rfl (x := .ref it) rfl (wpAny_bind (sq_end (I.ok.hd hc) hit p hnone fun h' x he' hx' => ?_)))
    obtain ⟨o, ho, hcx⟩ := hx'
    exact wpAny_bind (wpAny_isInstance (T := "StopIteration") (b := true) ⟨o, ho, hcx⟩ isSubtype_stop (wpAny_pure (fin _ he')))
  self := fun A i s Q E st h => st.1.elim fun _ he => wpAny_pyIter_enum he h
theorem meets_enumV {k : Bool} (l : Addr) (items : Array Value) : Meets (Builtin.«enumerate.__new__» ⟨[.type "enumerate", .ref l], []⟩) (fun _ R s => Sq k s.heap l items ∧
      R (.ok (.ret (.ref (s.heap.push { cls := .type (itName k), data := .fields #[.ref l, .int 0 0] }).objs.size)))
        { s with heap := (s.heap.push { cls := .type (itName k), data := .fields #[.ref l, .int 0 0] }).push { cls := .type "enumerate", data := .fields #[.none, .bool false, .ref s.heap.objs.size, rawInt 0, .none, .none] } }) :=
  .of_wp fun prog w A R s h => by
    obtain ⟨hp, g, d, tk, os⟩ := s
    obtain ⟨hl, h⟩ := h
    have hsub := sub_enumerate
    have hL : Sq k (Shared.heap ⟨hp, g, d, tk, os⟩) l items := hl
    obtain ⟨o, ho, hco⟩ := hl.obj
    obtain ⟨c, dct, dt, sl⟩ := o
    replace hco : c = .type (cond k "tuple" "list") := hco
    subst hco
    cases k with
    | true =>
      wp_walk using AutoSeq1.wpAny_loadPart' ho
      refine wpAny_stack_any fun st => wpAny_pure ?_
      split
      · rename_i c _ _ _ _ _
        cases (c == Value.type "enumerate")
        · wp_walk using AutoSeq1.wpAny_loadPart' ho, sq_iter hL
          exact ⟨_, rfl, h⟩
        · wp_walk using AutoSeq1.wpAny_loadPart' ho, sq_iter hL
          exact ⟨_, rfl, h⟩
      · wp_walk using AutoSeq1.wpAny_loadPart' ho, sq_iter hL
        exact ⟨_, rfl, h⟩
    | false =>
      wp_walk using AutoSeq1.wpAny_loadPart' ho
      refine wpAny_stack_any fun st => wpAny_pure ?_
      split
      · rename_i c _ _ _ _ _
        cases (c == Value.type "enumerate")
        · wp_walk using AutoSeq1.wpAny_loadPart' ho, sq_iter hL
          exact ⟨_, rfl, h⟩
        · wp_walk using AutoSeq1.wpAny_loadPart' ho, sq_iter hL
          exact ⟨_, rfl, h⟩
      · wp_walk using AutoSeq1.wpAny_loadPart' ho, sq_iter hL
        exact ⟨_, rfl, h⟩
section
variable {prog : Program} {w : World} {A : Around} {E : Value → Shared → Prop} {s : Shared} {k : Bool}
theorem call_enumV {l : Addr} {items : Array Value} {Q : Value → Shared → Prop} (hL : Sq k s.heap l items)
    (h : ∀ h', IsEnum h' (s.heap.objs.size + 1) s.heap.objs.size 0 .none → SqIt k h' s.heap.objs.size l 0 → (∀ b o, s.heap.get? b = some o → h'.get? b = some o) → Q (.ref (s.heap.objs.size + 1)) { s with heap := h' }) :
    wpAny (model prog w) A (call (.type "enumerate") [.ref l]) Q E s := by
  refine callType_new F.called_enumerate (by decide) (F.typeCall_enumerate_1 _) (F.newCall_enumerate_1 _) (fun obj => F.args_object_init_2 obj _) F.entry_enumerate_new (meets_enumV (k := k) l items) ⟨hL, ?_⟩
  have hz : (s.heap.push { cls := .type (itName k), data := .fields #[.ref l, .int 0 0] }).objs.size = s.heap.objs.size + 1 := Heap.size_push ..
  have he := Heap.get?_push_size (s.heap.push { cls := .type (itName k), data := .fields #[.ref l, .int 0 0] }) (o := { cls := .type "enumerate", data := .fields #[.none, .bool false, .ref s.heap.objs.size, rawInt 0, .none, .none] }) rfl
  show _ ∧ _
  rw [hz] at he ⊢
  exact ⟨⟨_, he, rfl⟩, h _ he (SqIt.to (sq_new (k := k) (l := l)) fun o e => Heap.get?_push_of_some _ e) fun b o x => Heap.get?_push_of_some _ (Heap.get?_push_of_some _ x)⟩
end
def iEnumV (k : Bool) (K : PySem.W.Frag) (ta : TA) : TI := fun σ H R => ta σ H fun vs H1 => ∃ a xs, vs = [.ref a] ∧ SqV k K H1 a xs ∧ R (IteV k K a) H1
theorem pi_enumV {X : Cx} (k : Bool) {e : Expr} {ta : TA} {p pos tpos : Pos} {elts : List Expr} {kk : Nat} (hg : Gl X "enumerate") (hm : X.mg "enumerate" = none) (ha : PA X [e] ta) (hs : starEach [e] X.env = [(false, eval e X.env)] := by rfl) :
    PI X (.Tuple elts kk tpos) (.Call (.Name "enumerate" p) [e] [] pos) (iEnumV k X.K ta) := by
  refine ⟨fun pins s σ H R I h => Call_ (ld_blt I hg hm boot_enumerate (PyProof.Rows.callWith_type1 (thn (ha.run pos pins s σ H _ I h) fun us s1 ⟨vs, H1, I1, r1, q1⟩ => ?_) hs rfl))⟩
  obtain ⟨a, xs, ex, hq, q⟩ := q1
  subst ex
  cases r1 with
  | cons r rr =>
    cases rr
    cases r
    obtain ⟨its, rv, p'⟩ := sqv_get I1 hq
    refine call_enumV p' fun h' he hit hk => wpAny_pyIter_enum he ?_
    have I2 : Inv X pins σ H1 { s1 with heap := h' } := I1.kept (t' := s1.toks) hk
    refine ⟨s1.heap.objs.size + 1, [s1.heap.objs.size + 1, s1.heap.objs.size], _, _, H1, rfl, I2, turn_enumV k a (s1.heap.objs.size + 1) s1.heap.objs.size, ⟨⟨.none, he⟩, hit, Nat.succ_ne_self _⟩, fun b hb => ?_, q⟩
    have hle : s1.heap.objs.size ≤ b := by
      rcases List.mem_cons.mp hb with z | z
      · rw [z]; exact Nat.le_succ _
      · rw [List.mem_singleton.mp z]; exact Nat.le_refl _
    exact I1.fpOk hle (I1.hok.fresh hle)
section
variable {D : Ends} {σ : L2.St} {H : Hp} {Q : VK} {K : PySem.W.Frag} {g : TG} {t : TS} {tt : TT} {te : TE} {tl : TA} {k : Bool} {a : Addr} {xs : List V}
theorem u_enum {R : It → Hp → Prop} (h : tl σ H fun vs H1 => ∃ a xs, vs = [.ref a] ∧ SqV k K H1 a xs ∧ R (IteV k K a) H1) : iEnumV k K tl σ H R := h
theorem k_enum {A : Addr → Prop} (hs : SqV k K H a xs) (h : A a) : ∃ a' xs, [V.ref a] = [.ref a'] ∧ SqV k K H a' xs ∧ A a' := ⟨a, xs, rfl, hs, h⟩
theorem for_e (P : Nat → L2.St → Hp → Prop) (h0 : P 0 σ H) (hl : ∀ i σ H, i ≤ xs.length → P i σ H → SqV k K H a xs)
    (hs : ∀ i x σ H, xs[i]? = some x → P i σ H → NewO (fun v H1 => g v σ H1 fun σ2 H2 => t { D with nx := P (i + 1), ct := P (i + 1), bk := D.nx } σ2 H2) H (.tup [.int (i : Nat), x])) (hd : ∀ σ H, P xs.length σ H → D.nx σ H) : ForO (IteV k K a) g t D σ H := by
  refine ⟨fun i m σ H => m = xs.length - i ∧ i ≤ xs.length ∧ P i σ H, ⟨xs.length, by simp, Nat.zero_le _, h0⟩, ?_⟩
  rintro i m σ H ⟨rfl, hi, p⟩
  have q := hl i σ H hi p
  by_cases hlt : i < xs.length
  · refine .inr ⟨⟨xs, xs[i], q, by simp [hlt]⟩, P (i + 1), fun σ' H' p' => ⟨xs.length - (i + 1), by omega, rfl, hlt, p'⟩, fun v H' y => ?_⟩
    obtain ⟨T, x, rfl, hT, rfl, hx⟩ := y
    exact hs i x σ H (hx xs q) p T hT
  · obtain rfl : i = xs.length := by omega
    exact .inl ⟨⟨xs, q, Nat.le_refl _⟩, hd σ H p⟩
theorem lc_e {H0 : Hp} {S : List Addr} {L : List (Addr × HO)} {vs : List Nat} (c : Cur H0 S H L) (P : Addr → Nat → Hp → Prop) (h0 : ∀ D H1, H0 D = none → Cur H0 S H1 ((D, .lst []) :: L) → P D 0 H1) (hl : ∀ D i H, i ≤ xs.length → P D i H → SqV k K H a xs)
    (hs : ∀ D i x H, H0 D = none → xs[i]? = some x → P D i H → NewO (fun v H1 => g v (wipe σ vs) H1 fun σ2 H2 => wipe σ2 vs = wipe σ vs ∧ tt σ2 H2 fun b H3 =>
      if b = true then te σ2 H3 fun y H4 => ∃ acc, H4 D = some (.lst acc) ∧ acc.length < sizeLine ∧ ModO (P D (i + 1)) H4 D (.lst (acc ++ [y])) else P D (i + 1) H3) H (.tup [.int (i : Nat), x])) (hd : ∀ D H, H0 D = none → P D xs.length H → Q (.ref D) H) : LcO (IteV k K a) g tt te vs σ H Q := by
  intro D hD
  refine ⟨fun i m H => m = xs.length - i ∧ i ≤ xs.length ∧ P D i H, ⟨xs.length, by simp, Nat.zero_le _, h0 D _ (c.fresh hD) (c.new hD)⟩, ?_⟩
  rintro i m H ⟨rfl, hi, p⟩
  have q := hl D i H hi p
  by_cases hlt : i < xs.length
  · refine .inr ⟨⟨xs, xs[i], q, by simp [hlt]⟩, P D (i + 1), fun H' p' => ⟨xs.length - (i + 1), by omega, rfl, hlt, p'⟩, fun v H' y => ?_⟩
    obtain ⟨T, x, rfl, hT, rfl, hx⟩ := y
    exact hs D i x H (c.fresh hD) (hx xs q) p T hT
  · obtain rfl : i = xs.length := by omega
    exact .inl ⟨⟨xs, q, Nat.le_refl _⟩, hd D H (c.fresh hD) p⟩
end
end Nd

end

section
set_option Elab.async false
set_option linter.all false
set_option maxRecDepth 100000
set_option maxHeartbeats 4000000
/-! Nd: zip of two sequences, each a list or a tuple. -/
namespace Nd
open PySem PySem.Spec PyProof.Rows L2
section
variable {prog : Program} {w : World} {A : Around} {E : Value → Shared → Prop} {s : Shared} {k1 k2 : Bool}
/-- zip's own state ahead of a draw: its pair of iterators, its kept pair -/
structure ZipSt (k1 k2 : Bool) (h : Heap) (z TI TO i1 i2 l1 l2 : Addr) (n : Nat) : Prop where
  D : ZipApart z TI TO i1 i2 l1 l2
  hz : IsZip h z TI TO .none
  hTI : PySem.IsPair h TI (.ref i1) (.ref i2)
  hTO : ∃ a b, PySem.IsPair h TO a b
  h1 : SqIt k1 h i1 l1 n
  h2 : SqIt k2 h i2 l2 n
theorem zip_item {z TI TO i1 i2 l1 l2 : Addr} {n : Nat} {xs ys : Array Value} {x y : Value} {Q : Option Value → Shared → Prop} (Z : ZipSt k1 k2 s.heap z TI TO i1 i2 l1 l2 n) (hl1 : Sq k1 s.heap l1 xs) (hl2 : Sq k2 s.heap l2 ys) (hx : xs[n]? = some x) (hy : ys[n]? = some y)
    (hQ : ∀ h', IsZip h' z TI TO (rawInt s.heap.objs.size) → PySem.IsPair h' TO x y → SqIt k1 h' i1 l1 (n + 1) → SqIt k2 h' i2 l2 (n + 1) → PySem.IsPair h' s.heap.objs.size x y →
      (∀ c o, c ≠ z → c ≠ TO → c ≠ i1 → c ≠ i2 → s.heap.get? c = some o → h'.get? c = some o) → Q (some (.ref s.heap.objs.size)) { s with heap := h' }) : wpAny (model prog w) A (pyNext (.ref z)) Q E s := by
  obtain ⟨D, hz, hTI, ⟨a, b, hTO⟩, h1, h2⟩ := Z
  have hT : s.TypeIs (.ref z) "zip" := ⟨_, hz, rfl⟩
  unfold pyNext
  refine wpAny_bind (wpAny_attempt (wpAny_callSpecial?_slot (name := Str.ofString "__next__") hT F.slot_zip_next (wpAny_call_entry F.slot_zip_next hT F.entry_zip_next ?_ (F.args_zip_next_1 _))))
  show wpAny _ _ (field (.ref z) 2 >>= _) _ _ _
  refine wpAny_bind (wpAny_field hz rfl (x := .bool false) rfl ?_)
  show wpAny _ _ (field (.ref z) 3 >>= _) _ _ _
  refine wpAny_bind (wpAny_field hz rfl (x := .ref TI) rfl (wpAny_bind (wpAny_seqItems hTI rfl ?_)))
  show wpAny _ _ (Builtin.SmallTypes.ownedTupleIsFree (.ref z) >>= _) _ _ _
  refine wpAny_bind ?_
  unfold Builtin.SmallTypes.ownedTupleIsFree
  refine wpAny_bind (wpAny_field hz rfl (x := .none) rfl (wpAny_pure ?_))
  simp only [if_true]
  refine wpAny_bind (wpAny_rule (wpAny_bind (wpAny_field hz rfl (x := .ref TO) rfl (wpAny_bind (wpAny_setField_rec hz (by simp) fun g1 z1 b1 => ?_)))))
  replace z1 : IsZip g1 z TI TO .ellipsis := z1
  refine wpAny_bind ?_
  simp only [List.zipIdx_cons, List.zipIdx_nil, List.forIn_cons, List.forIn_nil]
  -- the first iterator
  refine wpAny_bind (wpAny_bind (wpAny_onRaise ?_))
  show wpAny _ _ (Builtin.SmallTypes.nextOf (.ref i1) >>= _) _ _ _
  refine wpAny_bind (sq_item (h1.ext b1.extBut D.i1z) (hl1.ext b1.extBut D.l1z) hx fun g2 n1 b2 => wpAny_pure ?_)
  have p2 : PySem.IsPair g2 TO a b := b2.extBut _ _ D.TOi1 (b1.extBut _ _ D.TOz hTO)
  refine wpAny_bind (wpAny_seqItems p2 rfl (wpAny_bind (wpAny_updateSeq_pair p2 fun g3 p3 b3 => wpAny_bind (wpAny_letGo (wpAny_pure ?_)))))
  replace p3 : PySem.IsPair g3 TO x b := p3
  -- the second one
  refine wpAny_bind (wpAny_bind (wpAny_onRaise ?_))
  show wpAny _ _ (Builtin.SmallTypes.nextOf (.ref i2) >>= _) _ _ _
  refine wpAny_bind (sq_item (((h2.ext b1.extBut D.i2z).ext b2.extBut D.i12.symm).ext b3.extBut D.TOi2.symm) (((hl2.ext b1.extBut D.l2z).ext b2.extBut D.l2i1).ext b3.extBut D.l2TO) hy fun g4 n2 b4 => wpAny_pure ?_)
  have p4 : PySem.IsPair g4 TO x b := b4.extBut _ _ D.TOi2 p3
  refine wpAny_bind (wpAny_seqItems p4 rfl (wpAny_bind (wpAny_updateSeq_pair p4 fun g5 p5 b5 => wpAny_bind (wpAny_letGo (wpAny_pure (wpAny_pure ?_))))))
  replace p5 : PySem.IsPair g5 TO x y := p5
  refine wpAny_bind (wpAny_seqItems p5 rfl (wpAny_bind (wpAny_newTuple ?_)))
  have sz : g5.objs.size = s.heap.objs.size := by rw [b5.1, b4.1, b3.1, b2.1, b1.1]
  have z5 : IsZip g5 z TI TO .ellipsis := b5.extBut _ _ D.TOz.symm (b4.extBut _ _ D.i2z.symm (b3.extBut _ _ D.TOz.symm (b2.extBut _ _ D.i1z.symm z1)))
  have n15 : SqIt k1 g5 i1 l1 (n + 1) := ((n1.ext b3.extBut D.TOi1.symm).ext b4.extBut D.i12).ext b5.extBut D.TOi1.symm
  have n25 : SqIt k2 g5 i2 l2 (n + 1) := n2.ext b5.extBut D.TOi2.symm
  have zl : z < g5.objs.size := Heap.lt_size z5
  show wpAny _ _ (Builtin.SmallTypes.ownedTupleHandOut (.ref z) (.ref g5.objs.size) >>= _) _ _ _
  refine wpAny_bind ?_
  unfold Builtin.SmallTypes.ownedTupleHandOut
  have z6 : IsZip (g5.push { cls := .type "tuple", data := .seq #[x, y] }) z TI TO .ellipsis := Heap.get?_push_of_some _ z5
  refine wpAny_bind (wpAny_setField_rec z6 (by simp) fun g7 z7 b7 => ?_)
  replace z7 : IsZip g7 z TI TO (rawInt g5.objs.size) := z7
  refine wpAny_setField_rec z7 (by simp) fun g8 z8 b8 => ?_
  replace z8 : IsZip g8 z TI TO (rawInt g5.objs.size) := z8
  have up : ∀ c o, c ≠ z → g5.get? c = some o → g8.get? c = some o := fun c o c1 e => b8.extBut _ _ c1 (b7.extBut _ _ c1 (Heap.get?_push_of_some _ e))
  have t8 : PySem.IsPair g8 g5.objs.size x y := b8.extBut _ _ (Nat.ne_of_gt zl) (b7.extBut _ _ (Nat.ne_of_gt zl) (Heap.get?_push_size _ rfl))
  rw [sz] at z8 t8
  refine wpAny_pure ⟨_, rfl, ?_⟩
  show wpAny _ _ _ _ _ _
  rw [sz]
  exact wpAny_pure (hQ g8 z8 (up _ _ D.TOz p5) (n15.to fun o e => up _ o D.i1z e) (n25.to fun o e => up _ o D.i2z e) t8 fun c o c1 c2 c3 c4 e =>
    up c o c1 (b5.extBut _ _ c2 (b4.extBut _ _ c4 (b3.extBut _ _ c2 (b2.extBut _ _ c3 (b1.extBut _ _ c1 e))))))
theorem zip_end {z TI TO i1 i2 l1 l2 : Addr} {n : Nat} {xs ys : Array Value} {Q : Option Value → Shared → Prop} (hh : A.handled = none) (Z : ZipSt k1 k2 s.heap z TI TO i1 i2 l1 l2 n) (hl1 : Sq k1 s.heap l1 xs) (hl2 : Sq k2 s.heap l2 ys) (hend : xs[n]? = none ∨ ys[n]? = none)
    (hQ : ∀ h', (∀ c o, c ≠ z → c ≠ TO → c ≠ i1 → c ≠ i2 → s.heap.get? c = some o → h'.get? c = some o) → Q none { s with heap := h' }) : wpAny (model prog w) A (pyNext (.ref z)) Q E s := by
  obtain ⟨D, hz, hTI, ⟨a, b, hTO⟩, h1, h2⟩ := Z
  have hT : s.TypeIs (.ref z) "zip" := ⟨_, hz, rfl⟩
  unfold pyNext
  refine wpAny_bind (wpAny_attempt (wpAny_callSpecial?_slot (name := Str.ofString "__next__") hT F.slot_zip_next (wpAny_call_entry F.slot_zip_next hT F.entry_zip_next ?_ (F.args_zip_next_1 _))))
  show wpAny _ _ (field (.ref z) 2 >>= _) _ _ _
  refine wpAny_bind (wpAny_field hz rfl (x := .bool false) rfl ?_)
  show wpAny _ _ (field (.ref z) 3 >>= _) _ _ _
  refine wpAny_bind (wpAny_field hz rfl (x := .ref TI) rfl (wpAny_bind (wpAny_seqItems hTI rfl ?_)))
  show wpAny _ _ (Builtin.SmallTypes.ownedTupleIsFree (.ref z) >>= _) _ _ _
  refine wpAny_bind ?_
  unfold Builtin.SmallTypes.ownedTupleIsFree
  refine wpAny_bind (wpAny_field hz rfl (x := .none) rfl (wpAny_pure ?_))
  simp only [if_true]
  refine wpAny_bind (wpAny_rule (wpAny_bind (wpAny_field hz rfl (x := .ref TO) rfl (wpAny_bind (wpAny_setField_rec hz (by simp) fun g1 z1 b1 => ?_)))))
  replace z1 : IsZip g1 z TI TO .ellipsis := z1
  refine wpAny_bind ?_
  simp only [List.zipIdx_cons, List.zipIdx_nil, List.forIn_cons, List.forIn_nil]
  refine wpAny_bind (wpAny_bind (wpAny_onRaise ?_))
  show wpAny _ _ (Builtin.SmallTypes.nextOf (.ref i1) >>= _) _ _ _
  cases hx : xs[n]? with
  | none =>
    refine wpAny_bind (sq_end hh (h1.ext b1.extBut D.i1z) (hl1.ext b1.extBut D.l1z) hx fun g2 e b2 he => ?_)
    obtain ⟨oe, hoe, hce⟩ := he
    have z2 : IsZip g2 z TI TO .ellipsis := b2 _ _ D.i1z.symm z1
    have ez : e ≠ z := fun q => by subst q; rw [z2] at hoe; cases hoe; simp at hce
    refine wpAny_setField_rec z2 (by simp) fun g3 _ b3 => ?_
    exact wpAny_bind (wpAny_isInstance (T := "StopIteration") (b := true) ⟨oe, b3.extBut _ _ ez hoe, hce⟩ isSubtype_stop (wpAny_pure (hQ _ fun c o c1 _ c3 _ q => b3.extBut _ _ c1 (b2 _ _ c3 (b1.extBut _ _ c1 q)))))
  | some x =>
    have hy : ys[n]? = none := hend.elim (fun q => by rw [hx] at q; cases q) id
    refine wpAny_bind (sq_item (h1.ext b1.extBut D.i1z) (hl1.ext b1.extBut D.l1z) hx fun g2 n1 b2 => wpAny_pure ?_)
    have p2 : PySem.IsPair g2 TO a b := b2.extBut _ _ D.TOi1 (b1.extBut _ _ D.TOz hTO)
    refine wpAny_bind (wpAny_seqItems p2 rfl (wpAny_bind (wpAny_updateSeq_pair p2 fun g3 p3 b3 => wpAny_bind (wpAny_letGo (wpAny_pure ?_)))))
    refine wpAny_bind (wpAny_bind (wpAny_onRaise ?_))
    show wpAny _ _ (Builtin.SmallTypes.nextOf (.ref i2) >>= _) _ _ _
    refine wpAny_bind (sq_end hh (((h2.ext b1.extBut D.i2z).ext b2.extBut D.i12.symm).ext b3.extBut D.TOi2.symm) (((hl2.ext b1.extBut D.l2z).ext b2.extBut D.l2i1).ext b3.extBut D.l2TO) hy fun g4 e b4 he => ?_)
    obtain ⟨oe, hoe, hce⟩ := he
    have z4 : IsZip g4 z TI TO .ellipsis := b4 _ _ D.i2z.symm (b3.extBut _ _ D.TOz.symm (b2.extBut _ _ D.i1z.symm z1))
    have ez : e ≠ z := fun q => by subst q; rw [z4] at hoe; cases hoe; simp at hce
    refine wpAny_setField_rec z4 (by simp) fun g5 _ b5 => ?_
    exact wpAny_bind (wpAny_isInstance (T := "StopIteration") (b := true) ⟨oe, b5.extBut _ _ ez hoe, hce⟩ isSubtype_stop (wpAny_pure (hQ _ fun c o c1 c2 c3 c4 q => b5.extBut _ _ c1 (b4 _ _ c4 (b3.extBut _ _ c2 (b2.extBut _ _ c3 (b1.extBut _ _ c1 q)))))))
/-! the call -/
abbrev zH1 (k : Bool) (h : Heap) (l : Addr) : Heap := h.push { cls := .type (itName k), data := .fields #[.ref l, .int 0 0] }
abbrev zH2 (k1 k2 : Bool) (h : Heap) (l1 l2 : Addr) : Heap := zH1 k2 (zH1 k1 h l1) l2
abbrev zH3 (k1 k2 : Bool) (h : Heap) (l1 l2 : Addr) : Heap := (zH2 k1 k2 h l1 l2).push { cls := .type "tuple", data := .seq #[.ref h.objs.size, .ref (zH1 k1 h l1).objs.size] }
abbrev zH4 (k1 k2 : Bool) (h : Heap) (l1 l2 : Addr) : Heap := (zH3 k1 k2 h l1 l2).push { cls := .type "tuple", data := .seq #[.none, .none] }
abbrev zH5 (k1 k2 : Bool) (h : Heap) (l1 l2 : Addr) : Heap := (zH4 k1 k2 h l1 l2).push { cls := .type "zip", data := .fields #[.none, .bool false, .bool false, .ref (zH2 k1 k2 h l1 l2).objs.size, .ref (zH3 k1 k2 h l1 l2).objs.size] }
theorem meets_zipV {k1 k2 : Bool} (l1 l2 : Addr) (xs ys : Array Value) :
    Meets (Builtin.«zip.__new__» ⟨[.type "zip", .ref l1, .ref l2], []⟩) (fun _ R s => Sq k1 s.heap l1 xs ∧ Sq k2 s.heap l2 ys ∧ R (.ok (.ret (.ref (zH4 k1 k2 s.heap l1 l2).objs.size))) { s with heap := zH5 k1 k2 s.heap l1 l2 }) :=
  .of_wp fun prog w A R s h => by
    obtain ⟨hp, g, d, tk, os⟩ := s
    obtain ⟨hl1, hl2, h⟩ := h
    have hsub := sub_zip
    have a1 : Sq k1 (Shared.heap ⟨hp, g, d, tk, os⟩) l1 xs := hl1
    have a2 : Sq k2 (Shared.heap ⟨hp.push { cls := .type (itName k1), data := .fields #[.ref l1, .int 0 0] }, g, d, tk, os⟩) l2 ys := Sq.push hl2 _
    wp_walk using sq_iter a1, sq_iter a2
    exact ⟨_, rfl, h⟩
theorem call_zipV {l1 l2 : Addr} {xs ys : Array Value} {Q : Value → Shared → Prop} (hl1 : Sq k1 s.heap l1 xs) (hl2 : Sq k2 s.heap l2 ys) (b1 : l1 < s.heap.objs.size) (b2 : l2 < s.heap.objs.size)
    (h : ∀ h', ZipSt k1 k2 h' (s.heap.objs.size + 4) (s.heap.objs.size + 2) (s.heap.objs.size + 3) s.heap.objs.size (s.heap.objs.size + 1) l1 l2 0 → (∀ c o, s.heap.get? c = some o → h'.get? c = some o) → Q (.ref (s.heap.objs.size + 4)) { s with heap := h' }) :
    wpAny (model prog w) A (call (.type "zip") [.ref l1, .ref l2]) Q E s := by
  refine callType_new F.called_zip (by decide) (F.typeCall_zip_2 _ _) (F.newCall_zip_2 _ _) (fun obj => F.args_object_init_3 obj _ _) F.entry_zip_new (meets_zipV (k1 := k1) (k2 := k2) l1 l2 xs ys) ⟨hl1, hl2, ?_⟩
  have e1 : (zH1 k1 s.heap l1).objs.size = s.heap.objs.size + 1 := Heap.size_push ..
  have e2 : (zH2 k1 k2 s.heap l1 l2).objs.size = s.heap.objs.size + 2 := by rw [Heap.size_push, e1]
  have e3 : (zH3 k1 k2 s.heap l1 l2).objs.size = s.heap.objs.size + 3 := by rw [Heap.size_push, e2]
  have e4 : (zH4 k1 k2 s.heap l1 l2).objs.size = s.heap.objs.size + 4 := by rw [Heap.size_push, e3]
  have up1 : ∀ c o, s.heap.get? c = some o → (zH1 k1 s.heap l1).get? c = some o := fun c o q => Heap.get?_push_of_some _ q
  have up5 : ∀ c o, (zH2 k1 k2 s.heap l1 l2).get? c = some o → (zH5 k1 k2 s.heap l1 l2).get? c = some o := fun c o q => Heap.get?_push_of_some _ (Heap.get?_push_of_some _ (Heap.get?_push_of_some _ q))
  have g5 : (zH5 k1 k2 s.heap l1 l2).get? (zH4 k1 k2 s.heap l1 l2).objs.size = some _ := Heap.get?_push_size _ rfl
  have g4 : (zH5 k1 k2 s.heap l1 l2).get? (zH3 k1 k2 s.heap l1 l2).objs.size = some _ := Heap.get?_push_of_some _ (Heap.get?_push_size _ rfl)
  have g3 : (zH5 k1 k2 s.heap l1 l2).get? (zH2 k1 k2 s.heap l1 l2).objs.size = some _ := Heap.get?_push_of_some _ (Heap.get?_push_of_some _ (Heap.get?_push_size _ rfl))
  have g2 : SqIt k2 (zH5 k1 k2 s.heap l1 l2) (zH1 k1 s.heap l1).objs.size l2 0 := SqIt.to (sq_new (k := k2) (l := l2)) fun o q => up5 _ o q
  have g1 : SqIt k1 (zH5 k1 k2 s.heap l1 l2) s.heap.objs.size l1 0 := SqIt.to (sq_new (k := k1) (l := l1)) fun o q => up5 _ o (Heap.get?_push_of_some _ q)
  show _ ∧ _
  rw [e2, e3, e4] at g5
  rw [e1, e2] at g3
  rw [e3] at g4
  rw [e1] at g2
  rw [e4]
  exact ⟨⟨_, g5, rfl⟩, h _ ⟨PySem.W.ktu_apart _ _ _ b1 b2, g5, g3, ⟨_, _, g4⟩, g1, g2⟩ fun c o q => up5 c o (Heap.get?_push_of_some _ (up1 c o q))⟩
end
/-! ### the walk -/
def ItzV (k1 k2 : Bool) (K : PySem.W.Frag) (a b : Addr) : It :=
  ⟨fun i H => ∃ (xs ys : List V) (x y : V), SqV k1 K H a xs ∧ SqV k2 K H b ys ∧ xs[i]? = some x ∧ ys[i]? = some y,
    fun i H v H' => ∃ T x y, v = .ref T ∧ H T = none ∧ H' = upd H T (.tup [x, y]) ∧ (∀ xs, SqV k1 K H a xs → xs[i]? = some x) ∧ ∀ ys, SqV k2 K H b ys → ys[i]? = some y,
    fun i H => ∃ xs ys : List V, SqV k1 K H a xs ∧ SqV k2 K H b ys ∧ (xs.length ≤ i ∨ ys.length ≤ i)⟩
theorem turn_zipV {P : Program} {w : World} {K : PySem.W.Frag} {elts : List Expr} {kk : Nat} {tpos : Pos} {k1 k2 : Bool} {a b z TI TO i1 i2 : Addr} :
    Turn P w K (.Tuple elts kk tpos) (ItzV k1 k2 K a b) [z, TI, TO, i1, i2] z (fun i h => ZipSt k1 k2 h z TI TO i1 i2 a b i) where
  mem := List.mem_cons_self
  obj := fun i h st c hc => by
    obtain ⟨D, hz, hTI, ⟨x, y, hTO⟩, h1, h2⟩ := st
    obtain ⟨o1, e1, d1⟩ := h1.obj
    obtain ⟨o2, e2, d2⟩ := h2.obj
    have e' : c = z ∨ c = TI ∨ c = TO ∨ c = i1 ∨ c = i2 := by simpa using hc
    rcases e' with q | q | q | q | q <;> rw [q]
    · exact ⟨_, hz, fun v q => nomatch q⟩
    · exact ⟨_, hTI, fun v q => nomatch q⟩
    · exact ⟨_, hTO, fun v q => nomatch q⟩
    · exact ⟨o1, e1, fun v q => by rw [d1] at q; cases q⟩
    · exact ⟨o2, e2, fun v q => by rw [d2] at q; cases q⟩
  keep := fun i h h' st kp => by
    obtain ⟨D, hz, hTI, ⟨x, y, hTO⟩, h1, h2⟩ := st
    exact ⟨D, kp z (by simp) _ hz, kp TI (by simp) _ hTI, ⟨x, y, kp TO (by simp) _ hTO⟩, h1.to fun o q => kp i1 (by simp) o q, h2.to fun o q => kp i2 (by simp) o q⟩
  item := by
    intro X hP hw hK hc i pins s σ H E I hf st hg
    subst hP hw hK
    obtain ⟨xs, ys, x, y, hqx, hqy, hx, hy⟩ := hg
    obtain ⟨its, rv, p⟩ := sqv_get I hqx
    obtain ⟨its2, rv2, p2⟩ := sqv_get I hqy
    obtain ⟨u, hu, ru⟩ := rv.get hx
    obtain ⟨u2, hu2, ru2⟩ := rv2.get hy
    have st' := st
    obtain ⟨D, hz, hTI, ⟨x0, y0, hTO⟩, h1, h2⟩ := st'
    obtain ⟨o1, q1, _⟩ := h1.obj
    obtain ⟨o2, q2, _⟩ := h2.obj
    have hzl : z < s.heap.objs.size := Heap.lt_size hz
    refine zip_item st p p2 (x := u) (y := u2) (by simpa using hu) (by simpa using hu2) fun h' z' TO' h1' h2' hT hk => ?_
    refine ⟨_, rfl, wpAny_letOwnedTupleGo_zip (s := { s with heap := h' }) z' fun h'' z'' sb => ?_⟩
    have hT2 : h''.get? s.heap.objs.size = some { cls := .type "tuple", data := .seq #[u, u2] } := (sb.2 _ (Nat.ne_of_gt hzl)).trans hT
    have new : ObjOk X.prog X.w (upd H s.heap.objs.size (.tup [x, y])) h'' s.heap.objs.size (.tup [x, y]) := ⟨by show 2 ≤ sizeLine; decide, [u, u2], .cons ru (.cons ru2 .nil), _, hT2, rfl, _, rfl⟩
    have kp : ∀ c o, c ∉ [z, TI, TO, i1, i2] → s.heap.get? c = some o → h''.get? c = some o := fun c o hb q => by
      simp only [List.mem_cons, List.not_mem_nil, or_false, not_or] at hb
      exact (sb.2 c hb.1).trans (hk c o hb.1 hb.2.2.1 hb.2.2.2.1 hb.2.2.2.2 q)
    have I1 : Inv X pins σ (upd H s.heap.objs.size (.tup [x, y])) { s with heap := h'' } := I.turnedNew (t' := s.toks) (ch := [z, TI, TO, i1, i2]) kp hf (Nat.le_refl _) new
    refine ⟨.ref s.heap.objs.size, _, I1, rfl, ⟨_, x, y, rfl, I.hok.fresh (Nat.le_refl _), rfl, fun l hl => (sqv_inj I hl hqx) ▸ hx, fun l hl => (sqv_inj I hl hqy) ▸ hy⟩, ⟨D, z'', ?_, ⟨u, u2, ?_⟩, ?_, ?_⟩, fun c hcm => ?_⟩
    · exact (sb.2 _ D.TIz).trans (hk _ _ D.TIz D.TITO D.TIi1 D.TIi2 hTI)
    · exact (sb.2 _ D.TOz).trans TO'
    · exact h1'.to fun o q => (sb.2 _ D.i1z).trans q
    · exact h2'.to fun o q => (sb.2 _ D.i2z).trans q
    · have hlt : c < s.heap.objs.size := by
        have e' : c = z ∨ c = TI ∨ c = TO ∨ c = i1 ∨ c = i2 := by simpa using hcm
        rcases e' with q | q | q | q | q <;> rw [q]
        · exact hzl
        · exact Heap.lt_size hTI
        · exact Heap.lt_size hTO
        · exact Heap.lt_size q1
        · exact Heap.lt_size q2
      rw [upd_ne (Nat.ne_of_lt hlt)]
      exact (hf c hcm).1
  done := by
    intro X hP hw hK hc i pins s σ H E I hf st hg
    subst hP hw hK
    obtain ⟨xs, ys, hqx, hqy, hend⟩ := hg
    obtain ⟨its, rv, p⟩ := sqv_get I hqx
    obtain ⟨its2, rv2, p2⟩ := sqv_get I hqy
    have l1 := rv.length
    have l2 := rv2.length
    have he : its.toArray[i]? = none ∨ its2.toArray[i]? = none := hend.imp (fun q => Array.getElem?_eq_none (by simp only [List.size_toArray]; omega)) fun q => Array.getElem?_eq_none (by simp only [List.size_toArray]; omega)
    refine zip_end (I.ok.hd hc) st p p2 he fun h' hk => ⟨rfl, I.turnedL (t' := s.toks) (ch := [z, TI, TO, i1, i2]) (fun c o hb q => ?_) hf⟩
    simp only [List.mem_cons, List.not_mem_nil, or_false, not_or] at hb
    exact hk c o hb.1 hb.2.2.1 hb.2.2.2.1 hb.2.2.2.2 q
  self := fun A i s Q E st h => wpAny_pyIter_zip st.hz h
def iZipV (k1 k2 : Bool) (K : PySem.W.Frag) (ta : TA) : TI := fun σ H R => ta σ H fun vs H1 => ∃ a b xs ys, vs = [.ref a, .ref b] ∧ SqV k1 K H1 a xs ∧ SqV k2 K H1 b ys ∧ R (ItzV k1 k2 K a b) H1
theorem pi_zipV {X : Cx} (k1 k2 : Bool) {e e2 : Expr} {ta : TA} {p pos tpos : Pos} {elts : List Expr} {kk : Nat} (hg : Gl X "zip") (hm : X.mg "zip" = none) (ha : PA X [e, e2] ta)
    (hs : starEach [e, e2] X.env = (false, eval e X.env) :: starEach [e2] X.env := by rfl) (hpl : (backTo pos (starEach [e2] X.env)).any (·.1) = false := by rfl) :
    PI X (.Tuple elts kk tpos) (.Call (.Name "zip" p) [e, e2] [] pos) (iZipV k1 k2 X.K ta) := by
  refine ⟨fun pins s σ H R I h => Call_ (ld_blt I hg hm PyProof.Rows.boot_zip (PyProof.Rows.callWith_type1 (thn (ha.run pos pins s σ H _ I h) fun us s1 ⟨vs, H1, I1, r1, q1⟩ => ?_) hs hpl))⟩
  obtain ⟨a, b, xs, ys, ex, hqx, hqy, q⟩ := q1
  subst ex
  cases r1 with
  | cons r rr =>
    cases rr with
    | cons r' rr =>
      cases rr
      cases r
      cases r'
      obtain ⟨its, rv, p1⟩ := sqv_get I1 hqx
      obtain ⟨its2, rv2, p2⟩ := sqv_get I1 hqy
      obtain ⟨o1, e1, _⟩ := p1.obj
      obtain ⟨o2, e2, _⟩ := p2.obj
      refine call_zipV p1 p2 (Heap.lt_size e1) (Heap.lt_size e2) fun h' Z hk => wpAny_pyIter_zip Z.hz ?_
      have I2 : Inv X pins σ H1 { s1 with heap := h' } := I1.kept (t' := s1.toks) hk
      refine ⟨s1.heap.objs.size + 4, [s1.heap.objs.size + 4, s1.heap.objs.size + 2, s1.heap.objs.size + 3, s1.heap.objs.size, s1.heap.objs.size + 1], _, _, H1, rfl, I2, turn_zipV, Z, fun c hcm => ?_, q⟩
      have e' : c = s1.heap.objs.size + 4 ∨ c = s1.heap.objs.size + 2 ∨ c = s1.heap.objs.size + 3 ∨ c = s1.heap.objs.size ∨ c = s1.heap.objs.size + 1 := by simpa using hcm
      have hle : s1.heap.objs.size ≤ c := by
        rcases e' with z | z | z | z | z <;> rw [z] <;> first | exact Nat.le_refl _ | exact Nat.le_add_right _ _
      exact I1.fpOk hle (I1.hok.fresh hle)
section
variable {D : Ends} {σ : L2.St} {H : Hp} {Q : VK} {K : PySem.W.Frag} {g : TG} {t : TS} {tt : TT} {te : TE} {tl : TA} {k1 k2 : Bool} {a b : Addr} {xs ys : List V}
theorem u_zip {R : It → Hp → Prop} (h : tl σ H fun vs H1 => ∃ a b xs ys, vs = [.ref a, .ref b] ∧ SqV k1 K H1 a xs ∧ SqV k2 K H1 b ys ∧ R (ItzV k1 k2 K a b) H1) : iZipV k1 k2 K tl σ H R := h
theorem k_zip {A : Addr → Addr → Prop} (hs : SqV k1 K H a xs) (hs2 : SqV k2 K H b ys) (h : A a b) : ∃ a' b' xs ys, [V.ref a, V.ref b] = [.ref a', .ref b'] ∧ SqV k1 K H a' xs ∧ SqV k2 K H b' ys ∧ A a' b' := ⟨a, b, xs, ys, rfl, hs, hs2, h⟩
theorem for_z (hl : xs.length = ys.length) (P : Nat → L2.St → Hp → Prop) (h0 : P 0 σ H) (hq : ∀ i σ H, i ≤ xs.length → P i σ H → SqV k1 K H a xs ∧ SqV k2 K H b ys)
    (hs : ∀ i x y σ H, xs[i]? = some x → ys[i]? = some y → P i σ H → NewO (fun v H1 => g v σ H1 fun σ2 H2 => t { D with nx := P (i + 1), ct := P (i + 1), bk := D.nx } σ2 H2) H (.tup [x, y])) (hd : ∀ σ H, P xs.length σ H → D.nx σ H) : ForO (ItzV k1 k2 K a b) g t D σ H := by
  refine ⟨fun i m σ H => m = xs.length - i ∧ i ≤ xs.length ∧ P i σ H, ⟨xs.length, by simp, Nat.zero_le _, h0⟩, ?_⟩
  rintro i m σ H ⟨rfl, hi, p⟩
  obtain ⟨q1, q2⟩ := hq i σ H hi p
  by_cases hlt : i < xs.length
  · refine .inr ⟨⟨xs, ys, xs[i], ys[i]'(by omega), q1, q2, by simp [hlt], by simp [hl ▸ hlt]⟩, P (i + 1), fun σ' H' p' => ⟨xs.length - (i + 1), by omega, rfl, hlt, p'⟩, fun v H' y => ?_⟩
    obtain ⟨T, x, y, rfl, hT, rfl, hx, hy⟩ := y
    exact hs i x y σ H (hx xs q1) (hy ys q2) p T hT
  · obtain rfl : i = xs.length := by omega
    exact .inl ⟨⟨xs, ys, q1, q2, .inl (Nat.le_refl _)⟩, hd σ H p⟩
theorem lc_z {H0 : Hp} {S : List Addr} {L : List (Addr × HO)} {vs : List Nat} (hl : xs.length = ys.length) (c : Cur H0 S H L) (P : Addr → Nat → Hp → Prop) (h0 : ∀ D H1, H0 D = none → Cur H0 S H1 ((D, .lst []) :: L) → P D 0 H1) (hq : ∀ D i H, i ≤ xs.length → P D i H → SqV k1 K H a xs ∧ SqV k2 K H b ys)
    (hs : ∀ D i x y H, H0 D = none → xs[i]? = some x → ys[i]? = some y → P D i H → NewO (fun v H1 => g v (wipe σ vs) H1 fun σ2 H2 => wipe σ2 vs = wipe σ vs ∧ tt σ2 H2 fun b H3 =>
      if b = true then te σ2 H3 fun y H4 => ∃ acc, H4 D = some (.lst acc) ∧ acc.length < sizeLine ∧ ModO (P D (i + 1)) H4 D (.lst (acc ++ [y])) else P D (i + 1) H3) H (.tup [x, y])) (hd : ∀ D H, H0 D = none → P D xs.length H → Q (.ref D) H) : LcO (ItzV k1 k2 K a b) g tt te vs σ H Q := by
  intro D hD
  refine ⟨fun i m H => m = xs.length - i ∧ i ≤ xs.length ∧ P D i H, ⟨xs.length, by simp, Nat.zero_le _, h0 D _ (c.fresh hD) (c.new hD)⟩, ?_⟩
  rintro i m H ⟨rfl, hi, p⟩
  obtain ⟨q1, q2⟩ := hq D i H hi p
  by_cases hlt : i < xs.length
  · refine .inr ⟨⟨xs, ys, xs[i], ys[i]'(by omega), q1, q2, by simp [hlt], by simp [hl ▸ hlt]⟩, P D (i + 1), fun H' p' => ⟨xs.length - (i + 1), by omega, rfl, hlt, p'⟩, fun v H' y => ?_⟩
    obtain ⟨T, x, y, rfl, hT, rfl, hx, hy⟩ := y
    exact hs D i x y H (c.fresh hD) (hx xs q1) (hy ys q2) p T hT
  · obtain rfl : i = xs.length := by omega
    exact .inl ⟨⟨xs, ys, q1, q2, .inl (Nat.le_refl _)⟩, hd D H (c.fresh hD) p⟩
end
end Nd

end

section
set_option Elab.async false
set_option linter.all false
set_option maxRecDepth 100000
set_option maxHeartbeats 4000000
/-! Nd: the rules that name the written part, with it told. -/
namespace Nd
open PySem PySem.Spec PyProof.Rows L2
section
variable (K : PySem.W.Frag) {X : Cx}
theorem call_lenK (e : X.K = K := by rfl) : CallR X (.builtin "len") (cLen K) := e ▸ call_lenU
theorem call_listK (e : X.K = K := by rfl) : CallR X (.type "list") (cList K) := e ▸ call_listU
theorem call_tupleK (e : X.K = K := by rfl) : CallR X (.type "tuple") (cTuple K) := e ▸ call_tupleU
theorem call_allK (hc : X.calm = true) (e : X.K = K := by rfl) : CallR X (.builtin "all") (rAll K) := e ▸ call_allU hc
theorem call_anyK (hc : X.calm = true) (e : X.K = K := by rfl) : CallR X (.builtin "any") (rAny K) := e ▸ call_anyU hc
theorem call_sumK (hc : X.calm = true) (e : X.K = K := by rfl) : CallR X (.builtin "sum") (rSum K) := e ▸ call_sumU hc
theorem call_isi1K (e : X.K = K := by rfl) : CallR X (.builtin "isinstance") (rIsi K) := e ▸ call_isi
theorem call_isiTK (e : X.K = K := by rfl) : CallR X (.builtin "isinstance") (rIsiT K) := e ▸ call_isiT
theorem ix_seqK (e : X.K = K := by rfl) : IxR X (rIx K) := e ▸ ix_seqU
theorem sl_listK (e : X.K = K := by rfl) : SlR X (rSlU K) := e ▸ sl_listU
theorem op_eqK (hu : X.A.units + 64 < cLine) (e : X.K = K := by rfl) : OpR X (compareOp .Eq) (rEqU K) := e ▸ op_eqU hu
theorem op_neK (hu : X.A.units + 64 < cLine) (e : X.K = K := by rfl) : OpR X (compareOp .NotEq) (rNeU K) := e ▸ op_neU hu
theorem op_inK (e : X.K = K := by rfl) : OpR X (compareOp .In) (rIn K false) := e ▸ op_in_seq
theorem op_notInK (e : X.K = K := by rfl) : OpR X (compareOp .NotIn) (rIn K true) := e ▸ op_notIn_seq
theorem pi_seqK {tg e : Expr} {tl : TE} (he : PE X e tl) (ek : X.K = K := by rfl) : PI X tg e (iSeq K tl) := ek ▸ pi_seq he
theorem pi_enumK (k : Bool) {e : Expr} {ta : TA} {p pos tpos : Pos} {elts : List Expr} {kk : Nat} (hg : Gl X "enumerate") (hm : X.mg "enumerate" = none) (ha : PA X [e] ta) (ek : X.K = K := by rfl) (hs : starEach [e] X.env = [(false, eval e X.env)] := by rfl) :
    PI X (.Tuple elts kk tpos) (.Call (.Name "enumerate" p) [e] [] pos) (iEnumV k K ta) := ek ▸ pi_enumV k hg hm ha hs
theorem pi_zipK (k1 k2 : Bool) {e e2 : Expr} {ta : TA} {p pos tpos : Pos} {elts : List Expr} {kk : Nat} (hg : Gl X "zip") (hm : X.mg "zip" = none) (ha : PA X [e, e2] ta) (ek : X.K = K := by rfl)
    (hs : starEach [e, e2] X.env = (false, eval e X.env) :: starEach [e2] X.env := by rfl) (hpl : (backTo pos (starEach [e2] X.env)).any (·.1) = false := by rfl) :
    PI X (.Tuple elts kk tpos) (.Call (.Name "zip" p) [e, e2] [] pos) (iZipV k1 k2 K ta) := ek ▸ pi_zipV k1 k2 hg hm ha hs hpl
theorem pe_fldK {e : Expr} {f : Str} {ta : TE} {pos : Pos} (he : PE X e ta) (hb : attributeBase e f X.env (eval e X.env) = eval e X.env) (ek : X.K = K := by rfl) : PE X (.Attribute e f pos) (tFld K ta f) := ek ▸ pe_fld he hb
theorem ps_fldK {o value : Expr} {f : Str} {ta tv : TE} {pos' pos : Pos} (ha : PE X o ta) (hv : PE X value tv) (hs : swapsWith value (some (.Attribute o f pos')) pos.line X.env = pure false) (ek : X.K = K := by rfl) : PS X (.Assign [.Attribute o f pos'] value pos) (sFld K ta tv f) := ek ▸ ps_fld ha hv hs
theorem pg_fldK {o : Expr} {f : Str} {to : TE} {pos : Pos} (ho : PE X o to) (ek : X.K = K := by rfl) : PG X (.Attribute o f pos) (gFld K to f) := ek ▸ pg_fld ho
theorem pg_tupK {es : List Expr} {k : Nat} {t : TGs} {n : Nat} {pos : Pos} (hc : X.calm = true) (h : PGs X es t) (ek : X.K = K := by rfl) (hn : (assignEach es X.env).length = n := by rfl) (hst : (assignEach es X.env).findIdx? (·.1) = none := by rfl) : PG X (.Tuple es k pos) (gTup K n t) := ek ▸ pg_tup hc h hn hst
theorem pe_bmK {T id : String} {name : Str} {r : V → List V → Hp → VK → Prop} {o e : Expr} {es : List Expr} {to : TE} {t : TA} {apos cpos : Pos} (pa : PlainAttrs T) (slot : Slot T name id) (hty : typeOf (.builtin id) = pure (.type "method_descriptor")) (hm : MtR X id r) (ho : PE X o to) (ha : PA X (e :: es) t) (ek : X.K = K := by rfl)
    (hbase : attributeBase o name X.env (eval o X.env) = eval o X.env := by rfl)
    (hfew : ((backTo cpos (starEach (e :: es) X.env)).all (fun x => !x.1) && (backToKw cpos (keywordEach [] X.env)).all (fun x => x.1.isSome) && decide ((e :: es).length + ([] : List Keyword).length + (if ([] : List Keyword).isEmpty then 0 else 1) < 30)) = true := by rfl)
    (hline : (apos.endLine == cpos.line) = true := by rfl) (hs : starEach (e :: es) X.env = (false, eval e X.env) :: starEach es X.env := by rfl) (hplain : (backTo cpos (starEach es X.env)).any (·.1) = false := by rfl) :
    PE X (.Call (.Attribute o name apos) (e :: es) [] cpos) (tBM K T r to t) := ek ▸ pe_bm pa slot hty hm ho ha hbase hfew hline hs hplain
theorem pe_bm0K {T id : String} {name : Str} {r : V → List V → Hp → VK → Prop} {o : Expr} {to : TE} {apos cpos : Pos} (pa : PlainAttrs T) (slot : Slot T name id) (hty : typeOf (.builtin id) = pure (.type "method_descriptor")) (hm : MtR X id r) (ho : PE X o to) (ek : X.K = K := by rfl)
    (hbase : attributeBase o name X.env (eval o X.env) = eval o X.env := by rfl) (hline : (apos.endLine == cpos.line) = true := by rfl) : PE X (.Call (.Attribute o name apos) [] [] cpos) (tBM0 K T r to) := ek ▸ pe_bm0 pa slot hty hm ho hbase hline
end
end Nd

end

section
set_option Elab.async false
set_option linter.all false
set_option maxRecDepth 100000
set_option maxHeartbeats 4000000
/-! Nd: comprehensions of two clauses. -/
namespace Nd
open PySem PySem.Spec PyProof.Rows L2
def InO (J1 : It) (g1 : TG) (tt1 : TT) (te : TE) (vs1 : List Nat) (σ2 : L2.St) (D : Addr) (Nx : Hp → Prop) (H4 : Hp) : Prop := ∃ W1 : Nat → Nat → Hp → Prop, (∃ m, W1 0 m H4) ∧ ∀ j k H, W1 j k H →
  (J1.stop j H ∧ Nx H) ∨ (J1.go j H ∧ ∃ Nx1 : Hp → Prop, (∀ H', Nx1 H' → ∃ k', k' < k ∧ W1 (j + 1) k' H') ∧ ∀ x H', J1.yld j H x H' → g1 x (wipe σ2 vs1) H' fun σ3 H5 => wipe σ3 vs1 = wipe σ2 vs1 ∧ tt1 σ3 H5 fun b H6 =>
    if b = true then te σ3 H6 fun y H7 => ∃ acc, H7 D = some (.lst acc) ∧ acc.length < sizeLine ∧ Nx1 (upd H7 D (.lst (acc ++ [y]))) else Nx1 H6)
def LcO2 (J : It) (g : TG) (tt : TT) (wi1 : TI) (g1 : TG) (tt1 : TT) (te : TE) (vs vs1 : List Nat) (σ : L2.St) (H1 : Hp) (Q : VK) : Prop := ∀ D, H1 D = none → ∃ W : Nat → Nat → Hp → Prop, (∃ m, W 0 m (upd H1 D (.lst []))) ∧ ∀ i m H, W i m H →
  (J.stop i H ∧ Q (.ref D) H) ∨ (J.go i H ∧ ∃ Nx : Hp → Prop, (∀ H', Nx H' → ∃ m', m' < m ∧ W (i + 1) m' H') ∧ ∀ x H', J.yld i H x H' → g x (wipe σ vs) H' fun σ2 H2 => wipe σ2 vs = wipe σ vs ∧ tt σ2 H2 fun b H3 =>
    if b = true then wi1 σ2 H3 fun J1 H4 => InO J1 g1 tt1 te vs1 σ2 D Nx H4 else Nx H3)
section
variable {σ σ2 : L2.St} {H : Hp} {Q : VK} {K : PySem.W.Frag} {g g1 : TG} {tt tt1 : TT} {te : TE} {wi wi1 : TI} {vs vs1 : List Nat} {a D : Addr} {xs ys : List V} {H0 : Hp} {S : List Addr} {L : List (Addr × HO)}
theorem u_lc2 (h : wi σ H fun J H1 => LcO2 J g tt wi1 g1 tt1 te vs vs1 σ H1 Q) : tLc2 wi g tt wi1 g1 tt1 te vs vs1 σ H Q := h
theorem lc2_l (c : Cur H0 S H L) (P : Addr → Nat → Hp → Prop) (h0 : ∀ D H1, H0 D = none → Cur H0 S H1 ((D, .lst []) :: L) → P D 0 H1) (hl : ∀ D i H, i ≤ xs.length → P D i H → SqL K H a xs)
    (hs : ∀ D i x H, H0 D = none → xs[i]? = some x → P D i H → g x (wipe σ vs) H fun σ2 H2 => wipe σ2 vs = wipe σ vs ∧ tt σ2 H2 fun b H3 => if b = true then wi1 σ2 H3 fun J1 H4 => InO J1 g1 tt1 te vs1 σ2 D (P D (i + 1)) H4 else P D (i + 1) H3)
    (hd : ∀ D H, H0 D = none → P D xs.length H → Q (.ref D) H) : LcO2 (Itl K a) g tt wi1 g1 tt1 te vs vs1 σ H Q := by
  intro D hD
  refine ⟨fun i m H => m = xs.length - i ∧ i ≤ xs.length ∧ P D i H, ⟨xs.length, by simp, Nat.zero_le _, h0 D _ (c.fresh hD) (c.new hD)⟩, ?_⟩
  rintro i m H ⟨rfl, hi, p⟩
  have q := hl D i H hi p
  by_cases hlt : i < xs.length
  · refine .inr ⟨⟨xs, xs[i], q, by simp [hlt]⟩, P D (i + 1), fun H' p' => ⟨xs.length - (i + 1), by omega, rfl, hlt, p'⟩, fun x H' y => ?_⟩
    obtain ⟨e, y⟩ := y
    subst e
    exact hs D i x _ (c.fresh hD) (y xs q) p
  · obtain rfl : i = xs.length := by omega
    exact .inl ⟨⟨xs, q, Nat.le_refl _⟩, hd D H (c.fresh hD) p⟩
theorem in_l {Nx : Hp → Prop} (P : Nat → Hp → Prop) (h0 : P 0 H) (hl : ∀ j H, j ≤ ys.length → P j H → SqL K H a ys)
    (hs : ∀ j y H, ys[j]? = some y → P j H → g1 y (wipe σ2 vs1) H fun σ3 H5 => wipe σ3 vs1 = wipe σ2 vs1 ∧ tt1 σ3 H5 fun b H6 =>
      if b = true then te σ3 H6 fun v H7 => ∃ acc, H7 D = some (.lst acc) ∧ acc.length < sizeLine ∧ ModO (P (j + 1)) H7 D (.lst (acc ++ [v])) else P (j + 1) H6)
    (hd : ∀ H, P ys.length H → Nx H) : InO (Itl K a) g1 tt1 te vs1 σ2 D Nx H := by
  refine ⟨fun i m H => m = ys.length - i ∧ i ≤ ys.length ∧ P i H, ⟨ys.length, by simp, Nat.zero_le _, h0⟩, ?_⟩
  rintro i m H ⟨rfl, hi, p⟩
  have q := hl i H hi p
  by_cases hlt : i < ys.length
  · refine .inr ⟨⟨ys, ys[i], q, by simp [hlt]⟩, P (i + 1), fun H' p' => ⟨ys.length - (i + 1), by omega, rfl, hlt, p'⟩, fun x H' y => ?_⟩
    obtain ⟨e, y⟩ := y
    subst e
    exact hs i x _ (y ys q) p
  · obtain rfl : i = ys.length := by omega
    exact .inl ⟨⟨ys, q, Nat.le_refl _⟩, hd H p⟩
theorem u_listRg {te : L2.St → Hp → (Int → Int → Hp → Prop) → Prop} (h : te σ H fun a b H1 => RgOk a b ∧ NewO Q H1 (.lst (rgV a b))) : tLstRg te σ H Q := h
theorem u_rg1 {ta : TE} {k : Int → Int → Hp → Prop} (h : ta σ H fun x H1 => ∃ n, x = .int n ∧ k 0 n H1) : tRg1 ta σ H k := h
theorem rg_ints (n : Nat) : rgV 0 (n : Int) = ((List.range n).map fun (i : Nat) => ((i : Nat) : Int)).map V.int := by
  unfold rgV
  rw [List.map_map, show ((n : Int) - 0).toNat = n by omega]
  exact List.map_congr_left fun i _ => by show V.int (0 + (i : Int)) = V.int (i : Int); rw [Int.zero_add]
theorem r_popAt {l : Addr} {xs : List V} {i : Int} {y : V} {k : VK} (hl : H l = some (.lst xs)) (i0 : 0 ≤ i) (i1 : i < (xs.length : Int)) (h63 : xs.length ≤ 1000) (hy : xs[i.toNat]? = some y) (h : ModO (k y) H l (.lst (xs.eraseIdx i.toNat))) : rPopAt (.ref l) [.int i] H k := by
  have e : seqIndex? i xs.length = some i.toNat := by
    unfold seqIndex?
    simp [show ¬ i < 0 by omega, i0, i1]
  exact ⟨l, xs, i, i.toNat, y, rfl, rfl, hl, by omega, by omega, e, hy, h⟩
/-- a place to cut: what follows is shown once -/
theorem cutQ {te : TE} (P : VK) (h1 : ∀ Q0 : VK, (∀ v H', P v H' → Q0 v H') → te σ H Q0) (h2 : ∀ v H', P v H' → Q v H') : te σ H Q := h1 Q h2
theorem cutT {t : TT} {QT : Bool → Hp → Prop} (P : Bool → Hp → Prop) (h1 : ∀ Q0 : Bool → Hp → Prop, (∀ v H', P v H' → Q0 v H') → t σ H Q0) (h2 : ∀ v H', P v H' → QT v H') : t σ H QT := h1 QT h2
theorem cutS {t : TS} {D : Ends} (P : L2.St → Hp → Prop) (h1 : ∀ nx0 : L2.St → Hp → Prop, (∀ σ' H', P σ' H' → nx0 σ' H') → t { D with nx := nx0 } σ H) (h2 : ∀ σ' H', P σ' H' → D.nx σ' H') : t D σ H := h1 D.nx h2
theorem first_at {k : Int} : ∀ {ns : List Int}, k ∈ ns → ∃ j, ns[j]? = some k ∧ (∀ m : Nat, m < j → ns[m]? ≠ some k) ∧ ns.eraseIdx j = ns.erase k
  | [], h => nomatch h
  | a :: ns, h => by
    by_cases e : a = k
    · subst e
      exact ⟨0, rfl, fun m hm => absurd hm (Nat.not_lt_zero _), by simp⟩
    · obtain ⟨j, h1, h2, h3⟩ := first_at (ns := ns) ((List.mem_cons.mp h).resolve_left fun z => e z.symm)
      refine ⟨j + 1, by simpa using h1, fun m hm => ?_, ?_⟩
      · cases m with
        | zero => simpa using e
        | succ m => simpa using h2 m (by omega)
      · rw [List.erase_cons_tail (by simpa using e), ← h3]; rfl
theorem r_rem {l : Addr} {ns : List Int} {k : Int} (hl : H l = some (.lst (ns.map V.int))) (hk : k ∈ ns) (h : ModO (Q .non) H l (.lst ((ns.erase k).map V.int))) : rRemI (.ref l) [.int k] H Q := by
  obtain ⟨j, h1, h2, h3⟩ := first_at hk
  refine ⟨l, ns, k, j, rfl, rfl, hl, h1, h2, ?_⟩
  rw [h3]
  exact h
/-- as new_c, mod_c, with what stays said -/
theorem new_r {o : HO} (C : Cur H0 S H L) (h : ∀ p H1, H0 p = none → H p = none → Cur H0 S H1 ((p, o) :: L) → Ret [] H H1 → Q (.ref p) H1) : NewO Q H o := fun p hp => h p _ (C.fresh hp) hp (C.new hp) (.new hp)
theorem mod_r {o o' : HO} {p : Addr} {k : Hp → Prop} (C : Cur H0 S H L) (i : Nat) (hi : L[i]? = some (p, o)) (m : p ∈ S ∨ H0 p = none) (h : ∀ H1, Cur H0 S H1 (L.set i (p, o')) → Ret [p] H H1 → k H1) : ModO k H p o' := h _ (C.set i hi m) (.set (List.mem_singleton.mpr rfl))
end
end Nd

end

section
set_option Elab.async false
set_option linter.all false
/-! Nd: three names at once. -/
namespace Nd
open PySem PySem.Spec PyProof.Rows L2
theorem u_par3 {i j l : Nat} {tl : TA} {D : Ends} {σ : L2.St} {H : Hp} (h : tl σ H fun vs H1 => ∃ u v w, vs = [u, v, w] ∧ D.nx (((σ.set i (some u)).set j (some v)).set l (some w)) H1) : tPar3 i j l tl D σ H := h
theorem k_three {u v w : V} {A : V → V → V → Prop} (h : A u v w) : ∃ u' v' w', [u, v, w] = [u', v', w'] ∧ A u' v' w' := ⟨u, v, w, rfl, h⟩
end Nd

end

section
set_option linter.all false
/-! Plain law of k94: rotor walks are abelian; one walk is short. -/
namespace M94
abbrev Rows := List (List Int)
def row (R : Rows) (p : Nat) : List Int := R.getD p []
def ent (R : Rows) (h : List Int) (p : Nat) : Int := (row R p).getD (h.getD p 0).toNat 0
def nxt (R : Rows) (h : List Int) (p : Nat) : List Int := h.set p ((h.getD p 0 + 1) % ((row R p).length : Int))
structure Cfg where
  h : List Int
  c : Int → Nat
theorem Cfg.ext' {a b : Cfg} (h1 : a.h = b.h) (h2 : ∀ x, a.c x = b.c x) : a = b := by
  cases a; cases b
  simp only at h1 h2
  rw [h1, funext h2]
def fire (R : Rows) (s : Cfg) (p : Nat) : Cfg := ⟨nxt R s.h p, fun x => (s.c x - if x = (p : Int) then 1 else 0) + if x = ent R s.h p then 1 else 0⟩
theorem getD_set_ne {l : List Int} {p q : Nat} {v : Int} (h : p ≠ q) : (l.set p v).getD q 0 = l.getD q 0 := by
  simp only [List.getD_eq_getElem?_getD, List.getElem?_set_ne h]
theorem ent_other {R : Rows} {h : List Int} {p q : Nat} (n : p ≠ q) : ent R (nxt R h p) q = ent R h q := by
  unfold ent nxt
  rw [getD_set_ne n]
theorem nxt_comm {R : Rows} {h : List Int} {p q : Nat} (n : p ≠ q) : nxt R (nxt R h p) q = nxt R (nxt R h q) p := by
  have e1 : (nxt R h p).getD q 0 = h.getD q 0 := getD_set_ne n
  have e2 : (nxt R h q).getD p 0 = h.getD p 0 := getD_set_ne (Ne.symm n)
  show (nxt R h p).set q (((nxt R h p).getD q 0 + 1) % _) = (nxt R h q).set p (((nxt R h q).getD p 0 + 1) % _)
  rw [e1, e2]
  exact List.set_comm _ _ n
theorem fire_comm {R : Rows} {s : Cfg} {p q : Nat} (n : p ≠ q) (hp : 0 < s.c p) (hq : 0 < s.c q) : fire R (fire R s p) q = fire R (fire R s q) p := by
  refine Cfg.ext' (nxt_comm n) fun x => ?_
  show (((s.c x - _) + _) - _) + (if x = ent R (nxt R s.h p) q then 1 else 0) = (((s.c x - _) + _) - _) + (if x = ent R (nxt R s.h q) p then 1 else 0)
  rw [ent_other n, ent_other (Ne.symm n)]
  have n' : (p : Int) ≠ (q : Int) := by omega
  by_cases e1 : x = (p : Int)
  · have e2 : x ≠ (q : Int) := by omega
    subst e1
    simp only [if_pos, if_neg e2]
    omega
  · by_cases e2 : x = (q : Int)
    · subst e2
      simp only [if_neg e1, if_pos]
      omega
    · simp only [if_neg e1, if_neg e2]
      omega
inductive Run (R : Rows) : Cfg → Nat → Cfg → Prop where
  | done {s : Cfg} (h : ∀ p : Nat, p < R.length → s.c p = 0) : Run R s 0 s
  | step {s e : Cfg} {n : Nat} (p : Nat) (hp : p < R.length) (hc : 0 < s.c p) (r : Run R (fire R s p) n e) : Run R s (n + 1) e
theorem fire_c {R : Rows} {s : Cfg} {p q : Nat} (n : p ≠ q) (hq : 0 < s.c q) : 0 < (fire R s p).c q := by
  show 0 < (s.c q - if (q : Int) = (p : Int) then 1 else 0) + _
  rw [if_neg (show ¬ (q : Int) = (p : Int) by omega)]
  omega
theorem diamond {R : Rows} : ∀ {n : Nat} {s e : Cfg} {p : Nat}, Run R s n e → p < R.length → 0 < s.c p → ∃ m, n = m + 1 ∧ Run R (fire R s p) m e
  | 0, s, e, p, r, hp, hc => by
    cases r with
    | done h => rw [h p hp] at hc; omega
  | n + 1, s, e, p, r, hp, hc => by
    cases r with
    | step q hq hcq r =>
      by_cases h : p = q
      · subst h
        exact ⟨n, rfl, r⟩
      · obtain ⟨m, e1, r1⟩ := diamond r hp (fire_c (Ne.symm h) hc)
        subst e1
        refine ⟨m + 1, rfl, .step q hq (fire_c h hcq) ?_⟩
        rw [fire_comm h hc hcq]
        exact r1
theorem run_end {R : Rows} {n : Nat} {s e : Cfg} (r : Run R s n e) (h : ∀ p : Nat, p < R.length → s.c p = 0) : n = 0 ∧ s = e := by
  cases r with
  | done _ => exact ⟨rfl, rfl⟩
  | step q hq hc _ => rw [h q hq] at hc; omega
/-- more walkers, who wait -/
def more (s : Cfg) (d : Int → Nat) : Cfg := ⟨s.h, fun x => s.c x + d x⟩
theorem fire_more {R : Rows} {s : Cfg} {d : Int → Nat} {p : Nat} (hc : 0 < s.c p) : fire R (more s d) p = more (fire R s p) d := by
  refine Cfg.ext' rfl fun x => ?_
  show (s.c x + d x - _) + _ = (s.c x - _) + _ + d x
  by_cases e : x = (p : Int)
  · subst e
    simp only [if_pos, more]
    show s.c p + d p - 1 + (if (p : Int) = ent R s.h p then 1 else 0) = _
    omega
  · simp only [if_neg e]
    show s.c x + d x - 0 + (if x = ent R s.h p then 1 else 0) = s.c x - 0 + (if x = ent R s.h p then 1 else 0) + d x
    omega

/-! ### one walk -/
/-- rows in which each place leads on: rk a rank, gd an entry that leads to a greater rank, or home -/
structure Good (R : Rows) (m : Nat) (rk gd : Nat → Nat) : Prop where
  n5 : R.length ≤ 5
  n1 : 1 ≤ R.length
  le4 : ∀ p, p < R.length → 1 ≤ (row R p).length ∧ (row R p).length ≤ 4
  ents : ∀ p, p < R.length → ∀ x ∈ row R p, 0 ≤ x ∧ x < (R.length : Int) + m
  m1 : 1 ≤ m
  rk5 : ∀ p, p < R.length → rk p < R.length
  good : ∀ p, p < R.length → gd p < (row R p).length ∧ ∀ x, (row R p)[gd p]? = some x → (R.length : Int) ≤ x ∨ rk p < rk x.toNat
def HandsOk (R : Rows) (h : List Int) : Prop := h.length = R.length ∧ ∀ p, p < R.length → 0 ≤ h.getD p 0 ∧ h.getD p 0 < ((row R p).length : Int)
def aD : Nat → Int
  | 0 => 0
  | 1 => 4
  | 2 => 20
  | 3 => 84
  | 4 => 340
  | _ => 1364
/-- how many turns until the good entry -/
def wait (R : Rows) (gd : Nat → Nat) (h : List Int) (p : Nat) : Int := ((gd p : Int) - h.getD p 0) % ((row R p).length : Int)
def potB (R : Rows) (rk : Nat → Nat) (x : Int) : Int := if x < (R.length : Int) then 1364 - aD (rk x.toNat) else 0
def potH (R : Rows) (rk gd : Nat → Nat) (h : List Int) : Nat → Int
  | 0 => 0
  | k + 1 => potH R rk gd h k + wait R gd h k * (aD (rk k) + 1)
def pot (R : Rows) (rk gd : Nat → Nat) (h : List Int) (x : Int) : Int := potH R rk gd h R.length + potB R rk x
theorem aD_le (r : Nat) : 0 ≤ aD r ∧ aD r ≤ 1364 := by
  match r with
  | 0 | 1 | 2 | 3 | 4 => simp [aD]
  | _ + 5 => simp [aD]
theorem aD_up {r s : Nat} (h : r < s) (h5 : r ≤ 4) : 4 * aD r + 4 ≤ aD s := by
  match r, s with
  | 0, 1 | 0, 2 | 0, 3 | 0, 4 | 1, 2 | 1, 3 | 1, 4 | 2, 3 | 2, 4 | 3, 4 => simp [aD]
  | 0, s + 5 | 1, s + 5 | 2, s + 5 | 3, s + 5 | 4, s + 5 => simp [aD]
  | 1, 0 | 2, 0 | 3, 0 | 4, 0 | 2, 1 | 3, 1 | 4, 1 | 3, 2 | 4, 2 | 4, 3 | 0, 0 | 1, 1 | 2, 2 | 3, 3 | 4, 4 => omega
  | _ + 5, _ => omega
theorem aD_top {r : Nat} (h5 : r ≤ 4) : 4 * aD r + 4 ≤ 1364 := by
  match r with
  | 0 | 1 | 2 | 3 | 4 => simp [aD]
  | _ + 5 => omega
theorem potH_set {R : Rows} {rk gd : Nat → Nat} {h : List Int} {p : Nat} : ∀ k, potH R rk gd (nxt R h p) k = potH R rk gd h k + if p < k then (wait R gd (nxt R h p) p - wait R gd h p) * (aD (rk p) + 1) else 0
  | 0 => by simp [potH]
  | k + 1 => by
    show potH R rk gd (nxt R h p) k + wait R gd (nxt R h p) k * (aD (rk k) + 1) = potH R rk gd h k + wait R gd h k * (aD (rk k) + 1) + _
    rw [potH_set k]
    by_cases e : p = k
    · subst e
      rw [if_neg (Nat.lt_irrefl _), if_pos (Nat.lt_succ_self _), Int.sub_mul]
      omega
    · have hw : wait R gd (nxt R h p) k = wait R gd h k := by unfold wait nxt; rw [getD_set_ne e]
      rw [hw]
      by_cases l : p < k
      · rw [if_pos l, if_pos (by omega)]; omega
      · rw [if_neg l, if_neg (by omega)]; omega
theorem nxt_len {R : Rows} {h : List Int} {p : Nat} : (nxt R h p).length = h.length := List.length_set ..
theorem nxt_at {R : Rows} {h : List Int} {p : Nat} (hp : p < h.length) : (nxt R h p).getD p 0 = (h.getD p 0 + 1) % ((row R p).length : Int) := by
  unfold nxt
  simp [List.getD_eq_getElem?_getD, List.getElem?_set_self hp]
theorem nxt_ok {R : Rows} {h : List Int} {p : Nat} (ok : HandsOk R h) (hp : p < R.length) (l : 1 ≤ (row R p).length) : HandsOk R (nxt R h p) := by
  refine ⟨nxt_len.trans ok.1, fun q hq => ?_⟩
  by_cases e : p = q
  · subst e
    rw [nxt_at (by rw [ok.1]; exact hp)]
    exact ⟨Int.emod_nonneg _ (by omega), Int.emod_lt_of_pos _ (by omega)⟩
  · have : (nxt R h p).getD q 0 = h.getD q 0 := getD_set_ne e
    rw [this]; exact ok.2 q hq
theorem ent_mem {R : Rows} {h : List Int} {p : Nat} (ok : HandsOk R h) (hp : p < R.length) : ent R h p ∈ row R p := by
  obtain ⟨h0, h1⟩ := ok.2 p hp
  unfold ent
  have : (h.getD p 0).toNat < (row R p).length := by omega
  rw [List.getD_eq_getElem?_getD, List.getElem?_eq_getElem this]
  exact List.getElem_mem _
theorem pot_down {R : Rows} {m : Nat} {rk gd : Nat → Nat} {h : List Int} {p : Nat} (G : Good R m rk gd) (ok : HandsOk R h) (hp : p < R.length) : pot R rk gd (nxt R h p) (ent R h p) + 1 ≤ pot R rk gd h p := by
  obtain ⟨l1, l4⟩ := G.le4 p hp
  obtain ⟨h0, h1⟩ := ok.2 p hp
  have hph : p < h.length := by rw [ok.1]; exact hp
  have r4 : rk p ≤ 4 := by have := G.rk5 p hp; have := G.n5; omega
  obtain ⟨a0, a1⟩ := aD_le (rk p)
  have aup := aD_top r4
  unfold pot
  rw [potH_set, if_pos hp]
  have hB : potB R rk (p : Int) = 1364 - aD (rk p) := by unfold potB; rw [if_pos (by omega)]; rfl
  rw [hB]
  have hBe : potB R rk (ent R h p) ≤ 1364 := by
    unfold potB
    have := (aD_le (rk (ent R h p).toNat)).1
    split <;> omega
  have ew : wait R gd (nxt R h p) p = ((gd p : Int) - (h.getD p 0 + 1)) % ((row R p).length : Int) := by
    unfold wait
    rw [nxt_at hph]
    rw [Int.sub_emod, Int.emod_emod_of_dvd _ (Int.dvd_refl _), ← Int.sub_emod]
  obtain ⟨g1, g2⟩ := G.good p hp
  by_cases hg : h.getD p 0 = (gd p : Int)
  · -- the good entry
    have w0 : wait R gd h p = 0 := by unfold wait; rw [hg, Int.sub_self]; exact Int.zero_emod _
    have w1 : wait R gd (nxt R h p) p ≤ 3 := by
      rw [ew]
      have := Int.emod_lt_of_pos ((gd p : Int) - (h.getD p 0 + 1)) (show (0 : Int) < ((row R p).length : Int) by omega)
      omega
    have he : (row R p)[gd p]? = some (ent R h p) := by
      unfold ent
      rw [hg, Int.toNat_natCast, List.getD_eq_getElem?_getD, List.getElem?_eq_getElem g1]
      rfl
    have hB2 : potB R rk (ent R h p) ≤ 1364 - (4 * aD (rk p) + 4) := by
      rcases g2 _ he with q | q
      · unfold potB; rw [if_neg (by omega)]; omega
      · unfold potB
        have := aD_up q r4
        split <;> omega
    rw [w0, Int.sub_zero]
    have : wait R gd (nxt R h p) p * (aD (rk p) + 1) ≤ 3 * (aD (rk p) + 1) := Int.mul_le_mul_of_nonneg_right w1 (by omega)
    omega
  · have w1 : wait R gd (nxt R h p) p = wait R gd h p - 1 := by
      rw [ew]
      unfold wait
      have hne : ((gd p : Int) - h.getD p 0) % ((row R p).length : Int) ≠ 0 := fun z => by
        obtain ⟨k, hk⟩ := Int.dvd_of_emod_eq_zero z
        have g1' : (gd p : Int) < ((row R p).length : Int) := by omega
        have k0 : k = 0 := by
          rcases Int.lt_trichotomy k 0 with q | q | q
          · have : ((row R p).length : Int) * k ≤ ((row R p).length : Int) * (-1) := Int.mul_le_mul_of_nonneg_left (by omega) (by omega)
            omega
          · exact q
          · have : ((row R p).length : Int) * 1 ≤ ((row R p).length : Int) * k := Int.mul_le_mul_of_nonneg_left (by omega) (by omega)
            omega
        rw [k0, Int.mul_zero] at hk
        omega
      have e0 := Int.emod_nonneg ((gd p : Int) - h.getD p 0) (show ((row R p).length : Int) ≠ 0 by omega)
      have e1 := Int.emod_lt_of_pos ((gd p : Int) - h.getD p 0) (show (0 : Int) < ((row R p).length : Int) by omega)
      have e2 := Int.emod_add_mul_ediv ((gd p : Int) - h.getD p 0) ((row R p).length : Int)
      generalize ((gd p : Int) - h.getD p 0) % ((row R p).length : Int) = w at *
      generalize ((gd p : Int) - h.getD p 0) / ((row R p).length : Int) = q at *
      have e3 : (gd p : Int) - (h.getD p 0 + 1) = (w - 1) + ((row R p).length : Int) * q := by omega
      rw [e3, Int.add_mul_emod_self_left]
      exact Int.emod_eq_of_lt (by omega) (by omega)
    rw [w1]
    have : (wait R gd h p - 1 - wait R gd h p) * (aD (rk p) + 1) = -(aD (rk p) + 1) := by
      rw [show wait R gd h p - 1 - wait R gd h p = -1 by omega, Int.neg_mul, Int.one_mul]
    rw [this]
    omega
theorem aD_le4 {r : Nat} (h : r ≤ 4) : aD r ≤ 340 := by
  match r with
  | 0 | 1 | 2 | 3 | 4 => simp [aD]
  | _ + 5 => omega
theorem potH_ge {R : Rows} {m : Nat} {rk gd : Nat → Nat} {h : List Int} (G : Good R m rk gd) : ∀ k, k ≤ R.length → 0 ≤ potH R rk gd h k ∧ potH R rk gd h k ≤ 1023 * k
  | 0, _ => by simp [potH]
  | k + 1, hk => by
    obtain ⟨i0, i1⟩ := potH_ge (h := h) G k (by omega)
    obtain ⟨a0, a1⟩ := aD_le (rk k)
    have a4 := aD_le4 (show rk k ≤ 4 by have := G.rk5 k (by omega); have := G.n5; omega)
    obtain ⟨l1, l4⟩ := G.le4 k (by omega)
    have w0 : 0 ≤ wait R gd h k := Int.emod_nonneg _ (by omega)
    have w1 : wait R gd h k ≤ 3 := by
      have := Int.emod_lt_of_pos ((gd k : Int) - h.getD k 0) (show (0 : Int) < ((row R k).length : Int) by omega)
      unfold wait; omega
    have m0 : 0 ≤ wait R gd h k * (aD (rk k) + 1) := Int.mul_nonneg w0 (by omega)
    have m1 : wait R gd h k * (aD (rk k) + 1) ≤ 3 * 341 := Int.mul_le_mul w1 (by omega) (by omega) (by omega)
    show 0 ≤ potH R rk gd h k + wait R gd h k * (aD (rk k) + 1) ∧ potH R rk gd h k + wait R gd h k * (aD (rk k) + 1) ≤ 1023 * ((k + 1 : Nat) : Int)
    omega
theorem pot_ge {R : Rows} {m : Nat} {rk gd : Nat → Nat} {h : List Int} (G : Good R m rk gd) (x : Int) : 0 ≤ pot R rk gd h x ∧ pot R rk gd h x ≤ 6479 := by
  obtain ⟨i0, i1⟩ := potH_ge (h := h) G R.length (Nat.le_refl _)
  have := G.n5
  have hB : 0 ≤ potB R rk x ∧ potB R rk x ≤ 1364 := by
    unfold potB
    have := aD_le (rk x.toNat)
    split <;> omega
  unfold pot
  omega
/-- a walk of at most so many steps: hands, where it ends, how many steps -/
def play (R : Rows) : Nat → List Int → Int → List Int × Int × Nat
  | 0, h, x => (h, x, 0)
  | k + 1, h, x => if x < (R.length : Int) then
      ((play R k (nxt R h x.toNat) (ent R h x.toNat)).1, (play R k (nxt R h x.toNat) (ent R h x.toNat)).2.1, (play R k (nxt R h x.toNat) (ent R h x.toNat)).2.2 + 1) else (h, x, 0)
theorem play_in {R : Rows} {k : Nat} {h : List Int} {x : Int} (hx : x < (R.length : Int)) : play R (k + 1) h x =
      ((play R k (nxt R h x.toNat) (ent R h x.toNat)).1, (play R k (nxt R h x.toNat) (ent R h x.toNat)).2.1, (play R k (nxt R h x.toNat) (ent R h x.toNat)).2.2 + 1) := if_pos hx
theorem play_out {R : Rows} {k : Nat} {h : List Int} {x : Int} (hx : (R.length : Int) ≤ x) : play R k h x = (h, x, 0) := by
  cases k with
  | zero => rfl
  | succ k => exact if_neg (by omega)
def XOk (R : Rows) (m : Nat) (x : Int) : Prop := 0 ≤ x ∧ x < (R.length : Int) + m
theorem play_home {R : Rows} {m : Nat} {rk gd : Nat → Nat} (G : Good R m rk gd) : ∀ (k : Nat) (h : List Int) (x : Int), HandsOk R h → XOk R m x → pot R rk gd h x ≤ k →
    HandsOk R (play R k h x).1 ∧ XOk R m (play R k h x).2.1 ∧ (R.length : Int) ≤ (play R k h x).2.1 ∧ ((play R k h x).2.2 : Int) ≤ k
  | 0, h, x, ok, hx, hp => by
    by_cases e : x < (R.length : Int)
    · have d := pot_down G ok (show x.toNat < R.length by have := hx.1; omega)
      have g := (pot_ge (h := nxt R h x.toNat) G (ent R h x.toNat)).1
      rw [show ((x.toNat : Nat) : Int) = x from Int.toNat_of_nonneg hx.1] at d
      omega
    · exact ⟨ok, hx, by show (R.length : Int) ≤ x; omega, by simp [play]⟩
  | k + 1, h, x, ok, hx, hp => by
    by_cases e : x < (R.length : Int)
    · have hxn : x.toNat < R.length := by have := hx.1; omega
      have d := pot_down G ok hxn
      rw [show ((x.toNat : Nat) : Int) = x from Int.toNat_of_nonneg hx.1] at d
      have ih := play_home G k (nxt R h x.toNat) (ent R h x.toNat) (nxt_ok ok hxn (G.le4 _ hxn).1) (G.ents _ hxn _ (ent_mem ok hxn)) (by omega)
      rw [play_in e]
      refine ⟨ih.1, ih.2.1, ih.2.2.1, ?_⟩
      have := ih.2.2.2
      show (((play R k (nxt R h x.toNat) (ent R h x.toNat)).2.2 + 1 : Nat) : Int) ≤ ((k + 1 : Nat) : Int)
      omega
    · rw [play_out (by omega)]
      exact ⟨ok, hx, by show (R.length : Int) ≤ x; omega, by show ((0 : Nat) : Int) ≤ _; omega⟩
/-- how many of xs are x -/
def cnt (xs : List Int) (x : Int) : Nat := xs.count x
theorem cnt_cons {a : Int} {xs : List Int} {x : Int} : cnt (a :: xs) x = cnt xs x + if x = a then 1 else 0 := by
  unfold cnt
  rw [List.count_cons]
  by_cases h : x = a
  · subst h; simp
  · have : (a == x) = false := by simpa using fun e => h e.symm
    rw [this, if_neg h]; rfl
theorem cnt_pos {xs : List Int} {i : Nat} {x : Int} (h : xs[i]? = some x) : 0 < cnt xs x := List.count_pos_iff.mpr (List.mem_of_getElem? h)
theorem cnt_set : ∀ {xs : List Int} {i : Nat} {p e : Int} {x : Int}, xs[i]? = some p → cnt (xs.set i e) x = (cnt xs x - if x = p then 1 else 0) + if x = e then 1 else 0
  | [], _, _, _, _, h => by simp at h
  | a :: xs, 0, p, e, x, h => by
    have : a = p := by simpa using h
    subst this
    rw [List.set_cons_zero, cnt_cons, cnt_cons]
    omega
  | a :: xs, i + 1, p, e, x, h => by
    have h' : xs[i]? = some p := by simpa using h
    rw [List.set_cons_succ, cnt_cons, cnt_cons, cnt_set h']
    have := cnt_pos h'
    by_cases e1 : x = p
    · subst e1
      simp only [if_pos]
      omega
    · simp only [if_neg e1]
      omega
def moved (c : Int → Nat) (x y : Int) : Int → Nat := fun z => (c z - if z = x then 1 else 0) + if z = y then 1 else 0
theorem moved_same {c : Int → Nat} {x : Int} (h : 0 < c x) : moved c x x = c := by
  funext z
  unfold moved
  by_cases e : z = x
  · subst e; simp only [if_pos]; omega
  · simp only [if_neg e]; omega
theorem moved_pos {c : Int → Nat} {x y : Int} : 0 < moved c x y y := by unfold moved; simp
theorem moved_two {c : Int → Nat} {x y z : Int} (h : 0 < c x) : moved (moved c x y) y z = moved c x z := by
  funext w
  unfold moved
  by_cases e1 : w = x <;> by_cases e2 : w = y <;> by_cases e3 : w = z <;> simp only [e1, e2, e3, if_pos, if_neg, not_false_eq_true, ↓reduceIte] <;> (try subst e1) <;> (try subst e2) <;> (try subst e3) <;> simp_all <;> omega
theorem play_run {R : Rows} {m : Nat} {rk gd : Nat → Nat} (G : Good R m rk gd) : ∀ (k : Nat) (h : List Int) (x : Int) (c : Int → Nat) (n : Nat) (e : Cfg), HandsOk R h → XOk R m x → 0 < c x →
    Run R ⟨(play R k h x).1, moved c x (play R k h x).2.1⟩ n e → Run R ⟨h, c⟩ ((play R k h x).2.2 + n) e
  | 0, h, x, c, n, e, ok, hx, hc, r => by
    show Run R ⟨h, c⟩ (0 + n) e
    rw [Nat.zero_add]
    have r' : Run R ⟨h, moved c x x⟩ n e := r
    rw [moved_same hc] at r'
    exact r'
  | k + 1, h, x, c, n, e, ok, hx, hc, r => by
    by_cases l : x < (R.length : Int)
    · have hxn : x.toNat < R.length := by have := hx.1; omega
      have ex : ((x.toNat : Nat) : Int) = x := Int.toNat_of_nonneg hx.1
      rw [play_in l] at r ⊢
      have f : fire R ⟨h, c⟩ x.toNat = ⟨nxt R h x.toNat, moved c x (ent R h x.toNat)⟩ := by
        refine Cfg.ext' rfl fun z => ?_
        show (c z - if z = ((x.toNat : Nat) : Int) then 1 else 0) + _ = _
        rw [ex]; rfl
      have ih := play_run G k (nxt R h x.toNat) (ent R h x.toNat) (moved c x (ent R h x.toNat)) n e (nxt_ok ok hxn (G.le4 _ hxn).1) (G.ents _ hxn _ (ent_mem ok hxn)) moved_pos (by rw [moved_two hc]; exact r)
      show Run R ⟨h, c⟩ ((play R k (nxt R h x.toNat) (ent R h x.toNat)).2.2 + 1 + n) e
      rw [show (play R k (nxt R h x.toNat) (ent R h x.toNat)).2.2 + 1 + n = ((play R k (nxt R h x.toNat) (ent R h x.toNat)).2.2 + n) + 1 by omega]
      refine .step x.toNat hxn (show 0 < c ((x.toNat : Nat) : Int) by rw [ex]; exact hc) ?_
      rw [f]; exact ih
    · rw [play_out (by omega)] at r ⊢
      show Run R ⟨h, c⟩ (0 + n) e
      rw [Nat.zero_add]
      have r' : Run R ⟨h, moved c x x⟩ n e := r
      rw [moved_same hc] at r'
      exact r'
end M94

end

section
set_option linter.all false
/-! Plain law of k94, on: worlds' states, rows made, all in a row. -/
namespace M94
structure WS where
  hs : List Int
  sn : List Int
  won : List Int
  k : Int
def bump (won : List Int) (j : Nat) : List Int := won.set j (won.getD j 0 + 1)
/-- walker i, at the place p, is sent on -/
def sent (R : Rows) (s : WS) (i p : Nat) : WS := ⟨nxt R s.hs p, s.sn.set i (ent R s.hs p), if (R.length : Int) ≤ ent R s.hs p then bump s.won (ent R s.hs p - R.length).toNat else s.won, s.k + 1⟩
/-- a walker is led home -/
def ledTo (R : Rows) (s : WS) (i : Nat) (x : Int) : WS := ⟨(play R 10000 s.hs x).1, s.sn.set i (play R 10000 s.hs x).2.1, bump s.won ((play R 10000 s.hs x).2.1 - R.length).toNat, s.k + (play R 10000 s.hs x).2.2⟩
structure SOk (R : Rows) (m : Nat) (s : WS) : Prop where
  hok : HandsOk R s.hs
  xs : ∀ x ∈ s.sn, XOk R m x
  wl : s.won.length = m
  won : ∀ j, j < m → s.won.getD j 0 = cnt s.sn (R.length + j)
  l200 : s.sn.length ≤ 200
theorem set_mem {xs : List Int} {i : Nat} {y x : Int} (h : x ∈ xs.set i y) : x ∈ xs ∨ x = y := by
  rcases List.mem_or_eq_of_mem_set h with q | q
  · exact .inl q
  · exact .inr q
theorem bump_get {won : List Int} {j k : Nat} (hj : j < won.length) : (bump won j).getD k 0 = won.getD k 0 + if k = j then 1 else 0 := by
  unfold bump
  by_cases e : k = j
  · subst e
    simp [List.getD_eq_getElem?_getD, List.getElem?_set_self hj]
  · rw [getD_set_ne (Ne.symm e), if_neg e, Int.add_zero]
theorem cfg_sent {R : Rows} {s : WS} {i p : Nat} (hp : s.sn[i]? = some (p : Int)) : (⟨(sent R s i p).hs, cnt (sent R s i p).sn⟩ : Cfg) = fire R ⟨s.hs, cnt s.sn⟩ p :=
  Cfg.ext' rfl fun x => cnt_set hp
theorem adv {R : Rows} {m : Nat} {rk gd : Nat → Nat} {s : WS} {i p st : Nat} {d : Int → Nat} {e : Cfg} (G : Good R m rk gd) (ok : SOk R m s) (hp : s.sn[i]? = some (p : Int)) (hpR : p < R.length) (r : Run R (more ⟨s.hs, cnt s.sn⟩ d) st e) :
    ∃ st', st = st' + 1 ∧ Run R (more ⟨(sent R s i p).hs, cnt (sent R s i p).sn⟩ d) st' e ∧ SOk R m (sent R s i p) := by
  have hc := cnt_pos hp
  obtain ⟨st', e1, r1⟩ := diamond r hpR (show 0 < (more ⟨s.hs, cnt s.sn⟩ d).c p by show 0 < cnt s.sn p + d p; omega)
  rw [fire_more hc, ← cfg_sent hp] at r1
  obtain ⟨x0, x1⟩ := G.ents p hpR _ (ent_mem ok.hok hpR)
  refine ⟨st', e1, r1, nxt_ok ok.hok hpR (G.le4 p hpR).1, fun x hx => ?_, ?_, fun j hj => ?_, by show (s.sn.set i _).length ≤ 200; rw [List.length_set]; exact ok.l200⟩
  · rcases set_mem hx with q | q
    · exact ok.xs x q
    · rw [q]; exact ⟨x0, x1⟩
  · show (if _ then _ else _ : List Int).length = m
    split
    · rw [bump, List.length_set]; exact ok.wl
    · exact ok.wl
  · show (if _ then _ else _ : List Int).getD j 0 = ((cnt (s.sn.set i (ent R s.hs p)) (R.length + j) : Nat) : Int)
    rw [cnt_set hp, if_neg (show ¬ ((R.length : Int) + j = (p : Int)) by omega)]
    have w := ok.won j hj
    split
    · rename_i h
      rw [bump_get (by rw [ok.wl]; omega), w]
      by_cases q : j = (ent R s.hs p - R.length).toNat
      · rw [if_pos q, if_pos (by omega)]; omega
      · rw [if_neg q, if_neg (by omega)]; omega
    · rw [w, if_neg (by omega)]; omega
theorem led_run {R : Rows} {m : Nat} {rk gd : Nat → Nat} (G : Good R m rk gd) {d : Int → Nat} {e : Cfg} {i : Nat} : ∀ (k : Nat) (h : List Int) (sn : List Int) (x : Int) (st : Nat), HandsOk R h → XOk R m x → sn[i]? = some x → Run R (more ⟨h, cnt sn⟩ d) st e →
    ∃ st', st = st' + (play R k h x).2.2 ∧ Run R (more ⟨(play R k h x).1, cnt (sn.set i (play R k h x).2.1)⟩ d) st' e
  | 0, h, sn, x, st, ok, hx, hi, r => by
    refine ⟨st, rfl, ?_⟩
    have e1 : sn.set i x = sn := by
      obtain ⟨l1, l2⟩ := List.getElem?_eq_some_iff.mp hi
      rw [← l2]; exact List.set_getElem_self l1
    show Run R (more ⟨h, cnt (sn.set i x)⟩ d) st e
    rw [e1]; exact r
  | k + 1, h, sn, x, st, ok, hx, hi, r => by
    by_cases l : x < (R.length : Int)
    · have hxn : x.toNat < R.length := by have := hx.1; omega
      have ex : ((x.toNat : Nat) : Int) = x := Int.toNat_of_nonneg hx.1
      have hi' : sn[i]? = some ((x.toNat : Nat) : Int) := by rw [ex]; exact hi
      have hc := cnt_pos hi'
      obtain ⟨st1, e1, r1⟩ := diamond r hxn (show 0 < (more ⟨h, cnt sn⟩ d).c x.toNat by show 0 < cnt sn x.toNat + d x.toNat; omega)
      have ef : fire R ⟨h, cnt sn⟩ x.toNat = ⟨nxt R h x.toNat, cnt (sn.set i (ent R h x.toNat))⟩ := (Cfg.ext' rfl fun z => (cnt_set hi').symm)
      rw [fire_more hc, ef] at r1
      obtain ⟨st', e2, r2⟩ := led_run G k (nxt R h x.toNat) (sn.set i (ent R h x.toNat)) (ent R h x.toNat) st1 (nxt_ok ok hxn (G.le4 _ hxn).1) (G.ents _ hxn _ (ent_mem ok hxn)) (List.getElem?_set_self (List.getElem?_eq_some_iff.mp hi).1) r1
      rw [play_in l]
      refine ⟨st', by rw [e1, e2]; rfl, ?_⟩
      rw [List.set_set] at r2
      exact r2
    · rw [play_out (by omega)]
      refine ⟨st, rfl, ?_⟩
      have e1 : sn.set i x = sn := by
        obtain ⟨l1, l2⟩ := List.getElem?_eq_some_iff.mp hi
        rw [← l2]; exact List.set_getElem_self l1
      show Run R (more ⟨h, cnt (sn.set i x)⟩ d) st e
      rw [e1]; exact r
theorem led {R : Rows} {m : Nat} {rk gd : Nat → Nat} {s : WS} {i p st : Nat} {d : Int → Nat} {e : Cfg} (G : Good R m rk gd) (ok : SOk R m s) (hp : s.sn[i]? = some (p : Int)) (hpR : p < R.length) (r : Run R (more ⟨s.hs, cnt s.sn⟩ d) st e) :
    ∃ st' j, st = st' + (j + 1) ∧ Run R (more ⟨(ledTo R s i p).hs, cnt (ledTo R s i p).sn⟩ d) st' e ∧ SOk R m (ledTo R s i p) ∧ (ledTo R s i p).k = s.k + ((j + 1 : Nat) : Int) ∧ (R.length : Int) ≤ (play R 10000 s.hs p).2.1 := by
  have hx : XOk R m (p : Int) := ⟨by omega, by have := G.m1; omega⟩
  obtain ⟨st', e1, r1⟩ := led_run G 10000 s.hs s.sn p st ok.hok hx hp r
  have ph := play_home G 10000 s.hs p ok.hok hx (by have := (pot_ge (h := s.hs) G p).2; omega)
  have hj : ∃ j, (play R 10000 s.hs p).2.2 = j + 1 := by
    rw [show (10000 : Nat) = 9999 + 1 from rfl, play_in (show (p : Int) < (R.length : Int) by omega)]
    exact ⟨_, rfl⟩
  obtain ⟨j, hj⟩ := hj
  obtain ⟨y0, y1⟩ := ph.2.1
  refine ⟨st', j, by rw [← hj]; exact e1, r1, ⟨ph.1, fun x hx => ?_, ?_, fun q hq => ?_, by show (s.sn.set i _).length ≤ 200; rw [List.length_set]; exact ok.l200⟩, ?_, ph.2.2.1⟩
  · rcases set_mem hx with q | q
    · exact ok.xs x q
    · rw [q]; exact ph.2.1
  · show (bump s.won _).length = m
    rw [bump, List.length_set]; exact ok.wl
  · show (bump s.won _).getD q 0 = ((cnt (s.sn.set i (play R 10000 s.hs p).2.1) (R.length + q) : Nat) : Int)
    have hh := ph.2.2.1
    rw [cnt_set hp, if_neg (show ¬ ((R.length : Int) + q = (p : Int)) by omega), bump_get (by rw [ok.wl]; omega), ok.won q hq]
    by_cases z : q = ((play R 10000 s.hs p).2.1 - R.length).toNat
    · rw [if_pos z, if_pos (by omega)]; omega
    · rw [if_neg z, if_neg (by omega)]; omega
  · show s.k + ((play R 10000 s.hs p).2.2 : Int) = _
    rw [hj]
/-! ### who is not home -/
def alive (n : Int) (sn : List Int) : Nat → List Int
  | 0 => []
  | k + 1 => alive n sn k ++ if sn.getD k 0 < n then [(k : Int)] else []
theorem alive_mem {n : Int} {sn : List Int} {x : Int} : ∀ {k : Nat}, x ∈ alive n sn k ↔ 0 ≤ x ∧ x < k ∧ sn.getD x.toNat 0 < n
  | 0 => by simp [alive]; omega
  | k + 1 => by
    show x ∈ alive n sn k ++ _ ↔ _
    rw [List.mem_append, alive_mem (k := k)]
    by_cases h : sn.getD k 0 < n
    · rw [if_pos h]
      constructor
      · rintro (q | q)
        · exact ⟨q.1, by omega, q.2.2⟩
        · have := List.mem_singleton.mp q
          subst this
          exact ⟨by omega, by omega, by rw [Int.toNat_natCast]; exact h⟩
      · rintro ⟨q1, q2, q3⟩
        by_cases z : x < k
        · exact .inl ⟨q1, z, q3⟩
        · exact .inr (List.mem_singleton.mpr (by omega))
    · rw [if_neg h]
      constructor
      · rintro (q | q)
        · exact ⟨q.1, by omega, q.2.2⟩
        · cases q
      · rintro ⟨q1, q2, q3⟩
        refine .inl ⟨q1, ?_, q3⟩
        by_cases z : x < k
        · exact z
        · have : x.toNat = k := by omega
          rw [this] at q3
          exact absurd q3 h
theorem alive_nodup {n : Int} {sn : List Int} : ∀ k : Nat, (alive n sn k).Nodup
  | 0 => by simp [alive]
  | k + 1 => by
    show (alive n sn k ++ _).Nodup
    refine List.nodup_append.mpr ⟨alive_nodup k, by split <;> simp, fun a ha b hb e => ?_⟩
    subst e
    have := alive_mem.mp ha
    split at hb
    · have := List.mem_singleton.mp hb; omega
    · cases hb
theorem alive_len {n : Int} {sn : List Int} : ∀ k : Nat, (alive n sn k).length ≤ k
  | 0 => by simp [alive]
  | k + 1 => by
    show (alive n sn k ++ _).length ≤ _
    rw [List.length_append]
    have := alive_len (n := n) (sn := sn) k
    split <;> simp <;> omega
/-- the walkers that are left, each once -/
def Left (n : Int) (sn : List Int) (l : List Int) : Prop := l.Nodup ∧ ∀ x, x ∈ l ↔ 0 ≤ x ∧ x < (sn.length : Int) ∧ sn.getD x.toNat 0 < n
theorem Left.start {n : Int} {sn : List Int} : Left n sn (alive n sn sn.length) := ⟨alive_nodup _, fun _ => alive_mem⟩
theorem len_sub : ∀ {l r : List Int}, l.Nodup → (∀ x ∈ l, x ∈ r) → l.length ≤ r.length
  | [], _, _, _ => Nat.zero_le _
  | a :: l, r, nd, h => by
    obtain ⟨n1, n2⟩ := List.nodup_cons.mp nd
    have ha := h a List.mem_cons_self
    have ih := len_sub (l := l) (r := r.erase a) n2 fun x hx => (List.mem_erase_of_ne (by intro e; subst e; exact n1 hx)).mpr (h x (List.mem_cons_of_mem _ hx))
    rw [List.length_erase_of_mem ha] at ih
    have := List.length_pos_of_mem ha
    rw [List.length_cons]
    omega
theorem Left.len {n : Int} {sn l : List Int} (h : Left n sn l) : l.length ≤ sn.length := Nat.le_trans (len_sub h.1 fun x hx => alive_mem.mpr ((h.2 x).mp hx)) (alive_len _)
theorem getD_set_self {xs : List Int} {i : Nat} {y : Int} (h : i < xs.length) : (xs.set i y).getD i 0 = y := by simp [List.getD_eq_getElem?_getD, List.getElem?_set_self h]
theorem Left.gone {n : Int} {sn l : List Int} {w y : Int} (h : Left n sn l) (hw : w ∈ l) (hy : ¬ y < n) : Left n (sn.set w.toNat y) (l.erase w) := by
  obtain ⟨w0, w1, w2⟩ := (h.2 w).mp hw
  refine ⟨h.1.erase _, fun x => ?_⟩
  rw [h.1.mem_erase_iff, h.2 x, List.length_set]
  constructor
  · rintro ⟨q1, q2, q3, q4⟩
    refine ⟨q2, q3, ?_⟩
    rw [getD_set_ne (by omega)]; exact q4
  · rintro ⟨q2, q3, q4⟩
    by_cases e : x = w
    · subst e
      rw [getD_set_self (by omega)] at q4
      exact absurd q4 hy
    · rw [getD_set_ne (by omega)] at q4
      exact ⟨e, q2, q3, q4⟩
theorem Left.stays {n : Int} {sn l : List Int} {w y : Int} (h : Left n sn l) (hw : w ∈ l) (hy : y < n) : Left n (sn.set w.toNat y) (l.erase w ++ [w]) := by
  obtain ⟨w0, w1, w2⟩ := (h.2 w).mp hw
  refine ⟨List.nodup_append.mpr ⟨h.1.erase _, by simp, fun a ha b hb e => ?_⟩, fun x => ?_⟩
  · have := List.mem_singleton.mp hb
    subst this
    subst e
    exact (h.1.mem_erase_iff.mp ha).1 rfl
  · rw [List.mem_append, h.1.mem_erase_iff, h.2 x, List.length_set, List.mem_singleton]
    constructor
    · rintro (⟨q1, q2, q3, q4⟩ | q)
      · exact ⟨q2, q3, by rw [getD_set_ne (by omega)]; exact q4⟩
      · subst q
        exact ⟨w0, w1, by rw [getD_set_self (by omega)]; exact hy⟩
    · rintro ⟨q2, q3, q4⟩
      by_cases e : x = w
      · exact .inr e
      · rw [getD_set_ne (by omega)] at q4
        exact .inl ⟨e, q2, q3, q4⟩
theorem Left.none {n : Int} {sn : List Int} (h : Left n sn []) : ∀ x ∈ sn, n ≤ x := fun x hx => by
  obtain ⟨i, hi, e⟩ := List.mem_iff_getElem.mp hx
  by_cases q : x < n
  · have : ((i : Nat) : Int) ∈ ([] : List Int) := (h.2 _).mpr ⟨by omega, by omega, by rw [Int.toNat_natCast, List.getD_eq_getElem?_getD, List.getElem?_eq_getElem hi, Option.getD_some, e]; exact q⟩
    cases this
  · omega
end M94

end

section
set_option linter.all false
/-! Plain law of k94, on: rows drawn and told by other numbers. -/
namespace M94
def ren (n : Nat) (names : List Int) (e : Int) : Int := if e < (n : Int) then names.getD e.toNat 0 else e
def mkR (n : Nat) (names : List Int) (R1 : Rows) : Rows := (List.range n).map fun (p : Nat) => (row R1 (names.idxOf ((p : Nat) : Int))).map (ren n names)
/-- the drawn rows ahead of their new numbers -/
structure Drawn (n m : Nat) (R1 : Rows) (g : Nat → Nat) : Prop where
  len : ∀ j, j < R1.length → 1 ≤ (row R1 j).length ∧ (row R1 j).length ≤ 4
  ents : ∀ j, j < R1.length → ∀ x ∈ row R1 j, 0 ≤ x ∧ x < (n : Int) + m
  good : ∀ j, j < R1.length → g j < (row R1 j).length ∧ ∀ x, (row R1 j)[g j]? = some x → (j : Int) < x
theorem row_snoc {R : Rows} {rw : List Int} {j : Nat} : row (R ++ [rw]) j = if j < R.length then row R j else if j = R.length then rw else [] := by
  unfold row
  rw [List.getD_eq_getElem?_getD, List.getD_eq_getElem?_getD]
  split
  · rename_i h; rw [List.getElem?_append_left h]
  · rename_i h
    rw [List.getElem?_append_right (by omega)]
    split
    · rename_i h2; rw [show j - R.length = 0 by omega]; rfl
    · rw [List.getElem?_eq_none (by simp; omega)]; rfl
theorem Drawn.snoc {n m : Nat} {R1 : Rows} {g : Nat → Nat} {rw : List Int} {d : Nat} (D : Drawn n m R1 g) (h1 : 1 ≤ rw.length ∧ rw.length ≤ 4) (h2 : ∀ x ∈ rw, 0 ≤ x ∧ x < (n : Int) + m) (h3 : d < rw.length) (h4 : ∀ x, rw[d]? = some x → (R1.length : Int) < x) :
    Drawn n m (R1 ++ [rw]) (fun j => if j = R1.length then d else g j) := by
  have cases_ : ∀ j, j < (R1 ++ [rw]).length → (j < R1.length ∧ row (R1 ++ [rw]) j = row R1 j) ∨ (j = R1.length ∧ row (R1 ++ [rw]) j = rw) := fun j hj => by
    rw [List.length_append] at hj
    rw [row_snoc]
    by_cases q : j < R1.length
    · exact .inl ⟨q, if_pos q⟩
    · have : j = R1.length := by simp at hj; omega
      exact .inr ⟨this, by rw [if_neg q, if_pos this]⟩
  refine ⟨fun j hj => ?_, fun j hj => ?_, fun j hj => ?_⟩
  · rcases cases_ j hj with ⟨q, e⟩ | ⟨q, e⟩ <;> rw [e]
    · exact D.len j q
    · exact h1
  · rcases cases_ j hj with ⟨q, e⟩ | ⟨q, e⟩ <;> rw [e]
    · exact D.ents j q
    · exact h2
  · rcases cases_ j hj with ⟨q, e⟩ | ⟨q, e⟩ <;> rw [e]
    · rw [if_neg (by omega)]; exact D.good j q
    · rw [if_pos q, q]; exact ⟨h3, h4⟩
structure Names (n : Nat) (names : List Int) : Prop where
  nd : names.Nodup
  mem : ∀ x, x ∈ names ↔ 0 ≤ x ∧ x < (n : Int)
  len : names.length = n
theorem idx_at {l : List Int} {x : Int} (h : x ∈ l) : l.idxOf x < l.length ∧ l.getD (l.idxOf x) 0 = x := by
  have h1 : l.idxOf x < l.length := List.idxOf_lt_length_iff.mpr h
  exact ⟨h1, by rw [List.getD_eq_getElem?_getD, List.getElem?_eq_getElem h1, Option.getD_some]; exact List.getElem_idxOf h1⟩
theorem idx_of {l : List Int} {j : Nat} (nd : l.Nodup) (h : j < l.length) : l.idxOf (l.getD j 0) = j := by
  have e : l.getD j 0 = l[j] := by rw [List.getD_eq_getElem?_getD, List.getElem?_eq_getElem h]; rfl
  rw [e]
  have hm : l[j] ∈ l := List.getElem_mem h
  have h1 : l.idxOf l[j] < l.length := List.idxOf_lt_length_iff.mpr hm
  exact (List.getElem_inj nd).mp (List.getElem_idxOf h1)
theorem row_mkR {n : Nat} {names : List Int} {R1 : Rows} {p : Nat} (hp : p < n) : row (mkR n names R1) p = (row R1 (names.idxOf (p : Int))).map (ren n names) := by
  unfold row mkR
  rw [List.getD_eq_getElem?_getD, List.getElem?_map, List.getElem?_range hp]
  rfl
theorem good_of {n m : Nat} {names : List Int} {R1 : Rows} {g : Nat → Nat} (hn1 : 1 ≤ n) (hn5 : n ≤ 5) (hm1 : 1 ≤ m) (hl : R1.length = n) (D : Drawn n m R1 g) (N : Names n names) :
    Good (mkR n names R1) m (fun p : Nat => names.idxOf ((p : Nat) : Int)) (fun p : Nat => g (names.idxOf ((p : Nat) : Int))) := by
  have len : (mkR n names R1).length = n := by unfold mkR; rw [List.length_map, List.length_range]
  have ix : ∀ {p : Nat}, p < n → names.idxOf (p : Int) < n := fun {p} hp => by
    have := (idx_at ((N.mem (p : Int)).mpr ⟨by omega, by omega⟩)).1
    rw [N.len] at this; exact this
  refine ⟨by rw [len]; exact hn5, by rw [len]; exact hn1, fun p hp => ?_, fun p hp x hx => ?_, hm1, fun p hp => ?_, fun p hp => ?_⟩
  · rw [len] at hp
    rw [row_mkR hp, List.length_map]
    exact D.len _ (by rw [hl]; exact ix hp)
  · rw [len] at hp ⊢
    rw [row_mkR hp] at hx
    obtain ⟨y, hy, e⟩ := List.mem_map.mp hx
    have hb := D.ents _ (by rw [hl]; exact ix hp) y hy
    subst e
    unfold ren
    split
    · have : names.getD y.toNat 0 ∈ names := by
        rw [List.getD_eq_getElem?_getD, List.getElem?_eq_getElem (show y.toNat < names.length by rw [N.len]; omega)]
        exact List.getElem_mem _
      have := (N.mem _).mp this
      omega
    · omega
  · rw [len] at hp ⊢
    exact ix hp
  · rw [len] at hp ⊢
    obtain ⟨g1, g2⟩ := D.good _ (by rw [hl]; exact ix hp)
    rw [row_mkR hp, List.length_map]
    refine ⟨g1, fun x hx => ?_⟩
    rw [List.getElem?_map] at hx
    rw [List.getElem?_eq_getElem g1] at hx
    have hx' : ren n names ((row R1 (names.idxOf (p : Int)))[g (names.idxOf (p : Int))]) = x := Option.some.inj hx
    have hlt := g2 _ (List.getElem?_eq_getElem g1)
    generalize (row R1 (names.idxOf (p : Int)))[g (names.idxOf (p : Int))] = y at hx' hlt
    unfold ren at hx'
    split at hx'
    · rename_i hy
      refine .inr ?_
      have hyn : y.toNat < names.length := by rw [N.len]; omega
      have h0 : 0 ≤ x := by
        have : names.getD y.toNat 0 ∈ names := by
          rw [List.getD_eq_getElem?_getD, List.getElem?_eq_getElem hyn]
          exact List.getElem_mem _
        rw [hx'] at this
        exact ((N.mem _).mp this).1
      have e : names.idxOf ((x.toNat : Nat) : Int) = y.toNat := by
        rw [Int.toNat_of_nonneg h0, ← hx']
        exact idx_of N.nd hyn
      show names.idxOf (p : Int) < names.idxOf ((x.toNat : Nat) : Int)
      rw [e]
      omega
    · exact .inl (by omega)
theorem pop_perm : ∀ {l : List Int} {k : Nat} {x : Int}, l[k]? = some x → (x :: l.eraseIdx k).Perm l
  | [], k, x, h => by simp at h
  | a :: l, 0, x, h => by
    have : a = x := by simpa using h
    subst this
    exact List.Perm.refl _
  | a :: l, k + 1, x, h => by
    have h' : l[k]? = some x := by simpa using h
    exact (List.Perm.swap a x _).trans ((pop_perm h').cons a)
/-- names told so far, and what is left -/
def Part (n : Nat) (names left : List Int) : Prop := (names ++ left).Nodup ∧ (∀ x, x ∈ names ++ left ↔ 0 ≤ x ∧ x < (n : Int)) ∧ names.length + left.length = n
theorem Part.start (n : Nat) : Part n [] ((List.range n).map fun (i : Nat) => ((i : Nat) : Int)) := by
  refine ⟨?_, fun x => ?_, by simp⟩
  · rw [List.nil_append]
    exact List.pairwise_map.mpr (List.Pairwise.imp (fun h e => h (by omega)) List.nodup_range)
  · rw [List.nil_append, List.mem_map]
    constructor
    · rintro ⟨a, ha, rfl⟩
      have := List.mem_range.mp ha
      omega
    · rintro ⟨h0, h1⟩
      exact ⟨x.toNat, List.mem_range.mpr (by omega), by omega⟩
theorem Part.pop {n : Nat} {names left : List Int} {k : Nat} {x : Int} (h : Part n names left) (hk : left[k]? = some x) : Part n (names ++ [x]) (left.eraseIdx k) := by
  have p : (names ++ [x] ++ left.eraseIdx k).Perm (names ++ left) := by
    rw [List.append_assoc]
    exact (pop_perm hk).append_left names
  refine ⟨p.nodup_iff.mpr h.1, fun y => by rw [p.mem_iff]; exact h.2.1 y, ?_⟩
  have := p.length_eq
  have h3 := h.2.2
  simp only [List.length_append] at this ⊢
  omega
theorem Part.names {n : Nat} {names : List Int} (h : Part n names []) : Names n names := ⟨by have := h.1; rwa [List.append_nil] at this, by have := h.2.1; rwa [List.append_nil] at this, by have := h.2.2; simpa using this⟩
end M94

end

section
set_option linter.all false
/-! Plain law of k94, last: one after another, and in any order. -/
namespace M94
theorem cnt_app {a b : List Int} {x : Int} : cnt (a ++ b) x = cnt a x + cnt b x := List.count_append ..
theorem cnt_none {a : List Int} {x : Int} (h : ∀ y ∈ a, y ≠ x) : cnt a x = 0 := List.count_eq_zero.mpr fun m => h x m rfl
structure Seq (R : Rows) (m : Nat) (hs0 bg : List Int) (i : Nat) (hs wn : List Int) (k : Nat) (E : List Int) : Prop where
  hok : HandsOk R hs
  len : E.length = i
  out : ∀ x ∈ E, (R.length : Int) ≤ x ∧ XOk R m x
  wl : wn.length = m
  won : ∀ j, j < m → wn.getD j 0 = cnt E (R.length + j)
  k0 : k ≤ 10000 * i
  run : ∀ n e, Run R ⟨hs, cnt (E ++ bg.drop i)⟩ n e → Run R ⟨hs0, cnt bg⟩ (k + n) e
theorem Seq.start {R : Rows} {m : Nat} {hs0 bg : List Int} (ok : HandsOk R hs0) : Seq R m hs0 bg 0 hs0 (List.replicate m 0) 0 [] := by
  refine ⟨ok, rfl, fun x h => (nomatch h), List.length_replicate, fun j hj => ?_, by omega, fun n e r => ?_⟩
  · rw [List.getD_eq_getElem?_getD, List.getElem?_replicate, if_pos hj]; rfl
  · rw [Nat.zero_add]; exact r
theorem won_step {R : Rows} {m : Nat} {wn E : List Int} {y : Int} (wl : wn.length = m) (won : ∀ j, j < m → wn.getD j 0 = cnt E (R.length + j)) (h1 : (R.length : Int) ≤ y) (h2 : XOk R m y) :
    ∀ j, j < m → (bump wn (y - R.length).toNat).getD j 0 = cnt (E ++ [y]) (R.length + j) := fun j hj => by
  have := h2.2
  rw [bump_get (by omega), won j hj, cnt_app, cnt_cons]
  have e0 : cnt [] ((R.length : Int) + j) = 0 := rfl
  rw [e0]
  by_cases e : j = (y - R.length).toNat
  · rw [if_pos e, if_pos (by omega)]; omega
  · rw [if_neg e, if_neg (by omega)]; omega
theorem Seq.step {R : Rows} {m : Nat} {rk gd : Nat → Nat} {hs0 bg : List Int} {i : Nat} {hs wn : List Int} {k : Nat} {E : List Int} {x : Int} (G : Good R m rk gd) (S : Seq R m hs0 bg i hs wn k E) (hx : bg[i]? = some x) (h0 : 0 ≤ x) (h1 : x < (R.length : Int)) :
    (R.length : Int) ≤ (play R 10000 hs x).2.1 ∧ XOk R m (play R 10000 hs x).2.1 ∧ (play R 10000 hs x).2.2 ≤ 10000 ∧ Seq R m hs0 bg (i + 1) (play R 10000 hs x).1 (bump wn ((play R 10000 hs x).2.1 - R.length).toNat) (k + (play R 10000 hs x).2.2) (E ++ [(play R 10000 hs x).2.1]) := by
  have hxo : XOk R m x := ⟨h0, by have := G.m1; omega⟩
  obtain ⟨p1, p2, p3, p4⟩ := play_home G 10000 hs x S.hok hxo (by have := (pot_ge (h := hs) G x).2; omega)
  have p5 : (play R 10000 hs x).2.2 ≤ 10000 := by omega
  have hd : bg.drop i = x :: bg.drop (i + 1) := by
    obtain ⟨l, e⟩ := List.getElem?_eq_some_iff.mp hx
    rw [List.drop_eq_getElem_cons l, e]
  refine ⟨p3, p2, p5, p1, by simp [S.len], fun y hy => ?_, by unfold bump; rw [List.length_set]; exact S.wl, won_step S.wl S.won p3 p2, by have := S.k0; omega, fun n e r => ?_⟩
  · rcases List.mem_append.mp hy with q | q
    · exact S.out y q
    · rw [List.mem_singleton.mp q]; exact ⟨p3, p2⟩
  · rw [Nat.add_assoc]
    refine S.run _ _ (play_run G 10000 hs x _ n e S.hok hxo ?_ ?_)
    · rw [hd, cnt_app, cnt_cons, if_pos rfl]; omega
    · have : moved (cnt (E ++ bg.drop i)) x (play R 10000 hs x).2.1 = cnt (E ++ [(play R 10000 hs x).2.1] ++ bg.drop (i + 1)) := by
        funext z
        unfold moved
        rw [hd, cnt_app, cnt_cons, cnt_app, cnt_app, cnt_cons]
        have e0 : cnt [] z = 0 := rfl
        rw [e0]
        omega
      rw [this]
      exact r
theorem Seq.fin {R : Rows} {m : Nat} {hs0 bg hs wn : List Int} {k : Nat} {E : List Int} (S : Seq R m hs0 bg bg.length hs wn k E) : Run R ⟨hs0, cnt bg⟩ k ⟨hs, cnt E⟩ := by
  have := S.run 0 ⟨hs, cnt E⟩ (by
    rw [List.drop_length, List.append_nil]
    exact .done fun p hp => cnt_none fun y hy => by have := (S.out y hy).1; omega)
  exact this
theorem SOk.start {R : Rows} {m : Nat} {hs : List Int} (ok : HandsOk R hs) : SOk R m ⟨hs, [], List.replicate m 0, 0⟩ := by
  refine ⟨ok, fun x h => (nomatch h), List.length_replicate, fun j hj => ?_, by simp⟩
  show (List.replicate m (0 : Int)).getD j 0 = _
  rw [List.getD_eq_getElem?_getD, List.getElem?_replicate, if_pos hj]; rfl
theorem SOk.enter {R : Rows} {m : Nat} {s : WS} {p : Int} (ok : SOk R m s) (h0 : 0 ≤ p) (h1 : p < (R.length : Int)) (h2 : s.sn.length < 200) : SOk R m { s with sn := s.sn ++ [p] } := by
  refine ⟨ok.hok, fun x hx => ?_, ok.wl, fun j hj => ?_, by simp; omega⟩
  · rcases List.mem_append.mp hx with q | q
    · exact ok.xs x q
    · rw [List.mem_singleton.mp q]; exact ⟨h0, by omega⟩
  · show s.won.getD j 0 = ((cnt (s.sn ++ [p]) (R.length + j) : Nat) : Int)
    rw [ok.won j hj, cnt_app, cnt_cons, if_neg (by omega)]; rfl
theorem run_late {R : Rows} {hs bg : List Int} {l k : Nat} {e : Cfg} (r : Run R ⟨hs, cnt bg⟩ k e) : Run R (more ⟨hs, cnt (bg.drop l)⟩ (cnt (bg.take l))) k e := by
  have : (more ⟨hs, cnt (bg.drop l)⟩ (cnt (bg.take l))) = ⟨hs, cnt bg⟩ := Cfg.ext' rfl fun x => by
    show cnt (bg.drop l) x + cnt (bg.take l) x = cnt bg x
    rw [Nat.add_comm, ← cnt_app, List.take_append_drop]
  rw [this]; exact r
theorem run_in {R : Rows} {hs a b : List Int} {k : Nat} {e : Cfg} (r : Run R (more ⟨hs, cnt a⟩ (cnt b)) k e) : Run R (more ⟨hs, cnt (a ++ b)⟩ fun _ => 0) k e := by
  have : (more ⟨hs, cnt (a ++ b)⟩ fun _ => 0) = more ⟨hs, cnt a⟩ (cnt b) := Cfg.ext' rfl fun x => by
    show cnt (a ++ b) x + 0 = cnt a x + cnt b x
    rw [cnt_app, Nat.add_zero]
  rw [this]; exact r
theorem run_fin {R : Rows} {m : Nat} {s : WS} {st : Nat} {hs wn E : List Int} (ok : SOk R m s) (wl : wn.length = m) (won : ∀ j, j < m → wn.getD j 0 = cnt E (R.length + j)) (ho : ∀ x ∈ s.sn, (R.length : Int) ≤ x) (r : Run R (more ⟨s.hs, cnt s.sn⟩ fun _ => 0) st ⟨hs, cnt E⟩) :
    st = 0 ∧ s.hs = hs ∧ s.won = wn := by
  obtain ⟨h1, h2⟩ := run_end r fun p hp => by
    show cnt s.sn p + 0 = 0
    rw [Nat.add_zero]
    exact cnt_none fun y hy => by have := ho y hy; omega
  have e1 : s.hs = hs := congrArg Cfg.h h2
  have e2 : ∀ x, cnt s.sn x = cnt E x := fun x => by
    have := congrFun (congrArg Cfg.c h2) x
    exact this
  refine ⟨h1, e1, List.ext_getElem (by rw [ok.wl, wl]) fun j a b => ?_⟩
  have hj : j < m := by rw [← ok.wl]; exact a
  have q1 := ok.won j hj
  have q2 := won j hj
  rw [List.getD_eq_getElem?_getD, List.getElem?_eq_getElem a] at q1
  rw [List.getD_eq_getElem?_getD, List.getElem?_eq_getElem b] at q2
  have q1' : s.won[j] = _ := q1
  have q2' : wn[j] = _ := q2
  rw [q1', q2', e2]
end M94

end

section
set_option Elab.async false
set_option linter.all false
set_option maxRecDepth 100000
set_option maxHeartbeats 4000000
namespace K94
open PySem PySem.Spec PyProof.Rows L2 Nd
def topS (i : Nat) : Stmt := PySem.Challenge.pw_nodice_k94_whole_walkers_in_any_order.main.body.getD i (.Pass ⟨0, 0, 0, 0⟩)
abbrev s_law : Stmt := topS 41
abbrev N_law : List Str := ["_law_script", "_law_shepherd_here", "_law_turn", "_law_rows_here", "_law_place", "_law_board", "_law_way", "_law_places", "_law_homes", "_law_hands", "_law_begins", "_law_own", "_law_wins", "_law_steps", "_law_end", "_law_gone", "_law_world", "_law_late", "_law_row", "_law_walker", "_law_spot"]
theorem sc_law : FnScope N_law ["_law_script"] (defScope s_law) := ⟨rfl, rfl, rfl, by decide +kernel, rfl, by decide +kernel, by decide +kernel⟩
abbrev s_l_shepherd : Stmt := topS 34
abbrev N_l_shepherd : List Str := ["_law_script", "_law_cell"]
theorem sc_l_shepherd : FnScope N_l_shepherd ["_law_script"] (defScope s_l_shepherd) := ⟨rfl, rfl, rfl, by decide +kernel, rfl, by decide +kernel, by decide +kernel⟩
abbrev s_l_crook : Stmt := topS 35
abbrev N_l_crook : List Str := ["_law_shepherd_here", "_law_many", "_law_at", "_law_cell", "_law_mixed", "_law_rest"]
theorem sc_l_crook : FnScope N_l_crook ["_law_shepherd_here", "_law_many"] (defScope s_l_crook) := ⟨rfl, rfl, rfl, by decide +kernel, rfl, by decide +kernel, by decide +kernel⟩
abbrev s_l_one : Stmt := topS 36
abbrev N_l_one : List Str := ["_law_shepherd_here", "_law_some"]
theorem sc_l_one : FnScope N_l_one ["_law_shepherd_here", "_law_some"] (defScope s_l_one) := ⟨rfl, rfl, rfl, by decide +kernel, rfl, by decide +kernel, by decide +kernel⟩
abbrev s_l_rows : Stmt := topS 37
abbrev N_l_rows : List Str := ["_law_shepherd_here", "_law_places", "_law_homes", "_law_rows_here", "_law_place", "_law_found", "_law_row", "_law_names", "_law_left", "_law_entry"]
theorem sc_l_rows : FnScope N_l_rows ["_law_shepherd_here", "_law_places", "_law_homes"] (defScope s_l_rows) := ⟨rfl, rfl, rfl, by decide +kernel, rfl, by decide +kernel, by decide +kernel⟩
abbrev s_l_played : Stmt := topS 39
abbrev N_l_played : List Str := ["_law_rows_here", "_law_hands", "_law_place", "_law_most", "_law_steps"]
theorem sc_l_played : FnScope N_l_played ["_law_rows_here", "_law_hands", "_law_place", "_law_most"] (defScope s_l_played) := ⟨rfl, rfl, rfl, by decide +kernel, rfl, by decide +kernel, by decide +kernel⟩
abbrev s_l_sent : Stmt := topS 38
abbrev N_l_sent : List Str := ["_law_rows_here", "_law_hands", "_law_place", "_law_entry"]
theorem sc_l_sent : FnScope N_l_sent ["_law_rows_here", "_law_hands", "_law_place"] (defScope s_l_sent) := ⟨rfl, rfl, rfl, by decide +kernel, rfl, by decide +kernel, by decide +kernel⟩
abbrev s_Board_init : Stmt := inClass (topS 25) 0
abbrev N_Board_init : List Str := ["self", "homes", "rows", "row"]
theorem sc_Board_init : FnScope N_Board_init ["self", "homes", "rows"] (defScope s_Board_init) := ⟨rfl, rfl, rfl, by decide +kernel, rfl, by decide +kernel, by decide +kernel⟩
abbrev s_is_within : Stmt := topS 10
abbrev N_is_within : List Str := ["value", "least", "most"]
theorem sc_is_within : FnScope N_is_within ["value", "least", "most"] (defScope s_is_within) := ⟨rfl, rfl, rfl, by decide +kernel, rfl, by decide +kernel, by decide +kernel⟩
abbrev s_is_integer : Stmt := topS 9
abbrev N_is_integer : List Str := ["value"]
theorem sc_is_integer : FnScope N_is_integer ["value"] (defScope s_is_integer) := ⟨rfl, rfl, rfl, by decide +kernel, rfl, by decide +kernel, by decide +kernel⟩
abbrev s_do_fit : Stmt := topS 24
abbrev N_do_fit : List Str := ["rows", "homes", "most", "row", "entry"]
theorem sc_do_fit : FnScope N_do_fit ["rows", "homes"] (defScope s_do_fit) := ⟨rfl, rfl, rfl, by decide +kernel, rfl, by decide +kernel, by decide +kernel⟩
abbrev s_are_rows : Stmt := topS 23
abbrev N_are_rows : List Str := ["value", "row"]
theorem sc_are_rows : FnScope N_are_rows ["value"] (defScope s_are_rows) := ⟨rfl, rfl, rfl, by decide +kernel, rfl, by decide +kernel, by decide +kernel⟩
abbrev s_World_init : Stmt := inClass (topS 32) 0
abbrev N_World_init : List Str := ["self", "board", "hands"]
theorem sc_World_init : FnScope N_World_init ["self", "board", "hands"] (defScope s_World_init) := ⟨rfl, rfl, rfl, by decide +kernel, rfl, by decide +kernel, by decide +kernel⟩
abbrev s_need_board : Stmt := topS 27
abbrev N_need_board : List Str := ["value", "part"]
theorem sc_need_board : FnScope N_need_board ["value", "part"] (defScope s_need_board) := ⟨rfl, rfl, rfl, by decide +kernel, rfl, by decide +kernel, by decide +kernel⟩
abbrev s_need_hands : Stmt := topS 31
abbrev N_need_hands : List Str := ["board", "value", "hand", "row"]
theorem sc_need_hands : FnScope N_need_hands ["board", "value"] (defScope s_need_hands) := ⟨rfl, rfl, rfl, by decide +kernel, rfl, by decide +kernel, by decide +kernel⟩
abbrev s_World_enter : Stmt := inClass (topS 32) 7
abbrev N_World_enter : List Str := ["self", "place"]
theorem sc_World_enter : FnScope N_World_enter ["self", "place"] (defScope s_World_enter) := ⟨rfl, rfl, rfl, by decide +kernel, rfl, by decide +kernel, by decide +kernel⟩
abbrev s_need_number : Stmt := topS 11
abbrev N_need_number : List Str := ["value", "part", "least", "most"]
theorem sc_need_number : FnScope N_need_number ["value", "part", "least", "most"] (defScope s_need_number) := ⟨rfl, rfl, rfl, by decide +kernel, rfl, by decide +kernel, by decide +kernel⟩
abbrev s_l_home : Stmt := topS 40
abbrev N_l_home : List Str := ["_law_shepherd_here", "_law_world", "_law_places", "_law_way", "_law_left", "_law_walker", "_law_spot"]
theorem sc_l_home : FnScope N_l_home ["_law_shepherd_here", "_law_world", "_law_places", "_law_way"] (defScope s_l_home) := ⟨rfl, rfl, rfl, by decide +kernel, rfl, by decide +kernel, by decide +kernel⟩
abbrev s_World_walkers : Stmt := inClass (topS 32) 2
abbrev N_World_walkers : List Str := ["self"]
theorem sc_World_walkers : FnScope N_World_walkers ["self"] (defScope s_World_walkers) := ⟨rfl, rfl, rfl, by decide +kernel, rfl, by decide +kernel, by decide +kernel⟩
abbrev s_World_led : Stmt := inClass (topS 32) 9
abbrev N_World_led : List Str := ["self", "walker", "most"]
theorem sc_World_led : FnScope N_World_led ["self", "walker", "most"] (defScope s_World_led) := ⟨rfl, rfl, rfl, by decide +kernel, rfl, by decide +kernel, by decide +kernel⟩
abbrev s_World_need_out : Stmt := inClass (topS 32) 11
abbrev N_World_need_out : List Str := ["self", "walker"]
theorem sc_World_need_out : FnScope N_World_need_out ["self", "walker"] (defScope s_World_need_out) := ⟨rfl, rfl, rfl, by decide +kernel, rfl, by decide +kernel, by decide +kernel⟩
abbrev s_World_need_away : Stmt := inClass (topS 32) 12
abbrev N_World_need_away : List Str := ["self", "walker"]
theorem sc_World_need_away : FnScope N_World_need_away ["self", "walker"] (defScope s_World_need_away) := ⟨rfl, rfl, rfl, by decide +kernel, rfl, by decide +kernel, by decide +kernel⟩
abbrev s_World_sent_home : Stmt := inClass (topS 32) 14
abbrev N_World_sent_home : List Str := ["self", "walker", "most", "before", "_", "entry"]
theorem sc_World_sent_home : FnScope N_World_sent_home ["self", "walker", "most", "before"] (defScope s_World_sent_home) := ⟨rfl, rfl, rfl, by decide +kernel, rfl, by decide +kernel, by decide +kernel⟩
abbrev s_World_sent : Stmt := inClass (topS 32) 13
abbrev N_World_sent : List Str := ["self", "walker", "place", "row", "entry"]
theorem sc_World_sent : FnScope N_World_sent ["self", "walker"] (defScope s_World_sent) := ⟨rfl, rfl, rfl, by decide +kernel, rfl, by decide +kernel, by decide +kernel⟩
abbrev s_World_take : Stmt := inClass (topS 32) 6
abbrev N_World_take : List Str := ["self", "other"]
theorem sc_World_take : FnScope N_World_take ["self", "other"] (defScope s_World_take) := ⟨rfl, rfl, rfl, by decide +kernel, rfl, by decide +kernel, by decide +kernel⟩
abbrev s_World_copy : Stmt := inClass (topS 32) 5
abbrev N_World_copy : List Str := ["self", "other"]
theorem sc_World_copy : FnScope N_World_copy ["self"] (defScope s_World_copy) := ⟨rfl, rfl, rfl, by decide +kernel, rfl, by decide +kernel, by decide +kernel⟩
abbrev s_World_advance : Stmt := inClass (topS 32) 8
abbrev N_World_advance : List Str := ["self", "walker"]
theorem sc_World_advance : FnScope N_World_advance ["self", "walker"] (defScope s_World_advance) := ⟨rfl, rfl, rfl, by decide +kernel, rfl, by decide +kernel, by decide +kernel⟩
abbrev s_World_wins : Stmt := inClass (topS 32) 3
abbrev N_World_wins : List Str := ["self"]
theorem sc_World_wins : FnScope N_World_wins ["self"] (defScope s_World_wins) := ⟨rfl, rfl, rfl, by decide +kernel, rfl, by decide +kernel, by decide +kernel⟩
abbrev s_World_hands : Stmt := inClass (topS 32) 1
abbrev N_World_hands : List Str := ["self"]
theorem sc_World_hands : FnScope N_World_hands ["self"] (defScope s_World_hands) := ⟨rfl, rfl, rfl, by decide +kernel, rfl, by decide +kernel, by decide +kernel⟩
structure Adr where
  Board : Addr
  World : Addr
structure Txt (K : PySem.W.Frag) (mg : Str → Option Value) (A : Adr) : Prop where
  c_Board : Cls K A.Board
  g_Board : mg "Board" = some (.ref A.Board)
  n_Board_homes : PySem.W.findIn K (.ref A.Board) "homes" = some none
  n_Board_places : PySem.W.findIn K (.ref A.Board) "places" = some none
  n_Board_rows : PySem.W.findIn K (.ref A.Board) "rows" = some none
  c_World : Cls K A.World
  g_World : mg "World" = some (.ref A.World)
  n_World_board : PySem.W.findIn K (.ref A.World) "board" = some none
  n_World_shown : PySem.W.findIn K (.ref A.World) "shown" = some none
  n_World_standing : PySem.W.findIn K (.ref A.World) "standing" = some none
  n_World_won : PySem.W.findIn K (.ref A.World) "won" = some none
  n_World_steps : PySem.W.findIn K (.ref A.World) "steps" = some none
  f_law : ∃ f fd, Fun K "law" "law" s_law f fd ∧ mg "law" = some (.ref f)
  f_l_shepherd : ∃ f fd, Fun K "_law_shepherd" "_law_shepherd" s_l_shepherd f fd ∧ mg "_law_shepherd" = some (.ref f)
  f_l_crook : ∃ f fd, Fun K "_law_crook" "_law_crook" s_l_crook f fd ∧ mg "_law_crook" = some (.ref f)
  f_l_one : ∃ f fd, Fun K "_law_one" "_law_one" s_l_one f fd ∧ mg "_law_one" = some (.ref f)
  f_l_rows : ∃ f fd, Fun K "_law_rows" "_law_rows" s_l_rows f fd ∧ mg "_law_rows" = some (.ref f)
  f_l_played : ∃ f fd, Fun K "_law_played" "_law_played" s_l_played f fd ∧ mg "_law_played" = some (.ref f)
  f_l_sent : ∃ f fd, Fun K "_law_sent" "_law_sent" s_l_sent f fd ∧ mg "_law_sent" = some (.ref f)
  v_Board_init : ∃ f fd, Fun K "__init__" "Board.__init__" s_Board_init f fd ∧ Mk K A.Board f ∧ mg "Board" = some (.ref A.Board)
  f_is_within : ∃ f fd, Fun K "is_within" "is_within" s_is_within f fd ∧ mg "is_within" = some (.ref f)
  f_is_integer : ∃ f fd, Fun K "is_integer" "is_integer" s_is_integer f fd ∧ mg "is_integer" = some (.ref f)
  f_do_fit : ∃ f fd, Fun K "do_fit" "do_fit" s_do_fit f fd ∧ mg "do_fit" = some (.ref f)
  f_are_rows : ∃ f fd, Fun K "are_rows" "are_rows" s_are_rows f fd ∧ mg "are_rows" = some (.ref f)
  v_World_init : ∃ f fd, Fun K "__init__" "World.__init__" s_World_init f fd ∧ Mk K A.World f ∧ mg "World" = some (.ref A.World)
  f_need_board : ∃ f fd, FunD K "need_board" "need_board" (defArgs s_need_board) (defBody s_need_board) (defScope s_need_board) [.str "board"] [] f fd ∧ mg "need_board" = some (.ref f)
  f_need_hands : ∃ f fd, Fun K "need_hands" "need_hands" s_need_hands f fd ∧ mg "need_hands" = some (.ref f)
  v_World_enter : ∃ f fd, Fun K "enter" "World.enter" s_World_enter f fd ∧ Meth K A.World "enter" f
  f_need_number : ∃ f fd, Fun K "need_number" "need_number" s_need_number f fd ∧ mg "need_number" = some (.ref f)
  f_l_home : ∃ f fd, Fun K "_law_home" "_law_home" s_l_home f fd ∧ mg "_law_home" = some (.ref f)
  v_World_walkers : ∃ p f fd, Fun K "walkers" "World.walkers" s_World_walkers f fd ∧ PropOf K A.World "walkers" p f
  v_World_led : ∃ f fd, Fun K "led" "World.led" s_World_led f fd ∧ Meth K A.World "led" f
  v_World_need_out : ∃ f fd, Fun K "need_out" "World.need_out" s_World_need_out f fd ∧ Meth K A.World "need_out" f
  v_World_need_away : ∃ f fd, Fun K "need_away" "World.need_away" s_World_need_away f fd ∧ Meth K A.World "need_away" f
  v_World_sent_home : ∃ f fd, Fun K "sent_home" "World.sent_home" s_World_sent_home f fd ∧ Meth K A.World "sent_home" f
  v_World_sent : ∃ f fd, Fun K "sent" "World.sent" s_World_sent f fd ∧ Meth K A.World "sent" f
  v_World_take : ∃ f fd, Fun K "take" "World.take" s_World_take f fd ∧ Meth K A.World "take" f
  v_World_copy : ∃ f fd, Fun K "copy" "World.copy" s_World_copy f fd ∧ Meth K A.World "copy" f
  v_World_advance : ∃ f fd, Fun K "advance" "World.advance" s_World_advance f fd ∧ Meth K A.World "advance" f
  v_World_wins : ∃ p f fd, Fun K "wins" "World.wins" s_World_wins f fd ∧ PropOf K A.World "wins" p f
  v_World_hands : ∃ p f fd, Fun K "hands" "World.hands" s_World_hands f fd ∧ PropOf K A.World "hands" p f
  b_abs : mg "abs" = none
  b_all : mg "all" = none
  b_bool : mg "bool" = none
  b_enumerate : mg "enumerate" = none
  b_int : mg "int" = none
  b_isinstance : mg "isinstance" = none
  b_len : mg "len" = none
  b_list : mg "list" = none
  b_range : mg "range" = none
  b_tuple : mg "tuple" = none
  b_zip : mg "zip" = none
  k_MOST_HOMES : ∃ t, mg "MOST_HOMES" = some (.int 9 t)
  k_MOST_PLACES : ∃ t, mg "MOST_PLACES" = some (.int 60 t)
  k_MOST_ROW : ∃ t, mg "MOST_ROW" = some (.int 60 t)
  k_MOST_STEPS : ∃ t, mg "MOST_STEPS" = some (.int 10000 t)
  k_MOST_WALKERS : ∃ t, mg "MOST_WALKERS" = some (.int 200 t)
  s_Board : C8.InsC K A.Board
theorem txt_mk {K : PySem.W.Frag} {mg : Str → Option Value} {a_Board : Addr} {a_World : Addr}
    (c_Board : Cls K a_Board)
    (g_Board : mg "Board" = some (.ref a_Board))
    (n_Board_homes : PySem.W.findIn K (.ref a_Board) "homes" = some none)
    (n_Board_places : PySem.W.findIn K (.ref a_Board) "places" = some none)
    (n_Board_rows : PySem.W.findIn K (.ref a_Board) "rows" = some none)
    (c_World : Cls K a_World)
    (g_World : mg "World" = some (.ref a_World))
    (n_World_board : PySem.W.findIn K (.ref a_World) "board" = some none)
    (n_World_shown : PySem.W.findIn K (.ref a_World) "shown" = some none)
    (n_World_standing : PySem.W.findIn K (.ref a_World) "standing" = some none)
    (n_World_won : PySem.W.findIn K (.ref a_World) "won" = some none)
    (n_World_steps : PySem.W.findIn K (.ref a_World) "steps" = some none)
    (f_law : ∃ f fd, Fun K "law" "law" s_law f fd ∧ mg "law" = some (.ref f))
    (f_l_shepherd : ∃ f fd, Fun K "_law_shepherd" "_law_shepherd" s_l_shepherd f fd ∧ mg "_law_shepherd" = some (.ref f))
    (f_l_crook : ∃ f fd, Fun K "_law_crook" "_law_crook" s_l_crook f fd ∧ mg "_law_crook" = some (.ref f))
    (f_l_one : ∃ f fd, Fun K "_law_one" "_law_one" s_l_one f fd ∧ mg "_law_one" = some (.ref f))
    (f_l_rows : ∃ f fd, Fun K "_law_rows" "_law_rows" s_l_rows f fd ∧ mg "_law_rows" = some (.ref f))
    (f_l_played : ∃ f fd, Fun K "_law_played" "_law_played" s_l_played f fd ∧ mg "_law_played" = some (.ref f))
    (f_l_sent : ∃ f fd, Fun K "_law_sent" "_law_sent" s_l_sent f fd ∧ mg "_law_sent" = some (.ref f))
    (v_Board_init : ∃ f fd, Fun K "__init__" "Board.__init__" s_Board_init f fd ∧ Mk K a_Board f ∧ mg "Board" = some (.ref a_Board))
    (f_is_within : ∃ f fd, Fun K "is_within" "is_within" s_is_within f fd ∧ mg "is_within" = some (.ref f))
    (f_is_integer : ∃ f fd, Fun K "is_integer" "is_integer" s_is_integer f fd ∧ mg "is_integer" = some (.ref f))
    (f_do_fit : ∃ f fd, Fun K "do_fit" "do_fit" s_do_fit f fd ∧ mg "do_fit" = some (.ref f))
    (f_are_rows : ∃ f fd, Fun K "are_rows" "are_rows" s_are_rows f fd ∧ mg "are_rows" = some (.ref f))
    (v_World_init : ∃ f fd, Fun K "__init__" "World.__init__" s_World_init f fd ∧ Mk K a_World f ∧ mg "World" = some (.ref a_World))
    (f_need_board : ∃ f fd, FunD K "need_board" "need_board" (defArgs s_need_board) (defBody s_need_board) (defScope s_need_board) [.str "board"] [] f fd ∧ mg "need_board" = some (.ref f))
    (f_need_hands : ∃ f fd, Fun K "need_hands" "need_hands" s_need_hands f fd ∧ mg "need_hands" = some (.ref f))
    (v_World_enter : ∃ f fd, Fun K "enter" "World.enter" s_World_enter f fd ∧ Meth K a_World "enter" f)
    (f_need_number : ∃ f fd, Fun K "need_number" "need_number" s_need_number f fd ∧ mg "need_number" = some (.ref f))
    (f_l_home : ∃ f fd, Fun K "_law_home" "_law_home" s_l_home f fd ∧ mg "_law_home" = some (.ref f))
    (v_World_walkers : ∃ p f fd, Fun K "walkers" "World.walkers" s_World_walkers f fd ∧ PropOf K a_World "walkers" p f)
    (v_World_led : ∃ f fd, Fun K "led" "World.led" s_World_led f fd ∧ Meth K a_World "led" f)
    (v_World_need_out : ∃ f fd, Fun K "need_out" "World.need_out" s_World_need_out f fd ∧ Meth K a_World "need_out" f)
    (v_World_need_away : ∃ f fd, Fun K "need_away" "World.need_away" s_World_need_away f fd ∧ Meth K a_World "need_away" f)
    (v_World_sent_home : ∃ f fd, Fun K "sent_home" "World.sent_home" s_World_sent_home f fd ∧ Meth K a_World "sent_home" f)
    (v_World_sent : ∃ f fd, Fun K "sent" "World.sent" s_World_sent f fd ∧ Meth K a_World "sent" f)
    (v_World_take : ∃ f fd, Fun K "take" "World.take" s_World_take f fd ∧ Meth K a_World "take" f)
    (v_World_copy : ∃ f fd, Fun K "copy" "World.copy" s_World_copy f fd ∧ Meth K a_World "copy" f)
    (v_World_advance : ∃ f fd, Fun K "advance" "World.advance" s_World_advance f fd ∧ Meth K a_World "advance" f)
    (v_World_wins : ∃ p f fd, Fun K "wins" "World.wins" s_World_wins f fd ∧ PropOf K a_World "wins" p f)
    (v_World_hands : ∃ p f fd, Fun K "hands" "World.hands" s_World_hands f fd ∧ PropOf K a_World "hands" p f)
    (b_abs : mg "abs" = none)
    (b_all : mg "all" = none)
    (b_bool : mg "bool" = none)
    (b_enumerate : mg "enumerate" = none)
    (b_int : mg "int" = none)
    (b_isinstance : mg "isinstance" = none)
    (b_len : mg "len" = none)
    (b_list : mg "list" = none)
    (b_range : mg "range" = none)
    (b_tuple : mg "tuple" = none)
    (b_zip : mg "zip" = none)
    (k_MOST_HOMES : ∃ t, mg "MOST_HOMES" = some (.int 9 t))
    (k_MOST_PLACES : ∃ t, mg "MOST_PLACES" = some (.int 60 t))
    (k_MOST_ROW : ∃ t, mg "MOST_ROW" = some (.int 60 t))
    (k_MOST_STEPS : ∃ t, mg "MOST_STEPS" = some (.int 10000 t))
    (k_MOST_WALKERS : ∃ t, mg "MOST_WALKERS" = some (.int 200 t))
    (s_Board : C8.InsC K a_Board) :
    Txt K mg ⟨a_Board, a_World⟩ := ⟨c_Board, g_Board, n_Board_homes, n_Board_places, n_Board_rows, c_World, g_World, n_World_board, n_World_shown, n_World_standing, n_World_won, n_World_steps, f_law, f_l_shepherd, f_l_crook, f_l_one, f_l_rows, f_l_played, f_l_sent, v_Board_init, f_is_within, f_is_integer, f_do_fit, f_are_rows, v_World_init, f_need_board, f_need_hands, v_World_enter, f_need_number, f_l_home, v_World_walkers, v_World_led, v_World_need_out, v_World_need_away, v_World_sent_home, v_World_sent, v_World_take, v_World_copy, v_World_advance, v_World_wins, v_World_hands, b_abs, b_all, b_bool, b_enumerate, b_int, b_isinstance, b_len, b_list, b_range, b_tuple, b_zip, k_MOST_HOMES, k_MOST_PLACES, k_MOST_ROW, k_MOST_STEPS, k_MOST_WALKERS, s_Board⟩
section
variable {X : Cx} {A : Adr}
theorem pe_K_MOST_HOMES (T : Txt X.K X.mg A) {pos : Pos} (hg : Gl X "MOST_HOMES" := by rfl) : PE X (.Name "MOST_HOMES" pos) (tC (.int 9)) := by
  obtain ⟨t, h⟩ := T.k_MOST_HOMES
  exact pe_glob hg h ⟨t, rfl⟩
theorem pe_K_MOST_PLACES (T : Txt X.K X.mg A) {pos : Pos} (hg : Gl X "MOST_PLACES" := by rfl) : PE X (.Name "MOST_PLACES" pos) (tC (.int 60)) := by
  obtain ⟨t, h⟩ := T.k_MOST_PLACES
  exact pe_glob hg h ⟨t, rfl⟩
theorem pe_K_MOST_ROW (T : Txt X.K X.mg A) {pos : Pos} (hg : Gl X "MOST_ROW" := by rfl) : PE X (.Name "MOST_ROW" pos) (tC (.int 60)) := by
  obtain ⟨t, h⟩ := T.k_MOST_ROW
  exact pe_glob hg h ⟨t, rfl⟩
theorem pe_K_MOST_STEPS (T : Txt X.K X.mg A) {pos : Pos} (hg : Gl X "MOST_STEPS" := by rfl) : PE X (.Name "MOST_STEPS" pos) (tC (.int 10000)) := by
  obtain ⟨t, h⟩ := T.k_MOST_STEPS
  exact pe_glob hg h ⟨t, rfl⟩
theorem pe_K_MOST_WALKERS (T : Txt X.K X.mg A) {pos : Pos} (hg : Gl X "MOST_WALKERS" := by rfl) : PE X (.Name "MOST_WALKERS" pos) (tC (.int 200)) := by
  obtain ⟨t, h⟩ := T.k_MOST_WALKERS
  exact pe_glob hg h ⟨t, rfl⟩
end
end K94

end

section
set_option Elab.async false
set_option linter.all false
set_option maxRecDepth 100000
set_option maxHeartbeats 1000000
namespace K94
open PySem PySem.Spec PyProof.Rows L2 Nd
set_option hygiene false
local macro_rules | `(tactic| walk_at "hg") => `(tactic| first | assumption | exact C.get 0 rfl | exact C.get 1 rfl | exact C.get 2 rfl | exact C.get 3 rfl | exact C.get 4 rfl | exact C.get 5 rfl | exact C.get 6 rfl | exact C.get 7 rfl | exact C.get 8 rfl | exact C.get 9 rfl)
local macro_rules | `(tactic| walk_at "rd1") => `(tactic| first
  | with_reducible refine u_seq ?_ | with_reducible refine u_asg ?_ | ((with_reducible refine' u_var ?hv ?_); (case hv => exact rfl)) | with_reducible refine u_c ?_ | with_reducible refine u_op ?_ | with_reducible refine u_if ?_ | with_reducible refine u_ret ?_
  | with_reducible refine u_test ?_ | with_reducible refine u_tB ?_ | with_reducible refine u_and ?_ | with_reducible refine u_or ?_ | with_reducible refine u_not ?_ | with_reducible refine u_call ?_ | with_reducible refine u_cb ?_ | with_reducible refine u_cons ?_ | with_reducible refine u_nil ?_
  | with_reducible refine u_gname ?_ | with_reducible refine u_gcons ?_ | with_reducible refine u_gnil ?_ | with_reducible refine u_gsub ?_ | with_reducible refine u_lst ?_ | with_reducible refine u_tup ?_ | with_reducible refine u_un ?_ | with_reducible refine u_ifE ?_
  | with_reducible refine u_drop ?_ | with_reducible refine u_next ?_ | with_reducible refine u_retN ?_ | with_reducible refine u_tf ?_ | with_reducible refine u_fld ?_ | with_reducible refine u_gfld ?_ | with_reducible refine u_par ?_ | with_reducible refine u_meth ?_ | with_reducible refine u_prop ?_ | with_reducible refine u_make ?_
  | with_reducible refine u_bm ?_ | with_reducible refine u_bm0 ?_ | with_reducible refine u_sl ?_ | with_reducible refine u_noPart ?_ | with_reducible refine u_part ?_ | with_reducible refine u_chain ?_ | with_reducible refine u_andV ?_ | with_reducible refine u_orV ?_ | with_reducible refine u_notV ?_
  | with_reducible refine u_listRg ?_ | with_reducible refine u_rg1 ?_ | with_reducible refine u_lc2 ?_ | with_reducible refine u_enum ?_ | with_reducible refine u_zip ?_ | with_reducible refine u_for ?_ | with_reducible refine u_lc ?_ | with_reducible refine u_rng1 ?_ | with_reducible refine u_rng2 ?_ | with_reducible refine u_yes ?_ | with_reducible refine u_brk ?_ | with_reducible refine u_cont ?_
  | with_reducible refine r_add ?_ | with_reducible refine r_sub ?_ | with_reducible refine r_lt ?_ | with_reducible refine r_le ?_ | with_reducible refine r_gt ?_ | with_reducible refine r_ge ?_ | with_reducible refine r_eqI ?_ | with_reducible refine r_neI ?_ | with_reducible refine r_neg ?_ | with_reducible refine r_int ?_ | with_reducible refine r_intB ?_ | with_reducible refine r_abs ?_ | with_reducible refine r_isNi ?_ | with_reducible refine r_isNn ?_ | with_reducible refine r_isNr ?_ | with_reducible refine r_isNs ?_ | with_reducible refine r_notN ?_
  | ((with_reducible refine' r_ixL ?hs ?ha ?_); (case hs => exact SqL.of (by walk_at "hg")); (case ha => first | exact rfl | exact atI_nat (by assumption)))
  | ((with_reducible refine' r_ixT ?hs ?ha ?_); (case hs => exact SqT.of (by walk_at "hg")); (case ha => first | exact rfl | exact atI_nat (by assumption)))
  | ((with_reducible refine' r_len ?hs ?_); (case hs => exact SqL.of (by walk_at "hg")))
  | ((with_reducible refine' r_lenT ?hs ?_); (case hs => exact SqT.of (by walk_at "hg")))
  | ((with_reducible refine' r_mod ?c ?_); (case c => first | decide | omega)) | ((with_reducible refine' r_div ?c ?_); (case c => first | (constructor <;> decide) | (constructor <;> omega)))
  | ((with_reducible refine' r_mul ?c ?_); (case c => first | exact .inl ⟨by omega, by omega⟩ | exact .inr ⟨by omega, by omega⟩))
  | ((with_reducible refine' r_pow ?c ?_); (case c => exact ⟨by omega, by omega, by omega⟩))
  | with_reducible refine b_nT ?_ | with_reducible refine b_nF ?_ | with_reducible refine iteF ?_ | with_reducible refine iteT ?_
  | with_reducible refine k_blA ?_ | with_reducible refine k_int ?_ | with_reducible refine k_two ?_
  | ((with_reducible refine' k_size ?hn ?_); (case hn => exact Nat.le_of_ble_eq_true rfl))
  | ((with_reducible refine' k_fld ?ha ?c ?n ?hl ?_); (case ha => walk_at "hg"); (case c => walk_at "cls"); (case n => walk_at "att"); (case hl => exact rfl))
  | ((with_reducible refine' k_put ?ha ?c ?n ?hl ?_); (case ha => walk_at "hg"); (case c => walk_at "cls"); (case n => walk_at "att"); (case hl => first | decide | exact Nat.lt_of_lt_of_le (Nat.lt_succ_self _) (Nat.le_of_ble_eq_true rfl)))
  | ((with_reducible refine' k_meth ?ha ?hl ?_); (case ha => walk_at "hg"); (case hl => exact rfl))
  | ((with_reducible refine' k_prop ?ha ?_); (case ha => walk_at "hg")))
local macro_rules | `(tactic| walk_at "rd") => `(tactic| repeat walk_at "rd1")
local macro_rules | `(tactic| walk_at "cls") => `(tactic| first | exact T.c_Board | exact T.c_World)
local macro_rules | `(tactic| walk_at "att") => `(tactic| first | exact T.n_Board_homes | exact T.n_Board_places | exact T.n_Board_rows | exact T.n_World_board | exact T.n_World_shown | exact T.n_World_standing | exact T.n_World_won | exact T.n_World_steps)

theorem pow_ok {x a : Int} (h0 : 0 ≤ x) (h1 : x < 2147483648) (h2 : 0 ≤ a) (h3 : a < 4194304) : CPow (x * (2 * a + 5639) + 63667 * a * a + 41149) 3 := by
  have e1 : x * (2 * a + 5639) ≤ 2147483648 * 8394247 := Int.mul_le_mul (by omega) (by omega) (by omega) (by omega)
  have e2 : 0 ≤ x * (2 * a + 5639) := Int.mul_nonneg h0 (by omega)
  have e3 : 63667 * a * a ≤ (63667 * 4194304) * 4194304 := Int.mul_le_mul (by omega) (by omega) (by omega) (by omega)
  have e4 : 0 ≤ 63667 * a * a := Int.mul_nonneg (by omega) (by omega)
  exact ⟨by omega, by omega, by omega⟩
/-- a draw: some number below m; the counter grows by one at most -/
def sp_l_crook (K : PySem.W.Frag) (A : Adr) : Sp := fun vs H Q E => ∃ (b : Addr) (m : Int), vs = [.ref b, .int m] ∧ ∃ (c : Addr) (cells : List Int) (at_ lf : Int), H b = some (.lst [.ref c, .int at_, .int lf]) ∧ H c = some (.lst (cells.map V.int)) ∧ b ≠ c ∧
  cells.length ≤ 60 ∧ 0 ≤ at_ ∧ at_ < 4194304 ∧ 0 ≤ lf ∧ 1 ≤ m ∧ m < 1000000 ∧ ∀ d at' lf' H', 0 ≤ d → d < m → at_ ≤ at' → at' ≤ at_ + 1 → 0 ≤ lf' → Ret [b] H H' → H' b = some (.lst [.ref c, .int at', .int lf']) → Q (.int d) H'
section
variable {P : Program} {w : World} {K : PySem.W.Frag} {mg : Str → Option Value} {base : Heap} {A : Adr}
theorem ok_l_crook (T : Txt K mg A)  : Gd P w K mg base CX0 1 "_law_crook" ["_law_shepherd_here", "_law_many"] [] (sp_l_crook K A) := by
  obtain ⟨f, fd, F, hm⟩ := T.f_l_crook
  refine ⟨⟨f, fd, [], ?_, hm, F.kp, F.binds (ps := ["_law_shepherd_here", "_law_many"]) (fun _ _ _ _ _ _ us hl => match us, hl with | [_, _], _ => rfl), .nil⟩⟩
  refine F.ok sc_l_crook (fun vs H Q E h => by first | (obtain ⟨rfl, _⟩ := h; rfl) | (obtain ⟨_, rfl, _⟩ := h; rfl) | (obtain ⟨_, _, rfl, _⟩ := h; rfl) | (obtain ⟨_, _, _, rfl, _⟩ := h; rfl) | (obtain ⟨_, _, _, _, rfl, _⟩ := h; rfl) | (obtain ⟨_, _, _, _, _, rfl, _⟩ := h; rfl) | (obtain ⟨_, _, _, _, _, _, rfl, _⟩ := h; rfl) | (obtain ⟨_, _, _, _, _, _, _, rfl, _⟩ := h; rfl)) (fun cdv A' outer s H vs Q E hr h => ⟨_, (pss_cons (ps_if (pt_cmpR op_gtI (pe_ix (ix_seqK K) (pv 0) pe_int (fun _ _ => rfl)) pe_int (nomark _)) (pss_cons (ps_set (i := 5) sc_l_crook.nd rfl (.inl rfl) (pe_callTy call_intU (by rfl) T.b_int (by decide +kernel) (pa_cons (pe_ix (ix_seqK K) (pv 0) pe_int (fun _ _ => rfl)) pa_nil)))
      (pss_cons (ps_asg (pe_op op_divI (pv 5) (pv 1)) (pg_sub (pv 0) pe_int set_list))
      (pss_one (ps_ret (pe_op op_modI (pe_callTy call_intU (by rfl) T.b_int (by decide +kernel) (pa_cons (pv 5) pa_nil)) (pv 1)))))) pss_nil)
      (pss_cons (ps_set (i := 2) sc_l_crook.nd rfl (.inl rfl) (pe_ix (ix_seqK K) (pv 0) pe_int (fun _ _ => rfl)))
      (pss_cons (ps_asg (pe_op op_addU (pv 2) pe_int) (pg_sub (pv 0) pe_int set_list))
      (pss_cons (ps_set (i := 3) sc_l_crook.nd rfl (.inl rfl) (pe_op op_addU (pe_op op_mulU pe_int (pv 2)) pe_int))
      (pss_cons (ps_if (pt_cmpR (op_neK K hr.units) (pe_ix (ix_seqK K) (pv 0) pe_int (fun _ _ => rfl)) (pe_lst pa_nil) (nomark _)) (pss_one (ps_set (i := 3) sc_l_crook.nd rfl (.inl rfl) (pe_ix (ix_seqK K) (pe_ix (ix_seqK K) (pv 0) pe_int (fun _ _ => rfl)) (pe_op op_modI (pe_callTy call_intU (by rfl) T.b_int (by decide +kernel) (pa_cons (pv 2) pa_nil)) (pe_callB (call_lenK K) (by rfl) T.b_len PySem.boot_len (pa_cons (pe_ix (ix_seqK K) (pv 0) pe_int (fun _ _ => rfl)) pa_nil))) (fun _ _ => rfl)))) pss_nil)
      (pss_cons (ps_if (PW.pt (pw_and (pt_cmpR op_ltI (pv 2) (pe_callB (call_lenK K) (by rfl) T.b_len PySem.boot_len (pa_cons (pe_ix (ix_seqK K) (pv 0) pe_int (fun _ _ => rfl)) pa_nil)) (nomark _)) (pw_and1 (pt_cmpR op_geI (pe_callB call_absU (by rfl) T.b_abs (by decide +kernel) (pa_cons (pv 3) pa_nil)) (pe_op op_powI pe_int pe_int) (nomark _))))) (pss_cons (ps_set (i := 5) sc_l_crook.nd rfl (.inl rfl) (pe_op op_addU (pe_op op_mulU pe_int (pe_op op_subI (pe_callB call_absU (by rfl) T.b_abs (by decide +kernel) (pa_cons (pv 3) pa_nil)) (pe_op op_powI pe_int pe_int))) (pe_callTy call_intU (by rfl) T.b_int (by decide +kernel) (pa_cons (pe_cmpR op_ltI (pv 3) pe_int (nomark _)) pa_nil))))
      (pss_cons (ps_asg (pe_op op_divI (pv 5) (pv 1)) (pg_sub (pv 0) pe_int set_list))
      (pss_one (ps_ret (pe_op op_modI (pe_callTy call_intU (by rfl) T.b_int (by decide +kernel) (pa_cons (pv 5) pa_nil)) (pv 1)))))) pss_nil)
      (pss_cons (ps_set (i := 4) sc_l_crook.nd rfl (.inl rfl) (pe_op op_modI (pe_callTy call_intU (by rfl) T.b_int (by decide +kernel) (pa_cons (pe_op op_powI (pe_op op_addU (pe_op op_addU (pe_op op_modI (pe_callTy call_intU (by rfl) T.b_int (by decide +kernel) (pa_cons (pv 3) pa_nil)) pe_int) (pe_op op_mulU pe_int (pv 2))) pe_int) pe_int) pa_nil)) pe_int))
      (pss_cons (ps_set (i := 4) sc_l_crook.nd rfl (.inl rfl) (pe_op op_modI (pe_callTy call_intU (by rfl) T.b_int (by decide +kernel) (pa_cons (pe_op op_powI (pe_op op_addU (pe_op op_addU (pe_op op_mulU (pv 4) (pe_op op_addU (pe_op op_mulU pe_int (pv 2)) pe_int)) (pe_op op_mulU (pe_op op_mulU pe_int (pv 2)) (pv 2))) pe_int) pe_int) pa_nil)) pe_int))
      (pss_one (ps_ret (pe_op op_modI (pe_callTy call_intU (by rfl) T.b_int (by decide +kernel) (pa_cons (pe_op op_divI (pv 4) pe_int) pa_nil)) (pv 1)))))))))))), ?_⟩)
  obtain ⟨b, m, rfl, c, cells, at_, lf, hb, hc, hbc, hcl, ha0, ha1, hl0, hm1, hm2, k⟩ := h
  have C : Cur H [b] H [(b, .lst [.ref c, .int at_, .int lf]), (c, .lst (cells.map V.int))] := Cur.start (by simp [hbc]) (by simp [hb, hc])
  walk_at "rd"
  refine b_dec (fun h0 => ?_) (fun h0 => ?_)
  · walk_at "rd"
    refine r_setL (C.get 0 rfl) rfl ?_
    refine mod_c C 0 rfl (.inl (by simp)) fun H C => ?_
    walk_at "rd"
    have hq : (0 : Int) ≤ lf.fdiv m := by rw [Int.fdiv_eq_ediv_of_nonneg _ (by omega)]; exact Int.ediv_nonneg hl0 (by omega)
    exact k _ _ _ _ (Int.emod_nonneg _ (by omega)) (Int.emod_lt_of_pos _ (by omega)) (Int.le_refl _) (by omega) hq C.ret (C.get 0 rfl)
  · walk_at "rd"
    refine r_setL (C.get 0 rfl) rfl ?_
    refine mod_c C 0 rfl (.inl (by simp)) fun H C => ?_
    walk_at "rd"
    refine new_c C fun l0 H l00 C => ?_
    refine r_neL (ns := cells) (ms := []) (SqL.of (C.get 2 rfl)) (SqL.of (C.get 0 rfl)) ?_
    walk_at "rd"
    refine b_ndec (fun hne => ?_) (fun hne => ?_)
    · walk_at "rd"
      have hn0 : cells.length ≠ 0 := fun e => hne (List.eq_nil_of_length_eq_zero e)
      refine r_mod (by rw [len_map]; omega) ?_
      have hi0 : (0 : Int) ≤ at_ % ((cells.map V.int).length : Int) := Int.emod_nonneg _ (by rw [len_map]; omega)
      have hi1 : at_ % ((cells.map V.int).length : Int) < (cells.length : Int) := by rw [len_map]; exact Int.emod_lt_of_pos _ (by omega)
      refine r_ixL (SqL.of (C.get 2 rfl)) (atI_int hi0 hi1) ?_
      generalize cells[(at_ % ((cells.map V.int).length : Int)).toNat]'(by omega) = cell
      walk_at "rd"
      refine b_dec (fun h1 => ?_) (fun h1 => ?_)
      · walk_at "rd"
        refine b_dec (fun h2 => ?_) (fun h2 => ?_)
        · walk_at "rd"
          refine r_setL (C.get 1 rfl) rfl ?_
          refine mod_c C 1 rfl (.inl (by simp)) fun H C => ?_
          walk_at "rd"
          have hl : (0 : Int) ≤ 2 * ((if cell < 0 then -cell else cell) - 10 ^ (18 : Int).toNat) + (if decide (cell < 0) = true then 1 else 0) := by
            have : (10 : Int) ^ (18 : Int).toNat ≤ (if cell < 0 then -cell else cell) := h2
            split <;> omega
          refine k _ _ _ _ (Int.emod_nonneg _ (by omega)) (Int.emod_lt_of_pos _ (by omega)) (by omega) (Int.le_refl _) ?_ C.ret (C.get 1 rfl)
          rw [Int.fdiv_eq_ediv_of_nonneg _ (by omega)]
          exact Int.ediv_nonneg hl (by omega)
        · walk_at "rd"
          generalize hx : (cell % 2147483549 + 41149 * at_ + 8941) ^ (5 : Int).toNat % 2147483563 = x
          have x0 : 0 ≤ x := by rw [← hx]; exact Int.emod_nonneg _ (by omega)
          have x1 : x < 2147483648 := by rw [← hx]; exact Int.lt_trans (Int.emod_lt_of_pos _ (by omega)) (by omega)
          refine r_pow (pow_ok x0 x1 ha0 ha1) ?_
          walk_at "rd"
          exact k _ _ _ _ (Int.emod_nonneg _ (by omega)) (Int.emod_lt_of_pos _ (by omega)) (by omega) (Int.le_refl _) hl0 C.ret (C.get 1 rfl)
      · walk_at "rd"
        generalize hx : (cell % 2147483549 + 41149 * at_ + 8941) ^ (5 : Int).toNat % 2147483563 = x
        have x0 : 0 ≤ x := by rw [← hx]; exact Int.emod_nonneg _ (by omega)
        have x1 : x < 2147483648 := by rw [← hx]; exact Int.lt_trans (Int.emod_lt_of_pos _ (by omega)) (by omega)
        refine r_pow (pow_ok x0 x1 ha0 ha1) ?_
        walk_at "rd"
        exact k _ _ _ _ (Int.emod_nonneg _ (by omega)) (Int.emod_lt_of_pos _ (by omega)) (by omega) (Int.le_refl _) hl0 C.ret (C.get 1 rfl)
    · walk_at "rd"
      generalize 63667 * at_ + 8941 = cell
      refine b_dec (fun h1 => ?_) (fun h1 => ?_)
      · walk_at "rd"
        refine b_dec (fun h2 => ?_) (fun h2 => ?_)
        · walk_at "rd"
          refine r_setL (C.get 1 rfl) rfl ?_
          refine mod_c C 1 rfl (.inl (by simp)) fun H C => ?_
          walk_at "rd"
          have hl : (0 : Int) ≤ 2 * ((if cell < 0 then -cell else cell) - 10 ^ (18 : Int).toNat) + (if decide (cell < 0) = true then 1 else 0) := by
            have : (10 : Int) ^ (18 : Int).toNat ≤ (if cell < 0 then -cell else cell) := h2
            split <;> omega
          refine k _ _ _ _ (Int.emod_nonneg _ (by omega)) (Int.emod_lt_of_pos _ (by omega)) (by omega) (Int.le_refl _) ?_ C.ret (C.get 1 rfl)
          rw [Int.fdiv_eq_ediv_of_nonneg _ (by omega)]
          exact Int.ediv_nonneg hl (by omega)
        · walk_at "rd"
          generalize hx : (cell % 2147483549 + 41149 * at_ + 8941) ^ (5 : Int).toNat % 2147483563 = x
          have x0 : 0 ≤ x := by rw [← hx]; exact Int.emod_nonneg _ (by omega)
          have x1 : x < 2147483648 := by rw [← hx]; exact Int.lt_trans (Int.emod_lt_of_pos _ (by omega)) (by omega)
          refine r_pow (pow_ok x0 x1 ha0 ha1) ?_
          walk_at "rd"
          exact k _ _ _ _ (Int.emod_nonneg _ (by omega)) (Int.emod_lt_of_pos _ (by omega)) (by omega) (Int.le_refl _) hl0 C.ret (C.get 1 rfl)
      · walk_at "rd"
        generalize hx : (cell % 2147483549 + 41149 * at_ + 8941) ^ (5 : Int).toNat % 2147483563 = x
        have x0 : 0 ≤ x := by rw [← hx]; exact Int.emod_nonneg _ (by omega)
        have x1 : x < 2147483648 := by rw [← hx]; exact Int.lt_trans (Int.emod_lt_of_pos _ (by omega)) (by omega)
        refine r_pow (pow_ok x0 x1 ha0 ha1) ?_
        walk_at "rd"
        exact k _ _ _ _ (Int.emod_nonneg _ (by omega)) (Int.emod_lt_of_pos _ (by omega)) (by omega) (Int.le_refl _) hl0 C.ret (C.get 1 rfl)
end
end K94

end

section
set_option Elab.async false
set_option linter.all false
set_option maxRecDepth 100000
set_option maxHeartbeats 1000000
namespace K94
open PySem PySem.Spec PyProof.Rows L2 Nd
set_option hygiene false
local macro_rules | `(tactic| walk_at "hg") => `(tactic| first | assumption | exact C.get 0 rfl | exact C.get 1 rfl | exact C.get 2 rfl | exact C.get 3 rfl | exact C.get 4 rfl | exact C.get 5 rfl | exact C.get 6 rfl | exact C.get 7 rfl | exact C.get 8 rfl | exact C.get 9 rfl)
local macro_rules | `(tactic| walk_at "rd1") => `(tactic| first
  | with_reducible refine u_seq ?_ | with_reducible refine u_asg ?_ | ((with_reducible refine' u_var ?hv ?_); (case hv => exact rfl)) | with_reducible refine u_c ?_ | with_reducible refine u_op ?_ | with_reducible refine u_if ?_ | with_reducible refine u_ret ?_
  | with_reducible refine u_test ?_ | with_reducible refine u_tB ?_ | with_reducible refine u_and ?_ | with_reducible refine u_or ?_ | with_reducible refine u_not ?_ | with_reducible refine u_call ?_ | with_reducible refine u_cb ?_ | with_reducible refine u_cons ?_ | with_reducible refine u_nil ?_
  | with_reducible refine u_gname ?_ | with_reducible refine u_gcons ?_ | with_reducible refine u_gnil ?_ | with_reducible refine u_gsub ?_ | with_reducible refine u_lst ?_ | with_reducible refine u_tup ?_ | with_reducible refine u_un ?_ | with_reducible refine u_ifE ?_
  | with_reducible refine u_drop ?_ | with_reducible refine u_next ?_ | with_reducible refine u_retN ?_ | with_reducible refine u_tf ?_ | with_reducible refine u_fld ?_ | with_reducible refine u_gfld ?_ | with_reducible refine u_par ?_ | with_reducible refine u_meth ?_ | with_reducible refine u_prop ?_ | with_reducible refine u_make ?_
  | with_reducible refine u_bm ?_ | with_reducible refine u_bm0 ?_ | with_reducible refine u_sl ?_ | with_reducible refine u_noPart ?_ | with_reducible refine u_part ?_ | with_reducible refine u_chain ?_ | with_reducible refine u_andV ?_ | with_reducible refine u_orV ?_ | with_reducible refine u_notV ?_
  | with_reducible refine u_listRg ?_ | with_reducible refine u_rg1 ?_ | with_reducible refine u_lc2 ?_ | with_reducible refine u_enum ?_ | with_reducible refine u_zip ?_ | with_reducible refine u_for ?_ | with_reducible refine u_lc ?_ | with_reducible refine u_rng1 ?_ | with_reducible refine u_rng2 ?_ | with_reducible refine u_yes ?_ | with_reducible refine u_brk ?_ | with_reducible refine u_cont ?_
  | with_reducible refine r_add ?_ | with_reducible refine r_sub ?_ | with_reducible refine r_lt ?_ | with_reducible refine r_le ?_ | with_reducible refine r_gt ?_ | with_reducible refine r_ge ?_ | with_reducible refine r_eqI ?_ | with_reducible refine r_neI ?_ | with_reducible refine r_neg ?_ | with_reducible refine r_int ?_ | with_reducible refine r_intB ?_ | with_reducible refine r_abs ?_ | with_reducible refine r_isNi ?_ | with_reducible refine r_isNn ?_ | with_reducible refine r_isNr ?_ | with_reducible refine r_isNs ?_ | with_reducible refine r_notN ?_
  | ((with_reducible refine' r_ixL ?hs ?ha ?_); (case hs => exact SqL.of (by walk_at "hg")); (case ha => first | exact rfl | exact atI_nat (by assumption)))
  | ((with_reducible refine' r_ixT ?hs ?ha ?_); (case hs => exact SqT.of (by walk_at "hg")); (case ha => first | exact rfl | exact atI_nat (by assumption)))
  | ((with_reducible refine' r_len ?hs ?_); (case hs => exact SqL.of (by walk_at "hg")))
  | ((with_reducible refine' r_lenT ?hs ?_); (case hs => exact SqT.of (by walk_at "hg")))
  | ((with_reducible refine' r_mod ?c ?_); (case c => first | decide | omega)) | ((with_reducible refine' r_div ?c ?_); (case c => first | (constructor <;> decide) | (constructor <;> omega)))
  | ((with_reducible refine' r_mul ?c ?_); (case c => first | exact .inl ⟨by omega, by omega⟩ | exact .inr ⟨by omega, by omega⟩))
  | ((with_reducible refine' r_pow ?c ?_); (case c => exact ⟨by omega, by omega, by omega⟩))
  | with_reducible refine b_nT ?_ | with_reducible refine b_nF ?_ | with_reducible refine iteF ?_ | with_reducible refine iteT ?_
  | with_reducible refine k_blA ?_ | with_reducible refine k_int ?_ | with_reducible refine k_two ?_
  | ((with_reducible refine' k_size ?hn ?_); (case hn => exact Nat.le_of_ble_eq_true rfl))
  | ((with_reducible refine' k_fld ?ha ?c ?n ?hl ?_); (case ha => walk_at "hg"); (case c => walk_at "cls"); (case n => walk_at "att"); (case hl => exact rfl))
  | ((with_reducible refine' k_put ?ha ?c ?n ?hl ?_); (case ha => walk_at "hg"); (case c => walk_at "cls"); (case n => walk_at "att"); (case hl => first | decide | exact Nat.lt_of_lt_of_le (Nat.lt_succ_self _) (Nat.le_of_ble_eq_true rfl)))
  | ((with_reducible refine' k_meth ?ha ?hl ?_); (case ha => walk_at "hg"); (case hl => exact rfl))
  | ((with_reducible refine' k_prop ?ha ?_); (case ha => walk_at "hg")))
local macro_rules | `(tactic| walk_at "rd") => `(tactic| repeat walk_at "rd1")
local macro_rules | `(tactic| walk_at "cls") => `(tactic| first | exact T.c_Board | exact T.c_World)
local macro_rules | `(tactic| walk_at "att") => `(tactic| first | exact T.n_Board_homes | exact T.n_Board_places | exact T.n_Board_rows | exact T.n_World_board | exact T.n_World_shown | exact T.n_World_standing | exact T.n_World_won | exact T.n_World_steps)

def sp_is_integer (K : PySem.W.Frag) (A : Adr) : Sp := fun vs H Q E => ∃ i : Int, vs = [.int i] ∧ Q (.bl true) H
def sp_is_within (K : PySem.W.Frag) (A : Adr) : Sp := fun vs H Q E => ∃ i lo hi : Int, vs = [.int i, .int lo, .int hi] ∧ Q (.bl (decide (lo ≤ i) && decide (i ≤ hi))) H
def sp_need_number (K : PySem.W.Frag) (A : Adr) : Sp := fun vs H Q E => ∃ (i : Int) (s : Str) (lo hi : Int), vs = [.int i, .str s, .int lo, .int hi] ∧ lo ≤ i ∧ i ≤ hi ∧ Q .non H
/-- one of a list's -/
def sp_l_one (K : PySem.W.Frag) (A : Adr) : Sp := fun vs H Q E => ∃ (b l : Addr), vs = [.ref b, .ref l] ∧ ∃ (c : Addr) (cells : List Int) (at_ lf : Int) (ys : List Int), H b = some (.lst [.ref c, .int at_, .int lf]) ∧ H c = some (.lst (cells.map V.int)) ∧ b ≠ c ∧ H l = some (.lst (ys.map V.int)) ∧ b ≠ l ∧
  cells.length ≤ 60 ∧ 0 ≤ at_ ∧ at_ < 4194304 ∧ 0 ≤ lf ∧ 1 ≤ ys.length ∧ ys.length ≤ 1000 ∧ ∀ d at' lf' H', d ∈ ys → at_ ≤ at' → at' ≤ at_ + 1 → 0 ≤ lf' → Ret [b] H H' → H' b = some (.lst [.ref c, .int at', .int lf']) → Q (.int d) H'
def sp_l_shepherd (K : PySem.W.Frag) (A : Adr) : Sp := fun vs H Q E => ∃ (a : Addr), vs = [.ref a] ∧ ∃ ns : List Int, SqL K H a (ns.map V.int) ∧ ns.length ≤ 63 ∧
  ∀ (b c : Addr) (cells : List Int) (H' : Hp), Ret [] H H' → H b = none → H c = none → b ≠ c → H' b = some (.lst [.ref c, .int 0, .int 0]) → H' c = some (.lst (cells.map V.int)) → cells.length ≤ 60 → Q (.ref b) H'
section
variable {P : Program} {w : World} {K : PySem.W.Frag} {mg : Str → Option Value} {base : Heap} {A : Adr}
theorem ok_is_integer (T : Txt K mg A)  : Gd P w K mg base CX0 1 "is_integer" ["value"] [] (sp_is_integer K A) := by
  obtain ⟨f, fd, F, hm⟩ := T.f_is_integer
  refine ⟨⟨f, fd, [], ?_, hm, F.kp, F.binds (ps := ["value"]) (fun _ _ _ _ _ _ us hl => match us, hl with | [_], _ => rfl), .nil⟩⟩
  refine F.ok sc_is_integer (fun vs H Q E h => by first | (obtain ⟨rfl, _⟩ := h; rfl) | (obtain ⟨_, rfl, _⟩ := h; rfl) | (obtain ⟨_, _, rfl, _⟩ := h; rfl) | (obtain ⟨_, _, _, rfl, _⟩ := h; rfl) | (obtain ⟨_, _, _, _, rfl, _⟩ := h; rfl) | (obtain ⟨_, _, _, _, _, rfl, _⟩ := h; rfl) | (obtain ⟨_, _, _, _, _, _, rfl, _⟩ := h; rfl) | (obtain ⟨_, _, _, _, _, _, _, rfl, _⟩ := h; rfl)) (fun cdv A' outer s H vs Q E hr h => ⟨_, (pss_one (ps_ret (pe_and (pe_callB (call_isi1K K) (by rfl) T.b_isinstance (by decide +kernel) (pa_cons (pv 0) (pa_cons (pe_bltn (v := .ty "int") (by rfl) T.b_int (by decide +kernel) rfl) pa_nil))) (pe_one (pe_not (pe_callB (call_isi1K K) (by rfl) T.b_isinstance (by decide +kernel) (pa_cons (pv 0) (pa_cons (pe_bltn (v := .ty "bool") (by rfl) T.b_bool (by decide +kernel) rfl) pa_nil)))))))), ?_⟩)
  obtain ⟨i, rfl, k⟩ := h
  walk_at "rd"
  refine q_isInt ?_
  walk_at "rd"
  refine q_isBool ?_
  walk_at "rd"
  exact k
theorem ok_is_within (T : Txt K mg A) (G_is_integer : Gd P w K mg base CX0 1 "is_integer" ["value"] [] (sp_is_integer K A)) : Gd P w K mg base CX0 2 "is_within" ["value", "least", "most"] [] (sp_is_within K A) := by
  obtain ⟨f, fd, F, hm⟩ := T.f_is_within
  refine ⟨⟨f, fd, [], ?_, hm, F.kp, F.binds (ps := ["value", "least", "most"]) (fun _ _ _ _ _ _ us hl => match us, hl with | [_, _, _], _ => rfl), .nil⟩⟩
  refine F.ok sc_is_within (fun vs H Q E h => by first | (obtain ⟨rfl, _⟩ := h; rfl) | (obtain ⟨_, rfl, _⟩ := h; rfl) | (obtain ⟨_, _, rfl, _⟩ := h; rfl) | (obtain ⟨_, _, _, rfl, _⟩ := h; rfl) | (obtain ⟨_, _, _, _, rfl, _⟩ := h; rfl) | (obtain ⟨_, _, _, _, _, rfl, _⟩ := h; rfl) | (obtain ⟨_, _, _, _, _, _, rfl, _⟩ := h; rfl) | (obtain ⟨_, _, _, _, _, _, _, rfl, _⟩ := h; rfl)) (fun cdv A' outer s H vs Q E hr h => ⟨_, (pss_cons (ps_if (pt_not (pt_val (pe_callG G_is_integer (hr.mono (by decide)) (by rfl) pass0 (pa_cons (pv 0) pa_nil)))) (pss_one (ps_ret pe_bl)) pss_nil)
      (pss_one (ps_ret (pe_and (pe_or (pe_cmpR op_isNU (pv 1) pe_non (nomark _)) (pe_one (pe_cmpR op_leI (pv 1) (pv 0) (nomark _)))) (pe_one (pe_or (pe_cmpR op_isNU (pv 2) pe_non (nomark _)) (pe_one (pe_cmpR op_leI (pv 0) (pv 2) (nomark _))))))))), ?_⟩)
  obtain ⟨i, lo, hi, rfl, k⟩ := h
  walk_at "rd"
  refine ⟨i, rfl, ?_⟩
  walk_at "rd"
  by_cases h1 : lo ≤ i
  · rw [decide_eq_true h1] at k ⊢
    walk_at "rd"
    exact k
  · rw [decide_eq_false h1] at k ⊢
    walk_at "rd"
    exact k
theorem ok_need_number (T : Txt K mg A) (G_is_within : Gd P w K mg base CX0 2 "is_within" ["value", "least", "most"] [] (sp_is_within K A)) : Gd P w K mg base CX0 3 "need_number" ["value", "part", "least", "most"] [] (sp_need_number K A) := by
  obtain ⟨f, fd, F, hm⟩ := T.f_need_number
  refine ⟨⟨f, fd, [], ?_, hm, F.kp, F.binds (ps := ["value", "part", "least", "most"]) (fun _ _ _ _ _ _ us hl => match us, hl with | [_, _, _, _], _ => rfl), .nil⟩⟩
  refine F.ok sc_need_number (fun vs H Q E h => by first | (obtain ⟨rfl, _⟩ := h; rfl) | (obtain ⟨_, rfl, _⟩ := h; rfl) | (obtain ⟨_, _, rfl, _⟩ := h; rfl) | (obtain ⟨_, _, _, rfl, _⟩ := h; rfl) | (obtain ⟨_, _, _, _, rfl, _⟩ := h; rfl) | (obtain ⟨_, _, _, _, _, rfl, _⟩ := h; rfl) | (obtain ⟨_, _, _, _, _, _, rfl, _⟩ := h; rfl) | (obtain ⟨_, _, _, _, _, _, _, rfl, _⟩ := h; rfl)) (fun cdv A' outer s H vs Q E hr h => ⟨_, (pss_one (ps_if (pt_not (pt_val (pe_callG G_is_within (hr.mono (by decide)) (by rfl) pass0 (pa_cons (pv 0) (pa_cons (pv 2) (pa_cons (pv 3) pa_nil)))))) (pss_one ps_never) pss_nil)), ?_⟩)
  obtain ⟨i, s, lo, hi, rfl, h1, h2, k⟩ := h
  walk_at "rd"
  refine ⟨i, lo, hi, rfl, ?_⟩
  walk_at "rd"
  refine b_f (by simp [h1, h2]) ?_
  walk_at "rd"
  exact k
/-- a draw, out of what is held: the bailiff at place i, its cells at place j -/
theorem use_crook {H0 H : Hp} {S : List Addr} {L : List (Addr × HO)} {b c : Addr} {cells : List Int} {at_ lf m : Int} {Q : VK} {E : XK} (C : Cur H0 S H L) (i j : Nat) (hi : L[i]? = some (b, .lst [.ref c, .int at_, .int lf])) (hj : L[j]? = some (c, .lst (cells.map V.int))) (hij : i ≠ j)
    (mb : b ∈ S ∨ H0 b = none) (hcl : cells.length ≤ 60) (h0 : 0 ≤ at_) (h1 : at_ < 4194304) (hl : 0 ≤ lf) (m1 : 1 ≤ m) (m2 : m < 1000000)
    (k : ∀ d at' lf' H', 0 ≤ d → d < m → at_ ≤ at' → at' ≤ at_ + 1 → 0 ≤ lf' → Cur H0 S H' (L.set i (b, .lst [.ref c, .int at', .int lf'])) → Q (.int d) H') : sp_l_crook K A [.ref b, .int m] H Q E :=
  ⟨b, m, rfl, c, cells, at_, lf, C.get i hi, C.get j hj, C.ne i j hi hj hij, hcl, h0, h1, hl, m1, m2, fun d at' lf' H' a1 a2 a3 a4 a5 r e => k d at' lf' H' a1 a2 a3 a4 a5 (C.call1 i hi mb r e)⟩
theorem ok_l_one (T : Txt K mg A) (G_l_crook : Gd P w K mg base CX0 1 "_law_crook" ["_law_shepherd_here", "_law_many"] [] (sp_l_crook K A)) : Gd P w K mg base CX0 2 "_law_one" ["_law_shepherd_here", "_law_some"] [] (sp_l_one K A) := by
  obtain ⟨f, fd, F, hm⟩ := T.f_l_one
  refine ⟨⟨f, fd, [], ?_, hm, F.kp, F.binds (ps := ["_law_shepherd_here", "_law_some"]) (fun _ _ _ _ _ _ us hl => match us, hl with | [_, _], _ => rfl), .nil⟩⟩
  refine F.ok sc_l_one (fun vs H Q E h => by first | (obtain ⟨rfl, _⟩ := h; rfl) | (obtain ⟨_, rfl, _⟩ := h; rfl) | (obtain ⟨_, _, rfl, _⟩ := h; rfl) | (obtain ⟨_, _, _, rfl, _⟩ := h; rfl) | (obtain ⟨_, _, _, _, rfl, _⟩ := h; rfl) | (obtain ⟨_, _, _, _, _, rfl, _⟩ := h; rfl) | (obtain ⟨_, _, _, _, _, _, rfl, _⟩ := h; rfl) | (obtain ⟨_, _, _, _, _, _, _, rfl, _⟩ := h; rfl)) (fun cdv A' outer s H vs Q E hr h => ⟨_, (pss_one (ps_ret (pe_ix (ix_seqK K) (pv 1) (pe_callG G_l_crook (hr.mono (by decide)) (by rfl) pass0 (pa_cons (pv 0) (pa_cons (pe_callB (call_lenK K) (by rfl) T.b_len PySem.boot_len (pa_cons (pv 1) pa_nil)) pa_nil))) (fun _ _ => rfl)))), ?_⟩)
  obtain ⟨b, l, rfl, c, cells, at_, lf, ys, hb, hc, hbc, hl, hbl, hcl, ha0, ha1, hl0, hn1, hn2, k⟩ := h
  walk_at "rd"
  refine ⟨b, _, rfl, c, cells, at_, lf, hb, hc, hbc, hcl, ha0, ha1, hl0, by rw [len_map]; omega, by rw [len_map]; omega, fun d at' lf' H' d0 d1 a1 a2 a3 r e => ?_⟩
  rw [len_map] at d1
  have hl' : H' l = some (.lst (ys.map V.int)) := r.fr _ _ hl (by simpa using Ne.symm hbl)
  refine r_ixL (SqL.of hl') (atI_int d0 d1) ?_
  exact k _ _ _ _ (List.getElem_mem _) a1 a2 a3 r e
theorem ok_l_shepherd (T : Txt K mg A)  : Gd P w K mg base CX0 1 "_law_shepherd" ["_law_script"] [] (sp_l_shepherd K A) := by
  obtain ⟨f, fd, F, hm⟩ := T.f_l_shepherd
  refine ⟨⟨f, fd, [], ?_, hm, F.kp, F.binds (ps := ["_law_script"]) (fun _ _ _ _ _ _ us hl => match us, hl with | [_], _ => rfl), .nil⟩⟩
  refine F.ok sc_l_shepherd (fun vs H Q E h => by first | (obtain ⟨rfl, _⟩ := h; rfl) | (obtain ⟨_, rfl, _⟩ := h; rfl) | (obtain ⟨_, _, rfl, _⟩ := h; rfl) | (obtain ⟨_, _, _, rfl, _⟩ := h; rfl) | (obtain ⟨_, _, _, _, rfl, _⟩ := h; rfl) | (obtain ⟨_, _, _, _, _, rfl, _⟩ := h; rfl) | (obtain ⟨_, _, _, _, _, _, rfl, _⟩ := h; rfl) | (obtain ⟨_, _, _, _, _, _, _, rfl, _⟩ := h; rfl)) (fun cdv A' outer s H vs Q E hr h => ⟨_, (pss_one (ps_ret (pe_lst (pa_cons (pe_lc (own := [("_law_cell", 1)]) rfl sc_l_shepherd.nd (pi_seqK K (pe_slice (sl_listK K) (pv 0) po_none (po_some pe_int))) (blkOk_by (N := N_l_shepherd) (sc := defScope s_l_shepherd) (own := [("_law_cell", 1)]) (by decide +kernel)) (fun _ _ _ _ _ => (pg_name (i := 1) sc_l_shepherd.nd rfl (by first | exact .inl rfl | exact .inr rfl))) (fun _ _ _ _ _ => pts_nil) (fun _ _ _ _ _ => (pe_callTy call_intU (by rfl) T.b_int (by decide +kernel) (pa_cons (pv 1) pa_nil)))) (pa_cons pe_int (pa_cons pe_int pa_nil)))))), ?_⟩)
  obtain ⟨a, rfl, ns, hS, hn, k⟩ := h
  have C : Cur H [] H [] := Cur.start (by simp) (by simp)
  walk_at "rd"
  refine u_sseqL ?_
  walk_at "rd"
  refine r_slL hS ?_
  refine new_c C fun l1 H1 l10 C => ?_
  refine k_seqL (SqL.of (C.get 0 rfl)) ?_
  rw [cut_to (by decide), ← List.map_take] at C
  generalize hcs : ns.take (60 : Int).toNat = cs at C
  have hcl : cs.length ≤ 60 := by rw [← hcs, List.length_take]; exact Nat.min_le_left _ _
  refine lc_l (xs := cs.map V.int) C (fun D i H' => Cur H [] H' [(D, .lst ((cs.take i).map V.int)), (l1, .lst (cs.map V.int))]) (fun D H1 D0 C => C) (fun D i H hi C => SqL.of (C.get 1 rfl)) (fun D i x H' D0 hx C => ?_) (fun D H' D0 C => ?_)
  · obtain ⟨n, hn1, rfl⟩ := int_of hx
    walk_at "rd"
    refine ⟨rfl, ?_⟩
    walk_at "rd"
    refine k_acc (C.get 0 rfl) (by rw [len_map, List.length_take]; omega) ?_
    refine mod_c C 0 rfl (.inr D0) fun H C => ?_
    rw [take_one hn1, List.map_append]
    exact C
  · rw [len_map, List.take_length] at C
    walk_at "rd"
    refine new_c C fun b H1 b0 C => ?_
    exact k b D cs H1 C.ret b0 D0 (C.ne 0 1 rfl rfl (by decide)) (C.get 0 rfl) (C.get 1 rfl) hcl
end
end K94

end

section
set_option Elab.async false
set_option linter.all false
set_option maxRecDepth 100000
set_option maxHeartbeats 1000000
namespace K94
open PySem PySem.Spec PyProof.Rows L2 Nd M94
set_option hygiene false
local macro_rules | `(tactic| walk_at "hg") => `(tactic| first | assumption | exact C.get 0 rfl | exact C.get 1 rfl | exact C.get 2 rfl | exact C.get 3 rfl | exact C.get 4 rfl | exact C.get 5 rfl | exact C.get 6 rfl | exact C.get 7 rfl | exact C.get 8 rfl | exact C.get 9 rfl)
local macro_rules | `(tactic| walk_at "rd1") => `(tactic| first
  | with_reducible refine u_seq ?_ | with_reducible refine u_asg ?_ | ((with_reducible refine' u_var ?hv ?_); (case hv => exact rfl)) | with_reducible refine u_c ?_ | with_reducible refine u_op ?_ | with_reducible refine u_if ?_ | with_reducible refine u_ret ?_
  | with_reducible refine u_test ?_ | with_reducible refine u_tB ?_ | with_reducible refine u_and ?_ | with_reducible refine u_or ?_ | with_reducible refine u_not ?_ | with_reducible refine u_call ?_ | with_reducible refine u_cb ?_ | with_reducible refine u_cons ?_ | with_reducible refine u_nil ?_
  | with_reducible refine u_gname ?_ | with_reducible refine u_gcons ?_ | with_reducible refine u_gnil ?_ | with_reducible refine u_gsub ?_ | with_reducible refine u_lst ?_ | with_reducible refine u_tup ?_ | with_reducible refine u_un ?_ | with_reducible refine u_ifE ?_
  | with_reducible refine u_drop ?_ | with_reducible refine u_next ?_ | with_reducible refine u_retN ?_ | with_reducible refine u_tf ?_ | with_reducible refine u_fld ?_ | with_reducible refine u_gfld ?_ | with_reducible refine u_par ?_ | with_reducible refine u_meth ?_ | with_reducible refine u_prop ?_ | with_reducible refine u_make ?_
  | with_reducible refine u_bm ?_ | with_reducible refine u_bm0 ?_ | with_reducible refine u_sl ?_ | with_reducible refine u_noPart ?_ | with_reducible refine u_part ?_ | with_reducible refine u_chain ?_ | with_reducible refine u_andV ?_ | with_reducible refine u_orV ?_ | with_reducible refine u_notV ?_
  | with_reducible refine u_listRg ?_ | with_reducible refine u_rg1 ?_ | with_reducible refine u_lc2 ?_ | with_reducible refine u_enum ?_ | with_reducible refine u_zip ?_ | with_reducible refine u_for ?_ | with_reducible refine u_lc ?_ | with_reducible refine u_rng1 ?_ | with_reducible refine u_rng2 ?_ | with_reducible refine u_yes ?_ | with_reducible refine u_brk ?_ | with_reducible refine u_cont ?_
  | with_reducible refine r_add ?_ | with_reducible refine r_sub ?_ | with_reducible refine r_lt ?_ | with_reducible refine r_le ?_ | with_reducible refine r_gt ?_ | with_reducible refine r_ge ?_ | with_reducible refine r_eqI ?_ | with_reducible refine r_neI ?_ | with_reducible refine r_neg ?_ | with_reducible refine r_int ?_ | with_reducible refine r_intB ?_ | with_reducible refine r_abs ?_ | with_reducible refine r_isNi ?_ | with_reducible refine r_isNn ?_ | with_reducible refine r_isNr ?_ | with_reducible refine r_isNs ?_ | with_reducible refine r_notN ?_
  | ((with_reducible refine' r_ixL ?hs ?ha ?_); (case hs => exact SqL.of (by walk_at "hg")); (case ha => first | exact rfl | exact atI_nat (by assumption)))
  | ((with_reducible refine' r_ixT ?hs ?ha ?_); (case hs => exact SqT.of (by walk_at "hg")); (case ha => first | exact rfl | exact atI_nat (by assumption)))
  | ((with_reducible refine' r_len ?hs ?_); (case hs => exact SqL.of (by walk_at "hg")))
  | ((with_reducible refine' r_lenT ?hs ?_); (case hs => exact SqT.of (by walk_at "hg")))
  | ((with_reducible refine' r_mod ?c ?_); (case c => first | decide | omega)) | ((with_reducible refine' r_div ?c ?_); (case c => first | (constructor <;> decide) | (constructor <;> omega)))
  | ((with_reducible refine' r_mul ?c ?_); (case c => first | exact .inl ⟨by omega, by omega⟩ | exact .inr ⟨by omega, by omega⟩))
  | ((with_reducible refine' r_pow ?c ?_); (case c => exact ⟨by omega, by omega, by omega⟩))
  | with_reducible refine b_nT ?_ | with_reducible refine b_nF ?_ | with_reducible refine iteF ?_ | with_reducible refine iteT ?_
  | with_reducible refine k_blA ?_ | with_reducible refine k_int ?_ | with_reducible refine k_two ?_
  | ((with_reducible refine' k_size ?hn ?_); (case hn => exact Nat.le_of_ble_eq_true rfl))
  | ((with_reducible refine' k_fld ?ha ?c ?n ?hl ?_); (case ha => walk_at "hg"); (case c => walk_at "cls"); (case n => walk_at "att"); (case hl => exact rfl))
  | ((with_reducible refine' k_put ?ha ?c ?n ?hl ?_); (case ha => walk_at "hg"); (case c => walk_at "cls"); (case n => walk_at "att"); (case hl => first | decide | exact Nat.lt_of_lt_of_le (Nat.lt_succ_self _) (Nat.le_of_ble_eq_true rfl)))
  | ((with_reducible refine' k_meth ?ha ?hl ?_); (case ha => walk_at "hg"); (case hl => exact rfl))
  | ((with_reducible refine' k_prop ?ha ?_); (case ha => walk_at "hg")))
local macro_rules | `(tactic| walk_at "rd") => `(tactic| repeat walk_at "rd1")
local macro_rules | `(tactic| walk_at "cls") => `(tactic| first | exact T.c_Board | exact T.c_World)
local macro_rules | `(tactic| walk_at "att") => `(tactic| first | exact T.n_Board_homes | exact T.n_Board_places | exact T.n_Board_rows | exact T.n_World_board | exact T.n_World_shown | exact T.n_World_standing | exact T.n_World_won | exact T.n_World_steps)

/-- rows as lists at ads -/
def RowsAt (H : Hp) (ads : List Addr) (R : Rows) : Prop := ads.length = R.length ∧ ∀ i a, ads[i]? = some a → H a = some (.lst ((row R i).map V.int))
theorem RowsAt.to {H H' : Hp} {S : List Addr} {ads : List Addr} {R : Rows} (h : RowsAt H ads R) (r : Ret S H H') (n : ∀ a ∈ ads, a ∉ S) : RowsAt H' ads R :=
  ⟨h.1, fun i a e => r.fr _ _ (h.2 i a e) (n a (List.mem_of_getElem? e))⟩
def LenOk (R : Rows) : Prop := ∀ p, p < R.length → 1 ≤ (row R p).length ∧ (row R p).length ≤ 1000
theorem refs_at {ads : List Addr} {i : Int} {a : Addr} (h0 : 0 ≤ i) (h : ads[i.toNat]? = some a) : atI (ads.map V.ref) i = some (.ref a) := atI_of h0 (by rw [List.getElem?_map, h]; rfl)
def sp_l_sent (K : PySem.W.Frag) (A : Adr) : Sp := fun vs H Q E => ∃ (r h : Addr) (p : Int), vs = [.ref r, .ref h, .int p] ∧ ∃ (ads : List Addr) (R : Rows) (hs : List Int), H r = some (.lst (ads.map V.ref)) ∧ RowsAt H ads R ∧ H h = some (.lst (hs.map V.int)) ∧ h ≠ r ∧ h ∉ ads ∧
  0 ≤ p ∧ p.toNat < R.length ∧ HandsOk R hs ∧ LenOk R ∧ ∀ H', Ret [h] H H' → H' h = some (.lst ((nxt R hs p.toNat).map V.int)) → Q (.int (ent R hs p.toNat)) H'
def sp_l_played (K : PySem.W.Frag) (A : Adr) : Sp := fun vs H Q E => ∃ (r h : Addr) (x : Int), vs = [.ref r, .ref h, .int x, .int 10000] ∧ ∃ (ads : List Addr) (R : Rows) (hs : List Int) (m : Nat) (rk gd : Nat → Nat), H r = some (.lst (ads.map V.ref)) ∧ RowsAt H ads R ∧ H h = some (.lst (hs.map V.int)) ∧ h ≠ r ∧ h ∉ ads ∧
  XOk R m x ∧ HandsOk R hs ∧ Good R m rk gd ∧ ∀ t H', Ret [h] H H' → H t = none → H' t = some (.tup [.int (play R 10000 hs x).2.1, .int (play R 10000 hs x).2.2]) → H' h = some (.lst ((play R 10000 hs x).1.map V.int)) → Q (.ref t) H'
theorem getD_get {l : List Int} {i : Nat} (h : i < l.length) : l[i] = l.getD i 0 := by rw [List.getD_eq_getElem?_getD, List.getElem?_eq_getElem h]; rfl
theorem lenOk_of {R : Rows} {m : Nat} {rk gd : Nat → Nat} (G : Good R m rk gd) : LenOk R := fun p hp => ⟨(G.le4 p hp).1, by have := (G.le4 p hp).2; omega⟩
section
variable {P : Program} {w : World} {K : PySem.W.Frag} {mg : Str → Option Value} {base : Heap} {A : Adr}
theorem ok_l_sent (T : Txt K mg A)  : Gd P w K mg base CX0 1 "_law_sent" ["_law_rows_here", "_law_hands", "_law_place"] [] (sp_l_sent K A) := by
  obtain ⟨f, fd, F, hm⟩ := T.f_l_sent
  refine ⟨⟨f, fd, [], ?_, hm, F.kp, F.binds (ps := ["_law_rows_here", "_law_hands", "_law_place"]) (fun _ _ _ _ _ _ us hl => match us, hl with | [_, _, _], _ => rfl), .nil⟩⟩
  refine F.ok sc_l_sent (fun vs H Q E h => by first | (obtain ⟨rfl, _⟩ := h; rfl) | (obtain ⟨_, rfl, _⟩ := h; rfl) | (obtain ⟨_, _, rfl, _⟩ := h; rfl) | (obtain ⟨_, _, _, rfl, _⟩ := h; rfl) | (obtain ⟨_, _, _, _, rfl, _⟩ := h; rfl) | (obtain ⟨_, _, _, _, _, rfl, _⟩ := h; rfl) | (obtain ⟨_, _, _, _, _, _, rfl, _⟩ := h; rfl) | (obtain ⟨_, _, _, _, _, _, _, rfl, _⟩ := h; rfl)) (fun cdv A' outer s H vs Q E hr h => ⟨_, (pss_cons (ps_set (i := 3) sc_l_sent.nd rfl (.inl rfl) (pe_ix (ix_seqK K) (pe_ix (ix_seqK K) (pv 0) (pv 2) (fun _ _ => rfl)) (pe_ix (ix_seqK K) (pv 1) (pv 2) (fun _ _ => rfl)) (fun _ _ => rfl)))
      (pss_cons (ps_asg (pe_op op_modI (pe_callTy call_intU (by rfl) T.b_int (by decide +kernel) (pa_cons (pe_op op_addU (pe_ix (ix_seqK K) (pv 1) (pv 2) (fun _ _ => rfl)) pe_int) pa_nil)) (pe_callB (call_lenK K) (by rfl) T.b_len PySem.boot_len (pa_cons (pe_ix (ix_seqK K) (pv 0) (pv 2) (fun _ _ => rfl)) pa_nil))) (pg_sub (pv 1) (pv 2) set_list))
      (pss_one (ps_ret (pv 3))))), ?_⟩)
  obtain ⟨r, ha, p, rfl, ads, R, hs, hr', hR, hh, hhr, hha, p0, p1, ok, lk, k⟩ := h
  have C : Cur H [ha] H [(ha, .lst (hs.map V.int)), (r, .lst (ads.map V.ref))] := Cur.start (by simp [hhr]) (by simp [hh, hr'])
  obtain ⟨h0, h1⟩ := ok.2 _ p1
  have hpl : p < (hs.length : Int) := by rw [ok.1]; omega
  have hd : hs.getD p.toNat 0 = hs[p.toNat]'(by omega) := (getD_get (by omega)).symm
  obtain ⟨a, hja⟩ : ∃ a, ads[p.toNat]? = some a := ⟨_, List.getElem?_eq_getElem (by rw [hR.1]; exact p1)⟩
  have haR := hR.2 _ _ hja
  have hane : a ≠ ha := fun e => hha (e ▸ List.mem_of_getElem? hja)
  walk_at "rd"
  refine r_ixL (SqL.of (C.get 1 rfl)) (refs_at p0 hja) ?_
  walk_at "rd"
  refine r_ixL (SqL.of (C.get 0 rfl)) (atI_int p0 hpl) ?_
  rw [← hd]
  refine r_ixL (SqL.of haR) (atI_int h0 h1) ?_
  have he : (row R p.toNat)[(hs.getD p.toNat 0).toNat]'(by omega) = ent R hs p.toNat := getD_get (by omega)
  rw [he]
  walk_at "rd"
  refine r_ixL (SqL.of (C.get 0 rfl)) (atI_int p0 hpl) ?_
  rw [← hd]
  walk_at "rd"
  refine r_ixL (SqL.of (C.get 1 rfl)) (refs_at p0 hja) ?_
  walk_at "rd"
  have hl := (lk _ p1).1
  refine r_mod (by rw [len_map]; omega) ?_
  walk_at "rd"
  refine r_setL (C.get 0 rfl) (ixN_of p0 (by rw [len_map]; exact hpl)) ?_
  refine mod_c C 0 rfl (.inl (by simp)) fun H' C => ?_
  walk_at "rd"
  refine k H' C.ret ?_
  rw [C.get 0 rfl, len_map, ← List.map_set]
  rfl
theorem ok_l_played (T : Txt K mg A) (G_l_sent : Gd P w K mg base CX0 1 "_law_sent" ["_law_rows_here", "_law_hands", "_law_place"] [] (sp_l_sent K A)) : Gd P w K mg base CX0 2 "_law_played" ["_law_rows_here", "_law_hands", "_law_place", "_law_most"] [] (sp_l_played K A) := by
  obtain ⟨f, fd, F, hm⟩ := T.f_l_played
  refine ⟨⟨f, fd, [], ?_, hm, F.kp, F.binds (ps := ["_law_rows_here", "_law_hands", "_law_place", "_law_most"]) (fun _ _ _ _ _ _ us hl => match us, hl with | [_, _, _, _], _ => rfl), .nil⟩⟩
  refine F.ok sc_l_played (fun vs H Q E h => by first | (obtain ⟨rfl, _⟩ := h; rfl) | (obtain ⟨_, rfl, _⟩ := h; rfl) | (obtain ⟨_, _, rfl, _⟩ := h; rfl) | (obtain ⟨_, _, _, rfl, _⟩ := h; rfl) | (obtain ⟨_, _, _, _, rfl, _⟩ := h; rfl) | (obtain ⟨_, _, _, _, _, rfl, _⟩ := h; rfl) | (obtain ⟨_, _, _, _, _, _, rfl, _⟩ := h; rfl) | (obtain ⟨_, _, _, _, _, _, _, rfl, _⟩ := h; rfl)) (fun cdv A' outer s H vs Q E hr h => ⟨_, (pss_cons (ps_set (i := 4) sc_l_played.nd rfl (.inl rfl) pe_int)
      (pss_cons (ps_while PassesOwn.never (PW.pt (pw_and (pt_cmpR op_ltI (pv 2) (pe_callB (call_lenK K) (by rfl) T.b_len PySem.boot_len (pa_cons (pv 0) pa_nil)) (nomark _)) (pw_and1 (pt_cmpR op_ltI (pv 4) (pv 3) (nomark _))))) (pss_one (ps_par (i := 2) (j := 4) (by rfl) sc_l_played.nd rfl rfl (by decide) rfl rfl (pa_cons (pe_callG G_l_sent (hr.mono (by decide)) (by rfl) pass0 (pa_cons (pv 0) (pa_cons (pv 1) (pa_cons (pv 2) pa_nil)))) (pa_cons (pe_op op_addU (pv 4) pe_int) pa_nil)) (by rfl))))
      (pss_one (ps_ret (pe_tup (pa_cons (pv 2) (pa_cons (pv 4) pa_nil))))))), ?_⟩)
  obtain ⟨r, ha, x, rfl, ads, R, hs, m, rk, gd, hr', hR, hh, hhr, hha, hx, ok, G, k⟩ := h
  have C : Cur H [ha] H [(ha, .lst (hs.map V.int)), (r, .lst (ads.map V.ref))] := Cur.start (by simp [hhr]) (by simp [hh, hr'])
  walk_at "rd"
  refine u_while (fun n σ H' => ∃ (hs' : List Int) (x' : Int) (j : Nat), n + j = 10000 ∧ σ = [some (.ref r), some (.ref ha), some (.int x'), some (.int 10000), some (.int j)] ∧ Cur H [ha] H' [(ha, .lst (hs'.map V.int)), (r, .lst (ads.map V.ref))] ∧ RowsAt H' ads R ∧ XOk R m x' ∧ HandsOk R hs' ∧
    (play R 10000 hs x).1 = (play R n hs' x').1 ∧ (play R 10000 hs x).2.1 = (play R n hs' x').2.1 ∧ (play R 10000 hs x).2.2 = (play R n hs' x').2.2 + j) (m0 := 10000) ⟨hs, x, 0, rfl, rfl, C, hR, hx, ok, rfl, rfl, rfl⟩ ?_
  rintro n σ H' ⟨hs', x', j, hnj, rfl, C, hR, hx, ok, e1, e2, e3⟩
  have fin : n = 0 ∨ (R.length : Int) ≤ x' → play R n hs' x' = (hs', x', 0) := fun h => by
    rcases h with h | h
    · rw [h]; rfl
    · exact play_out h
  have stop : n = 0 ∨ (R.length : Int) ≤ x' → (tRet (tTup (tCons (tVar 2) (tCons (tVar 4) tNil)))) { nx := fun x H' => Q V.non H', rt := Q } [some (.ref r), some (.ref ha), some (.int x'), some (.int 10000), some (.int j)] H' := fun h => by
    rw [fin h] at e1 e2 e3
    walk_at "rd"
    refine new_c C fun t H2 t0 C => ?_
    refine k t H2 C.ret t0 ?_ ?_
    · rw [e2, e3, C.get 0 rfl]
      show _ = some (HO.tup [.int x', .int ((0 + j : Nat) : Int)])
      rw [Nat.zero_add]
    · rw [e1]; exact C.get 1 rfl
  walk_at "rd"
  rw [show ((ads.map V.ref).length : Int) = (R.length : Int) by rw [List.length_map, hR.1]]
  refine b_dec (fun hlt => ?_) (fun hge => ?_)
  · walk_at "rd"
    refine b_dec (fun hj => ?_) (fun hj => ?_)
    · obtain ⟨n, rfl⟩ : ∃ k, n = k + 1 := ⟨n - 1, by omega⟩
      have hxn : x'.toNat < R.length := by have := hx.1; omega
      refine wh_b ?_
      walk_at "rd"
      refine ⟨r, ha, x', rfl, ads, R, hs', C.get 1 rfl, hR, C.get 0 rfl, hhr, hha, hx.1, hxn, ok, lenOk_of G, fun H2 r2 h2 => ?_⟩
      have C2 := C.call1 0 rfl (.inl (by simp)) r2 h2
      walk_at "rd"
      refine ⟨n, Nat.lt_succ_self _, nxt R hs' x'.toNat, ent R hs' x'.toNat, j + 1, by omega, rfl, C2, hR.to r2 (fun a ham => fun z => hha (List.mem_singleton.mp z ▸ ham)), G.ents _ hxn _ (ent_mem ok hxn), nxt_ok ok hxn (G.le4 _ hxn).1, ?_⟩
      rw [play_in hlt] at e1 e2 e3
      exact ⟨e1, e2, by rw [e3]; show (play R n (nxt R hs' x'.toNat) (ent R hs' x'.toNat)).2.2 + 1 + j = _; omega⟩
    · exact stop (.inl (by omega))
  · (with_reducible refine iteF ?_)
    exact stop (.inr (by omega))
end
end K94

end

section
set_option Elab.async false
set_option linter.all false
set_option maxRecDepth 100000
set_option maxHeartbeats 1000000
namespace K94
open PySem PySem.Spec PyProof.Rows L2 Nd M94
set_option hygiene false
local macro_rules | `(tactic| walk_at "hg") => `(tactic| first | assumption | exact C.get 0 rfl | exact C.get 1 rfl | exact C.get 2 rfl | exact C.get 3 rfl | exact C.get 4 rfl | exact C.get 5 rfl | exact C.get 6 rfl | exact C.get 7 rfl | exact C.get 8 rfl | exact C.get 9 rfl)
local macro_rules | `(tactic| walk_at "rd1") => `(tactic| first
  | with_reducible refine u_seq ?_ | with_reducible refine u_asg ?_ | ((with_reducible refine' u_var ?hv ?_); (case hv => exact rfl)) | with_reducible refine u_c ?_ | with_reducible refine u_op ?_ | with_reducible refine u_if ?_ | with_reducible refine u_ret ?_
  | with_reducible refine u_test ?_ | with_reducible refine u_tB ?_ | with_reducible refine u_and ?_ | with_reducible refine u_or ?_ | with_reducible refine u_not ?_ | with_reducible refine u_call ?_ | with_reducible refine u_cb ?_ | with_reducible refine u_cons ?_ | with_reducible refine u_nil ?_
  | with_reducible refine u_gname ?_ | with_reducible refine u_gcons ?_ | with_reducible refine u_gnil ?_ | with_reducible refine u_gsub ?_ | with_reducible refine u_lst ?_ | with_reducible refine u_tup ?_ | with_reducible refine u_un ?_ | with_reducible refine u_ifE ?_
  | with_reducible refine u_drop ?_ | with_reducible refine u_next ?_ | with_reducible refine u_retN ?_ | with_reducible refine u_tf ?_ | with_reducible refine u_fld ?_ | with_reducible refine u_gfld ?_ | with_reducible refine u_par ?_ | with_reducible refine u_meth ?_ | with_reducible refine u_prop ?_ | with_reducible refine u_make ?_
  | with_reducible refine u_bm ?_ | with_reducible refine u_bm0 ?_ | with_reducible refine u_sl ?_ | with_reducible refine u_noPart ?_ | with_reducible refine u_part ?_ | with_reducible refine u_chain ?_ | with_reducible refine u_andV ?_ | with_reducible refine u_orV ?_ | with_reducible refine u_notV ?_
  | with_reducible refine u_listRg ?_ | with_reducible refine u_rg1 ?_ | with_reducible refine u_lc2 ?_ | with_reducible refine u_enum ?_ | with_reducible refine u_zip ?_ | with_reducible refine u_for ?_ | with_reducible refine u_lc ?_ | with_reducible refine u_rng1 ?_ | with_reducible refine u_rng2 ?_ | with_reducible refine u_yes ?_ | with_reducible refine u_brk ?_ | with_reducible refine u_cont ?_
  | with_reducible refine r_add ?_ | with_reducible refine r_sub ?_ | with_reducible refine r_lt ?_ | with_reducible refine r_le ?_ | with_reducible refine r_gt ?_ | with_reducible refine r_ge ?_ | with_reducible refine r_eqI ?_ | with_reducible refine r_neI ?_ | with_reducible refine r_neg ?_ | with_reducible refine r_int ?_ | with_reducible refine r_intB ?_ | with_reducible refine r_abs ?_ | with_reducible refine r_isNi ?_ | with_reducible refine r_isNn ?_ | with_reducible refine r_isNr ?_ | with_reducible refine r_isNs ?_ | with_reducible refine r_notN ?_
  | ((with_reducible refine' r_ixL ?hs ?ha ?_); (case hs => exact SqL.of (by walk_at "hg")); (case ha => first | exact rfl | exact atI_nat (by assumption)))
  | ((with_reducible refine' r_ixT ?hs ?ha ?_); (case hs => exact SqT.of (by walk_at "hg")); (case ha => first | exact rfl | exact atI_nat (by assumption)))
  | ((with_reducible refine' r_len ?hs ?_); (case hs => exact SqL.of (by walk_at "hg")))
  | ((with_reducible refine' r_lenT ?hs ?_); (case hs => exact SqT.of (by walk_at "hg")))
  | ((with_reducible refine' r_mod ?c ?_); (case c => first | decide | omega)) | ((with_reducible refine' r_div ?c ?_); (case c => first | (constructor <;> decide) | (constructor <;> omega)))
  | ((with_reducible refine' r_mul ?c ?_); (case c => first | exact .inl ⟨by omega, by omega⟩ | exact .inr ⟨by omega, by omega⟩))
  | ((with_reducible refine' r_pow ?c ?_); (case c => exact ⟨by omega, by omega, by omega⟩))
  | with_reducible refine b_nT ?_ | with_reducible refine b_nF ?_ | with_reducible refine iteF ?_ | with_reducible refine iteT ?_
  | with_reducible refine k_blA ?_ | with_reducible refine k_int ?_ | with_reducible refine k_two ?_
  | ((with_reducible refine' k_size ?hn ?_); (case hn => exact Nat.le_of_ble_eq_true rfl))
  | ((with_reducible refine' k_fld ?ha ?c ?n ?hl ?_); (case ha => walk_at "hg"); (case c => walk_at "cls"); (case n => walk_at "att"); (case hl => exact rfl))
  | ((with_reducible refine' k_put ?ha ?c ?n ?hl ?_); (case ha => walk_at "hg"); (case c => walk_at "cls"); (case n => walk_at "att"); (case hl => first | decide | exact Nat.lt_of_lt_of_le (Nat.lt_succ_self _) (Nat.le_of_ble_eq_true rfl)))
  | ((with_reducible refine' k_meth ?ha ?hl ?_); (case ha => walk_at "hg"); (case hl => exact rfl))
  | ((with_reducible refine' k_prop ?ha ?_); (case ha => walk_at "hg")))
local macro_rules | `(tactic| walk_at "rd") => `(tactic| repeat walk_at "rd1")
local macro_rules | `(tactic| walk_at "cls") => `(tactic| first | exact T.c_Board | exact T.c_World)
local macro_rules | `(tactic| walk_at "att") => `(tactic| first | exact T.n_Board_homes | exact T.n_Board_places | exact T.n_Board_rows | exact T.n_World_board | exact T.n_World_shown | exact T.n_World_standing | exact T.n_World_won | exact T.n_World_steps)

/-- what is held: all apart, all there -/
def Has (H : Hp) (L : List (Addr × HO)) : Prop := (L.map (·.1)).Nodup ∧ ∀ p ∈ L, H p.1 = some p.2
theorem Has.cur {H : Hp} {L : List (Addr × HO)} {S : List Addr} (h : Has H L) : Cur H S H L := ⟨h.1, h.2, .refl⟩
structure WA where
  w : Addr
  dx : Addr
  sh : Addr
  st : Addr
  wo : Addr
  B : Addr
  dB : Addr
  t : Addr
abbrev wObj (A : Adr) (a : WA) (k : Int) : HO := .ins A.World a.dx [("board", .ref a.B), ("shown", .ref a.sh), ("standing", .ref a.st), ("won", .ref a.wo), ("steps", .int k)]
abbrev bObj (A : Adr) (a : WA) (R : Rows) (m : Nat) : HO := .ins A.Board a.dB [("homes", .int m), ("places", .int R.length), ("rows", .ref a.t)]
abbrev wL (A : Adr) (a : WA) (s : WS) : List (Addr × HO) := [(a.w, wObj A a s.k), (a.sh, .lst (s.hs.map V.int)), (a.st, .lst (s.sn.map V.int)), (a.wo, .lst (s.won.map V.int))]
abbrev bL (A : Adr) (a : WA) (R : Rows) (m : Nat) (ads : List Addr) : List (Addr × HO) := [(a.B, bObj A a R m), (a.t, .tup (ads.map V.ref))]
abbrev wS (a : WA) : List Addr := [a.w, a.sh, a.st, a.wo]
def TRows (H : Hp) (ads : List Addr) (R : Rows) : Prop := ads.length = R.length ∧ ∀ i a, ads[i]? = some a → H a = some (.tup ((row R i).map V.int))
theorem TRows.to {H H' : Hp} {S : List Addr} {ads : List Addr} {R : Rows} (h : TRows H ads R) (r : Ret S H H') (n : ∀ s ∈ S, ∀ xs, H s ≠ some (.tup xs)) : TRows H' ads R := ⟨h.1, fun i a e => r.tup n (h.2 i a e)⟩
theorem notTup {A : Adr} {a : WA} {s : WS} {L : List (Addr × HO)} {H : Hp} (h : Has H (wL A a s ++ L)) : ∀ x ∈ wS a, ∀ xs, H x ≠ some (.tup xs) := fun x hx xs e => by
  have h1 := h.2 (a.w, wObj A a s.k) (by simp)
  have h2 := h.2 (a.sh, .lst (s.hs.map V.int)) (by simp)
  have h3 := h.2 (a.st, .lst (s.sn.map V.int)) (by simp)
  have h4 := h.2 (a.wo, .lst (s.won.map V.int)) (by simp)
  simp only [wS, List.mem_cons, List.not_mem_nil, or_false] at hx
  rcases hx with rfl | rfl | rfl | rfl
  · rw [h1] at e; cases e
  · rw [h2] at e; cases e
  · rw [h3] at e; cases e
  · rw [h4] at e; cases e
/-- a world that is in order -/
structure WOk (R : Rows) (m : Nat) (s : WS) : Prop where
  hok : HandsOk R s.hs
  len : LenOk R
  ents : ∀ p, p < R.length → ∀ x ∈ row R p, XOk R m x
  wl : s.won.length = m
  sn : s.sn.length ≤ 200
  n1 : R.length ≤ 60
def sp_World_sent (K : PySem.W.Frag) (A : Adr) : Sp := fun vs H Q E => ∃ (w : Addr) (i : Int), vs = [.ref w, .int i] ∧ ∃ (a : WA) (s : WS) (R : Rows) (m : Nat) (ads : List Addr) (p : Nat), w = a.w ∧ Has H (wL A a s ++ bL A a R m ads) ∧ TRows H ads R ∧ WOk R m s ∧ 0 ≤ i ∧ s.sn[i.toNat]? = some (p : Int) ∧ p < R.length ∧
  ∀ H', Ret (wS a) H H' → (∀ q ∈ wL A a (sent R s i.toNat p), H' q.1 = some q.2) → Q (.int (ent R s.hs p)) H'
section
variable {P : Program} {w : World} {K : PySem.W.Frag} {mg : Str → Option Value} {base : Heap} {A : Adr}
theorem ok_World_sent (T : Txt K mg A)  : Gv P w K mg base CX0 1 A.World "sent" ["self", "walker"] [] (sp_World_sent K A) := by
  obtain ⟨f, fd, F, hm⟩ := T.v_World_sent
  refine ⟨⟨f, fd, [], ?_, hm, F.binds (ps := ["self", "walker"]) (fun _ _ _ _ _ _ us hl => match us, hl with | [_, _], _ => rfl), .nil⟩⟩
  refine F.ok sc_World_sent (fun vs H Q E h => by first | (obtain ⟨rfl, _⟩ := h; rfl) | (obtain ⟨_, rfl, _⟩ := h; rfl) | (obtain ⟨_, _, rfl, _⟩ := h; rfl) | (obtain ⟨_, _, _, rfl, _⟩ := h; rfl) | (obtain ⟨_, _, _, _, rfl, _⟩ := h; rfl) | (obtain ⟨_, _, _, _, _, rfl, _⟩ := h; rfl) | (obtain ⟨_, _, _, _, _, _, rfl, _⟩ := h; rfl) | (obtain ⟨_, _, _, _, _, _, _, rfl, _⟩ := h; rfl)) (fun cdv A' outer s H vs Q E hr h => ⟨_, (pss_cons (ps_set (i := 2) sc_World_sent.nd rfl (.inl rfl) (pe_ix (ix_seqK K) (pe_fldK K (pv 0) rfl) (pv 1) (fun _ _ => rfl)))
      (pss_cons (ps_set (i := 3) sc_World_sent.nd rfl (.inl rfl) (pe_ix (ix_seqK K) (pe_fldK K (pe_fldK K (pv 0) rfl) rfl) (pv 2) (fun _ _ => rfl)))
      (pss_cons (ps_set (i := 4) sc_World_sent.nd rfl (.inl rfl) (pe_ix (ix_seqK K) (pv 3) (pe_ix (ix_seqK K) (pe_fldK K (pv 0) rfl) (pv 2) (fun _ _ => rfl)) (fun _ _ => rfl)))
      (pss_cons (ps_asg (pe_op op_modI (pe_op op_addU (pe_ix (ix_seqK K) (pe_fldK K (pv 0) rfl) (pv 2) (fun _ _ => rfl)) pe_int) (pe_callB (call_lenK K) (by rfl) T.b_len PySem.boot_len (pa_cons (pv 3) pa_nil))) (pg_sub (pe_fldK K (pv 0) rfl) (pv 2) set_list))
      (pss_cons (ps_asg (pv 4) (pg_sub (pe_fldK K (pv 0) rfl) (pv 1) set_list))
      (pss_cons (ps_fldK K (pv 0) (pe_op op_addU (pe_fldK K (pv 0) rfl) pe_int) rfl)
      (pss_cons (ps_if (pt_cmpR op_geI (pv 4) (pe_fldK K (pe_fldK K (pv 0) rfl) rfl) (nomark _)) (pss_one (ps_asg (pe_op op_addU (pe_ix (ix_seqK K) (pe_fldK K (pv 0) rfl) (pe_op op_subI (pv 4) (pe_fldK K (pe_fldK K (pv 0) rfl) rfl)) (fun _ _ => rfl)) pe_int) (pg_sub (pe_fldK K (pv 0) rfl) (pe_op op_subI (pv 4) (pe_fldK K (pe_fldK K (pv 0) rfl) rfl)) set_list))) pss_nil)
      (pss_one (ps_ret (pv 4)))))))))), ?_⟩)
  obtain ⟨w, i, rfl, a, s, R, m, ads, p, rfl, hW, hT, ok, i0, hp, hpR, k⟩ := h
  have C : Cur H (wS a) H (wL A a s ++ bL A a R m ads) := hW.cur
  have hil : i < (s.sn.length : Int) := by
    rcases Nat.lt_or_ge i.toNat s.sn.length with g | g
    · omega
    · rw [List.getElem?_eq_none g] at hp; cases hp
  obtain ⟨h0, h1⟩ := ok.hok.2 p hpR
  have hpl : (p : Int) < (s.hs.length : Int) := by rw [ok.hok.1]; omega
  obtain ⟨ar, har⟩ : ∃ x, ads[p]? = some x := ⟨_, List.getElem?_eq_getElem (by rw [hT.1]; exact hpR)⟩
  have harr := hT.2 _ _ har
  have hkT : ∀ {H' : Hp}, Ret (wS a) H H' → H' ar = some (.tup ((row R p).map V.int)) := fun r => r.tup (notTup hW) harr
  have hei := atI_int (ns := s.hs) (i := (p : Int)) (by omega) hpl
  have hgd : s.hs[((p : Int)).toNat]'(by omega) = s.hs.getD p 0 := getD_get (i := p) (by omega)
  rw [hgd] at hei
  have hen := atI_int (ns := row R p) (i := s.hs.getD p 0) h0 h1
  have hen' : (row R p)[(s.hs.getD p 0).toNat]'(by omega) = ent R s.hs p := getD_get (by omega)
  rw [hen'] at hen
  have hent := ent_mem ok.hok hpR
  obtain ⟨x0, x1⟩ := ok.ents p hpR _ hent
  walk_at "rd"
  refine r_ixL (SqL.of (C.get 2 rfl)) (atI_of i0 (by rw [List.getElem?_map, hp]; rfl)) ?_
  walk_at "rd"
  refine r_ixT (SqT.of (C.get 5 rfl)) (refs_at (by omega) har) ?_
  walk_at "rd"
  refine r_ixL (SqL.of (C.get 1 rfl)) hei ?_
  refine r_ixT (SqT.of harr) hen ?_
  walk_at "rd"
  refine r_ixL (SqL.of (C.get 1 rfl)) hei ?_
  walk_at "rd"
  have hl := (ok.len p hpR).1
  refine r_mod (by rw [len_map]; omega) ?_
  walk_at "rd"
  refine r_setL (C.get 1 rfl) (ixN_of (by omega) (by rw [len_map]; exact hpl)) ?_
  refine mod_c C 1 rfl (.inl (by simp)) fun H1 C => ?_
  walk_at "rd"
  refine r_setL (C.get 2 rfl) (ixN_of i0 (by rw [len_map]; exact hil)) ?_
  refine mod_c C 2 rfl (.inl (by simp)) fun H2 C => ?_
  walk_at "rd"
  refine mod_c C 0 rfl (.inl (by simp)) fun H3 C => ?_
  walk_at "rd"
  have e1 : ((s.hs.map V.int).set ((p : Int)).toNat (V.int ((s.hs.getD p 0 + 1) % ((((row R p).map V.int).length : Nat) : Int)))) = (nxt R s.hs p).map V.int := by
    rw [len_map, ← List.map_set]; rfl
  have e2 : ((s.sn.map V.int).set i.toNat (V.int (ent R s.hs p))) = (s.sn.set i.toNat (ent R s.hs p)).map V.int := by rw [← List.map_set]
  rw [e1, e2] at C
  refine b_dec (fun hge => ?_) (fun hlt => ?_)
  · have j0 : 0 ≤ ent R s.hs p - (R.length : Int) := by omega
    have j1 : ent R s.hs p - (R.length : Int) < (s.won.length : Int) := by rw [ok.wl]; omega
    have hw := atI_int (ns := s.won) j0 j1
    rw [getD_get (l := s.won) (i := (ent R s.hs p - (R.length : Int)).toNat) (by omega)] at hw
    walk_at "rd"
    refine r_ixL (SqL.of (C.get 3 rfl)) hw ?_
    walk_at "rd"
    refine r_setL (C.get 3 rfl) (ixN_of j0 (by rw [len_map]; exact j1)) ?_
    refine mod_c C 3 rfl (.inl (by simp)) fun H4 C => ?_
    walk_at "rd"
    refine k H4 C.ret ?_
    have e3 : ((s.won.map V.int).set (ent R s.hs p - (R.length : Int)).toNat (V.int (s.won.getD (ent R s.hs p - (R.length : Int)).toNat 0 + 1))) = (M94.bump s.won (ent R s.hs p - (R.length : Int)).toNat).map V.int := by rw [← List.map_set]; rfl
    rw [e3] at C
    intro q hq
    refine C.own q ?_
    have hs' : (sent R s i.toNat p).won = M94.bump s.won (ent R s.hs p - (R.length : Int)).toNat := if_pos hge
    simp only [wL, List.mem_cons, List.not_mem_nil, or_false] at hq
    rw [hs'] at hq
    rcases hq with rfl | rfl | rfl | rfl
    · exact List.mem_of_getElem? (i := 0) rfl
    · exact List.mem_of_getElem? (i := 1) rfl
    · exact List.mem_of_getElem? (i := 2) rfl
    · exact List.mem_of_getElem? (i := 3) rfl
  · walk_at "rd"
    refine k H3 C.ret ?_
    intro q hq
    refine C.own q ?_
    have hs' : (sent R s i.toNat p).won = s.won := if_neg hlt
    simp only [wL, List.mem_cons, List.not_mem_nil, or_false] at hq
    rw [hs'] at hq
    rcases hq with rfl | rfl | rfl | rfl
    · exact List.mem_of_getElem? (i := 0) rfl
    · exact List.mem_of_getElem? (i := 1) rfl
    · exact List.mem_of_getElem? (i := 2) rfl
    · exact List.mem_of_getElem? (i := 3) rfl
end
end K94

end

section
set_option Elab.async false
set_option linter.all false
set_option maxRecDepth 100000
set_option maxHeartbeats 1000000
namespace K94
open PySem PySem.Spec PyProof.Rows L2 Nd M94
set_option hygiene false
local macro_rules | `(tactic| walk_at "hg") => `(tactic| first | assumption | exact C.get 0 rfl | exact C.get 1 rfl | exact C.get 2 rfl | exact C.get 3 rfl | exact C.get 4 rfl | exact C.get 5 rfl | exact C.get 6 rfl | exact C.get 7 rfl | exact C.get 8 rfl | exact C.get 9 rfl)
local macro_rules | `(tactic| walk_at "rd1") => `(tactic| first
  | with_reducible refine u_seq ?_ | with_reducible refine u_asg ?_ | ((with_reducible refine' u_var ?hv ?_); (case hv => exact rfl)) | with_reducible refine u_c ?_ | with_reducible refine u_op ?_ | with_reducible refine u_if ?_ | with_reducible refine u_ret ?_
  | with_reducible refine u_test ?_ | with_reducible refine u_tB ?_ | with_reducible refine u_and ?_ | with_reducible refine u_or ?_ | with_reducible refine u_not ?_ | with_reducible refine u_call ?_ | with_reducible refine u_cb ?_ | with_reducible refine u_cons ?_ | with_reducible refine u_nil ?_
  | with_reducible refine u_gname ?_ | with_reducible refine u_gcons ?_ | with_reducible refine u_gnil ?_ | with_reducible refine u_gsub ?_ | with_reducible refine u_lst ?_ | with_reducible refine u_tup ?_ | with_reducible refine u_un ?_ | with_reducible refine u_ifE ?_
  | with_reducible refine u_drop ?_ | with_reducible refine u_next ?_ | with_reducible refine u_retN ?_ | with_reducible refine u_tf ?_ | with_reducible refine u_fld ?_ | with_reducible refine u_gfld ?_ | with_reducible refine u_par ?_ | with_reducible refine u_meth ?_ | with_reducible refine u_prop ?_ | with_reducible refine u_make ?_
  | with_reducible refine u_bm ?_ | with_reducible refine u_bm0 ?_ | with_reducible refine u_sl ?_ | with_reducible refine u_noPart ?_ | with_reducible refine u_part ?_ | with_reducible refine u_chain ?_ | with_reducible refine u_andV ?_ | with_reducible refine u_orV ?_ | with_reducible refine u_notV ?_
  | with_reducible refine u_listRg ?_ | with_reducible refine u_rg1 ?_ | with_reducible refine u_lc2 ?_ | with_reducible refine u_enum ?_ | with_reducible refine u_zip ?_ | with_reducible refine u_for ?_ | with_reducible refine u_lc ?_ | with_reducible refine u_rng1 ?_ | with_reducible refine u_rng2 ?_ | with_reducible refine u_yes ?_ | with_reducible refine u_brk ?_ | with_reducible refine u_cont ?_
  | with_reducible refine r_add ?_ | with_reducible refine r_sub ?_ | with_reducible refine r_lt ?_ | with_reducible refine r_le ?_ | with_reducible refine r_gt ?_ | with_reducible refine r_ge ?_ | with_reducible refine r_eqI ?_ | with_reducible refine r_neI ?_ | with_reducible refine r_neg ?_ | with_reducible refine r_int ?_ | with_reducible refine r_intB ?_ | with_reducible refine r_abs ?_ | with_reducible refine r_isNi ?_ | with_reducible refine r_isNn ?_ | with_reducible refine r_isNr ?_ | with_reducible refine r_isNs ?_ | with_reducible refine r_notN ?_
  | ((with_reducible refine' r_ixL ?hs ?ha ?_); (case hs => exact SqL.of (by walk_at "hg")); (case ha => first | exact rfl | exact atI_nat (by assumption)))
  | ((with_reducible refine' r_ixT ?hs ?ha ?_); (case hs => exact SqT.of (by walk_at "hg")); (case ha => first | exact rfl | exact atI_nat (by assumption)))
  | ((with_reducible refine' r_len ?hs ?_); (case hs => exact SqL.of (by walk_at "hg")))
  | ((with_reducible refine' r_lenT ?hs ?_); (case hs => exact SqT.of (by walk_at "hg")))
  | ((with_reducible refine' r_mod ?c ?_); (case c => first | decide | omega)) | ((with_reducible refine' r_div ?c ?_); (case c => first | (constructor <;> decide) | (constructor <;> omega)))
  | ((with_reducible refine' r_mul ?c ?_); (case c => first | exact .inl ⟨by omega, by omega⟩ | exact .inr ⟨by omega, by omega⟩))
  | ((with_reducible refine' r_pow ?c ?_); (case c => exact ⟨by omega, by omega, by omega⟩))
  | with_reducible refine b_nT ?_ | with_reducible refine b_nF ?_ | with_reducible refine iteF ?_ | with_reducible refine iteT ?_
  | with_reducible refine k_blA ?_ | with_reducible refine k_int ?_ | with_reducible refine k_two ?_
  | ((with_reducible refine' k_size ?hn ?_); (case hn => exact Nat.le_of_ble_eq_true rfl))
  | ((with_reducible refine' k_fld ?ha ?c ?n ?hl ?_); (case ha => walk_at "hg"); (case c => walk_at "cls"); (case n => walk_at "att"); (case hl => exact rfl))
  | ((with_reducible refine' k_put ?ha ?c ?n ?hl ?_); (case ha => walk_at "hg"); (case c => walk_at "cls"); (case n => walk_at "att"); (case hl => first | decide | exact Nat.lt_of_lt_of_le (Nat.lt_succ_self _) (Nat.le_of_ble_eq_true rfl)))
  | ((with_reducible refine' k_meth ?ha ?hl ?_); (case ha => walk_at "hg"); (case hl => exact rfl))
  | ((with_reducible refine' k_prop ?ha ?_); (case ha => walk_at "hg")))
local macro_rules | `(tactic| walk_at "rd") => `(tactic| repeat walk_at "rd1")
local macro_rules | `(tactic| walk_at "cls") => `(tactic| first | exact T.c_Board | exact T.c_World)
local macro_rules | `(tactic| walk_at "att") => `(tactic| first | exact T.n_Board_homes | exact T.n_Board_places | exact T.n_Board_rows | exact T.n_World_board | exact T.n_World_shown | exact T.n_World_standing | exact T.n_World_won | exact T.n_World_steps)

theorem Has.left {H : Hp} {L1 L2 : List (Addr × HO)} (h : Has H (L1 ++ L2)) : Has H L1 := ⟨by have := h.1; rw [List.map_append] at this; exact (List.nodup_append.mp this).1, fun p hp => h.2 p (List.mem_append_left _ hp)⟩
def spProp (A : Adr) (get : WS → List Int) : Sp := fun vs H Q E => ∃ w : Addr, vs = [.ref w] ∧ ∃ (a : WA) (s : WS), w = a.w ∧ Has H (wL A a s) ∧ ∀ t H', Ret [] H H' → H t = none → H' t = some (.tup ((get s).map V.int)) → Q (.ref t) H'
def sp_World_hands (K : PySem.W.Frag) (A : Adr) : Sp := spProp A (·.hs)
def sp_World_walkers (K : PySem.W.Frag) (A : Adr) : Sp := spProp A (·.sn)
def sp_World_wins (K : PySem.W.Frag) (A : Adr) : Sp := spProp A (·.won)
def sp_World_need_out (K : PySem.W.Frag) (A : Adr) : Sp := fun vs H Q E => ∃ (w : Addr) (i : Int), vs = [.ref w, .int i] ∧ ∃ (a : WA) (s : WS), w = a.w ∧ Has H (wL A a s) ∧ 0 ≤ i ∧ i < s.sn.length ∧ Q .non H
def sp_World_need_away (K : PySem.W.Frag) (A : Adr) : Sp := fun vs H Q E => ∃ (w : Addr) (i : Int), vs = [.ref w, .int i] ∧ ∃ (a : WA) (s : WS) (R : Rows) (m : Nat) (ads : List Addr) (p : Nat), w = a.w ∧ Has H (wL A a s ++ bL A a R m ads) ∧ 0 ≤ i ∧ s.sn[i.toNat]? = some (p : Int) ∧ p < R.length ∧ Q .non H
def sp_World_advance (K : PySem.W.Frag) (A : Adr) : Sp := sp_World_sent K A
def sp_World_sent_home (K : PySem.W.Frag) (A : Adr) : Sp := fun vs H Q E => ∃ (w q : Addr) (i : Int), vs = [.ref w, .int i, .int 10000, .ref q] ∧ ∃ (a : WA) (s : WS) (R : Rows) (m : Nat) (rk gd : Nat → Nat) (ads : List Addr) (p : Nat), w = a.w ∧ Has H (wL A a s ++ bL A a R m ads) ∧ TRows H ads R ∧ WOk R m s ∧ Good R m rk gd ∧ 0 ≤ i ∧ s.sn[i.toNat]? = some (p : Int) ∧ p < R.length ∧
  ∀ (v : Int) H', Ret (wS a) H H' → (∀ q ∈ wL A a (ledTo R s i.toNat p), H' q.1 = some q.2) → Q (.int v) H'
def sp_World_take (K : PySem.W.Frag) (A : Adr) : Sp := fun vs H Q E => ∃ (w2 w : Addr), vs = [.ref w2, .ref w] ∧ ∃ (a : WA) (s : WS) (dx2 : Addr) (v0 v1 v2 v3 v4 : V), w = a.w ∧ Has H (wL A a s) ∧ H w2 = some (.ins A.World dx2 [("board", v0), ("shown", v1), ("standing", v2), ("won", v3), ("steps", v4)]) ∧ w2 ≠ a.w ∧ ∀ H', Ret [w2] H H' → Q .non H'
theorem len_of {xs : List Int} {i : Int} {x : Int} (i0 : 0 ≤ i) (h : xs[i.toNat]? = some x) : i < (xs.length : Int) := by
  rcases Nat.lt_or_ge i.toNat xs.length with g | g
  · omega
  · rw [List.getElem?_eq_none g] at h; cases h
theorem own_after {A : Adr} {a : WA} {s s' : WS} {R : Rows} {m : Nat} {ads : List Addr} {H0 H H' : Hp} {S : List Addr} {L : List (Addr × HO)} (C : Cur H0 S H (wL A a s ++ L)) (hm : ∀ x ∈ wS a, x ∈ S ∨ H0 x = none) (r : Ret (wS a) H H') (h : ∀ q ∈ wL A a s', H' q.1 = some q.2) : Cur H0 S H' (wL A a s' ++ L) :=
  callApp C r hm rfl h
theorem has_of {H0 H : Hp} {S : List Addr} {L : List (Addr × HO)} (C : Cur H0 S H L) : Has H L := ⟨C.nd, C.own⟩
theorem sent_ok {R : Rows} {m : Nat} {s : WS} {i p : Nat} (ok : WOk R m s) (hp : p < R.length) : WOk R m (sent R s i p) where
  hok := nxt_ok ok.hok hp (ok.len p hp).1
  len := ok.len
  ents := ok.ents
  wl := by unfold sent; split <;> simp [M94.bump, ok.wl]
  sn := by unfold sent; simp [ok.sn]
  n1 := ok.n1
section
variable {P : Program} {w : World} {K : PySem.W.Frag} {mg : Str → Option Value} {base : Heap} {A : Adr}
theorem ok_World_hands (T : Txt K mg A)  : Gp P w K mg base CX0 1 A.World "hands" ["self"] (sp_World_hands K A) := by
  obtain ⟨p, f, fd, F, hm⟩ := T.v_World_hands
  refine ⟨⟨p, f, fd, ?_, hm, F.binds (ps := ["self"]) (fun _ _ _ _ _ _ us hl => match us, hl with | [_], _ => rfl)⟩⟩
  refine F.ok sc_World_hands (fun vs H Q E h => by first | (obtain ⟨rfl, _⟩ := h; rfl) | (obtain ⟨_, rfl, _⟩ := h; rfl) | (obtain ⟨_, _, rfl, _⟩ := h; rfl) | (obtain ⟨_, _, _, rfl, _⟩ := h; rfl) | (obtain ⟨_, _, _, _, rfl, _⟩ := h; rfl) | (obtain ⟨_, _, _, _, _, rfl, _⟩ := h; rfl) | (obtain ⟨_, _, _, _, _, _, rfl, _⟩ := h; rfl) | (obtain ⟨_, _, _, _, _, _, _, rfl, _⟩ := h; rfl)) (fun cdv A' outer s H vs Q E hr h => ⟨_, (pss_one (ps_ret (pe_callTy (call_tupleK K) (by rfl) T.b_tuple (by decide +kernel) (pa_cons (pe_fldK K (pv 0) rfl) pa_nil)))), ?_⟩)
  obtain ⟨w, rfl, a, s, rfl, hW, k⟩ := h
  have C : Cur H [] H (wL A a s) := hW.cur
  walk_at "rd"
  refine r_tupL (SqL.of (C.get 1 rfl)) (new_c C fun t H1 t0 C => k t H1 C.ret t0 (C.get 0 rfl))
theorem ok_World_walkers (T : Txt K mg A)  : Gp P w K mg base CX0 1 A.World "walkers" ["self"] (sp_World_walkers K A) := by
  obtain ⟨p, f, fd, F, hm⟩ := T.v_World_walkers
  refine ⟨⟨p, f, fd, ?_, hm, F.binds (ps := ["self"]) (fun _ _ _ _ _ _ us hl => match us, hl with | [_], _ => rfl)⟩⟩
  refine F.ok sc_World_walkers (fun vs H Q E h => by first | (obtain ⟨rfl, _⟩ := h; rfl) | (obtain ⟨_, rfl, _⟩ := h; rfl) | (obtain ⟨_, _, rfl, _⟩ := h; rfl) | (obtain ⟨_, _, _, rfl, _⟩ := h; rfl) | (obtain ⟨_, _, _, _, rfl, _⟩ := h; rfl) | (obtain ⟨_, _, _, _, _, rfl, _⟩ := h; rfl) | (obtain ⟨_, _, _, _, _, _, rfl, _⟩ := h; rfl) | (obtain ⟨_, _, _, _, _, _, _, rfl, _⟩ := h; rfl)) (fun cdv A' outer s H vs Q E hr h => ⟨_, (pss_one (ps_ret (pe_callTy (call_tupleK K) (by rfl) T.b_tuple (by decide +kernel) (pa_cons (pe_fldK K (pv 0) rfl) pa_nil)))), ?_⟩)
  obtain ⟨w, rfl, a, s, rfl, hW, k⟩ := h
  have C : Cur H [] H (wL A a s) := hW.cur
  walk_at "rd"
  refine r_tupL (SqL.of (C.get 2 rfl)) (new_c C fun t H1 t0 C => k t H1 C.ret t0 (C.get 0 rfl))
theorem ok_World_wins (T : Txt K mg A)  : Gp P w K mg base CX0 1 A.World "wins" ["self"] (sp_World_wins K A) := by
  obtain ⟨p, f, fd, F, hm⟩ := T.v_World_wins
  refine ⟨⟨p, f, fd, ?_, hm, F.binds (ps := ["self"]) (fun _ _ _ _ _ _ us hl => match us, hl with | [_], _ => rfl)⟩⟩
  refine F.ok sc_World_wins (fun vs H Q E h => by first | (obtain ⟨rfl, _⟩ := h; rfl) | (obtain ⟨_, rfl, _⟩ := h; rfl) | (obtain ⟨_, _, rfl, _⟩ := h; rfl) | (obtain ⟨_, _, _, rfl, _⟩ := h; rfl) | (obtain ⟨_, _, _, _, rfl, _⟩ := h; rfl) | (obtain ⟨_, _, _, _, _, rfl, _⟩ := h; rfl) | (obtain ⟨_, _, _, _, _, _, rfl, _⟩ := h; rfl) | (obtain ⟨_, _, _, _, _, _, _, rfl, _⟩ := h; rfl)) (fun cdv A' outer s H vs Q E hr h => ⟨_, (pss_one (ps_ret (pe_callTy (call_tupleK K) (by rfl) T.b_tuple (by decide +kernel) (pa_cons (pe_fldK K (pv 0) rfl) pa_nil)))), ?_⟩)
  obtain ⟨w, rfl, a, s, rfl, hW, k⟩ := h
  have C : Cur H [] H (wL A a s) := hW.cur
  walk_at "rd"
  refine r_tupL (SqL.of (C.get 3 rfl)) (new_c C fun t H1 t0 C => k t H1 C.ret t0 (C.get 0 rfl))
theorem ok_World_need_out (T : Txt K mg A) (G_need_number : Gd P w K mg base CX0 3 "need_number" ["value", "part", "least", "most"] [] (sp_need_number K A)) : Gv P w K mg base CX0 4 A.World "need_out" ["self", "walker"] [] (sp_World_need_out K A) := by
  obtain ⟨f, fd, F, hm⟩ := T.v_World_need_out
  refine ⟨⟨f, fd, [], ?_, hm, F.binds (ps := ["self", "walker"]) (fun _ _ _ _ _ _ us hl => match us, hl with | [_, _], _ => rfl), .nil⟩⟩
  refine F.ok sc_World_need_out (fun vs H Q E h => by first | (obtain ⟨rfl, _⟩ := h; rfl) | (obtain ⟨_, rfl, _⟩ := h; rfl) | (obtain ⟨_, _, rfl, _⟩ := h; rfl) | (obtain ⟨_, _, _, rfl, _⟩ := h; rfl) | (obtain ⟨_, _, _, _, rfl, _⟩ := h; rfl) | (obtain ⟨_, _, _, _, _, rfl, _⟩ := h; rfl) | (obtain ⟨_, _, _, _, _, _, rfl, _⟩ := h; rfl) | (obtain ⟨_, _, _, _, _, _, _, rfl, _⟩ := h; rfl)) (fun cdv A' outer s H vs Q E hr h => ⟨_, (pss_one (ps_expr (pe_callG G_need_number (hr.mono (by decide)) (by rfl) pass0 (pa_cons (pv 1) (pa_cons pe_str (pa_cons pe_int (pa_cons (pe_op op_subI (pe_callB (call_lenK K) (by rfl) T.b_len PySem.boot_len (pa_cons (pe_fldK K (pv 0) rfl) pa_nil)) pe_int) pa_nil))))))), ?_⟩)
  obtain ⟨w, i, rfl, a, s, rfl, hW, i0, i1, k⟩ := h
  have C : Cur H [] H (wL A a s) := hW.cur
  walk_at "rd"
  refine ⟨i, _, 0, _, rfl, i0, by rw [len_map]; omega, ?_⟩
  walk_at "rd"
  exact k
theorem ok_World_need_away (T : Txt K mg A)  : Gv P w K mg base CX0 1 A.World "need_away" ["self", "walker"] [] (sp_World_need_away K A) := by
  obtain ⟨f, fd, F, hm⟩ := T.v_World_need_away
  refine ⟨⟨f, fd, [], ?_, hm, F.binds (ps := ["self", "walker"]) (fun _ _ _ _ _ _ us hl => match us, hl with | [_, _], _ => rfl), .nil⟩⟩
  refine F.ok sc_World_need_away (fun vs H Q E h => by first | (obtain ⟨rfl, _⟩ := h; rfl) | (obtain ⟨_, rfl, _⟩ := h; rfl) | (obtain ⟨_, _, rfl, _⟩ := h; rfl) | (obtain ⟨_, _, _, rfl, _⟩ := h; rfl) | (obtain ⟨_, _, _, _, rfl, _⟩ := h; rfl) | (obtain ⟨_, _, _, _, _, rfl, _⟩ := h; rfl) | (obtain ⟨_, _, _, _, _, _, rfl, _⟩ := h; rfl) | (obtain ⟨_, _, _, _, _, _, _, rfl, _⟩ := h; rfl)) (fun cdv A' outer s H vs Q E hr h => ⟨_, (pss_one (ps_if (pt_cmpR op_geI (pe_ix (ix_seqK K) (pe_fldK K (pv 0) rfl) (pv 1) (fun _ _ => rfl)) (pe_fldK K (pe_fldK K (pv 0) rfl) rfl) (nomark _)) (pss_one ps_never) pss_nil)), ?_⟩)
  obtain ⟨w, i, rfl, a, s, R, m, ads, p, rfl, hW, i0, hp, hpR, k⟩ := h
  have C : Cur H [] H (wL A a s ++ bL A a R m ads) := hW.cur
  walk_at "rd"
  refine r_ixL (SqL.of (C.get 2 rfl)) (atI_of i0 (by rw [List.getElem?_map, hp]; rfl)) ?_
  walk_at "rd"
  refine b_df (by omega) ?_
  walk_at "rd"
  exact k
theorem ok_World_advance (T : Txt K mg A) (G_World_need_out : Gv P w K mg base CX0 4 A.World "need_out" ["self", "walker"] [] (sp_World_need_out K A)) (G_World_need_away : Gv P w K mg base CX0 1 A.World "need_away" ["self", "walker"] [] (sp_World_need_away K A)) (G_World_sent : Gv P w K mg base CX0 1 A.World "sent" ["self", "walker"] [] (sp_World_sent K A)) : Gv P w K mg base CX0 5 A.World "advance" ["self", "walker"] [] (sp_World_advance K A) := by
  obtain ⟨f, fd, F, hm⟩ := T.v_World_advance
  refine ⟨⟨f, fd, [], ?_, hm, F.binds (ps := ["self", "walker"]) (fun _ _ _ _ _ _ us hl => match us, hl with | [_, _], _ => rfl), .nil⟩⟩
  refine F.ok sc_World_advance (fun vs H Q E h => by first | (obtain ⟨rfl, _⟩ := h; rfl) | (obtain ⟨_, rfl, _⟩ := h; rfl) | (obtain ⟨_, _, rfl, _⟩ := h; rfl) | (obtain ⟨_, _, _, rfl, _⟩ := h; rfl) | (obtain ⟨_, _, _, _, rfl, _⟩ := h; rfl) | (obtain ⟨_, _, _, _, _, rfl, _⟩ := h; rfl) | (obtain ⟨_, _, _, _, _, _, rfl, _⟩ := h; rfl) | (obtain ⟨_, _, _, _, _, _, _, rfl, _⟩ := h; rfl)) (fun cdv A' outer s H vs Q E hr h => ⟨_, (pss_cons (ps_expr (pe_methG G_World_need_out T.c_World (hr.mono (by decide)) pass0 (pv 0) (pa_cons (pv 1) pa_nil)))
      (pss_cons (ps_expr (pe_methG G_World_need_away T.c_World (hr.mono (by decide)) pass0 (pv 0) (pa_cons (pv 1) pa_nil)))
      (pss_one (ps_ret (pe_methG G_World_sent T.c_World (hr.mono (by decide)) pass0 (pv 0) (pa_cons (pv 1) pa_nil)))))), ?_⟩)
  obtain ⟨w, i, rfl, a, s, R, m, ads, p, rfl, hW, hT, ok, i0, hp, hpR, k⟩ := h
  have C : Cur H [] H (wL A a s ++ bL A a R m ads) := hW.cur
  walk_at "rd"
  refine ⟨a.w, i, rfl, a, s, rfl, hW.left, i0, len_of i0 hp, ?_⟩
  walk_at "rd"
  refine ⟨a.w, i, rfl, a, s, R, m, ads, p, rfl, hW, i0, hp, hpR, ?_⟩
  walk_at "rd"
  exact ⟨a.w, i, rfl, a, s, R, m, ads, p, rfl, hW, hT, ok, i0, hp, hpR, k⟩
theorem ok_World_sent_home (T : Txt K mg A) (G_World_sent : Gv P w K mg base CX0 1 A.World "sent" ["self", "walker"] [] (sp_World_sent K A)) (G_World_take : Gv P w K mg base CX0 1 A.World "take" ["self", "other"] [] (sp_World_take K A)) : Gv P w K mg base CX0 2 A.World "sent_home" ["self", "walker", "most", "before"] [] (sp_World_sent_home K A) := by
  obtain ⟨f, fd, F, hm⟩ := T.v_World_sent_home
  refine ⟨⟨f, fd, [], ?_, hm, F.binds (ps := ["self", "walker", "most", "before"]) (fun _ _ _ _ _ _ us hl => match us, hl with | [_, _, _, _], _ => rfl), .nil⟩⟩
  refine F.ok sc_World_sent_home (fun vs H Q E h => by first | (obtain ⟨rfl, _⟩ := h; rfl) | (obtain ⟨_, rfl, _⟩ := h; rfl) | (obtain ⟨_, _, rfl, _⟩ := h; rfl) | (obtain ⟨_, _, _, rfl, _⟩ := h; rfl) | (obtain ⟨_, _, _, _, rfl, _⟩ := h; rfl) | (obtain ⟨_, _, _, _, _, rfl, _⟩ := h; rfl) | (obtain ⟨_, _, _, _, _, _, rfl, _⟩ := h; rfl) | (obtain ⟨_, _, _, _, _, _, _, rfl, _⟩ := h; rfl)) (fun cdv A' outer s H vs Q E hr h => ⟨_, (pss_cons (ps_for PassesOwn.never rfl (pi_range1 (by rfl) T.b_range (pa_cons (pv 2) pa_nil)) (pg_name (i := 4) sc_World_sent_home.nd rfl (.inl rfl)) (pss_cons (ps_set (i := 5) sc_World_sent_home.nd rfl (.inl rfl) (pe_methG G_World_sent T.c_World (hr.mono (by decide)) pass0 (pv 0) (pa_cons (pv 1) pa_nil)))
      (pss_one (ps_if (pt_cmpR op_geI (pv 5) (pe_fldK K (pe_fldK K (pv 0) rfl) rfl) (nomark _)) (pss_one (ps_ret (pe_op op_subI (pv 5) (pe_fldK K (pe_fldK K (pv 0) rfl) rfl)))) pss_nil))))
      (pss_cons (ps_expr (pe_methG G_World_take T.c_World (hr.mono (by decide)) pass0 (pv 0) (pa_cons (pv 3) pa_nil)))
      (pss_one ps_never))), ?_⟩)
  obtain ⟨w, q, i, rfl, a, s, R, m, rk, gd, ads, p, rfl, hW, hT, ok, G, i0, hp, hpR, k⟩ := h
  have C : Cur H (wS a) H (wL A a s ++ bL A a R m ads) := hW.cur
  have hil := len_of i0 hp
  have ph := play_home G 10000 s.hs p ok.hok ⟨by omega, by omega⟩ (by have := (pot_ge (h := s.hs) G p).2; omega)
  walk_at "rd"
  refine k_rng1 (j := 10000) (by decide) (by decide) ?_
  refine for_r (fun t σ H' => ∃ (hs' : List Int) (x : Nat) (s' : WS) (o1 o2 : Option V), σ = [some (.ref a.w), some (.int i), some (.int 10000), some (.ref q), o1, o2] ∧ s' = ⟨hs', s.sn.set i.toNat (x : Int), s.won, s.k + t⟩ ∧ x < R.length ∧ Cur H (wS a) H' (wL A a s' ++ bL A a R m ads) ∧ HandsOk R hs' ∧
    (play R 10000 s.hs p).1 = (play R (10000 - t) hs' x).1 ∧ (play R 10000 s.hs p).2.1 = (play R (10000 - t) hs' x).2.1 ∧ (play R 10000 s.hs p).2.2 = (play R (10000 - t) hs' x).2.2 + t) ?_ ?_ ?_
  · refine ⟨s.hs, p, _, none, none, rfl, rfl, hpR, ?_, ok.hok, rfl, rfl, rfl⟩
    have e1 : s.sn.set i.toNat (p : Int) = s.sn := by
      obtain ⟨l1, l2⟩ := List.getElem?_eq_some_iff.mp hp
      rw [← l2]; exact List.set_getElem_self l1
    rw [e1, show s.k + ((0 : Nat) : Int) = s.k by omega]
    exact C
  · rintro t σ H' ht ⟨hs', x, s', o1, o2, rfl, rfl, hx, C, hok, e1, e2, e3⟩
    have hT' := hT.to C.ret (notTup hW)
    have ok' : WOk R m ⟨hs', s.sn.set i.toNat (x : Int), s.won, s.k + t⟩ := ⟨hok, ok.len, ok.ents, ok.wl, by rw [List.length_set]; exact ok.sn, ok.n1⟩
    have hxi : (s.sn.set i.toNat (x : Int))[i.toNat]? = some (x : Int) := List.getElem?_set_self (by omega)
    rw [show 10000 - t = (10000 - (t + 1)) + 1 by omega, play_in (show (x : Int) < (R.length : Int) by omega), Int.toNat_natCast] at e1 e2 e3
    walk_at "rd"
    refine ⟨a.w, i, rfl, a, _, R, m, ads, x, rfl, (has_of C), hT', ok', i0, hxi, hx, fun H2 r2 h2 => ?_⟩
    have C := own_after (R := R) (m := m) (ads := ads) C (fun x hx => .inl hx) r2 h2
    have hsn : (sent R ⟨hs', s.sn.set i.toNat (x : Int), s.won, s.k + t⟩ i.toNat x).sn = s.sn.set i.toNat (ent R hs' x) := by simp [sent]
    obtain ⟨y0, y1⟩ := ok.ents x hx _ (ent_mem hok hx)
    walk_at "rd"
    refine b_dec (fun hge => ?_) (fun hlt => ?_)
    · have po : play R (10000 - (t + 1)) (nxt R hs' x) (ent R hs' x) = (nxt R hs' x, ent R hs' x, 0) := play_out hge
      rw [po] at e1 e2 e3
      walk_at "rd"
      refine k _ H2 C.ret ?_
      have es : ledTo R s i.toNat p = sent R ⟨hs', s.sn.set i.toNat (x : Int), s.won, s.k + t⟩ i.toNat x := by
        unfold ledTo sent
        rw [if_pos hge, e1, e2, e3, List.set_set]
        show WS.mk _ _ _ _ = WS.mk _ _ _ _
        congr 1
        show s.k + ((0 + 1 + t : Nat) : Int) = s.k + t + 1
        omega
      rw [es]
      exact fun q hq => C.own q (List.mem_append_left _ hq)
    · have hlt' : ¬ ((R.length : Int) ≤ ent R hs' x) := hlt
      walk_at "rd"
      have es : sent R ⟨hs', s.sn.set i.toNat (x : Int), s.won, s.k + t⟩ i.toNat x = ⟨nxt R hs' x, s.sn.set i.toNat (((ent R hs' x).toNat : Nat) : Int), s.won, s.k + ((t + 1 : Nat) : Int)⟩ := by
        unfold sent
        rw [if_neg (by omega), List.set_set, Int.toNat_of_nonneg y0]
        show WS.mk _ _ _ _ = WS.mk _ _ _ _
        congr 1
        show s.k + t + 1 = _
        omega
      rw [es] at C
      refine ⟨nxt R hs' x, (ent R hs' x).toNat, _, _, _, rfl, rfl, by omega, C, nxt_ok hok hx (ok.len x hx).1, ?_, ?_, ?_⟩
      · rw [Int.toNat_of_nonneg y0]; exact e1
      · rw [Int.toNat_of_nonneg y0]; exact e2
      · rw [Int.toNat_of_nonneg y0, e3]; show _ + 1 + t = _; omega
  · rintro σ H' ⟨hs', x, s', o1, o2, rfl, rfl, hx, C, hok, e1, e2, e3⟩
    exfalso
    have h1 := ph.2.2.1
    rw [e2] at h1
    have h2 : (R.length : Int) ≤ (x : Int) := h1
    omega
end
end K94

end

section
set_option Elab.async false
set_option linter.all false
set_option maxRecDepth 100000
set_option maxHeartbeats 1000000
namespace K94
open PySem PySem.Spec PyProof.Rows L2 Nd M94
set_option hygiene false
local macro_rules | `(tactic| walk_at "hg") => `(tactic| first | assumption | exact C.get 0 rfl | exact C.get 1 rfl | exact C.get 2 rfl | exact C.get 3 rfl | exact C.get 4 rfl | exact C.get 5 rfl | exact C.get 6 rfl | exact C.get 7 rfl | exact C.get 8 rfl | exact C.get 9 rfl)
local macro_rules | `(tactic| walk_at "rd1") => `(tactic| first
  | with_reducible refine u_seq ?_ | with_reducible refine u_asg ?_ | ((with_reducible refine' u_var ?hv ?_); (case hv => exact rfl)) | with_reducible refine u_c ?_ | with_reducible refine u_op ?_ | with_reducible refine u_if ?_ | with_reducible refine u_ret ?_
  | with_reducible refine u_test ?_ | with_reducible refine u_tB ?_ | with_reducible refine u_and ?_ | with_reducible refine u_or ?_ | with_reducible refine u_not ?_ | with_reducible refine u_call ?_ | with_reducible refine u_cb ?_ | with_reducible refine u_cons ?_ | with_reducible refine u_nil ?_
  | with_reducible refine u_gname ?_ | with_reducible refine u_gcons ?_ | with_reducible refine u_gnil ?_ | with_reducible refine u_gsub ?_ | with_reducible refine u_lst ?_ | with_reducible refine u_tup ?_ | with_reducible refine u_un ?_ | with_reducible refine u_ifE ?_
  | with_reducible refine u_drop ?_ | with_reducible refine u_next ?_ | with_reducible refine u_retN ?_ | with_reducible refine u_tf ?_ | with_reducible refine u_fld ?_ | with_reducible refine u_gfld ?_ | with_reducible refine u_par ?_ | with_reducible refine u_meth ?_ | with_reducible refine u_prop ?_ | with_reducible refine u_make ?_
  | with_reducible refine u_bm ?_ | with_reducible refine u_bm0 ?_ | with_reducible refine u_sl ?_ | with_reducible refine u_noPart ?_ | with_reducible refine u_part ?_ | with_reducible refine u_chain ?_ | with_reducible refine u_andV ?_ | with_reducible refine u_orV ?_ | with_reducible refine u_notV ?_
  | with_reducible refine u_listRg ?_ | with_reducible refine u_rg1 ?_ | with_reducible refine u_lc2 ?_ | with_reducible refine u_enum ?_ | with_reducible refine u_zip ?_ | with_reducible refine u_for ?_ | with_reducible refine u_lc ?_ | with_reducible refine u_rng1 ?_ | with_reducible refine u_rng2 ?_ | with_reducible refine u_yes ?_ | with_reducible refine u_brk ?_ | with_reducible refine u_cont ?_
  | with_reducible refine r_add ?_ | with_reducible refine r_sub ?_ | with_reducible refine r_lt ?_ | with_reducible refine r_le ?_ | with_reducible refine r_gt ?_ | with_reducible refine r_ge ?_ | with_reducible refine r_eqI ?_ | with_reducible refine r_neI ?_ | with_reducible refine r_neg ?_ | with_reducible refine r_int ?_ | with_reducible refine r_intB ?_ | with_reducible refine r_abs ?_ | with_reducible refine r_isNi ?_ | with_reducible refine r_isNn ?_ | with_reducible refine r_isNr ?_ | with_reducible refine r_isNs ?_ | with_reducible refine r_notN ?_
  | ((with_reducible refine' r_ixL ?hs ?ha ?_); (case hs => exact SqL.of (by walk_at "hg")); (case ha => first | exact rfl | exact atI_nat (by assumption)))
  | ((with_reducible refine' r_ixT ?hs ?ha ?_); (case hs => exact SqT.of (by walk_at "hg")); (case ha => first | exact rfl | exact atI_nat (by assumption)))
  | ((with_reducible refine' r_len ?hs ?_); (case hs => exact SqL.of (by walk_at "hg")))
  | ((with_reducible refine' r_lenT ?hs ?_); (case hs => exact SqT.of (by walk_at "hg")))
  | ((with_reducible refine' r_mod ?c ?_); (case c => first | decide | omega)) | ((with_reducible refine' r_div ?c ?_); (case c => first | (constructor <;> decide) | (constructor <;> omega)))
  | ((with_reducible refine' r_mul ?c ?_); (case c => first | exact .inl ⟨by omega, by omega⟩ | exact .inr ⟨by omega, by omega⟩))
  | ((with_reducible refine' r_pow ?c ?_); (case c => exact ⟨by omega, by omega, by omega⟩))
  | with_reducible refine b_nT ?_ | with_reducible refine b_nF ?_ | with_reducible refine iteF ?_ | with_reducible refine iteT ?_
  | with_reducible refine k_blA ?_ | with_reducible refine k_int ?_ | with_reducible refine k_two ?_
  | ((with_reducible refine' k_size ?hn ?_); (case hn => exact Nat.le_of_ble_eq_true rfl))
  | ((with_reducible refine' k_fld ?ha ?c ?n ?hl ?_); (case ha => walk_at "hg"); (case c => walk_at "cls"); (case n => walk_at "att"); (case hl => exact rfl))
  | ((with_reducible refine' k_put ?ha ?c ?n ?hl ?_); (case ha => walk_at "hg"); (case c => walk_at "cls"); (case n => walk_at "att"); (case hl => first | decide | exact Nat.lt_of_lt_of_le (Nat.lt_succ_self _) (Nat.le_of_ble_eq_true rfl)))
  | ((with_reducible refine' k_meth ?ha ?hl ?_); (case ha => walk_at "hg"); (case hl => exact rfl))
  | ((with_reducible refine' k_prop ?ha ?_); (case ha => walk_at "hg")))
local macro_rules | `(tactic| walk_at "rd") => `(tactic| repeat walk_at "rd1")
local macro_rules | `(tactic| walk_at "cls") => `(tactic| first | exact T.c_Board | exact T.c_World)
local macro_rules | `(tactic| walk_at "att") => `(tactic| first | exact T.n_Board_homes | exact T.n_Board_places | exact T.n_Board_rows | exact T.n_World_board | exact T.n_World_shown | exact T.n_World_standing | exact T.n_World_won | exact T.n_World_steps)

def sp_need_board (K : PySem.W.Frag) (A : Adr) : Sp := fun vs H Q E => ∃ (b : Addr) (s : Str), vs = [.ref b, .str s] ∧ ∃ dB fs, H b = some (.ins A.Board dB fs) ∧ Q .non H
def sp_need_hands (K : PySem.W.Frag) (A : Adr) : Sp := fun vs H Q E => ∃ (b h : Addr), vs = [.ref b, .ref h] ∧ ∃ (a : WA) (R : Rows) (m : Nat) (ads : List Addr) (hs : List Int), b = a.B ∧ Has H ((h, .lst (hs.map V.int)) :: bL A a R m ads) ∧ TRows H ads R ∧ HandsOk R hs ∧ LenOk R ∧ R.length ≤ 60 ∧
  ∀ l H', Ret [] H H' → H l = none → H' l = some (.lst (hs.map V.int)) → Q (.ref l) H'
def sp_World_init (K : PySem.W.Frag) (A : Adr) : Sp := fun vs H Q E => ∃ (x b h : Addr), vs = [.ref x, .ref b, .ref h] ∧ ∃ (a : WA) (R : Rows) (m : Nat) (ads : List Addr) (hs : List Int), x = a.w ∧ b = a.B ∧ Has H ((a.w, .ins A.World a.dx []) :: (h, .lst (hs.map V.int)) :: bL A a R m ads) ∧ TRows H ads R ∧ HandsOk R hs ∧ LenOk R ∧ R.length ≤ 60 ∧ m ≤ 1000 ∧
  ∀ (sh st wo : Addr) H', Ret [a.w] H H' → H sh = none → H st = none → H wo = none → Has H' (wL A { a with sh := sh, st := st, wo := wo } ⟨hs, [], List.replicate m 0, 0⟩) → Q .non H'
theorem rep_zero (m : Nat) : (List.replicate m [V.int 0]).flatten = (List.replicate m (0 : Int)).map V.int := by
  induction m with
  | zero => rfl
  | succ m ih => rw [List.replicate_succ, List.replicate_succ, List.flatten_cons, ih]; rfl
section
variable {P : Program} {w : World} {K : PySem.W.Frag} {mg : Str → Option Value} {base : Heap} {A : Adr}
theorem ok_World_take (T : Txt K mg A)  : Gv P w K mg base CX0 1 A.World "take" ["self", "other"] [] (sp_World_take K A) := by
  obtain ⟨f, fd, F, hm⟩ := T.v_World_take
  refine ⟨⟨f, fd, [], ?_, hm, F.binds (ps := ["self", "other"]) (fun _ _ _ _ _ _ us hl => match us, hl with | [_, _], _ => rfl), .nil⟩⟩
  refine F.ok sc_World_take (fun vs H Q E h => by first | (obtain ⟨rfl, _⟩ := h; rfl) | (obtain ⟨_, rfl, _⟩ := h; rfl) | (obtain ⟨_, _, rfl, _⟩ := h; rfl) | (obtain ⟨_, _, _, rfl, _⟩ := h; rfl) | (obtain ⟨_, _, _, _, rfl, _⟩ := h; rfl) | (obtain ⟨_, _, _, _, _, rfl, _⟩ := h; rfl) | (obtain ⟨_, _, _, _, _, _, rfl, _⟩ := h; rfl) | (obtain ⟨_, _, _, _, _, _, _, rfl, _⟩ := h; rfl)) (fun cdv A' outer s H vs Q E hr h => ⟨_, (pss_cons (ps_asg (pe_tup (pa_cons (pe_callTy (call_listK K) (by rfl) T.b_list (by decide +kernel) (pa_cons (pe_fldK K (pv 1) rfl) pa_nil)) (pa_cons (pe_callTy (call_listK K) (by rfl) T.b_list (by decide +kernel) (pa_cons (pe_fldK K (pv 1) rfl) pa_nil)) (pa_cons (pe_callTy (call_listK K) (by rfl) T.b_list (by decide +kernel) (pa_cons (pe_fldK K (pv 1) rfl) pa_nil)) pa_nil)))) (pg_tupK K (n := 3) rfl (pgs_cons (pg_fldK K (pv 0)) (pgs_cons (pg_fldK K (pv 0)) (pgs_cons (pg_fldK K (pv 0)) pgs_nil)))))
      (pss_one (ps_fldK K (pv 0) (pe_fldK K (pv 1) rfl) rfl))), ?_⟩)
  obtain ⟨w2, w, rfl, a, s, dx2, v0, v1, v2, v3, v4, rfl, hW, h2, hne, k⟩ := h
  have hn2 : w2 ∉ (wL A a s).map (·.1) := fun z => by
    simp only [wL, List.map_cons, List.map_nil, List.mem_cons, List.not_mem_nil, or_false] at z
    have g1 := hW.2 (a.sh, _) (List.mem_of_getElem? (i := 1) rfl)
    have g2 := hW.2 (a.st, _) (List.mem_of_getElem? (i := 2) rfl)
    have g3 := hW.2 (a.wo, _) (List.mem_of_getElem? (i := 3) rfl)
    rcases z with z | z | z | z
    · exact hne z
    · rw [z, g1] at h2; cases h2
    · rw [z, g2] at h2; cases h2
    · rw [z, g3] at h2; cases h2
  have C : Cur H [w2] H ((w2, .ins A.World dx2 [("board", v0), ("shown", v1), ("standing", v2), ("won", v3), ("steps", v4)]) :: wL A a s) := ⟨List.nodup_cons.mpr ⟨hn2, hW.1⟩, fun p hp => (List.mem_cons.mp hp).elim (fun e => e ▸ h2) (hW.2 p), .refl⟩
  walk_at "rd"
  refine r_listL (SqL.of (C.get 2 rfl)) (new_c C fun l1 H1 l10 C => ?_)
  walk_at "rd"
  refine r_listL (SqL.of (C.get 4 rfl)) (new_c C fun l2 H2 l20 C => ?_)
  walk_at "rd"
  refine r_listL (SqL.of (C.get 6 rfl)) (new_c C fun l3 H3 l30 C => ?_)
  walk_at "rd"
  refine new_c C fun t H4 t0 C => ?_
  refine u_gtup (SqT.of (C.get 0 rfl)) rfl ?_
  walk_at "rd"
  refine mod_c C 4 rfl (.inl (by simp)) fun H5 C => ?_
  walk_at "rd"
  refine mod_c C 4 rfl (.inl (by simp)) fun H6 C => ?_
  walk_at "rd"
  refine mod_c C 4 rfl (.inl (by simp)) fun H7 C => ?_
  walk_at "rd"
  refine mod_c C 4 rfl (.inl (by simp)) fun H8 C => ?_
  exact k H8 C.ret
theorem ok_need_board (T : Txt K mg A)  : Gd P w K mg base CX0 1 "need_board" ["value", "part"] [.str "board"] (sp_need_board K A) := by
  obtain ⟨f, fd, F, hm⟩ := T.f_need_board
  obtain ⟨ds, hv, hb⟩ := F.binds1 (ps := ["value", "part"]) 1 0 (by simp) rfl (fun _ _ _ _ _ _ _ us its l1 l2 => match us, its, l1, l2 with | [_], [_], _, _ => ⟨_, rfl, rfl⟩)
  refine ⟨⟨f, fd, ds, ?_, hm, F.kp, hb, hv⟩⟩
  refine FunD.ok F sc_need_board (fun vs H Q E h => by first | (obtain ⟨rfl, _⟩ := h; rfl) | (obtain ⟨_, rfl, _⟩ := h; rfl) | (obtain ⟨_, _, rfl, _⟩ := h; rfl) | (obtain ⟨_, _, _, rfl, _⟩ := h; rfl) | (obtain ⟨_, _, _, _, rfl, _⟩ := h; rfl) | (obtain ⟨_, _, _, _, _, rfl, _⟩ := h; rfl) | (obtain ⟨_, _, _, _, _, _, rfl, _⟩ := h; rfl) | (obtain ⟨_, _, _, _, _, _, _, rfl, _⟩ := h; rfl)) (fun cdv A' outer s H vs Q E hr h => ⟨_, PSs.nox (X := cxOf CX0 P w K mg base N_need_board "need_board" (defScope s_need_board) f cdv A' outer s H E) (pss_one (ps_if (pt_not (pt_val (pe_callB (C8.call_isC T.s_Board) (by rfl) T.b_isinstance (by decide +kernel) (pa_cons (pv 0) (pa_cons (pe_glob (v := .ref A.Board) (by rfl) T.g_Board rfl) pa_nil))))) (pss_one ps_never) pss_nil)), ?_⟩)
  obtain ⟨b, s, rfl, dB, fs, hb, k⟩ := h
  walk_at "rd"
  refine ⟨b, dB, fs, rfl, hb, ?_⟩
  walk_at "rd"
  exact k
theorem ok_need_hands (T : Txt K mg A) (G_is_within : Gd P w K mg base CX0 2 "is_within" ["value", "least", "most"] [] (sp_is_within K A)) : Gd P w K mg base CX0 3 "need_hands" ["board", "value"] [] (sp_need_hands K A) := by
  obtain ⟨f, fd, F, hm⟩ := T.f_need_hands
  refine ⟨⟨f, fd, [], ?_, hm, F.kp, F.binds (ps := ["board", "value"]) (fun _ _ _ _ _ _ us hl => match us, hl with | [_, _], _ => rfl), .nil⟩⟩
  refine F.ok sc_need_hands (fun vs H Q E h => by first | (obtain ⟨rfl, _⟩ := h; rfl) | (obtain ⟨_, rfl, _⟩ := h; rfl) | (obtain ⟨_, _, rfl, _⟩ := h; rfl) | (obtain ⟨_, _, _, rfl, _⟩ := h; rfl) | (obtain ⟨_, _, _, _, rfl, _⟩ := h; rfl) | (obtain ⟨_, _, _, _, _, rfl, _⟩ := h; rfl) | (obtain ⟨_, _, _, _, _, _, rfl, _⟩ := h; rfl) | (obtain ⟨_, _, _, _, _, _, _, rfl, _⟩ := h; rfl)) (fun cdv A' outer s H vs Q E hr h => ⟨_, (pss_cons (ps_if (PW.pt (pw_or (pt_not (pt_val (pe_callB (call_isiTK K) (by rfl) T.b_isinstance (by decide +kernel) (pa_cons (pv 1) (pa_cons (pe_tup (pa_cons (pe_bltn (v := .ty "list") (by rfl) T.b_list (by decide +kernel) rfl) (pa_cons (pe_bltn (v := .ty "tuple") (by rfl) T.b_tuple (by decide +kernel) rfl) pa_nil))) pa_nil))))) (pw_or1 (pt_cmpR (op_neK K hr.units) (pe_callB (call_lenK K) (by rfl) T.b_len PySem.boot_len (pa_cons (pv 1) pa_nil)) (pe_fldK K (pv 0) rfl) (nomark _))))) (pss_one ps_never) pss_nil)
      (pss_cons (ps_if (pt_not (pt_val (pe_callB (call_allK K rfl) (by rfl) T.b_all (by decide +kernel) (pa_cons (pe_lc (own := [("hand", 2), ("row", 3)]) rfl sc_need_hands.nd (pi_zipK K false true (by rfl) T.b_zip (pa_cons (pv 1) (pa_cons (pe_fldK K (pv 0) rfl) pa_nil))) (blkOk_by (N := N_need_hands) (sc := defScope s_need_hands) (own := [("hand", 2), ("row", 3)]) (by decide +kernel)) (fun _ _ _ _ _ => (pg_tupK K (n := 2) rfl (pgs_cons (pg_name (i := 2) sc_need_hands.nd rfl (by first | exact .inl rfl | exact .inr rfl)) (pgs_cons (pg_name (i := 3) sc_need_hands.nd rfl (by first | exact .inl rfl | exact .inr rfl)) pgs_nil)))) (fun _ _ _ _ _ => pts_nil) (fun _ _ _ _ _ => (pe_callG G_is_within (hr.mono (by decide)) (by rfl) pass0 (pa_cons (pv 2) (pa_cons pe_int (pa_cons (pe_op op_subI (pe_callB (call_lenK K) (by rfl) T.b_len PySem.boot_len (pa_cons (pv 3) pa_nil)) pe_int) pa_nil)))))) pa_nil)))) (pss_one ps_never) pss_nil)
      (pss_one (ps_ret (pe_callTy (call_listK K) (by rfl) T.b_list (by decide +kernel) (pa_cons (pv 1) pa_nil)))))), ?_⟩)
  obtain ⟨b, h, rfl, a, R, m, ads, hs, rfl, hW, hT, ok, lk, n1, k⟩ := h
  have C : Cur H [] H ((h, .lst (hs.map V.int)) :: bL A a R m ads) := hW.cur
  have hl : hs.length = R.length := ok.1
  walk_at "rd"
  refine new_c C fun t1 H1 t10 C => ?_
  walk_at "rd"
  refine q_isSeqL (C.get 0 rfl) (C.get 1 rfl) ?_
  walk_at "rd"
  refine b_f (by simp [hl]) ?_
  walk_at "rd"
  refine k_zip (xs := hs.map V.int) (ys := ads.map V.ref) (SqL.of (C.get 1 rfl)) (SqT.of (C.get 3 rfl)) ?_
  refine lc_z (k1 := false) (k2 := true) (xs := hs.map V.int) (ys := ads.map V.ref) (by rw [List.length_map, List.length_map, hT.1, hl]) C (fun D i H' => Cur H [] H' [(D, .lst ((List.replicate i true).map V.bl)), (h, .lst (hs.map V.int)), (a.t, .tup (ads.map V.ref))])
    (fun D H1 D0 C => C.sub (by have := C.nd; simp only [List.map_cons, List.map_nil, List.nodup_cons, List.mem_cons, List.not_mem_nil, or_false, not_or] at this ⊢; simp [this]) (by simp))
    (fun D i H' hi C => ⟨SqL.of (C.get 1 rfl), SqT.of (C.get 2 rfl)⟩) (fun D i x y H' D0 hx hy C => ?_) (fun D H' D0 C => ?_)
  · obtain ⟨n, hn, rfl⟩ := int_of hx
    have hin : i < hs.length := (List.getElem?_eq_some_iff.mp hn).1
    obtain ⟨ar, har, rfl⟩ : ∃ ar, ads[i]? = some ar ∧ y = .ref ar := by
      rw [List.getElem?_map] at hy
      cases e : ads[i]? with
      | none => rw [e] at hy; cases hy
      | some ar => rw [e] at hy; exact ⟨ar, rfl, (Option.some.inj hy).symm⟩
    obtain ⟨b0, b1⟩ := ok.2 i (by omega)
    have hgd : hs.getD i 0 = n := by rw [List.getD_eq_getElem?_getD, hn]; rfl
    rw [hgd] at b0 b1
    refine new_c C fun t H2 t0 C => ?_
    have harr := C.ret.tup (fun s hs => nomatch hs) (hT.2 _ _ har)
    refine u_gtup (SqT.of (C.get 0 rfl)) rfl ?_
    walk_at "rd"
    refine ⟨rfl, ?_⟩
    walk_at "rd"
    refine ⟨n, 0, _, rfl, ?_⟩
    rw [show (decide ((0 : Int) ≤ n) && decide (n ≤ (((row R i).map V.int).length : Int) - 1)) = true by rw [len_map]; simp [b0]; omega]
    refine k_acc (C.get 1 rfl) (by rw [List.length_map, List.length_replicate]; omega) ?_
    refine mod_c C 1 rfl (.inr D0) fun H3 C => ?_
    have e : (List.replicate i true).map V.bl ++ [V.bl true] = (List.replicate (i + 1) true).map V.bl := by rw [List.replicate_succ', List.map_append]; rfl
    have C' := C.drop
    have C'' : Cur H [] H3 [(D, .lst ((List.replicate i true).map V.bl ++ [V.bl true])), (h, .lst (hs.map V.int)), (a.t, .tup (ads.map V.ref))] := C'
    rw [e] at C''
    exact C''
  · walk_at "rd"
    refine ⟨D, _, rfl, SqL.of (C.get 0 rfl), ?_⟩
    rw [show (List.replicate (hs.map V.int).length true).all id = true by simp]
    walk_at "rd"
    refine r_listL (SqL.of (C.get 1 rfl)) (new_c C fun l H1 l0 C => k l H1 C.ret l0 (C.get 0 rfl))
theorem ok_World_init (T : Txt K mg A) (G_need_board : Gd P w K mg base CX0 1 "need_board" ["value", "part"] [.str "board"] (sp_need_board K A)) (G_need_hands : Gd P w K mg base CX0 3 "need_hands" ["board", "value"] [] (sp_need_hands K A)) : Gm P w K mg base CX0 4 "World" A.World ["self", "board", "hands"] [] (sp_World_init K A) := by
  obtain ⟨f, fd, F, hm, hk⟩ := T.v_World_init
  refine ⟨⟨f, fd, [], ?_, hk, hm, F.binds (ps := ["self", "board", "hands"]) (fun _ _ _ _ _ _ us hl => match us, hl with | [_, _, _], _ => rfl), .nil⟩⟩
  refine F.ok sc_World_init (fun vs H Q E h => by first | (obtain ⟨rfl, _⟩ := h; rfl) | (obtain ⟨_, rfl, _⟩ := h; rfl) | (obtain ⟨_, _, rfl, _⟩ := h; rfl) | (obtain ⟨_, _, _, rfl, _⟩ := h; rfl) | (obtain ⟨_, _, _, _, rfl, _⟩ := h; rfl) | (obtain ⟨_, _, _, _, _, rfl, _⟩ := h; rfl) | (obtain ⟨_, _, _, _, _, _, rfl, _⟩ := h; rfl) | (obtain ⟨_, _, _, _, _, _, _, rfl, _⟩ := h; rfl)) (fun cdv A' outer s H vs Q E hr h => ⟨_, (pss_cons (ps_expr (pe_callG G_need_board (hr.mono (by decide)) (by rfl) pass0 (pa_cons (pv 1) pa_nil)))
      (pss_cons (ps_fldK K (pv 0) (pv 1) rfl)
      (pss_cons (ps_fldK K (pv 0) (pe_callG G_need_hands (hr.mono (by decide)) (by rfl) pass0 (pa_cons (pv 1) (pa_cons (pv 2) pa_nil))) rfl)
      (pss_cons (ps_fldK K (pv 0) (pe_lst pa_nil) rfl)
      (pss_cons (ps_fldK K (pv 0) (pe_op op_mulU (pe_lst (pa_cons pe_int pa_nil)) (pe_fldK K (pv 1) rfl)) rfl)
      (pss_one (ps_fldK K (pv 0) pe_int rfl))))))), ?_⟩)
  obtain ⟨x, b, h, rfl, a, R, m, ads, hs, rfl, rfl, hW, hT, ok, lk, n1, hm, k⟩ := h
  have C : Cur H [a.w] H ((a.w, .ins A.World a.dx []) :: (h, .lst (hs.map V.int)) :: bL A a R m ads) := hW.cur
  walk_at "rd"
  refine ⟨a.B, "board", rfl, a.dB, _, C.get 2 rfl, ?_⟩
  walk_at "rd"
  refine mod_c C 0 rfl (.inl (by simp)) fun H1 C => ?_
  have nt : ∀ s ∈ [a.w], ∀ xs, H s ≠ some (.tup xs) := fun s hs xs e => by
    rw [List.mem_singleton.mp hs] at e
    rw [hW.2 (a.w, _) (List.mem_cons_self)] at e; cases e
  walk_at "rd"
  refine ⟨a.B, h, rfl, a, R, m, ads, hs, rfl, has_of C.drop, hT.to C.ret nt, ok, lk, n1, fun sh H2 r2 sh0 e2 => ?_⟩
  have f1 := C.fresh sh0
  replace C := C.call0n r2 sh0 e2
  walk_at "rd"
  refine mod_c C 1 rfl (.inl (by simp)) fun H3 C => ?_
  walk_at "rd"
  refine new_c C fun st H4 f2 C => ?_
  walk_at "rd"
  refine mod_c C 2 rfl (.inl (by simp)) fun H5 C => ?_
  walk_at "rd"
  refine new_c C fun z0 H6 z00 C => ?_
  walk_at "rd"
  refine r_rep (C.get 0 rfl) (by omega) (by omega) (by simp) ?_
  refine new_c C fun wo H7 f3 C => ?_
  walk_at "rd"
  refine mod_c C 4 rfl (.inl (by simp)) fun H8 C => ?_
  walk_at "rd"
  refine mod_c C 4 rfl (.inl (by simp)) fun H9 C => ?_
  walk_at "rd"
  refine k sh st wo H9 C.ret f1 f2 f3 ?_
  rw [Int.toNat_natCast, rep_zero] at C
  exact has_of (C.sub (L' := wL A { a with sh := sh, st := st, wo := wo } ⟨hs, [], List.replicate m 0, 0⟩) (by have := C.nd; simp only [List.map_cons, List.map_nil, List.nodup_cons, List.mem_cons, List.not_mem_nil, or_false, not_or, List.set_cons_succ, List.set_cons_zero] at this ⊢; simp [this, Ne.symm]) (fun q hq => by
    simp only [wL, List.mem_cons, List.not_mem_nil, or_false] at hq
    rcases hq with rfl | rfl | rfl | rfl
    · exact List.mem_of_getElem? (i := 4) rfl
    · exact List.mem_of_getElem? (i := 3) rfl
    · exact List.mem_of_getElem? (i := 2) rfl
    · exact List.mem_of_getElem? (i := 0) rfl))
end
end K94

end

section
set_option Elab.async false
set_option linter.all false
set_option maxRecDepth 100000
set_option maxHeartbeats 1000000
namespace K94
open PySem PySem.Spec PyProof.Rows L2 Nd M94
set_option hygiene false
local macro_rules | `(tactic| walk_at "hg") => `(tactic| first | assumption | exact C.get 0 rfl | exact C.get 1 rfl | exact C.get 2 rfl | exact C.get 3 rfl | exact C.get 4 rfl | exact C.get 5 rfl | exact C.get 6 rfl | exact C.get 7 rfl | exact C.get 8 rfl | exact C.get 9 rfl)
local macro_rules | `(tactic| walk_at "rd1") => `(tactic| first
  | with_reducible refine u_seq ?_ | with_reducible refine u_asg ?_ | ((with_reducible refine' u_var ?hv ?_); (case hv => exact rfl)) | with_reducible refine u_c ?_ | with_reducible refine u_op ?_ | with_reducible refine u_if ?_ | with_reducible refine u_ret ?_
  | with_reducible refine u_test ?_ | with_reducible refine u_tB ?_ | with_reducible refine u_and ?_ | with_reducible refine u_or ?_ | with_reducible refine u_not ?_ | with_reducible refine u_call ?_ | with_reducible refine u_cb ?_ | with_reducible refine u_cons ?_ | with_reducible refine u_nil ?_
  | with_reducible refine u_gname ?_ | with_reducible refine u_gcons ?_ | with_reducible refine u_gnil ?_ | with_reducible refine u_gsub ?_ | with_reducible refine u_lst ?_ | with_reducible refine u_tup ?_ | with_reducible refine u_un ?_ | with_reducible refine u_ifE ?_
  | with_reducible refine u_drop ?_ | with_reducible refine u_next ?_ | with_reducible refine u_retN ?_ | with_reducible refine u_tf ?_ | with_reducible refine u_fld ?_ | with_reducible refine u_gfld ?_ | with_reducible refine u_par ?_ | with_reducible refine u_meth ?_ | with_reducible refine u_prop ?_ | with_reducible refine u_make ?_
  | with_reducible refine u_bm ?_ | with_reducible refine u_bm0 ?_ | with_reducible refine u_sl ?_ | with_reducible refine u_noPart ?_ | with_reducible refine u_part ?_ | with_reducible refine u_chain ?_ | with_reducible refine u_andV ?_ | with_reducible refine u_orV ?_ | with_reducible refine u_notV ?_
  | with_reducible refine u_listRg ?_ | with_reducible refine u_rg1 ?_ | with_reducible refine u_lc2 ?_ | with_reducible refine u_enum ?_ | with_reducible refine u_zip ?_ | with_reducible refine u_for ?_ | with_reducible refine u_lc ?_ | with_reducible refine u_rng1 ?_ | with_reducible refine u_rng2 ?_ | with_reducible refine u_yes ?_ | with_reducible refine u_brk ?_ | with_reducible refine u_cont ?_
  | with_reducible refine r_add ?_ | with_reducible refine r_sub ?_ | with_reducible refine r_lt ?_ | with_reducible refine r_le ?_ | with_reducible refine r_gt ?_ | with_reducible refine r_ge ?_ | with_reducible refine r_eqI ?_ | with_reducible refine r_neI ?_ | with_reducible refine r_neg ?_ | with_reducible refine r_int ?_ | with_reducible refine r_intB ?_ | with_reducible refine r_abs ?_ | with_reducible refine r_isNi ?_ | with_reducible refine r_isNn ?_ | with_reducible refine r_isNr ?_ | with_reducible refine r_isNs ?_ | with_reducible refine r_notN ?_
  | ((with_reducible refine' r_ixL ?hs ?ha ?_); (case hs => exact SqL.of (by walk_at "hg")); (case ha => first | exact rfl | exact atI_nat (by assumption)))
  | ((with_reducible refine' r_ixT ?hs ?ha ?_); (case hs => exact SqT.of (by walk_at "hg")); (case ha => first | exact rfl | exact atI_nat (by assumption)))
  | ((with_reducible refine' r_len ?hs ?_); (case hs => exact SqL.of (by walk_at "hg")))
  | ((with_reducible refine' r_lenT ?hs ?_); (case hs => exact SqT.of (by walk_at "hg")))
  | ((with_reducible refine' r_mod ?c ?_); (case c => first | decide | omega)) | ((with_reducible refine' r_div ?c ?_); (case c => first | (constructor <;> decide) | (constructor <;> omega)))
  | ((with_reducible refine' r_mul ?c ?_); (case c => first | exact .inl ⟨by omega, by omega⟩ | exact .inr ⟨by omega, by omega⟩))
  | ((with_reducible refine' r_pow ?c ?_); (case c => exact ⟨by omega, by omega, by omega⟩))
  | with_reducible refine b_nT ?_ | with_reducible refine b_nF ?_ | with_reducible refine iteF ?_ | with_reducible refine iteT ?_
  | with_reducible refine k_blA ?_ | with_reducible refine k_int ?_ | with_reducible refine k_two ?_
  | ((with_reducible refine' k_size ?hn ?_); (case hn => exact Nat.le_of_ble_eq_true rfl))
  | ((with_reducible refine' k_fld ?ha ?c ?n ?hl ?_); (case ha => walk_at "hg"); (case c => walk_at "cls"); (case n => walk_at "att"); (case hl => exact rfl))
  | ((with_reducible refine' k_put ?ha ?c ?n ?hl ?_); (case ha => walk_at "hg"); (case c => walk_at "cls"); (case n => walk_at "att"); (case hl => first | decide | exact Nat.lt_of_lt_of_le (Nat.lt_succ_self _) (Nat.le_of_ble_eq_true rfl)))
  | ((with_reducible refine' k_meth ?ha ?hl ?_); (case ha => walk_at "hg"); (case hl => exact rfl))
  | ((with_reducible refine' k_prop ?ha ?_); (case ha => walk_at "hg")))
local macro_rules | `(tactic| walk_at "rd") => `(tactic| repeat walk_at "rd1")
local macro_rules | `(tactic| walk_at "cls") => `(tactic| first | exact T.c_Board | exact T.c_World)
local macro_rules | `(tactic| walk_at "att") => `(tactic| first | exact T.n_Board_homes | exact T.n_Board_places | exact T.n_Board_rows | exact T.n_World_board | exact T.n_World_shown | exact T.n_World_standing | exact T.n_World_won | exact T.n_World_steps)

def sp_World_copy (K : PySem.W.Frag) (A : Adr) : Sp := fun vs H Q E => ∃ w : Addr, vs = [.ref w] ∧ ∃ (a : WA) (s : WS) (R : Rows) (m : Nat) (ads : List Addr), w = a.w ∧ Has H (wL A a s ++ bL A a R m ads) ∧ TRows H ads R ∧ WOk R m s ∧ m ≤ 1000 ∧ ∀ q H', Ret [] H H' → Q (.ref q) H'
def sp_World_led (K : PySem.W.Frag) (A : Adr) : Sp := fun vs H Q E => ∃ (w : Addr) (i : Int), vs = [.ref w, .int i, .int 10000] ∧ ∃ (a : WA) (s : WS) (R : Rows) (m : Nat) (rk gd : Nat → Nat) (ads : List Addr) (p : Nat), w = a.w ∧ Has H (wL A a s ++ bL A a R m ads) ∧ TRows H ads R ∧ WOk R m s ∧ Good R m rk gd ∧ m ≤ 1000 ∧ 0 ≤ i ∧ s.sn[i.toNat]? = some (p : Int) ∧ p < R.length ∧
  ∀ (v : Int) H', Ret (wS a) H H' → (∀ q ∈ wL A a (ledTo R s i.toNat p), H' q.1 = some q.2) → Q (.int v) H'
def sp_World_enter (K : PySem.W.Frag) (A : Adr) : Sp := fun vs H Q E => ∃ (w : Addr) (p : Int), vs = [.ref w, .int p] ∧ ∃ (a : WA) (s : WS) (R : Rows) (m : Nat) (ads : List Addr), w = a.w ∧ Has H (wL A a s ++ bL A a R m ads) ∧ 0 ≤ p ∧ p < (R.length : Int) ∧ s.sn.length < 200 ∧
  ∀ (v : Int) H', Ret (wS a) H H' → (∀ q ∈ wL A a { s with sn := s.sn ++ [p] }, H' q.1 = some q.2) → Q (.int v) H'
section
variable {P : Program} {w : World} {K : PySem.W.Frag} {mg : Str → Option Value} {base : Heap} {A : Adr}
theorem ok_World_copy (T : Txt K mg A) (G_World_init : Gm P w K mg base CX0 4 "World" A.World ["self", "board", "hands"] [] (sp_World_init K A)) (G_World_take : Gv P w K mg base CX0 1 A.World "take" ["self", "other"] [] (sp_World_take K A)) : Gv P w K mg base CX0 6 A.World "copy" ["self"] [] (sp_World_copy K A) := by
  obtain ⟨f, fd, F, hm⟩ := T.v_World_copy
  refine ⟨⟨f, fd, [], ?_, hm, F.binds (ps := ["self"]) (fun _ _ _ _ _ _ us hl => match us, hl with | [_], _ => rfl), .nil⟩⟩
  refine F.ok sc_World_copy (fun vs H Q E h => by first | (obtain ⟨rfl, _⟩ := h; rfl) | (obtain ⟨_, rfl, _⟩ := h; rfl) | (obtain ⟨_, _, rfl, _⟩ := h; rfl) | (obtain ⟨_, _, _, rfl, _⟩ := h; rfl) | (obtain ⟨_, _, _, _, rfl, _⟩ := h; rfl) | (obtain ⟨_, _, _, _, _, rfl, _⟩ := h; rfl) | (obtain ⟨_, _, _, _, _, _, rfl, _⟩ := h; rfl) | (obtain ⟨_, _, _, _, _, _, _, rfl, _⟩ := h; rfl)) (fun cdv A' outer s H vs Q E hr h => ⟨_, (pss_cons (ps_set (i := 1) sc_World_copy.nd rfl (.inl rfl) (pe_makeG G_World_init (hr.mono (by decide)) (by rfl) pass0 (pa_cons (pe_fldK K (pv 0) rfl) (pa_cons (pe_fldK K (pv 0) rfl) pa_nil))))
      (pss_cons (ps_expr (pe_methG G_World_take T.c_World (hr.mono (by decide)) pass0 (pv 1) (pa_cons (pv 0) pa_nil)))
      (pss_one (ps_ret (pv 1))))), ?_⟩)
  obtain ⟨w, rfl, a, s, R, m, ads, rfl, hW, hT, ok, hm, k⟩ := h
  have C : Cur H [] H (wL A a s ++ bL A a R m ads) := hW.cur
  walk_at "rd"
  refine make_c C fun x dx H1 x0 dx0 C => ?_
  have hi : Has H1 ((x, .ins A.World dx []) :: (a.sh, .lst (s.hs.map V.int)) :: bL A a R m ads) := has_of (C.sub (by have := C.nd; simp only [wL, bL, List.map_append, List.cons_append, List.nil_append, List.map_cons, List.map_nil, List.nodup_cons, List.mem_cons, List.not_mem_nil, or_false, not_or] at this ⊢; simp [this]) (by simp))
  refine ⟨x, a.B, a.sh, rfl, { a with w := x, dx := dx }, R, m, ads, s.hs, rfl, rfl, hi, hT.to C.ret (fun _ z => nomatch z), ok.hok, ok.len, ok.n1, hm, fun sh st wo H2 r2 f1 f2 f3 h2 => ⟨rfl, ?_⟩⟩
  have C := C.call1 0 rfl (.inr x0) r2 (h2.2 _ (List.mem_cons_self))
  walk_at "rd"
  refine ⟨x, a.w, rfl, a, s, dx, _, _, _, _, _, rfl, (has_of (C.drop.drop)).left, C.get 0 rfl, C.ne 0 2 rfl rfl (by decide), fun H3 r3 => ?_⟩
  walk_at "rd"
  exact k x H3 (C.retTo r3 fun y hy => .inr (by rw [List.mem_singleton.mp hy]; exact x0))
theorem ok_World_led (T : Txt K mg A) (G_World_need_out : Gv P w K mg base CX0 4 A.World "need_out" ["self", "walker"] [] (sp_World_need_out K A)) (G_need_number : Gd P w K mg base CX0 3 "need_number" ["value", "part", "least", "most"] [] (sp_need_number K A)) (G_World_need_away : Gv P w K mg base CX0 1 A.World "need_away" ["self", "walker"] [] (sp_World_need_away K A)) (G_World_sent_home : Gv P w K mg base CX0 2 A.World "sent_home" ["self", "walker", "most", "before"] [] (sp_World_sent_home K A)) (G_World_copy : Gv P w K mg base CX0 6 A.World "copy" ["self"] [] (sp_World_copy K A)) : Gv P w K mg base CX0 7 A.World "led" ["self", "walker", "most"] [] (sp_World_led K A) := by
  obtain ⟨f, fd, F, hm⟩ := T.v_World_led
  refine ⟨⟨f, fd, [], ?_, hm, F.binds (ps := ["self", "walker", "most"]) (fun _ _ _ _ _ _ us hl => match us, hl with | [_, _, _], _ => rfl), .nil⟩⟩
  refine F.ok sc_World_led (fun vs H Q E h => by first | (obtain ⟨rfl, _⟩ := h; rfl) | (obtain ⟨_, rfl, _⟩ := h; rfl) | (obtain ⟨_, _, rfl, _⟩ := h; rfl) | (obtain ⟨_, _, _, rfl, _⟩ := h; rfl) | (obtain ⟨_, _, _, _, rfl, _⟩ := h; rfl) | (obtain ⟨_, _, _, _, _, rfl, _⟩ := h; rfl) | (obtain ⟨_, _, _, _, _, _, rfl, _⟩ := h; rfl) | (obtain ⟨_, _, _, _, _, _, _, rfl, _⟩ := h; rfl)) (fun cdv A' outer s H vs Q E hr h => ⟨_, (pss_cons (ps_expr (pe_methG G_World_need_out T.c_World (hr.mono (by decide)) pass0 (pv 0) (pa_cons (pv 1) pa_nil)))
      (pss_cons (ps_expr (pe_callG G_need_number (hr.mono (by decide)) (by rfl) pass0 (pa_cons (pv 2) (pa_cons pe_str (pa_cons pe_int (pa_cons (pe_K_MOST_STEPS T) pa_nil))))))
      (pss_cons (ps_expr (pe_methG G_World_need_away T.c_World (hr.mono (by decide)) pass0 (pv 0) (pa_cons (pv 1) pa_nil)))
      (pss_one (ps_ret (pe_methG G_World_sent_home T.c_World (hr.mono (by decide)) pass0 (pv 0) (pa_cons (pv 1) (pa_cons (pv 2) (pa_cons (pe_meth0G G_World_copy T.c_World (hr.mono (by decide)) pass0 (pv 0)) pa_nil))))))))), ?_⟩)
  obtain ⟨w, i, rfl, a, s, R, m, rk, gd, ads, p, rfl, hW, hT, ok, G, hm, i0, hp, hpR, k⟩ := h
  have C : Cur H [] H (wL A a s ++ bL A a R m ads) := hW.cur
  walk_at "rd"
  refine ⟨a.w, i, rfl, a, s, rfl, hW.left, i0, len_of i0 hp, ?_⟩
  walk_at "rd"
  refine ⟨10000, "most", 1, 10000, rfl, by decide, by decide, ?_⟩
  walk_at "rd"
  refine ⟨a.w, i, rfl, a, s, R, m, ads, p, rfl, hW, i0, hp, hpR, ?_⟩
  walk_at "rd"
  refine ⟨a.w, rfl, a, s, R, m, ads, rfl, hW, hT, ok, hm, fun q H1 r1 => ?_⟩
  have C := C.call0 r1
  walk_at "rd"
  refine ⟨a.w, q, i, rfl, a, s, R, m, rk, gd, ads, p, rfl, has_of C, hT.to r1 (fun _ z => nomatch z), ok, G, i0, hp, hpR, fun v H2 r2 h2 => ?_⟩
  exact k v H2 (r1.nil.trans r2) h2
theorem ok_World_enter (T : Txt K mg A) (G_need_number : Gd P w K mg base CX0 3 "need_number" ["value", "part", "least", "most"] [] (sp_need_number K A)) : Gv P w K mg base CX0 4 A.World "enter" ["self", "place"] [] (sp_World_enter K A) := by
  obtain ⟨f, fd, F, hm⟩ := T.v_World_enter
  refine ⟨⟨f, fd, [], ?_, hm, F.binds (ps := ["self", "place"]) (fun _ _ _ _ _ _ us hl => match us, hl with | [_, _], _ => rfl), .nil⟩⟩
  refine F.ok sc_World_enter (fun vs H Q E h => by first | (obtain ⟨rfl, _⟩ := h; rfl) | (obtain ⟨_, rfl, _⟩ := h; rfl) | (obtain ⟨_, _, rfl, _⟩ := h; rfl) | (obtain ⟨_, _, _, rfl, _⟩ := h; rfl) | (obtain ⟨_, _, _, _, rfl, _⟩ := h; rfl) | (obtain ⟨_, _, _, _, _, rfl, _⟩ := h; rfl) | (obtain ⟨_, _, _, _, _, _, rfl, _⟩ := h; rfl) | (obtain ⟨_, _, _, _, _, _, _, rfl, _⟩ := h; rfl)) (fun cdv A' outer s H vs Q E hr h => ⟨_, (pss_cons (ps_expr (pe_callG G_need_number (hr.mono (by decide)) (by rfl) pass0 (pa_cons (pv 1) (pa_cons pe_str (pa_cons pe_int (pa_cons (pe_op op_subI (pe_fldK K (pe_fldK K (pv 0) rfl) rfl) pe_int) pa_nil))))))
      (pss_cons (ps_if (pt_cmpR op_geI (pe_callB (call_lenK K) (by rfl) T.b_len PySem.boot_len (pa_cons (pe_fldK K (pv 0) rfl) pa_nil)) (pe_K_MOST_WALKERS T) (nomark _)) (pss_one ps_never) pss_nil)
      (pss_cons (ps_expr (pe_bmK K PySem.F.plainAttrs_list PySem.F.slot_list_append PySem.F.type_list_append mt_append (pe_fldK K (pv 0) rfl) (pa_cons (pv 1) pa_nil)))
      (pss_one (ps_ret (pe_op op_subI (pe_callB (call_lenK K) (by rfl) T.b_len PySem.boot_len (pa_cons (pe_fldK K (pv 0) rfl) pa_nil)) pe_int)))))), ?_⟩)
  obtain ⟨w, p, rfl, a, s, R, m, ads, rfl, hW, p0, p1, hn, k⟩ := h
  have C : Cur H (wS a) H (wL A a s ++ bL A a R m ads) := hW.cur
  walk_at "rd"
  refine ⟨p, "place", 0, _, rfl, p0, by omega, ?_⟩
  walk_at "rd"
  refine b_df (by rw [len_map]; omega) ?_
  walk_at "rd"
  refine ⟨ty_list (C.get 2 rfl), ?_⟩
  walk_at "rd"
  refine r_app (C.get 2 rfl) (by rw [len_map]; omega) ?_
  refine mod_c C 2 rfl (.inl (by simp)) fun H1 C => ?_
  walk_at "rd"
  refine k _ H1 C.ret fun q hq => C.own q ?_
  simp only [wL, List.mem_cons, List.not_mem_nil, or_false] at hq
  rcases hq with rfl | rfl | rfl | rfl
  · exact List.mem_of_getElem? (i := 0) rfl
  · exact List.mem_of_getElem? (i := 1) rfl
  · refine List.mem_of_getElem? (i := 2) ?_
    show some _ = some _
    rw [List.map_append]
    rfl
  · exact List.mem_of_getElem? (i := 3) rfl
end
end K94

end

section
set_option Elab.async false
set_option linter.all false
set_option maxRecDepth 100000
set_option maxHeartbeats 1000000
namespace K94
open PySem PySem.Spec PyProof.Rows L2 Nd M94
set_option hygiene false
local macro_rules | `(tactic| walk_at "hg") => `(tactic| first | assumption | exact C.get 0 rfl | exact C.get 1 rfl | exact C.get 2 rfl | exact C.get 3 rfl | exact C.get 4 rfl | exact C.get 5 rfl | exact C.get 6 rfl | exact C.get 7 rfl | exact C.get 8 rfl | exact C.get 9 rfl)
local macro_rules | `(tactic| walk_at "rd1") => `(tactic| first
  | with_reducible refine u_seq ?_ | with_reducible refine u_asg ?_ | ((with_reducible refine' u_var ?hv ?_); (case hv => exact rfl)) | with_reducible refine u_c ?_ | with_reducible refine u_op ?_ | with_reducible refine u_if ?_ | with_reducible refine u_ret ?_
  | with_reducible refine u_test ?_ | with_reducible refine u_tB ?_ | with_reducible refine u_and ?_ | with_reducible refine u_or ?_ | with_reducible refine u_not ?_ | with_reducible refine u_call ?_ | with_reducible refine u_cb ?_ | with_reducible refine u_cons ?_ | with_reducible refine u_nil ?_
  | with_reducible refine u_gname ?_ | with_reducible refine u_gcons ?_ | with_reducible refine u_gnil ?_ | with_reducible refine u_gsub ?_ | with_reducible refine u_lst ?_ | with_reducible refine u_tup ?_ | with_reducible refine u_un ?_ | with_reducible refine u_ifE ?_
  | with_reducible refine u_drop ?_ | with_reducible refine u_next ?_ | with_reducible refine u_retN ?_ | with_reducible refine u_tf ?_ | with_reducible refine u_fld ?_ | with_reducible refine u_gfld ?_ | with_reducible refine u_par ?_ | with_reducible refine u_meth ?_ | with_reducible refine u_prop ?_ | with_reducible refine u_make ?_
  | with_reducible refine u_bm ?_ | with_reducible refine u_bm0 ?_ | with_reducible refine u_sl ?_ | with_reducible refine u_noPart ?_ | with_reducible refine u_part ?_ | with_reducible refine u_chain ?_ | with_reducible refine u_andV ?_ | with_reducible refine u_orV ?_ | with_reducible refine u_notV ?_
  | with_reducible refine u_listRg ?_ | with_reducible refine u_rg1 ?_ | with_reducible refine u_lc2 ?_ | with_reducible refine u_enum ?_ | with_reducible refine u_zip ?_ | with_reducible refine u_for ?_ | with_reducible refine u_lc ?_ | with_reducible refine u_rng1 ?_ | with_reducible refine u_rng2 ?_ | with_reducible refine u_yes ?_ | with_reducible refine u_brk ?_ | with_reducible refine u_cont ?_
  | with_reducible refine r_add ?_ | with_reducible refine r_sub ?_ | with_reducible refine r_lt ?_ | with_reducible refine r_le ?_ | with_reducible refine r_gt ?_ | with_reducible refine r_ge ?_ | with_reducible refine r_eqI ?_ | with_reducible refine r_neI ?_ | with_reducible refine r_neg ?_ | with_reducible refine r_int ?_ | with_reducible refine r_intB ?_ | with_reducible refine r_abs ?_ | with_reducible refine r_isNi ?_ | with_reducible refine r_isNn ?_ | with_reducible refine r_isNr ?_ | with_reducible refine r_isNs ?_ | with_reducible refine r_notN ?_
  | ((with_reducible refine' r_ixL ?hs ?ha ?_); (case hs => exact SqL.of (by walk_at "hg")); (case ha => first | exact rfl | exact atI_nat (by assumption)))
  | ((with_reducible refine' r_ixT ?hs ?ha ?_); (case hs => exact SqT.of (by walk_at "hg")); (case ha => first | exact rfl | exact atI_nat (by assumption)))
  | ((with_reducible refine' r_len ?hs ?_); (case hs => exact SqL.of (by walk_at "hg")))
  | ((with_reducible refine' r_lenT ?hs ?_); (case hs => exact SqT.of (by walk_at "hg")))
  | ((with_reducible refine' r_mod ?c ?_); (case c => first | decide | omega)) | ((with_reducible refine' r_div ?c ?_); (case c => first | (constructor <;> decide) | (constructor <;> omega)))
  | ((with_reducible refine' r_mul ?c ?_); (case c => first | exact .inl ⟨by omega, by omega⟩ | exact .inr ⟨by omega, by omega⟩))
  | ((with_reducible refine' r_pow ?c ?_); (case c => exact ⟨by omega, by omega, by omega⟩))
  | with_reducible refine b_nT ?_ | with_reducible refine b_nF ?_ | with_reducible refine iteF ?_ | with_reducible refine iteT ?_
  | with_reducible refine k_blA ?_ | with_reducible refine k_int ?_ | with_reducible refine k_two ?_
  | ((with_reducible refine' k_size ?hn ?_); (case hn => exact Nat.le_of_ble_eq_true rfl))
  | ((with_reducible refine' k_fld ?ha ?c ?n ?hl ?_); (case ha => walk_at "hg"); (case c => walk_at "cls"); (case n => walk_at "att"); (case hl => exact rfl))
  | ((with_reducible refine' k_put ?ha ?c ?n ?hl ?_); (case ha => walk_at "hg"); (case c => walk_at "cls"); (case n => walk_at "att"); (case hl => first | decide | exact Nat.lt_of_lt_of_le (Nat.lt_succ_self _) (Nat.le_of_ble_eq_true rfl)))
  | ((with_reducible refine' k_meth ?ha ?hl ?_); (case ha => walk_at "hg"); (case hl => exact rfl))
  | ((with_reducible refine' k_prop ?ha ?_); (case ha => walk_at "hg")))
local macro_rules | `(tactic| walk_at "rd") => `(tactic| repeat walk_at "rd1")
local macro_rules | `(tactic| walk_at "cls") => `(tactic| first | exact T.c_Board | exact T.c_World)
local macro_rules | `(tactic| walk_at "att") => `(tactic| first | exact T.n_Board_homes | exact T.n_Board_places | exact T.n_Board_rows | exact T.n_World_board | exact T.n_World_shown | exact T.n_World_standing | exact T.n_World_won | exact T.n_World_steps)

/-- rows that make a board -/
structure BOk (R : Rows) (m : Nat) : Prop where
  n1 : 1 ≤ R.length
  n60 : R.length ≤ 60
  len : ∀ p, p < R.length → 1 ≤ (row R p).length ∧ (row R p).length ≤ 60
  ents : ∀ p, p < R.length → ∀ x ∈ row R p, XOk R m x
  m1 : 1 ≤ m
  m9 : m ≤ 9
def sp_are_rows (K : PySem.W.Frag) (A : Adr) : Sp := fun vs H Q E => ∃ r : Addr, vs = [.ref r] ∧ ∃ (ads : List Addr) (R : Rows) (m : Nat), H r = some (.lst (ads.map V.ref)) ∧ RowsAt H ads R ∧ BOk R m ∧ ∀ H', Ret [] H H' → Q (.bl true) H'
def sp_do_fit (K : PySem.W.Frag) (A : Adr) : Sp := fun vs H Q E => ∃ (r : Addr) (m : Nat), vs = [.ref r, .int m] ∧ ∃ (ads : List Addr) (R : Rows), H r = some (.lst (ads.map V.ref)) ∧ RowsAt H ads R ∧ BOk R m ∧ ∀ H', Ret [] H H' → Q (.bl true) H'
def sp_Board_init (K : PySem.W.Frag) (A : Adr) : Sp := fun vs H Q E => ∃ (x r : Addr) (m : Nat), vs = [.ref x, .int m, .ref r] ∧ ∃ (dB : Addr) (ads : List Addr) (R : Rows), H x = some (.ins A.Board dB []) ∧ H r = some (.lst (ads.map V.ref)) ∧ RowsAt H ads R ∧ BOk R m ∧
  ∀ (t : Addr) (tads : List Addr) H', Ret [x] H H' → H t = none → H' x = some (.ins A.Board dB [("homes", .int m), ("places", .int R.length), ("rows", .ref t)]) → H' t = some (.tup (tads.map V.ref)) → TRows H' tads R → Q .non H'
theorem ref_of {ads : List Addr} {i : Nat} {x : V} (h : (ads.map V.ref)[i]? = some x) : ∃ a, ads[i]? = some a ∧ x = .ref a := by
  rw [List.getElem?_map] at h
  cases e : ads[i]? with
  | none => rw [e] at h; cases h
  | some a => rw [e] at h; exact ⟨a, rfl, (Option.some.inj h).symm⟩
theorem trues (n : Nat) : (List.replicate n true).map V.bl ++ [V.bl true] = (List.replicate (n + 1) true).map V.bl := by rw [List.replicate_succ', List.map_append]; rfl
theorem all_trues (n : Nat) : (List.replicate n true).all id = true := by simp
section
variable {P : Program} {w : World} {K : PySem.W.Frag} {mg : Str → Option Value} {base : Heap} {A : Adr}
theorem ok_are_rows (T : Txt K mg A)  : Gd P w K mg base CX0 1 "are_rows" ["value"] [] (sp_are_rows K A) := by
  obtain ⟨f, fd, F, hm⟩ := T.f_are_rows
  refine ⟨⟨f, fd, [], ?_, hm, F.kp, F.binds (ps := ["value"]) (fun _ _ _ _ _ _ us hl => match us, hl with | [_], _ => rfl), .nil⟩⟩
  refine F.ok sc_are_rows (fun vs H Q E h => by first | (obtain ⟨rfl, _⟩ := h; rfl) | (obtain ⟨_, rfl, _⟩ := h; rfl) | (obtain ⟨_, _, rfl, _⟩ := h; rfl) | (obtain ⟨_, _, _, rfl, _⟩ := h; rfl) | (obtain ⟨_, _, _, _, rfl, _⟩ := h; rfl) | (obtain ⟨_, _, _, _, _, rfl, _⟩ := h; rfl) | (obtain ⟨_, _, _, _, _, _, rfl, _⟩ := h; rfl) | (obtain ⟨_, _, _, _, _, _, _, rfl, _⟩ := h; rfl)) (fun cdv A' outer s H vs Q E hr h => ⟨_, (pss_cons (ps_if (PW.pt (pw_or (pt_not (pt_val (pe_callB (call_isiTK K) (by rfl) T.b_isinstance (by decide +kernel) (pa_cons (pv 0) (pa_cons (pe_tup (pa_cons (pe_bltn (v := .ty "list") (by rfl) T.b_list (by decide +kernel) rfl) (pa_cons (pe_bltn (v := .ty "tuple") (by rfl) T.b_tuple (by decide +kernel) rfl) pa_nil))) pa_nil))))) (pw_or1 (pt_not (pt_chain op_leI op_leI pe_int (pe_callB (call_lenK K) (by rfl) T.b_len PySem.boot_len (pa_cons (pv 0) pa_nil)) (pe_K_MOST_PLACES T)))))) (pss_one (ps_ret pe_bl)) pss_nil)
      (pss_one (ps_ret (pe_callB (call_allK K rfl) (by rfl) T.b_all (by decide +kernel) (pa_cons (pe_lc (own := [("row", 1)]) rfl sc_are_rows.nd (pi_seqK K (pv 0)) (blkOk_by (N := N_are_rows) (sc := defScope s_are_rows) (own := [("row", 1)]) (by decide +kernel)) (fun _ _ _ _ _ => (pg_name (i := 1) sc_are_rows.nd rfl (by first | exact .inl rfl | exact .inr rfl))) (fun _ _ _ _ _ => pts_nil) (fun _ _ _ _ _ => (pe_and (pe_callB (call_isiTK K) (by rfl) T.b_isinstance (by decide +kernel) (pa_cons (pv 1) (pa_cons (pe_tup (pa_cons (pe_bltn (v := .ty "list") (by rfl) T.b_list (by decide +kernel) rfl) (pa_cons (pe_bltn (v := .ty "tuple") (by rfl) T.b_tuple (by decide +kernel) rfl) pa_nil))) pa_nil))) (pe_one (pe_chain op_leI op_leI pe_int (pe_callB (call_lenK K) (by rfl) T.b_len PySem.boot_len (pa_cons (pv 1) pa_nil)) (pe_K_MOST_ROW T)))))) pa_nil))))), ?_⟩)
  obtain ⟨r, rfl, ads, R, m, hr', hR, ok, k⟩ := h
  have C : Cur H [] H [(r, .lst (ads.map V.ref))] := Cur.start (by simp) (by simp [hr'])
  have hn1 := ok.n1
  have hn60 := ok.n60
  have hl : (ads.map V.ref).length = R.length := by rw [List.length_map, hR.1]
  walk_at "rd"
  refine new_c C fun t1 H1 t10 C => ?_
  walk_at "rd"
  refine q_isSeqL (C.get 0 rfl) (C.get 1 rfl) ?_
  walk_at "rd"
  refine b_dt (by rw [hl]; omega) ?_
  walk_at "rd"
  refine b_f (by rw [decide_eq_true (show ((ads.map V.ref).length : Int) ≤ 60 by rw [hl]; omega)]; rfl) ?_
  walk_at "rd"
  refine u_sseqL ?_
  walk_at "rd"
  refine k_seqL (SqL.of (C.get 1 rfl)) ?_
  refine lc_l (xs := ads.map V.ref) C (fun D i H' => Cur H [] H' [(D, .lst ((List.replicate i true).map V.bl)), (r, .lst (ads.map V.ref))])
    (fun D H1 D0 C => C.sub (by have := C.nd; simp only [List.map_cons, List.map_nil, List.nodup_cons, List.mem_cons, List.not_mem_nil, or_false, not_or] at this ⊢; simp [this]) (by simp)) (fun D i H' hi C => SqL.of (C.get 1 rfl)) (fun D i x H' D0 hx C => ?_) (fun D H' D0 C => ?_)
  · obtain ⟨a, ha, rfl⟩ := ref_of hx
    have hi : i < R.length := by rw [← hR.1]; exact (List.getElem?_eq_some_iff.mp ha).1
    have haR := C.ret.fr _ _ (hR.2 _ _ ha) (by simp)
    obtain ⟨l1, l60⟩ := ok.len i hi
    walk_at "rd"
    refine ⟨rfl, ?_⟩
    walk_at "rd"
    refine new_c C fun t2 H2 t20 C => ?_
    have haR := C.ret.fr _ _ (hR.2 _ _ ha) (by simp)
    walk_at "rd"
    refine q_isSeqL (C.get 0 rfl) haR ?_
    walk_at "rd"
    refine b_dt (by rw [len_map]; omega) ?_
    walk_at "rd"
    rw [decide_eq_true (show (((row R i).map V.int).length : Int) ≤ 60 by rw [len_map]; omega)]
    refine k_acc (C.get 1 rfl) (by rw [List.length_map, List.length_replicate]; omega) ?_
    refine mod_c C 1 rfl (.inr D0) fun H3 C => ?_
    have C' : Cur H [] H3 [(D, .lst ((List.replicate i true).map V.bl ++ [V.bl true])), (r, .lst (ads.map V.ref))] := C.drop
    rw [trues] at C'
    exact C'
  · walk_at "rd"
    refine ⟨D, _, rfl, SqL.of (C.get 0 rfl), ?_⟩
    rw [all_trues]
    exact k H' C.ret
theorem ok_do_fit (T : Txt K mg A) (G_is_within : Gd P w K mg base CX0 2 "is_within" ["value", "least", "most"] [] (sp_is_within K A)) : Gd P w K mg base CX0 3 "do_fit" ["rows", "homes"] [] (sp_do_fit K A) := by
  obtain ⟨f, fd, F, hm⟩ := T.f_do_fit
  refine ⟨⟨f, fd, [], ?_, hm, F.kp, F.binds (ps := ["rows", "homes"]) (fun _ _ _ _ _ _ us hl => match us, hl with | [_, _], _ => rfl), .nil⟩⟩
  refine F.ok sc_do_fit (fun vs H Q E h => by first | (obtain ⟨rfl, _⟩ := h; rfl) | (obtain ⟨_, rfl, _⟩ := h; rfl) | (obtain ⟨_, _, rfl, _⟩ := h; rfl) | (obtain ⟨_, _, _, rfl, _⟩ := h; rfl) | (obtain ⟨_, _, _, _, rfl, _⟩ := h; rfl) | (obtain ⟨_, _, _, _, _, rfl, _⟩ := h; rfl) | (obtain ⟨_, _, _, _, _, _, rfl, _⟩ := h; rfl) | (obtain ⟨_, _, _, _, _, _, _, rfl, _⟩ := h; rfl)) (fun cdv A' outer s H vs Q E hr h => ⟨_, (pss_cons (ps_set (i := 2) sc_do_fit.nd rfl (.inr rfl) (pe_op op_subI (pe_op op_addU (pe_callB (call_lenK K) (by rfl) T.b_len PySem.boot_len (pa_cons (pv 0) pa_nil)) (pv 1)) pe_int))
      (pss_one (ps_ret (pe_callB (call_allK K rfl) (by rfl) T.b_all (by decide +kernel) (pa_cons (pe_lc2 (own := [("row", 3), ("entry", 4)]) (vs1 := [4]) rfl sc_do_fit.nd (pi_seqK K (pv 0)) (blkOk_by (N := N_do_fit) (sc := defScope s_do_fit) (own := [("row", 3), ("entry", 4)]) (by decide +kernel)) (by decide) (fun _ _ _ _ _ => (pg_name (i := 3) sc_do_fit.nd rfl (by first | exact .inl rfl | exact .inr rfl))) (fun _ _ _ _ _ => pts_nil) (fun _ _ _ _ _ => (pi_seqK K (pv 3))) (fun _ _ _ _ _ => (pg_name (i := 4) sc_do_fit.nd rfl (by first | exact .inl rfl | exact .inr rfl))) (fun _ _ _ _ _ => pts_nil) (fun _ _ _ _ _ => (pe_callG G_is_within (hr.mono (by decide)) (by rfl) pass0 (pa_cons (pv 4) (pa_cons pe_int (pa_cons (pv 2) pa_nil)))))) pa_nil))))), ?_⟩)
  obtain ⟨r, m, rfl, ads, R, hr', hR, ok, k⟩ := h
  have C : Cur H [] H [(r, .lst (ads.map V.ref))] := Cur.start (by simp) (by simp [hr'])
  have hn60 := ok.n60
  have hl : (ads.map V.ref).length = R.length := by rw [List.length_map, hR.1]
  walk_at "rd"
  refine u_sseqL ?_
  walk_at "rd"
  refine k_seqL (SqL.of (C.get 0 rfl)) ?_
  refine lc2_l (xs := ads.map V.ref) C (fun D i H' => ∃ n, n ≤ 60 * i ∧ Cur H [] H' [(D, .lst ((List.replicate n true).map V.bl)), (r, .lst (ads.map V.ref))]) (fun D H1 D0 C => ⟨0, by omega, C⟩) (fun D i H' hi h => h.elim fun n h => SqL.of (h.2.get 1 rfl)) (fun D i x H' D0 hx h => ?_) (fun D H' D0 h => ?_)
  · obtain ⟨n, hn, C⟩ := h
    obtain ⟨a, ha, rfl⟩ := ref_of hx
    have hi : i < R.length := by rw [← hR.1]; exact (List.getElem?_eq_some_iff.mp ha).1
    obtain ⟨l1, l60⟩ := ok.len i hi
    walk_at "rd"
    refine ⟨rfl, ?_⟩
    walk_at "rd"
    refine u_sseqL ?_
    walk_at "rd"
    refine k_seqL (SqL.of (C.ret.fr _ _ (hR.2 _ _ ha) (by simp))) ?_
    refine in_l (ys := (row R i).map V.int) (fun j H' => Cur H [] H' [(D, .lst ((List.replicate (n + j) true).map V.bl)), (r, .lst (ads.map V.ref))]) C (fun j H' hj C => SqL.of (C.ret.fr _ _ (hR.2 _ _ ha) (by simp))) (fun j y H' hy C => ?_) (fun H' C => ?_)
    · obtain ⟨z, hz, rfl⟩ := int_of hy
      obtain ⟨x0, x1⟩ := ok.ents i hi z (List.mem_of_getElem? hz)
      have hj : j < (row R i).length := (List.getElem?_eq_some_iff.mp hz).1
      walk_at "rd"
      refine ⟨rfl, ?_⟩
      walk_at "rd"
      refine ⟨z, 0, _, rfl, ?_⟩
      rw [show (decide ((0 : Int) ≤ z) && decide (z ≤ ((ads.map V.ref).length : Int) + m - 1)) = true by rw [hl]; simp [x0]; omega]
      refine k_acc (C.get 0 rfl) (by rw [List.length_map, List.length_replicate]; omega) ?_
      refine mod_c C 0 rfl (.inr D0) fun H3 C => ?_
      have C' : Cur H [] H3 [(D, .lst ((List.replicate (n + j) true).map V.bl ++ [V.bl true])), (r, .lst (ads.map V.ref))] := C
      rw [trues] at C'
      exact C'
    · exact ⟨n + ((row R i).map V.int).length, by rw [len_map]; omega, C⟩
  · obtain ⟨n, hn, C⟩ := h
    walk_at "rd"
    refine ⟨D, _, rfl, SqL.of (C.get 0 rfl), ?_⟩
    rw [all_trues]
    exact k H' C.ret
theorem ok_Board_init (T : Txt K mg A) (G_is_within : Gd P w K mg base CX0 2 "is_within" ["value", "least", "most"] [] (sp_is_within K A)) (G_do_fit : Gd P w K mg base CX0 3 "do_fit" ["rows", "homes"] [] (sp_do_fit K A)) (G_are_rows : Gd P w K mg base CX0 1 "are_rows" ["value"] [] (sp_are_rows K A)) : Gm P w K mg base CX0 4 "Board" A.Board ["self", "homes", "rows"] [] (sp_Board_init K A) := by
  obtain ⟨f, fd, F, hm, hk⟩ := T.v_Board_init
  refine ⟨⟨f, fd, [], ?_, hk, hm, F.binds (ps := ["self", "homes", "rows"]) (fun _ _ _ _ _ _ us hl => match us, hl with | [_, _, _], _ => rfl), .nil⟩⟩
  refine F.ok sc_Board_init (fun vs H Q E h => by first | (obtain ⟨rfl, _⟩ := h; rfl) | (obtain ⟨_, rfl, _⟩ := h; rfl) | (obtain ⟨_, _, rfl, _⟩ := h; rfl) | (obtain ⟨_, _, _, rfl, _⟩ := h; rfl) | (obtain ⟨_, _, _, _, rfl, _⟩ := h; rfl) | (obtain ⟨_, _, _, _, _, rfl, _⟩ := h; rfl) | (obtain ⟨_, _, _, _, _, _, rfl, _⟩ := h; rfl) | (obtain ⟨_, _, _, _, _, _, _, rfl, _⟩ := h; rfl)) (fun cdv A' outer s H vs Q E hr h => ⟨_, (pss_cons (ps_if (pt_not (pt_val (pe_callG G_is_within (hr.mono (by decide)) (by rfl) pass0 (pa_cons (pv 1) (pa_cons pe_int (pa_cons (pe_K_MOST_HOMES T) pa_nil)))))) (pss_one ps_never) pss_nil)
      (pss_cons (ps_if (PW.pt (pw_or (pt_not (pt_val (pe_callG G_are_rows (hr.mono (by decide)) (by rfl) pass0 (pa_cons (pv 2) pa_nil)))) (pw_or1 (pt_not (pt_val (pe_callG G_do_fit (hr.mono (by decide)) (by rfl) pass0 (pa_cons (pv 2) (pa_cons (pv 1) pa_nil)))))))) (pss_one ps_never) pss_nil)
      (pss_cons (ps_fldK K (pv 0) (pv 1) rfl)
      (pss_cons (ps_fldK K (pv 0) (pe_callB (call_lenK K) (by rfl) T.b_len PySem.boot_len (pa_cons (pv 2) pa_nil)) rfl)
      (pss_one (ps_fldK K (pv 0) (pe_callTy (call_tupleK K) (by rfl) T.b_tuple (by decide +kernel) (pa_cons (pe_lc (own := [("row", 3)]) rfl sc_Board_init.nd (pi_seqK K (pv 2)) (blkOk_by (N := N_Board_init) (sc := defScope s_Board_init) (own := [("row", 3)]) (by decide +kernel)) (fun _ _ _ _ _ => (pg_name (i := 3) sc_Board_init.nd rfl (by first | exact .inl rfl | exact .inr rfl))) (fun _ _ _ _ _ => pts_nil) (fun _ _ _ _ _ => (pe_callTy (call_tupleK K) (by rfl) T.b_tuple (by decide +kernel) (pa_cons (pv 3) pa_nil)))) pa_nil)) rfl)))))), ?_⟩)
  obtain ⟨x, r, m, rfl, dB, ads, R, hx, hr', hR, ok, k⟩ := h
  have hxr : x ≠ r := fun e => by rw [e, hr'] at hx; cases hx
  have C : Cur H [x] H [(x, .ins A.Board dB []), (r, .lst (ads.map V.ref))] := Cur.start (by simp [hxr]) (by simp [hx, hr'])
  have hn60 := ok.n60
  have hl : (ads.map V.ref).length = R.length := by rw [List.length_map, hR.1]
  have xnot : ∀ {a : Addr} {xs : List V} {H' : Hp}, Ret [x] H H' → H a = some (.lst xs) → H' a = some (.lst xs) := fun rr e => rr.fr _ _ e fun z => by rw [List.mem_singleton.mp z, hx] at e; cases e
  walk_at "rd"
  refine ⟨m, 1, 9, rfl, ?_⟩
  walk_at "rd"
  refine b_f (by have := ok.m1; have := ok.m9; simp; omega) ?_
  walk_at "rd"
  refine ⟨r, rfl, ads, R, m, hr', hR, ok, fun H1 r1 => ?_⟩
  have C := C.call0 r1
  walk_at "rd"
  refine ⟨r, m, rfl, ads, R, C.get 1 rfl, hR.to r1 (by simp), ok, fun H2 r2 => ?_⟩
  have C := C.call0 r2
  walk_at "rd"
  refine mod_c C 0 rfl (.inl (by simp)) fun H3 C => ?_
  walk_at "rd"
  refine mod_c C 0 rfl (.inl (by simp)) fun H4 C => ?_
  walk_at "rd"
  refine u_sseqL ?_
  walk_at "rd"
  refine k_seqL (SqL.of (C.get 1 rfl)) ?_
  refine lc_l (xs := ads.map V.ref) C (fun D i H' => ∃ tads : List Addr, tads.length = i ∧ (∀ j a, tads[j]? = some a → H' a = some (.tup ((row R j).map V.int))) ∧ Cur H [x] H' [(D, .lst (tads.map V.ref)), (x, .ins A.Board dB [("homes", .int m), ("places", .int R.length)]), (r, .lst (ads.map V.ref))])
    (fun D H1 D0 C => ⟨[], rfl, by simp, ?_⟩) (fun D i H' hi h => h.elim fun n h => SqL.of (h.2.2.get 2 rfl)) (fun D i y H' D0 hy h => ?_) (fun D H' D0 h => ?_)
  · rw [hl] at C; exact C
  · obtain ⟨tads, htl, hta, C⟩ := h
    obtain ⟨a, ha, rfl⟩ := ref_of hy
    have hi : i < R.length := by rw [← hR.1]; exact (List.getElem?_eq_some_iff.mp ha).1
    have haR := xnot C.ret (hR.2 _ _ ha)
    walk_at "rd"
    refine ⟨rfl, ?_⟩
    walk_at "rd"
    refine r_tupL (SqL.of haR) (new_r C fun t H2 t0 t1 C2 r2 => ?_)
    refine k_acc (C2.get 1 rfl) (by rw [List.length_map]; omega) ?_
    refine mod_r C2 1 rfl (.inr D0) fun H3 C3 r3 => ?_
    have hD : H2 D = some (.lst (tads.map V.ref)) := C2.get 1 rfl
    refine ⟨tads ++ [t], by simp [htl], fun j b e => ?_, ?_⟩
    · rcases Nat.lt_or_ge j tads.length with g | g
      · rw [List.getElem?_append_left g] at e
        have h2 := r2.fr _ _ (hta j b e) (by simp)
        exact r3.fr _ _ h2 fun z => by rw [List.mem_singleton.mp z, hD] at h2; cases h2
      · rw [List.getElem?_append_right g] at e
        have e0 : j - tads.length = 0 := by
          rcases Nat.eq_zero_or_pos (j - tads.length) with z | z
          · exact z
          · rw [List.getElem?_eq_none (by simp; omega)] at e; cases e
        rw [e0] at e
        have : t = b := by simpa using e
        subst this
        have : j = i := by omega
        subst this
        exact C3.get 0 rfl
    · rw [List.map_append]
      exact C3.drop
  · obtain ⟨tads, htl, hta, C⟩ := h
    walk_at "rd"
    refine r_tupL (SqL.of (C.get 0 rfl)) (new_r C fun t H2 t0 t1 C2 r2 => ?_)
    walk_at "rd"
    have hx2 : H2 x = some (.ins A.Board dB [("homes", .int m), ("places", .int R.length)]) := C2.get 2 rfl
    refine k_put (C2.get 2 rfl) T.c_Board T.n_Board_rows (by simp) ?_
    refine mod_r C2 2 rfl (.inl (by simp)) fun H3 C3 r3 => ?_
    refine k t tads H3 C3.ret t0 (C3.get 2 rfl) (C3.get 0 rfl) ⟨by rw [htl, hl], fun j b e => ?_⟩
    have h2 := r2.fr _ _ (hta j b e) (by simp)
    exact r3.fr _ _ h2 fun z => by rw [List.mem_singleton.mp z, hx2] at h2; cases h2
end
end K94

end

section
set_option Elab.async false
set_option linter.all false
set_option maxRecDepth 100000
set_option maxHeartbeats 1000000
namespace K94
open PySem PySem.Spec PyProof.Rows L2 Nd M94
set_option hygiene false
local macro_rules | `(tactic| walk_at "hg") => `(tactic| first | assumption | exact C.get 0 rfl | exact C.get 1 rfl | exact C.get 2 rfl | exact C.get 3 rfl | exact C.get 4 rfl | exact C.get 5 rfl | exact C.get 6 rfl | exact C.get 7 rfl | exact C.get 8 rfl | exact C.get 9 rfl)
local macro_rules | `(tactic| walk_at "rd1") => `(tactic| first
  | with_reducible refine u_seq ?_ | with_reducible refine u_asg ?_ | ((with_reducible refine' u_var ?hv ?_); (case hv => exact rfl)) | with_reducible refine u_c ?_ | with_reducible refine u_op ?_ | with_reducible refine u_if ?_ | with_reducible refine u_ret ?_
  | with_reducible refine u_test ?_ | with_reducible refine u_tB ?_ | with_reducible refine u_and ?_ | with_reducible refine u_or ?_ | with_reducible refine u_not ?_ | with_reducible refine u_call ?_ | with_reducible refine u_cb ?_ | with_reducible refine u_cons ?_ | with_reducible refine u_nil ?_
  | with_reducible refine u_gname ?_ | with_reducible refine u_gcons ?_ | with_reducible refine u_gnil ?_ | with_reducible refine u_gsub ?_ | with_reducible refine u_lst ?_ | with_reducible refine u_tup ?_ | with_reducible refine u_un ?_ | with_reducible refine u_ifE ?_
  | with_reducible refine u_drop ?_ | with_reducible refine u_next ?_ | with_reducible refine u_retN ?_ | with_reducible refine u_tf ?_ | with_reducible refine u_fld ?_ | with_reducible refine u_gfld ?_ | with_reducible refine u_par ?_ | with_reducible refine u_meth ?_ | with_reducible refine u_prop ?_ | with_reducible refine u_make ?_
  | with_reducible refine u_bm ?_ | with_reducible refine u_bm0 ?_ | with_reducible refine u_sl ?_ | with_reducible refine u_noPart ?_ | with_reducible refine u_part ?_ | with_reducible refine u_chain ?_ | with_reducible refine u_andV ?_ | with_reducible refine u_orV ?_ | with_reducible refine u_notV ?_
  | with_reducible refine u_listRg ?_ | with_reducible refine u_rg1 ?_ | with_reducible refine u_lc2 ?_ | with_reducible refine u_enum ?_ | with_reducible refine u_zip ?_ | with_reducible refine u_for ?_ | with_reducible refine u_lc ?_ | with_reducible refine u_rng1 ?_ | with_reducible refine u_rng2 ?_ | with_reducible refine u_yes ?_ | with_reducible refine u_brk ?_ | with_reducible refine u_cont ?_
  | with_reducible refine r_add ?_ | with_reducible refine r_sub ?_ | with_reducible refine r_lt ?_ | with_reducible refine r_le ?_ | with_reducible refine r_gt ?_ | with_reducible refine r_ge ?_ | with_reducible refine r_eqI ?_ | with_reducible refine r_neI ?_ | with_reducible refine r_neg ?_ | with_reducible refine r_int ?_ | with_reducible refine r_intB ?_ | with_reducible refine r_abs ?_ | with_reducible refine r_isNi ?_ | with_reducible refine r_isNn ?_ | with_reducible refine r_isNr ?_ | with_reducible refine r_isNs ?_ | with_reducible refine r_notN ?_
  | ((with_reducible refine' r_ixL ?hs ?ha ?_); (case hs => exact SqL.of (by walk_at "hg")); (case ha => first | exact rfl | exact atI_nat (by assumption)))
  | ((with_reducible refine' r_ixT ?hs ?ha ?_); (case hs => exact SqT.of (by walk_at "hg")); (case ha => first | exact rfl | exact atI_nat (by assumption)))
  | ((with_reducible refine' r_len ?hs ?_); (case hs => exact SqL.of (by walk_at "hg")))
  | ((with_reducible refine' r_lenT ?hs ?_); (case hs => exact SqT.of (by walk_at "hg")))
  | ((with_reducible refine' r_mod ?c ?_); (case c => first | decide | omega)) | ((with_reducible refine' r_div ?c ?_); (case c => first | (constructor <;> decide) | (constructor <;> omega)))
  | ((with_reducible refine' r_mul ?c ?_); (case c => first | exact .inl ⟨by omega, by omega⟩ | exact .inr ⟨by omega, by omega⟩))
  | ((with_reducible refine' r_pow ?c ?_); (case c => exact ⟨by omega, by omega, by omega⟩))
  | with_reducible refine b_nT ?_ | with_reducible refine b_nF ?_ | with_reducible refine iteF ?_ | with_reducible refine iteT ?_
  | with_reducible refine k_blA ?_ | with_reducible refine k_int ?_ | with_reducible refine k_two ?_
  | ((with_reducible refine' k_size ?hn ?_); (case hn => exact Nat.le_of_ble_eq_true rfl))
  | ((with_reducible refine' k_fld ?ha ?c ?n ?hl ?_); (case ha => walk_at "hg"); (case c => walk_at "cls"); (case n => walk_at "att"); (case hl => exact rfl))
  | ((with_reducible refine' k_put ?ha ?c ?n ?hl ?_); (case ha => walk_at "hg"); (case c => walk_at "cls"); (case n => walk_at "att"); (case hl => first | decide | exact Nat.lt_of_lt_of_le (Nat.lt_succ_self _) (Nat.le_of_ble_eq_true rfl)))
  | ((with_reducible refine' k_meth ?ha ?hl ?_); (case ha => walk_at "hg"); (case hl => exact rfl))
  | ((with_reducible refine' k_prop ?ha ?_); (case ha => walk_at "hg")))
local macro_rules | `(tactic| walk_at "rd") => `(tactic| repeat walk_at "rd1")
local macro_rules | `(tactic| walk_at "cls") => `(tactic| first | exact T.c_Board | exact T.c_World)
local macro_rules | `(tactic| walk_at "att") => `(tactic| first | exact T.n_Board_homes | exact T.n_Board_places | exact T.n_Board_rows | exact T.n_World_board | exact T.n_World_shown | exact T.n_World_standing | exact T.n_World_won | exact T.n_World_steps)

abbrev bail (c : Addr) (at_ lf : Int) : HO := .lst [.ref c, .int at_, .int lf]
theorem wok_of {R : Rows} {m : Nat} {rk gd : Nat → Nat} {s : WS} (G : Good R m rk gd) (ok : SOk R m s) : WOk R m s := ⟨ok.hok, lenOk_of G, G.ents, ok.wl, ok.l200, by have := G.n5; omega⟩
def sp_l_home (K : PySem.W.Frag) (A : Adr) : Sp := fun vs H Q E => ∃ (b w : Addr) (n way : Int), vs = [.ref b, .ref w, .int n, .int way] ∧ ∃ (c : Addr) (cells : List Int) (at_ lf : Int) (a : WA) (s : WS) (R : Rows) (m : Nat) (rk gd : Nat → Nat) (ads : List Addr) (d : Int → Nat) (st : Nat) (e : Cfg),
  w = a.w ∧ n = (R.length : Int) ∧ Has H ((b, bail c at_ lf) :: (c, .lst (cells.map V.int)) :: (wL A a s ++ bL A a R m ads)) ∧ TRows H ads R ∧ Good R m rk gd ∧ SOk R m s ∧ m ≤ 1000 ∧ Run R (more ⟨s.hs, cnt s.sn⟩ d) st e ∧
  cells.length ≤ 60 ∧ 0 ≤ at_ ∧ at_ + 2 * (st : Int) + 2 < 4194304 ∧ 0 ≤ lf ∧
  ∀ (s' : WS) (st' : Nat) (at' lf' : Int) H', Ret (b :: wS a) H H' → H' b = some (bail c at' lf') → (∀ q ∈ wL A a s', H' q.1 = some q.2) → SOk R m s' → (∀ x ∈ s'.sn, (R.length : Int) ≤ x) → s'.sn.length = s.sn.length → Run R (more ⟨s'.hs, cnt s'.sn⟩ d) st' e →
    s'.k + st' = s.k + st → at_ ≤ at' → at' + 2 * (st' : Int) ≤ at_ + 2 * (st : Int) → 0 ≤ lf' → Q .non H'
theorem drop2 {H0 H : Hp} {S : List Addr} {L : List (Addr × HO)} {x y : Addr × HO} (C : Cur H0 S H (x :: y :: L)) : Cur H0 S H (x :: L) :=
  C.sub (by have := C.nd; simp only [List.map_cons, List.nodup_cons, List.mem_cons, not_or] at this ⊢; exact ⟨this.1.2, this.2.2⟩) (fun p hp => by
    rcases List.mem_cons.mp hp with q | q
    · exact q ▸ List.mem_cons_self
    · exact List.mem_cons_of_mem _ (List.mem_cons_of_mem _ q))
theorem last_of {l : List Int} (h : l ≠ []) : ∃ x, x ∈ l ∧ atI (l.map V.int) (-1) = some (.int x) := by
  refine ⟨l.getLast h, List.getLast_mem h, ?_⟩
  have e : l.map V.int = (l.dropLast.map V.int) ++ [.int (l.getLast h)] := by rw [← List.map_singleton, ← List.map_append, List.dropLast_concat_getLast]
  rw [e]
  exact atI_last _ _
theorem first_of {l : List Int} (h : l ≠ []) : ∃ x, x ∈ l ∧ atI (l.map V.int) 0 = some (.int x) := by
  cases l with
  | nil => exact absurd rfl h
  | cons x r => exact ⟨x, List.mem_cons_self, atI_nat (j := 0) rfl⟩
section
variable {P : Program} {w : World} {K : PySem.W.Frag} {mg : Str → Option Value} {base : Heap} {A : Adr}
theorem ok_l_home (T : Txt K mg A) (G_World_walkers : Gp P w K mg base CX0 1 A.World "walkers" ["self"] (sp_World_walkers K A)) (G_l_one : Gd P w K mg base CX0 2 "_law_one" ["_law_shepherd_here", "_law_some"] [] (sp_l_one K A)) (G_l_crook : Gd P w K mg base CX0 1 "_law_crook" ["_law_shepherd_here", "_law_many"] [] (sp_l_crook K A)) (G_World_led : Gv P w K mg base CX0 7 A.World "led" ["self", "walker", "most"] [] (sp_World_led K A)) (G_World_advance : Gv P w K mg base CX0 5 A.World "advance" ["self", "walker"] [] (sp_World_advance K A)) : Gd P w K mg base CX0 8 "_law_home" ["_law_shepherd_here", "_law_world", "_law_places", "_law_way"] [] (sp_l_home K A) := by
  obtain ⟨f, fd, F, hm⟩ := T.f_l_home
  refine ⟨⟨f, fd, [], ?_, hm, F.kp, F.binds (ps := ["_law_shepherd_here", "_law_world", "_law_places", "_law_way"]) (fun _ _ _ _ _ _ us hl => match us, hl with | [_, _, _, _], _ => rfl), .nil⟩⟩
  refine F.ok sc_l_home (fun vs H Q E h => by first | (obtain ⟨rfl, _⟩ := h; rfl) | (obtain ⟨_, rfl, _⟩ := h; rfl) | (obtain ⟨_, _, rfl, _⟩ := h; rfl) | (obtain ⟨_, _, _, rfl, _⟩ := h; rfl) | (obtain ⟨_, _, _, _, rfl, _⟩ := h; rfl) | (obtain ⟨_, _, _, _, _, rfl, _⟩ := h; rfl) | (obtain ⟨_, _, _, _, _, _, rfl, _⟩ := h; rfl) | (obtain ⟨_, _, _, _, _, _, _, rfl, _⟩ := h; rfl)) (fun cdv A' outer s H vs Q E hr h => ⟨_, (pss_cons (ps_setLc (i := 4) (own := [("_law_walker", 5), ("_law_spot", 6)]) rfl sc_l_home.nd rfl rfl (sw_true rfl rfl rfl (by decide +kernel)) (pi_enumK K true (by rfl) T.b_enumerate (pa_cons (pe_propG G_World_walkers T.c_World (hr.mono (by decide)) pass0 (pv 1)) pa_nil)) (blkOk_by (N := N_l_home) (sc := defScope s_l_home) (own := [("_law_walker", 5), ("_law_spot", 6)]) (by decide +kernel)) (fun _ _ _ _ _ => (pg_tupK K (n := 2) rfl (pgs_cons (pg_name (i := 5) sc_l_home.nd rfl (by first | exact .inl rfl | exact .inr rfl)) (pgs_cons (pg_name (i := 6) sc_l_home.nd rfl (by first | exact .inl rfl | exact .inr rfl)) pgs_nil)))) (fun _ _ _ _ _ => (pts_one (pt_cmpR op_ltI (pv 6) (pv 2) (nomark _)))) (fun _ _ _ _ _ => (pv 5)))
      (pss_one (ps_while PassesOwn.never (pt_cmpR (op_neK K hr.units) (pv 4) (pe_lst pa_nil) (nomark _)) (pss_cons (ps_set (i := 5) sc_l_home.nd rfl (.inl rfl) (pe_ifExp (pt_cmpR op_ltI (pv 3) pe_int (nomark _)) (pe_ix (ix_seqK K) (pv 4) pe_int (fun _ _ => rfl)) (pe_ifExp (pt_cmpR (op_eqK K hr.units) (pv 3) pe_int (nomark _)) (pe_ix (ix_seqK K) (pv 4) (pe_un un_negI pe_int) (fun _ _ => rfl)) (pe_callG G_l_one (hr.mono (by decide)) (by rfl) pass0 (pa_cons (pv 0) (pa_cons (pv 4) pa_nil))))))
      (pss_cons (ps_if (PW.pt (pw_or (pt_cmpR (op_eqK K hr.units) (pv 3) pe_int (nomark _)) (pw_or1 (PW.pt (pw_and (pt_cmpR (op_eqK K hr.units) (pv 3) pe_int (nomark _)) (pw_and1 (pt_cmpR (op_eqK K hr.units) (pe_callG G_l_crook (hr.mono (by decide)) (by rfl) pass0 (pa_cons (pv 0) (pa_cons pe_int pa_nil))) pe_int (nomark _)))))))) (pss_one (ps_expr (pe_methG G_World_led T.c_World (hr.mono (by decide)) pass0 (pv 1) (pa_cons (pv 5) (pa_cons pe_int pa_nil))))) (pss_one (ps_expr (pe_methG G_World_advance T.c_World (hr.mono (by decide)) pass0 (pv 1) (pa_cons (pv 5) pa_nil)))))
      (pss_cons (ps_expr (pe_bmK K PySem.F.plainAttrs_list PySem.F.slot_list_remove PySem.F.type_list_remove mt_remove (pv 4) (pa_cons (pv 5) pa_nil)))
      (pss_one (ps_set (i := 4) sc_l_home.nd rfl (.inl rfl) (pe_ifExp (pt_cmpR op_ltI (pe_ix (ix_seqK K) (pe_propG G_World_walkers T.c_World (hr.mono (by decide)) pass0 (pv 1)) (pv 5) (fun _ _ => rfl)) (pv 2) (nomark _)) (pe_op op_addU (pv 4) (pe_lst (pa_cons (pv 5) pa_nil))) (pv 4)))))))))), ?_⟩)
  obtain ⟨b, w, n, way, rfl, c, cells, at_, lf, a, s, R, m, rk, gd, ads, d, st, e, rfl, rfl, hW, hT, G, ok, hm, run, hcl, ha0, ha1, hl0, k⟩ := h
  have C : Cur H (b :: wS a) H ((b, bail c at_ lf) :: (c, .lst (cells.map V.int)) :: (wL A a s ++ bL A a R m ads)) := hW.cur
  have nt : ∀ x ∈ b :: wS a, ∀ xs, H x ≠ some (.tup xs) := fun x hx xs z => by
    rcases List.mem_cons.mp hx with q | q
    · rw [q, hW.2 (b, _) List.mem_cons_self] at z; cases z
    · exact notTup (A := A) (a := a) (s := s) (L := bL A a R m ads) (has_of C.drop.drop) x q xs z
  walk_at "rd"
  refine ⟨a.w, rfl, a, s, rfl, (has_of C.drop.drop).left, fun t1 H1 r1 t10 h1 => ?_⟩
  have C := C.call0n r1 t10 h1
  walk_at "rd"
  refine k_enum (k := true) (xs := s.sn.map V.int) (SqT.of (C.get 0 rfl)) ?_
  refine lc_e (k := true) (xs := s.sn.map V.int) C (fun D i H' => Cur H (b :: wS a) H' ((D, .lst ((alive R.length s.sn i).map V.int)) :: (t1, .tup (s.sn.map V.int)) :: (b, bail c at_ lf) :: (c, .lst (cells.map V.int)) :: (wL A a s ++ bL A a R m ads))) (fun D H1 D0 C => C) (fun D i H' hi C => SqT.of (C.get 1 rfl)) (fun D i x H' D0 hx C => ?_) (fun D H' D0 C => ?_)
  · obtain ⟨z, hz, rfl⟩ := int_of hx
    have hzz : s.sn.getD i 0 = z := by rw [List.getD_eq_getElem?_getD, hz]; rfl
    refine new_c C fun t2 H2 t20 C => ?_
    refine u_gtup (SqT.of (C.get 0 rfl)) rfl ?_
    walk_at "rd"
    refine ⟨rfl, ?_⟩
    walk_at "rd"
    refine b_dec (fun hlt => ?_) (fun hge => ?_)
    · walk_at "rd"
      refine k_acc (C.get 1 rfl) (by rw [len_map]; have := alive_len (n := R.length) (sn := s.sn) i; have := ok.l200; have := (List.getElem?_eq_some_iff.mp hz).1; omega) ?_
      refine mod_c C 1 rfl (.inr D0) fun H3 C => ?_
      have e1 : (alive R.length s.sn i).map V.int ++ [V.int (i : Int)] = (alive R.length s.sn (i + 1)).map V.int := by
        show _ = (alive R.length s.sn i ++ if s.sn.getD i 0 < R.length then [(i : Int)] else []).map V.int
        rw [hzz, if_pos hlt, List.map_append]; rfl
      have C := C.drop
      rw [List.set_cons_zero] at C
      rw [e1] at C
      exact C
    · have e1 : alive R.length s.sn i = alive R.length s.sn (i + 1) := by
        show _ = alive R.length s.sn i ++ if s.sn.getD i 0 < R.length then [(i : Int)] else []
        rw [hzz, if_neg hge, List.append_nil]
      have C := C.drop
      rw [e1] at C
      exact C
  · rw [len_map] at C
    walk_at "rd"
    have C := C.sub (L' := (D, .lst ((alive R.length s.sn s.sn.length).map V.int)) :: (b, bail c at_ lf) :: (c, .lst (cells.map V.int)) :: (wL A a s ++ bL A a R m ads)) (by have := C.nd; simp only [List.map_cons, List.nodup_cons, List.mem_cons, not_or] at this ⊢; exact ⟨this.1.2, this.2.2⟩) (fun p hp => by rcases List.mem_cons.mp hp with q | q; exact q ▸ List.mem_cons_self; exact List.mem_cons_of_mem _ (List.mem_cons_of_mem _ q))
    refine u_while (fun r σ H' => ∃ (l : Addr) (left : List Int) (s' : WS) (st' : Nat) (at' lf' : Int) (o1 o2 : Option V), r = st' ∧ σ = [some (.ref b), some (.ref a.w), some (.int R.length), some (.int way), some (.ref l), o1, o2] ∧ H l = none ∧
      Cur H (b :: wS a) H' ((l, .lst (left.map V.int)) :: (b, bail c at' lf') :: (c, .lst (cells.map V.int)) :: (wL A a s' ++ bL A a R m ads)) ∧ Left R.length s'.sn left ∧ SOk R m s' ∧ s'.sn.length = s.sn.length ∧ Run R (more ⟨s'.hs, cnt s'.sn⟩ d) st' e ∧
      s'.k + st' = s.k + st ∧ at_ ≤ at' ∧ at' + 2 * (st' : Int) ≤ at_ + 2 * (st : Int) ∧ 0 ≤ lf') (m0 := st) ⟨D, _, s, st, at_, lf, none, none, rfl, rfl, D0, C, Left.start, ok, rfl, run, rfl, Int.le_refl _, Int.le_refl _, hl0⟩ ?_
    rintro st' σ H' ⟨l, left, s', _, at', lf', o1, o2, rfl, rfl, l0, C, hL, ok', hsl, run', hk, hat0, hat1, hlf⟩
    walk_at "rd"
    refine new_c C fun z0 H2 z00 C => ?_
    refine r_neL (ns := left) (ms := []) (SqL.of (C.get 1 rfl)) (SqL.of (C.get 0 rfl)) ?_
    walk_at "rd"
    refine b_ndec (fun hne => ?_) (fun hnil => ?_)
    · have C := C.drop
      have run1 := run'
      refine wh_b ?_
      (with_reducible refine u_seq ?_)
      (with_reducible refine u_asg ?_)
      refine cutQ (fun v H3 => ∃ wk at1 lf1, v = .int wk ∧ wk ∈ left ∧ at' ≤ at1 ∧ at1 ≤ at' + 1 ∧ 0 ≤ lf1 ∧ Cur H (b :: wS a) H3 ((l, .lst (left.map V.int)) :: (b, bail c at1 lf1) :: (c, .lst (cells.map V.int)) :: (wL A a s' ++ bL A a R m ads))) (fun Q0 hQ0 => ?_) ?_
      · walk_at "rd"
        refine b_dec (fun h1 => ?_) (fun h1 => ?_)
        · obtain ⟨wk, hwk, hat⟩ := first_of hne
          walk_at "rd"
          refine r_ixL (SqL.of (C.get 0 rfl)) hat ?_
          exact hQ0 _ _ ⟨wk, at', lf', rfl, hwk, Int.le_refl _, by omega, hlf, C⟩
        · walk_at "rd"
          refine b_dec (fun h2 => ?_) (fun h2 => ?_)
          · obtain ⟨wk, hwk, hat⟩ := last_of hne
            walk_at "rd"
            refine r_ixL (SqL.of (C.get 0 rfl)) hat ?_
            exact hQ0 _ _ ⟨wk, at', lf', rfl, hwk, Int.le_refl _, by omega, hlf, C⟩
          · walk_at "rd"
            refine ⟨b, l, rfl, c, cells, at', lf', left, C.get 1 rfl, C.get 2 rfl, C.ne 1 2 rfl rfl (by decide), C.get 0 rfl, C.ne 1 0 rfl rfl (by decide), hcl, by omega, by omega, hlf, by have := List.length_pos_iff.mpr hne; omega, by have := hL.len; have := ok'.l200; omega, fun wk at1 lf1 H3 hwk a1 a2 a3 r3 e3 => ?_⟩
            exact hQ0 _ _ ⟨wk, at1, lf1, rfl, hwk, a1, a2, a3, C.call1 1 rfl (.inl (by simp)) r3 e3⟩
      · rintro v H3 ⟨wk, at1, lf1, rfl, hwk, a10, a11, lf10, C⟩
        obtain ⟨w0, w1, w2⟩ := (hL.2 wk).mp hwk
        have hx0 := (ok'.xs (s'.sn.getD wk.toNat 0) (by rw [List.getD_eq_getElem?_getD, List.getElem?_eq_getElem (show wk.toNat < s'.sn.length by omega)]; exact List.getElem_mem _)).1
        obtain ⟨p, hpp⟩ : ∃ p : Nat, s'.sn.getD wk.toNat 0 = (p : Int) := ⟨(s'.sn.getD wk.toNat 0).toNat, (Int.toNat_of_nonneg hx0).symm⟩
        have hsp : s'.sn[wk.toNat]? = some (p : Int) := by rw [List.getElem?_eq_getElem (show wk.toNat < s'.sn.length by omega), getD_get, hpp]
        have hpR : p < R.length := by rw [hpp] at w2; omega
        have st1 : 1 ≤ st' := by obtain ⟨q, hq, _⟩ := adv G ok' hsp hpR run'; omega
        (with_reducible refine u_gname ?_)
        (with_reducible refine u_seq ?_)
        refine cutS (fun σ' H4 => ∃ (s2 : WS) (st2 j : Nat) (at2 lf2 y : Int), σ' = [some (.ref b), some (.ref a.w), some (.int R.length), some (.int way), some (.ref l), some (.int wk), o2] ∧ Cur H (b :: wS a) H4 ((l, .lst (left.map V.int)) :: (b, bail c at2 lf2) :: (c, .lst (cells.map V.int)) :: (wL A a s2 ++ bL A a R m ads)) ∧
          st' = st2 + (j + 1) ∧ s2.sn = s'.sn.set wk.toNat y ∧ Run R (more ⟨s2.hs, cnt s2.sn⟩ d) st2 e ∧ SOk R m s2 ∧ s2.k = s'.k + ((j + 1 : Nat) : Int) ∧ at1 ≤ at2 ∧ at2 ≤ at1 + 1 ∧ 0 ≤ lf2) (fun nx0 hnx => ?_) ?_
        · (with_reducible refine u_if ?_)
          refine cutT (fun bb H4 => ∃ at2 lf2, at1 ≤ at2 ∧ at2 ≤ at1 + 1 ∧ 0 ≤ lf2 ∧ Cur H (b :: wS a) H4 ((l, .lst (left.map V.int)) :: (b, bail c at2 lf2) :: (c, .lst (cells.map V.int)) :: (wL A a s' ++ bL A a R m ads))) (fun Q0 hQ0 => ?_) ?_
          · walk_at "rd"
            refine b_dec (fun h1 => ?_) (fun h1 => ?_)
            · exact hQ0 _ _ ⟨at1, lf1, Int.le_refl _, by omega, lf10, C⟩
            · walk_at "rd"
              refine b_dec (fun h2 => ?_) (fun h2 => ?_)
              · walk_at "rd"
                refine use_crook C 1 2 rfl rfl (by decide) (.inl (by simp)) hcl (by omega) (by omega) lf10 (by decide) (by decide) fun dd at2 lf2 H4 d0 d1 b0 b1 b2 C => ?_
                walk_at "rd"
                exact hQ0 _ _ ⟨at2, lf2, b0, b1, b2, C⟩
              · exact hQ0 _ _ ⟨at1, lf1, Int.le_refl _, by omega, lf10, C⟩
          · rintro bb H4 ⟨at2, lf2, b0, b1, b2, C⟩
            have hW4 := has_of C.drop.drop.drop
            have hT4 := hT.to C.ret nt
            have mw : ∀ {H5 : Hp} {s2 : WS}, Ret (wS a) H4 H5 → (∀ q ∈ wL A a s2, H5 q.1 = some q.2) → Cur H (b :: wS a) H5 ((l, .lst (left.map V.int)) :: (b, bail c at2 lf2) :: (c, .lst (cells.map V.int)) :: (wL A a s2 ++ bL A a R m ads)) := fun {H5 s2} r5 h5 => by
              have C' := C.sub (L' := wL A a s' ++ ((l, .lst (left.map V.int)) :: (b, bail c at2 lf2) :: (c, .lst (cells.map V.int)) :: bL A a R m ads)) (by have := C.nd; simp only [wL, bL, List.map_append, List.cons_append, List.nil_append, List.map_cons, List.map_nil, List.nodup_cons, List.mem_cons, List.not_mem_nil, or_false, not_or] at this ⊢; simp [this]; refine ⟨⟨?_, ?_, ?_⟩, ⟨?_, ?_, ?_⟩, ⟨?_, ?_, ?_⟩, ⟨?_, ?_, ?_⟩⟩ <;> (intro z; simp [z] at this)) (by intro p hp; simp only [wL, bL, List.cons_append, List.nil_append, List.mem_cons, List.not_mem_nil, or_false] at hp ⊢; rcases hp with h | h | h | h | h | h | h | h | h <;> simp [h])
              have C'' := callApp C' r5 (fun x hx => .inl (List.mem_cons_of_mem _ hx)) (L1' := wL A a s2) rfl h5
              exact C''.sub (by have := C.nd; exact this) (by intro p hp; simp only [wL, bL, List.cons_append, List.nil_append, List.mem_cons, List.not_mem_nil, or_false] at hp ⊢; rcases hp with h | h | h | h | h | h | h | h | h <;> simp [h])
            cases bb with
            | true =>
              obtain ⟨st2, j, e1, r2, o2k, e2, e3⟩ := led G ok' hsp hpR run'
              walk_at "rd"
              refine ⟨a.w, wk, rfl, a, s', R, m, rk, gd, ads, p, rfl, hW4, hT4, wok_of G ok', G, hm, w0, hsp, hpR, fun v H5 r5 h5 => ?_⟩
              exact hnx _ _ ⟨ledTo R s' wk.toNat p, st2, j, at2, lf2, _, rfl, mw r5 h5, e1, rfl, r2, o2k, e2, b0, b1, b2⟩
            | false =>
              obtain ⟨st2, e1, r2, o2k⟩ := adv G ok' hsp hpR run'
              walk_at "rd"
              refine ⟨a.w, wk, rfl, a, s', R, m, ads, p, rfl, hW4, hT4, wok_of G ok', w0, hsp, hpR, fun H5 r5 h5 => ?_⟩
              exact hnx _ _ ⟨sent R s' wk.toNat p, st2, 0, at2, lf2, _, rfl, mw r5 h5, e1, rfl, r2, o2k, rfl, b0, b1, b2⟩
        · rintro σ' H4 ⟨s2, st2, j, at2, lf2, y, rfl, C, e1, e2, r2, o2k, e3, b0, b1, b2⟩
          have hy2 : (s2.sn)[wk.toNat]'(by rw [e2, List.length_set]; omega) = y := by
            have : s2.sn[wk.toNat]? = some y := by rw [e2]; exact List.getElem?_set_self (by omega)
            exact (List.getElem?_eq_some_iff.mp this).2
          have hll : left.length ≤ 200 := by have := hL.len; have := ok'.l200; omega
          walk_at "rd"
          refine ⟨ty_list (C.get 0 rfl), ?_⟩
          walk_at "rd"
          refine r_rem (C.get 0 rfl) hwk ?_
          refine mod_c C 0 rfl (.inr l0) fun H5 C => ?_
          walk_at "rd"
          refine ⟨a.w, rfl, a, s2, rfl, (has_of C.drop.drop.drop).left, fun t3 H6 r6 t30 h6 => ?_⟩
          have C := C.call0n r6 t30 h6
          walk_at "rd"
          have hat := atI_int (ns := s2.sn) w0 (by rw [e2, List.length_set]; exact w1)
          rw [hy2] at hat
          refine r_ixT (SqT.of (C.get 0 rfl)) hat ?_
          walk_at "rd"
          refine b_dec (fun hlt => ?_) (fun hge => ?_)
          · walk_at "rd"
            refine new_c C fun l3 H7 l30 C => ?_
            refine r_cat (C.get 2 rfl) (C.get 0 rfl) (by rw [len_map]; have := List.length_erase_le (a := wk) (l := left); simp; omega) ?_
            refine new_c C fun l4 H8 l40 C => ?_
            walk_at "rd"
            have C := drop2 (drop2 (drop2 C))
            rw [show (left.erase wk).map V.int ++ [V.int wk] = (left.erase wk ++ [wk]).map V.int by rw [List.map_append]; rfl] at C
            refine ⟨st2, by omega, l4, _, s2, st2, at2, lf2, _, _, rfl, rfl, l40, C, ?_, o2k, by rw [e2, List.length_set]; exact hsl, r2, by omega, by omega, by omega, b2⟩
            rw [e2]; exact hL.stays hwk hlt
          · walk_at "rd"
            have C := C.drop
            refine ⟨st2, by omega, l, _, s2, st2, at2, lf2, _, _, rfl, rfl, l0, C, ?_, o2k, by rw [e2, List.length_set]; exact hsl, r2, by omega, by omega, by omega, b2⟩
            rw [e2]; exact hL.gone hwk hge
    · have C := C.drop
      subst hnil
      exact k s' st' at' lf' H2 C.ret (C.get 1 rfl) (fun q hq => C.own q (List.mem_cons_of_mem _ (List.mem_cons_of_mem _ (List.mem_cons_of_mem _ (List.mem_append_left _ hq))))) ok' hL.none hsl run' hk hat0 hat1 hlf
end
end K94

end

section
set_option Elab.async false
set_option linter.all false
set_option maxRecDepth 100000
set_option maxHeartbeats 1000000
namespace K94
open PySem PySem.Spec PyProof.Rows L2 Nd M94
set_option hygiene false
local macro_rules | `(tactic| walk_at "hg") => `(tactic| first | assumption | exact C.get 0 rfl | exact C.get 1 rfl | exact C.get 2 rfl | exact C.get 3 rfl | exact C.get 4 rfl | exact C.get 5 rfl | exact C.get 6 rfl | exact C.get 7 rfl | exact C.get 8 rfl | exact C.get 9 rfl)
local macro_rules | `(tactic| walk_at "rd1") => `(tactic| first
  | with_reducible refine u_seq ?_ | with_reducible refine u_asg ?_ | ((with_reducible refine' u_var ?hv ?_); (case hv => exact rfl)) | with_reducible refine u_c ?_ | with_reducible refine u_op ?_ | with_reducible refine u_if ?_ | with_reducible refine u_ret ?_
  | with_reducible refine u_test ?_ | with_reducible refine u_tB ?_ | with_reducible refine u_and ?_ | with_reducible refine u_or ?_ | with_reducible refine u_not ?_ | with_reducible refine u_call ?_ | with_reducible refine u_cb ?_ | with_reducible refine u_cons ?_ | with_reducible refine u_nil ?_
  | with_reducible refine u_gname ?_ | with_reducible refine u_gcons ?_ | with_reducible refine u_gnil ?_ | with_reducible refine u_gsub ?_ | with_reducible refine u_lst ?_ | with_reducible refine u_tup ?_ | with_reducible refine u_un ?_ | with_reducible refine u_ifE ?_
  | with_reducible refine u_drop ?_ | with_reducible refine u_next ?_ | with_reducible refine u_retN ?_ | with_reducible refine u_tf ?_ | with_reducible refine u_fld ?_ | with_reducible refine u_gfld ?_ | with_reducible refine u_par ?_ | with_reducible refine u_meth ?_ | with_reducible refine u_prop ?_ | with_reducible refine u_make ?_
  | with_reducible refine u_bm ?_ | with_reducible refine u_bm0 ?_ | with_reducible refine u_sl ?_ | with_reducible refine u_noPart ?_ | with_reducible refine u_part ?_ | with_reducible refine u_chain ?_ | with_reducible refine u_andV ?_ | with_reducible refine u_orV ?_ | with_reducible refine u_notV ?_
  | with_reducible refine u_listRg ?_ | with_reducible refine u_rg1 ?_ | with_reducible refine u_lc2 ?_ | with_reducible refine u_enum ?_ | with_reducible refine u_zip ?_ | with_reducible refine u_for ?_ | with_reducible refine u_lc ?_ | with_reducible refine u_rng1 ?_ | with_reducible refine u_rng2 ?_ | with_reducible refine u_yes ?_ | with_reducible refine u_brk ?_ | with_reducible refine u_cont ?_
  | with_reducible refine r_add ?_ | with_reducible refine r_sub ?_ | with_reducible refine r_lt ?_ | with_reducible refine r_le ?_ | with_reducible refine r_gt ?_ | with_reducible refine r_ge ?_ | with_reducible refine r_eqI ?_ | with_reducible refine r_neI ?_ | with_reducible refine r_neg ?_ | with_reducible refine r_int ?_ | with_reducible refine r_intB ?_ | with_reducible refine r_abs ?_ | with_reducible refine r_isNi ?_ | with_reducible refine r_isNn ?_ | with_reducible refine r_isNr ?_ | with_reducible refine r_isNs ?_ | with_reducible refine r_notN ?_
  | ((with_reducible refine' r_ixL ?hs ?ha ?_); (case hs => exact SqL.of (by walk_at "hg")); (case ha => first | exact rfl | exact atI_nat (by assumption)))
  | ((with_reducible refine' r_ixT ?hs ?ha ?_); (case hs => exact SqT.of (by walk_at "hg")); (case ha => first | exact rfl | exact atI_nat (by assumption)))
  | ((with_reducible refine' r_len ?hs ?_); (case hs => exact SqL.of (by walk_at "hg")))
  | ((with_reducible refine' r_lenT ?hs ?_); (case hs => exact SqT.of (by walk_at "hg")))
  | ((with_reducible refine' r_mod ?c ?_); (case c => first | decide | omega)) | ((with_reducible refine' r_div ?c ?_); (case c => first | (constructor <;> decide) | (constructor <;> omega)))
  | ((with_reducible refine' r_mul ?c ?_); (case c => first | exact .inl ⟨by omega, by omega⟩ | exact .inr ⟨by omega, by omega⟩))
  | ((with_reducible refine' r_pow ?c ?_); (case c => exact ⟨by omega, by omega, by omega⟩))
  | with_reducible refine b_nT ?_ | with_reducible refine b_nF ?_ | with_reducible refine iteF ?_ | with_reducible refine iteT ?_
  | with_reducible refine k_blA ?_ | with_reducible refine k_int ?_ | with_reducible refine k_two ?_
  | ((with_reducible refine' k_size ?hn ?_); (case hn => exact Nat.le_of_ble_eq_true rfl))
  | ((with_reducible refine' k_fld ?ha ?c ?n ?hl ?_); (case ha => walk_at "hg"); (case c => walk_at "cls"); (case n => walk_at "att"); (case hl => exact rfl))
  | ((with_reducible refine' k_put ?ha ?c ?n ?hl ?_); (case ha => walk_at "hg"); (case c => walk_at "cls"); (case n => walk_at "att"); (case hl => first | decide | exact Nat.lt_of_lt_of_le (Nat.lt_succ_self _) (Nat.le_of_ble_eq_true rfl)))
  | ((with_reducible refine' k_meth ?ha ?hl ?_); (case ha => walk_at "hg"); (case hl => exact rfl))
  | ((with_reducible refine' k_prop ?ha ?_); (case ha => walk_at "hg")))
local macro_rules | `(tactic| walk_at "rd") => `(tactic| repeat walk_at "rd1")
local macro_rules | `(tactic| walk_at "cls") => `(tactic| first | exact T.c_Board | exact T.c_World)
local macro_rules | `(tactic| walk_at "att") => `(tactic| first | exact T.n_Board_homes | exact T.n_Board_places | exact T.n_Board_rows | exact T.n_World_board | exact T.n_World_shown | exact T.n_World_standing | exact T.n_World_won | exact T.n_World_steps)

abbrev famOf (rs : List (Addr × List Int)) : List (Addr × HO) := rs.map fun q => (q.1, .lst (q.2.map V.int))
def rowsOf (rs : List (Addr × List Int)) : Rows := rs.reverse.map (·.2)
def adsOf (rs : List (Addr × List Int)) : List Addr := rs.reverse.map (·.1)
def sp_l_rows (K : PySem.W.Frag) (A : Adr) : Sp := fun vs H Q E => ∃ (b : Addr) (n m : Nat), vs = [.ref b, .int n, .int m] ∧ ∃ (c : Addr) (cells : List Int) (at_ lf : Int), Has H [(b, bail c at_ lf), (c, .lst (cells.map V.int))] ∧ 1 ≤ n ∧ n ≤ 5 ∧ 1 ≤ m ∧ m ≤ 9 ∧
  cells.length ≤ 60 ∧ 0 ≤ at_ ∧ at_ + 100 < 4194304 ∧ 0 ≤ lf ∧
  ∀ (r : Addr) (ads : List Addr) (R : Rows) (rk gd : Nat → Nat) (at' lf' : Int) H', R.length = n → Good R m rk gd → at_ ≤ at' → at' ≤ at_ + 100 → 0 ≤ lf' → Ret [b] H H' → H' b = some (bail c at' lf') → H r = none → H' r = some (.lst (ads.map V.ref)) → (∀ a ∈ ads, H a = none) → RowsAt H' ads R → Q (.ref r) H'
theorem erase_map (f : Int → V) : ∀ (l : List Int) (k : Nat), (l.map f).eraseIdx k = (l.eraseIdx k).map f
  | [], _ => rfl
  | _ :: _, 0 => rfl
  | a :: l, k + 1 => by show f a :: (l.map f).eraseIdx k = f a :: (l.eraseIdx k).map f; rw [erase_map f l k]
theorem adsOf_cons {D : Addr} {rw : List Int} {rs : List (Addr × List Int)} : adsOf ((D, rw) :: rs) = adsOf rs ++ [D] := by unfold adsOf; rw [List.reverse_cons, List.map_append]; rfl
theorem rowsOf_cons {D : Addr} {rw : List Int} {rs : List (Addr × List Int)} : rowsOf ((D, rw) :: rs) = rowsOf rs ++ [rw] := by unfold rowsOf; rw [List.reverse_cons, List.map_append]; rfl
theorem rowsOf_len {rs : List (Addr × List Int)} : (rowsOf rs).length = rs.length := by unfold rowsOf; rw [List.length_map, List.length_reverse]
theorem adsOf_len {rs : List (Addr × List Int)} : (adsOf rs).length = rs.length := by unfold adsOf; rw [List.length_map, List.length_reverse]
theorem rot {H0 H : Hp} {S : List Addr} {L : List (Addr × HO)} {x y z u : Addr × HO} (C : Cur H0 S H (x :: y :: z :: u :: L)) : Cur H0 S H (y :: z :: u :: x :: L) :=
  C.sub (by have := C.nd; simp only [List.map_cons, List.nodup_cons, List.mem_cons, not_or] at this ⊢; obtain ⟨⟨a1, a2, a3, a4⟩, ⟨b1, b2, b3⟩, ⟨c1, c2⟩, d1, e1⟩ := this; exact ⟨⟨b1, b2, Ne.symm a1, b3⟩, ⟨c1, Ne.symm a2, c2⟩, ⟨Ne.symm a3, d1⟩, a4, e1⟩) (fun p hp => by
    simp only [List.mem_cons] at hp ⊢
    rcases hp with h | h | h | h | h <;> simp [h])
theorem fam_mem {rs : List (Addr × List Int)} {q : Addr × List Int} (h : q ∈ rs) : (q.1, HO.lst (q.2.map V.int)) ∈ famOf rs := List.mem_map.mpr ⟨q, h, rfl⟩
theorem ads_at {rs : List (Addr × List Int)} {i : Nat} {q : Addr × List Int} (h : rs.reverse[i]? = some q) : (adsOf rs)[i]? = some q.1 := by unfold adsOf; rw [List.getElem?_map, h]; rfl
theorem row_at {rs : List (Addr × List Int)} {i : Nat} {q : Addr × List Int} (h : rs.reverse[i]? = some q) : row (rowsOf rs) i = q.2 := by unfold row rowsOf; rw [List.getD_eq_getElem?_getD, List.getElem?_map, h]; rfl
theorem _root_.Nd.Cur.perm {H0 H : Hp} {S : List Addr} {L L' : List (Addr × HO)} (C : Cur H0 S H L) (p : L.Perm L') : Cur H0 S H L' :=
  C.sub ((p.map _).nodup_iff.mp C.nd) (fun q hq => p.mem_iff.mpr hq)
structure Found (n : Nat) (names : List Int) (R1 : Rows) (fa : List Addr) (nws : List (Addr × List Int)) : Prop where
  len : fa.length = n
  ok : ∀ j q, nws.reverse[j]? = some q → fa[(names.getD j 0).toNat]? = some q.1 ∧ q.2 = (row R1 j).map (ren n names)
theorem nm_at {n : Nat} {names : List Int} (N : Names n names) {i : Nat} (h : i < n) : 0 ≤ names.getD i 0 ∧ names.getD i 0 < (n : Int) := by
  have : names.getD i 0 ∈ names := by
    rw [List.getD_eq_getElem?_getD, List.getElem?_eq_getElem (show i < names.length by rw [N.len]; exact h)]
    exact List.getElem_mem _
  exact (N.mem _).mp this
theorem nm_inj {n : Nat} {names : List Int} (N : Names n names) {i j : Nat} (hi : i < n) (hj : j < n) (h : names.getD i 0 = names.getD j 0) : i = j := by
  rw [← idx_of N.nd (show i < names.length by rw [N.len]; exact hi), ← idx_of N.nd (show j < names.length by rw [N.len]; exact hj), h]
theorem Found.snoc {n i : Nat} {names : List Int} {R1 : Rows} {fa : List Addr} {nws : List (Addr × List Int)} (F : Found n names R1 fa nws) (N : Names n names) (hl : nws.length = i) (hi : i < n) (E : Addr) :
    Found n names R1 (fa.set (names.getD i 0).toNat E) ((E, (row R1 i).map (ren n names)) :: nws) := by
  have b := nm_at N hi
  refine ⟨by rw [List.length_set]; exact F.len, fun j q h => ?_⟩
  rw [List.reverse_cons] at h
  by_cases hj : j < i
  · rw [List.getElem?_append_left (by rw [List.length_reverse]; omega)] at h
    have b' := nm_at N (show j < n by omega)
    have := F.ok j q h
    refine ⟨?_, this.2⟩
    rw [List.getElem?_set_ne (fun e => ?_)]
    · exact this.1
    · have := nm_inj N hi (show j < n by omega) (by omega)
      omega
  · have hji : j = i := by
      have := (List.getElem?_eq_some_iff.mp h).1
      simp at this
      omega
    subst hji
    rw [List.getElem?_append_right (by rw [List.length_reverse]; omega), List.length_reverse, hl, Nat.sub_self] at h
    have h' := Option.some.inj h
    subst h'
    exact ⟨List.getElem?_set_self (by rw [F.len]; omega), rfl⟩
theorem Found.rows {n : Nat} {names : List Int} {R1 : Rows} {fa : List Addr} {nws : List (Addr × List Int)} (F : Found n names R1 fa nws) (N : Names n names) (hl : nws.length = n) {p : Nat} {a : Addr} (h : fa[p]? = some a) : ∃ q ∈ nws, q.1 = a ∧ q.2 = row (mkR n names R1) p := by
  have hp : p < n := by have := (List.getElem?_eq_some_iff.mp h).1; rw [F.len] at this; exact this
  obtain ⟨h1, h2⟩ := idx_at ((N.mem (p : Int)).mpr ⟨by omega, by omega⟩)
  rw [N.len] at h1
  obtain ⟨q, hq⟩ : ∃ q, nws.reverse[names.idxOf (p : Int)]? = some q := ⟨_, List.getElem?_eq_getElem (by rw [List.length_reverse, hl]; exact h1)⟩
  have := F.ok _ q hq
  rw [h2, Int.toNat_natCast, h] at this
  refine ⟨q, List.mem_reverse.mp (List.mem_of_getElem? hq), (Option.some.inj this.1).symm, ?_⟩
  rw [row_mkR hp]
  exact this.2
section
variable {P : Program} {w : World} {K : PySem.W.Frag} {mg : Str → Option Value} {base : Heap} {A : Adr}
theorem ok_l_rows (T : Txt K mg A) (G_l_one : Gd P w K mg base CX0 2 "_law_one" ["_law_shepherd_here", "_law_some"] [] (sp_l_one K A)) (G_l_crook : Gd P w K mg base CX0 1 "_law_crook" ["_law_shepherd_here", "_law_many"] [] (sp_l_crook K A)) : Gd P w K mg base CX0 3 "_law_rows" ["_law_shepherd_here", "_law_places", "_law_homes"] [] (sp_l_rows K A) := by
  obtain ⟨f, fd, F, hm⟩ := T.f_l_rows
  refine ⟨⟨f, fd, [], ?_, hm, F.kp, F.binds (ps := ["_law_shepherd_here", "_law_places", "_law_homes"]) (fun _ _ _ _ _ _ us hl => match us, hl with | [_, _, _], _ => rfl), .nil⟩⟩
  refine F.ok sc_l_rows (fun vs H Q E h => by first | (obtain ⟨rfl, _⟩ := h; rfl) | (obtain ⟨_, rfl, _⟩ := h; rfl) | (obtain ⟨_, _, rfl, _⟩ := h; rfl) | (obtain ⟨_, _, _, rfl, _⟩ := h; rfl) | (obtain ⟨_, _, _, _, rfl, _⟩ := h; rfl) | (obtain ⟨_, _, _, _, _, rfl, _⟩ := h; rfl) | (obtain ⟨_, _, _, _, _, _, rfl, _⟩ := h; rfl) | (obtain ⟨_, _, _, _, _, _, _, rfl, _⟩ := h; rfl)) (fun cdv A' outer s H vs Q E hr h => ⟨_, (pss_cons (ps_set (i := 3) sc_l_rows.nd rfl (.inl rfl) (pe_lst pa_nil))
      (pss_cons (ps_for PassesOwn.never rfl (pi_range1 (by rfl) T.b_range (pa_cons (pv 1) pa_nil)) (pg_name (i := 4) sc_l_rows.nd rfl (.inl rfl)) (pss_cons (ps_setLc (i := 6) (own := [("_law_entry", 9)]) rfl sc_l_rows.nd rfl rfl (sw_true rfl rfl rfl (by decide +kernel)) (pi_range1 (by rfl) T.b_range (pa_cons (pe_callG G_l_one (hr.mono (by decide)) (by rfl) pass0 (pa_cons (pv 0) (pa_cons (pe_lst (pa_cons pe_int (pa_cons pe_int (pa_cons pe_int (pa_cons pe_int (pa_cons pe_int pa_nil)))))) pa_nil))) pa_nil)) (blkOk_by (N := N_l_rows) (sc := defScope s_l_rows) (own := [("_law_entry", 9)]) (by decide +kernel)) (fun _ _ _ _ _ => (pg_name (i := 9) sc_l_rows.nd rfl (by first | exact .inl rfl | exact .inr rfl))) (fun _ _ _ _ _ => pts_nil) (fun _ _ _ _ _ => (pe_callG G_l_crook (hr.mono (by decide)) (by rfl) pass0 (pa_cons (pv 0) (pa_cons (pe_op op_addU (pv 1) (pv 2)) pa_nil)))))
      (pss_cons (ps_asg (pe_op op_addU (pe_op op_addU (pv 4) pe_int) (pe_callG G_l_crook (hr.mono (by decide)) (by rfl) pass0 (pa_cons (pv 0) (pa_cons (pe_op op_subI (pe_op op_subI (pe_op op_addU (pv 1) (pv 2)) (pv 4)) pe_int) pa_nil)))) (pg_sub (pv 6) (pe_callG G_l_crook (hr.mono (by decide)) (by rfl) pass0 (pa_cons (pv 0) (pa_cons (pe_callB (call_lenK K) (by rfl) T.b_len PySem.boot_len (pa_cons (pv 6) pa_nil)) pa_nil))) set_list))
      (pss_one (ps_expr (pe_bmK K PySem.F.plainAttrs_list PySem.F.slot_list_append PySem.F.type_list_append mt_append (pv 3) (pa_cons (pv 6) pa_nil)))))))
      (pss_cons (ps_asg (pe_tup (pa_cons (pe_lst pa_nil) (pa_cons (pe_listRg rfl (by rfl) T.b_list (prg_1 (by rfl) T.b_range (pv 1))) pa_nil))) (pg_tupK K (n := 2) rfl (pgs_cons (pg_name (i := 7) sc_l_rows.nd rfl (.inr rfl)) (pgs_cons (pg_name (i := 8) sc_l_rows.nd rfl (.inl rfl)) pgs_nil))))
      (pss_cons (ps_while PassesOwn.never (pt_cmpR (op_neK K hr.units) (pv 8) (pe_lst pa_nil) (nomark _)) (pss_one (ps_expr (pe_bmK K PySem.F.plainAttrs_list PySem.F.slot_list_append PySem.F.type_list_append mt_append (pv 7) (pa_cons (pe_bmK K PySem.F.plainAttrs_list PySem.F.slot_list_pop PySem.F.type_list_pop mt_popAt (pv 8) (pa_cons (pe_callG G_l_crook (hr.mono (by decide)) (by rfl) pass0 (pa_cons (pv 0) (pa_cons (pe_callB (call_lenK K) (by rfl) T.b_len PySem.boot_len (pa_cons (pv 8) pa_nil)) pa_nil))) pa_nil)) pa_nil)))))
      (pss_cons (ps_setLc (i := 5) (own := [("_law_place", 4)]) rfl sc_l_rows.nd rfl rfl (sw_true rfl rfl rfl (by decide +kernel)) (pi_range1 (by rfl) T.b_range (pa_cons (pv 1) pa_nil)) (blkOk_by (N := N_l_rows) (sc := defScope s_l_rows) (own := [("_law_place", 4)]) (by decide +kernel)) (fun _ _ _ _ _ => (pg_name (i := 4) sc_l_rows.nd rfl (by first | exact .inl rfl | exact .inr rfl))) (fun _ _ _ _ _ => pts_nil) (fun _ _ _ _ _ => (pe_lst pa_nil)))
      (pss_cons (ps_for PassesOwn.never rfl (pi_enumK K false (by rfl) T.b_enumerate (pa_cons (pv 3) pa_nil)) (pg_tupK K (n := 2) rfl (pgs_cons (pg_name (i := 4) sc_l_rows.nd rfl (.inl rfl)) (pgs_cons (pg_name (i := 6) sc_l_rows.nd rfl (.inl rfl)) pgs_nil))) (pss_one (ps_asg (pe_lc (own := [("_law_entry", 9)]) rfl sc_l_rows.nd (pi_seqK K (pv 6)) (blkOk_by (N := N_l_rows) (sc := defScope s_l_rows) (own := [("_law_entry", 9)]) (by decide +kernel)) (fun _ _ _ _ _ => (pg_name (i := 9) sc_l_rows.nd rfl (by first | exact .inl rfl | exact .inr rfl))) (fun _ _ _ _ _ => pts_nil) (fun _ _ _ _ _ => (pe_ifExp (pt_cmpR op_ltI (pv 9) (pv 1) (nomark _)) (pe_ix (ix_seqK K) (pv 7) (pv 9) (fun _ _ => rfl)) (pv 9)))) (pg_sub (pv 5) (pe_ix (ix_seqK K) (pv 7) (pv 4) (fun _ _ => rfl)) set_list))))
      (pss_one (ps_ret (pv 5))))))))), ?_⟩)
  obtain ⟨b, n, m, rfl, c, cells, at_, lf, hW, hn1, hn5, hm1, hm9, hcl, ha0, ha1, hl0, k⟩ := h
  have C : Cur H [b] H [(b, bail c at_ lf), (c, .lst (cells.map V.int))] := hW.cur
  walk_at "rd"
  refine new_c C fun rh H1 rh0 C => ?_
  walk_at "rd"
  refine k_rng1 (j := (n : Int)) (by omega) (by omega) ?_
  refine for_r (fun i σ H' => ∃ (rs : List (Addr × List Int)) (g : Nat → Nat) (at' lf' : Int) (o4 o6 o9 : Option V), σ = [some (.ref b), some (.int n), some (.int m), some (.ref rh), o4, none, o6, none, none, o9] ∧ rs.length = i ∧ Drawn n m (rowsOf rs) g ∧ at_ ≤ at' ∧ at' ≤ at_ + 7 * i ∧ 0 ≤ lf' ∧
    Cur H [b] H' ((rh, .lst ((adsOf rs).map V.ref)) :: (b, bail c at' lf') :: (c, .lst (cells.map V.int)) :: famOf rs)) ⟨[], fun _ => 0, at_, lf, none, none, none, rfl, rfl, ⟨fun j h => absurd h (Nat.not_lt_zero _), fun j h => absurd h (Nat.not_lt_zero _), fun j h => absurd h (Nat.not_lt_zero _)⟩, Int.le_refl _, by omega, hl0, C⟩ ?_ ?_
  · rintro i σ H' hi ⟨rs, g, at', lf', o4, o6, o9, rfl, hrl, hD, hat0, hat1, hlf, C⟩
    have hin : i < n := by omega
    walk_at "rd"
    refine new_c C fun dl H2 dl0 C => ?_
    walk_at "rd"
    refine ⟨b, dl, rfl, c, cells, at', lf', [2, 1, 3, 2, 4], C.get 2 rfl, C.get 3 rfl, C.ne 2 3 rfl rfl (by decide), C.get 0 rfl, C.ne 2 0 rfl rfl (by decide), hcl, by omega, by omega, hlf, by decide, by decide, fun dn at1 lf1 H3 hdn a1 a2 a3 r3 e3 => ?_⟩
    have C := C.call1 2 rfl (.inl (by simp)) r3 e3
    have hdn' : 1 ≤ dn ∧ dn ≤ 4 := by
      simp only [List.mem_cons, List.not_mem_nil, or_false] at hdn
      omega
    walk_at "rd"
    refine k_rng1 (j := dn) (by omega) (by omega) ?_
    refine lc_r C (fun D j H' => ∃ (rw : List Int) (at2 lf2 : Int), rw.length = j ∧ (∀ x ∈ rw, 0 ≤ x ∧ x < (n : Int) + m) ∧ at1 ≤ at2 ∧ at2 ≤ at1 + j ∧ 0 ≤ lf2 ∧
      Cur H [b] H' ((D, .lst (rw.map V.int)) :: (dl, .lst [.int 2, .int 1, .int 3, .int 2, .int 4]) :: (rh, .lst ((adsOf rs).map V.ref)) :: (b, bail c at2 lf2) :: (c, .lst (cells.map V.int)) :: famOf rs)) (fun D H1 D0 C => ⟨[], at1, lf1, rfl, by simp, Int.le_refl _, by omega, a3, C⟩) (fun D j H' D0 hj h => ?_) (fun D H' D0 h => ?_)
    · obtain ⟨rw, at2, lf2, hrw, hx, b0, b1, b2, C⟩ := h
      walk_at "rd"
      refine ⟨rfl, ?_⟩
      walk_at "rd"
      refine use_crook C 3 4 rfl rfl (by decide) (.inl (by simp)) hcl (by omega) (by omega) b2 (by omega) (by omega) fun dd at3 lf3 H4 d0 d1 c0 c1 c2 C => ?_
      refine k_acc (C.get 0 rfl) (by rw [len_map]; omega) ?_
      refine mod_c C 0 rfl (.inr D0) fun H5 C => ?_
      refine ⟨rw ++ [dd], at3, lf3, by simp [hrw], fun x hx' => ?_, by omega, by omega, c2, ?_⟩
      · rcases List.mem_append.mp hx' with q | q
        · exact hx x q
        · rw [List.mem_singleton.mp q]; exact ⟨d0, d1⟩
      · rw [List.map_append]; exact C
    · obtain ⟨rw, at2, lf2, hrw, hx, b0, b1, b2, C⟩ := h
      have C := drop2 C
      walk_at "rd"
      refine use_crook C 2 3 rfl rfl (by decide) (.inl (by simp)) hcl (by omega) (by omega) b2 (by omega) (by omega) fun d2 at3 lf3 H5 d20 d21 c0 c1 c2 C => ?_
      walk_at "rd"
      refine use_crook C 2 3 rfl rfl (by decide) (.inl (by simp)) hcl (by omega) (by omega) c2 (by rw [len_map]; omega) (by rw [len_map]; omega) fun d3 at4 lf4 H6 d30 d31 f0 f1 f2 C => ?_
      rw [len_map] at d31
      refine r_setL (C.get 0 rfl) (ixN_of d30 (by rw [len_map]; exact d31)) ?_
      refine mod_c C 0 rfl (.inr D0) fun H7 C => ?_
      walk_at "rd"
      refine ⟨ty_list (C.get 1 rfl), ?_⟩
      walk_at "rd"
      refine r_app (C.get 1 rfl) (by rw [List.length_map, adsOf_len]; omega) ?_
      refine mod_c C 1 rfl (.inr rh0) fun H8 C => ?_
      have C := rot C
      have e1 : (rw.map V.int).set d3.toNat (V.int (0 + (i : Int) + 1 + d2)) = (rw.set d3.toNat ((i : Int) + 1 + d2)).map V.int := by rw [Int.zero_add, ← List.map_set]
      have e2 : (adsOf rs).map V.ref ++ [V.ref D] = (adsOf ((D, rw.set d3.toNat ((i : Int) + 1 + d2)) :: rs)).map V.ref := by rw [adsOf_cons, List.map_append]; rfl
      rw [e1, e2] at C
      refine ⟨(D, rw.set d3.toNat ((i : Int) + 1 + d2)) :: rs, fun j => if j = (rowsOf rs).length then d3.toNat else g j, at4, lf4, _, _, _, rfl, by simp [hrl], ?_, by omega, by omega, f2, C⟩
      rw [rowsOf_cons]
      refine hD.snoc (by rw [List.length_set]; omega) (fun x hx' => ?_) (by rw [List.length_set]; omega) (fun x hx' => ?_)
      · rcases set_mem hx' with q | q
        · exact hx x q
        · rw [q]; omega
      · rw [List.getElem?_set_self (by omega)] at hx'
        rw [← Option.some.inj hx', rowsOf_len, hrl]
        omega
  · rintro σ H' ⟨rs, g, at', lf', o4, o6, o9, rfl, hrl, hD, hat0, hat1, hlf, C⟩
    rw [Int.toNat_natCast] at hrl hat1
    walk_at "rd"
    refine new_c C fun nm H1 nm0 C => ?_
    walk_at "rd"
    refine ⟨RgOk.of_le (by decide) (by omega) (by decide) (by omega), ?_⟩
    refine new_c C fun la H2 la0 C => ?_
    walk_at "rd"
    refine new_c C fun tt H3 tt0 C => ?_
    refine u_gtup (SqT.of (C.get 0 rfl)) rfl ?_
    walk_at "rd"
    rw [rg_ints] at C
    have C := C.drop
    have C : Cur H [b] H3 ((nm, .lst (([] : List Int).map V.int)) :: (la, .lst (((List.range n).map fun (i : Nat) => ((i : Nat) : Int)).map V.int)) :: (rh, .lst ((adsOf rs).map V.ref)) :: (b, bail c at' lf') :: (c, .lst (cells.map V.int)) :: famOf rs) :=
      C.sub (by have := C.nd; simp only [List.map_cons, List.nodup_cons, List.mem_cons, not_or] at this ⊢; obtain ⟨⟨a1, a2⟩, ⟨b1, b2⟩⟩ := this; exact ⟨⟨Ne.symm a1, b1⟩, a2, b2⟩) (fun p hp => by
        simp only [List.mem_cons] at hp ⊢
        rcases hp with h | h | h | h | h | h <;> simp [h])
    refine u_while (fun r σ H' => ∃ (names left : List Int) (at2 lf2 : Int), r = left.length ∧ σ = [some (.ref b), some (.int n), some (.int m), some (.ref rh), o4, none, o6, some (.ref nm), some (.ref la), o9] ∧ Part n names left ∧ at' ≤ at2 ∧ at2 ≤ at' + names.length ∧ 0 ≤ lf2 ∧
      Cur H [b] H' ((nm, .lst (names.map V.int)) :: (la, .lst (left.map V.int)) :: (rh, .lst ((adsOf rs).map V.ref)) :: (b, bail c at2 lf2) :: (c, .lst (cells.map V.int)) :: famOf rs)) (m0 := _) ⟨[], _, at', lf', rfl, rfl, Part.start n, Int.le_refl _, by simp, hlf, C⟩ ?_
    rintro _ σ H' ⟨names, left, at2, lf2, rfl, rfl, hP, b0, b1, b2, C⟩
    have hPl := hP.2.2
    walk_at "rd"
    refine new_c C fun z0 H4 z00 C => ?_
    refine r_neL (ns := left) (ms := []) (SqL.of (C.get 2 rfl)) (SqL.of (C.get 0 rfl)) ?_
    have C := C.drop
    walk_at "rd"
    refine b_ndec (fun hne => ?_) (fun hnil => ?_)
    · have hlp : 1 ≤ left.length := List.length_pos_iff.mpr hne
      refine wh_b ?_
      walk_at "rd"
      refine ⟨ty_list (C.get 0 rfl), ?_⟩
      walk_at "rd"
      refine ⟨ty_list (C.get 1 rfl), ?_⟩
      walk_at "rd"
      refine use_crook C 3 4 rfl rfl (by decide) (.inl (by simp)) hcl (by omega) (by omega) b2 (by rw [len_map]; omega) (by rw [len_map]; omega) fun dk at3 lf3 H5 d0 d1 c0 c1 c2 C => ?_
      rw [len_map] at d1
      obtain ⟨x, hx⟩ : ∃ x, left[dk.toNat]? = some x := ⟨_, List.getElem?_eq_getElem (by omega)⟩
      walk_at "rd"
      refine r_popAt (y := .int x) (C.get 1 rfl) d0 (by rw [len_map]; exact d1) (by rw [len_map]; omega) (by rw [List.getElem?_map, hx]; rfl) ?_
      refine mod_c C 1 rfl (.inr la0) fun H6 C => ?_
      walk_at "rd"
      refine r_app (C.get 0 rfl) (by rw [len_map]; omega) ?_
      refine mod_c C 0 rfl (.inr nm0) fun H7 C => ?_
      have e1 : (left.map V.int).eraseIdx dk.toNat = (left.eraseIdx dk.toNat).map V.int := erase_map ..
      have e2 : names.map V.int ++ [V.int x] = (names ++ [x]).map V.int := by rw [List.map_append]; rfl
      rw [e1, e2] at C
      refine ⟨_, ?_, names ++ [x], left.eraseIdx dk.toNat, at3, lf3, rfl, rfl, hP.pop hx, by omega, by simp; omega, c2, C⟩
      rw [List.length_eraseIdx, if_pos (by omega)]
      omega
    · subst hnil
      have N := hP.names
      have hNl := N.len
      have hP0 : names.length = n := hNl
      walk_at "rd"
      have C : Cur H [b] H4 ((nm, .lst (names.map V.int)) :: (rh, .lst ((adsOf rs).map V.ref)) :: (b, bail c at2 lf2) :: (c, .lst (cells.map V.int)) :: famOf rs) :=
        C.sub (by have := C.nd; simp only [List.map_cons, List.nodup_cons, List.mem_cons, not_or] at this ⊢; obtain ⟨⟨a1, a2⟩, ⟨b1, b2⟩⟩ := this; exact ⟨a2, b2⟩) (fun p hp => by
          simp only [List.mem_cons] at hp ⊢
          rcases hp with h | h | h | h | h <;> simp [h])
      refine k_rng1 (j := (n : Int)) (by omega) (by omega) ?_
      refine lc_r C (fun D j H' => ∃ es : List Addr, es.length = j ∧ Cur H [b] H' ((D, .lst (es.map V.ref)) :: (nm, .lst (names.map V.int)) :: (rh, .lst ((adsOf rs).map V.ref)) :: (b, bail c at2 lf2) :: (c, .lst (cells.map V.int)) :: famOf rs) ∧ (∀ a ∈ es, H a = none)) (fun D H1 D0 C => ⟨[], rfl, C, by simp⟩) (fun D j H' D0 hj h => ?_) (fun D H' D0 h => ?_)
      · obtain ⟨es, hes, C, he0⟩ := h
        walk_at "rd"
        refine ⟨rfl, ?_⟩
        walk_at "rd"
        refine new_c C fun y H5 y0 C => ?_
        refine k_acc (C.get 1 rfl) (by rw [List.length_map]; omega) ?_
        refine mod_c C 1 rfl (.inr D0) fun H6 C => ?_
        have C := C.drop
        rw [List.set_cons_zero] at C
        refine ⟨es ++ [y], by simp [hes], by rw [List.map_append]; exact C, fun a ha => ?_⟩
        rcases List.mem_append.mp ha with q | q
        · exact he0 a q
        · rw [List.mem_singleton.mp q]; exact y0
      · obtain ⟨es, hes, C, he0⟩ := h
        rw [Int.toNat_natCast] at hes
        walk_at "rd"
        have Fd0 : Found n names (rowsOf rs) es [] := ⟨hes, fun j q h => by simp at h⟩
        refine k_enum (k := false) (xs := (adsOf rs).map V.ref) (SqL.of (C.get 2 rfl)) ?_
        refine for_e (k := false) (xs := (adsOf rs).map V.ref) (fun i σ H' => ∃ (nws : List (Addr × List Int)) (fa : List Addr) (o4 o6 o9 : Option V), σ = [some (.ref b), some (.int n), some (.int m), some (.ref rh), o4, some (.ref D), o6, some (.ref nm), some (.ref la), o9] ∧ nws.length = i ∧ Found n names (rowsOf rs) fa nws ∧ (∀ q ∈ nws, H q.1 = none) ∧
          Cur H [b] H' ((D, .lst (fa.map V.ref)) :: (nm, .lst (names.map V.int)) :: (rh, .lst ((adsOf rs).map V.ref)) :: (b, bail c at2 lf2) :: (c, .lst (cells.map V.int)) :: (famOf nws ++ famOf rs))) ⟨[], es, o4, o6, o9, rfl, rfl, Fd0, by simp, C⟩ ?_ ?_ ?_
        · rintro i σ H' hi ⟨nws, fa, o4, o6, o9, rfl, hnl, Fd, hnn, C⟩
          exact SqL.of (C.get 2 rfl)
        · rintro i x σ H' hx ⟨nws, fa, o4, o6, o9, rfl, hnl, Fd, hnn, C⟩
          have hin : i < n := by
            have := (List.getElem?_eq_some_iff.mp hx).1
            rw [List.length_map, adsOf_len] at this; omega
          obtain ⟨q, hq⟩ : ∃ q, rs.reverse[i]? = some q := ⟨_, List.getElem?_eq_getElem (by rw [List.length_reverse]; omega)⟩
          rw [List.getElem?_map, ads_at hq] at hx
          obtain rfl : V.ref q.1 = x := Option.some.inj hx
          have hqm : q ∈ rs := List.mem_reverse.mp (List.mem_of_getElem? hq)
          have hqr : row (rowsOf rs) i = q.2 := row_at hq
          have hql : q.2.length ≤ 4 := by have := (hD.len i (by rw [rowsOf_len]; omega)).2; rw [hqr] at this; exact this
          have hqb : ∀ x ∈ q.2, 0 ≤ x ∧ x < (n : Int) + m := by have := hD.ents i (by rw [rowsOf_len]; omega); rw [hqr] at this; exact this
          refine new_c C fun t2 H2 t20 C => ?_
          refine u_gtup (SqT.of (C.get 0 rfl)) rfl ?_
          have C := C.drop
          walk_at "rd"
          have hqa : ∀ {H' : Hp} {x : Addr × HO}, Cur H [b] H' (x :: (D, .lst (fa.map V.ref)) :: (nm, .lst (names.map V.int)) :: (rh, .lst ((adsOf rs).map V.ref)) :: (b, bail c at2 lf2) :: (c, .lst (cells.map V.int)) :: (famOf nws ++ famOf rs)) → H' q.1 = some (.lst (q.2.map V.int)) := fun C => C.own _ (List.mem_cons_of_mem _ (List.mem_cons_of_mem _ (List.mem_cons_of_mem _ (List.mem_cons_of_mem _ (List.mem_cons_of_mem _ (List.mem_cons_of_mem _ (List.mem_append_right _ (fam_mem hqm))))))))
          refine u_sseqL ?_
          walk_at "rd"
          refine k_seqL (xs := q.2.map V.int) (SqL.of (C.own _ (List.mem_cons_of_mem _ (List.mem_cons_of_mem _ (List.mem_cons_of_mem _ (List.mem_cons_of_mem _ (List.mem_cons_of_mem _ (List.mem_append_right _ (fam_mem hqm))))))))) ?_
          refine lc_l (xs := q.2.map V.int) C (fun E j H' => Cur H [b] H' ((E, .lst (((q.2.take j).map (ren n names)).map V.int)) :: (D, .lst (fa.map V.ref)) :: (nm, .lst (names.map V.int)) :: (rh, .lst ((adsOf rs).map V.ref)) :: (b, bail c at2 lf2) :: (c, .lst (cells.map V.int)) :: (famOf nws ++ famOf rs))) (fun E H1 E0 C => C) (fun E j H' hj C => SqL.of (hqa C)) (fun E j x H' E0 hx C => ?_) (fun E H' E0 C => ?_)
          · obtain ⟨e, he, rfl⟩ := int_of hx
            obtain ⟨e0, e1⟩ := hqb e (List.mem_of_getElem? he)
            have hjl := (List.getElem?_eq_some_iff.mp he).1
            walk_at "rd"
            refine ⟨rfl, ?_⟩
            have et : (((q.2.take j).map (ren n names)).map V.int) ++ [V.int (ren n names e)] = (((q.2.take (j + 1)).map (ren n names)).map V.int) := by
              rw [List.take_add_one, he, List.map_append, List.map_append]; rfl
            walk_at "rd"
            refine b_dec (fun hlt => ?_) (fun hge => ?_)
            · have er : ren n names e = names[e.toNat]'(by omega) := by
                unfold ren; rw [if_pos hlt, List.getD_eq_getElem?_getD, List.getElem?_eq_getElem (by omega)]; rfl
              walk_at "rd"
              refine r_ixL (SqL.of (C.get 2 rfl)) (atI_int (ns := names) e0 (by omega)) ?_
              refine k_acc (C.get 0 rfl) (by rw [len_map, List.length_map, List.length_take]; omega) ?_
              refine mod_c C 0 rfl (.inr E0) fun H6 C => ?_
              rw [← er, et] at C
              exact C
            · have er : ren n names e = e := by unfold ren; rw [if_neg hge]
              walk_at "rd"
              refine k_acc (C.get 0 rfl) (by rw [len_map, List.length_map, List.length_take]; omega) ?_
              refine mod_c C 0 rfl (.inr E0) fun H6 C => ?_
              rw [er] at et
              rw [et] at C
              exact C
          · have etl : (q.2.take (q.2.map V.int).length) = q.2 := by rw [len_map, List.take_length]
            rw [etl] at C
            have C : Cur H [b] H' ((D, .lst (fa.map V.ref)) :: (nm, .lst (names.map V.int)) :: (rh, .lst ((adsOf rs).map V.ref)) :: (b, bail c at2 lf2) :: (c, .lst (cells.map V.int)) :: ((E, .lst ((q.2.map (ren n names)).map V.int)) :: (famOf nws ++ famOf rs))) :=
              C.perm (List.perm_middle (a := (E, HO.lst ((q.2.map (ren n names)).map V.int))) (l₁ := [(D, HO.lst (fa.map V.ref)), (nm, .lst (names.map V.int)), (rh, .lst ((adsOf rs).map V.ref)), (b, bail c at2 lf2), (c, .lst (cells.map V.int))]) (l₂ := famOf nws ++ famOf rs)).symm
            obtain ⟨n0, n1⟩ := nm_at N hin
            have en : names[(i : Int).toNat]'(by omega) = names.getD i 0 := by
              rw [List.getD_eq_getElem?_getD, List.getElem?_eq_getElem (by omega)]; rfl
            walk_at "rd"
            refine r_ixL (SqL.of (C.get 1 rfl)) (atI_int (ns := names) (i := (i : Int)) (by omega) (by omega)) ?_
            rw [en]
            refine r_setL (C.get 0 rfl) (ixN_of n0 (by rw [List.length_map, Fd.len]; exact n1)) ?_
            refine mod_c C 0 rfl (.inr D0) fun H7 C => ?_
            rw [List.set_cons_zero, ← List.map_set] at C
            refine ⟨(E, (row (rowsOf rs) i).map (ren n names)) :: nws, _, _, _, _, rfl, by simp [hnl], Fd.snoc N hnl hin E, fun q' hq' => ?_, ?_⟩
            · rcases List.mem_cons.mp hq' with z | z
              · rw [z]; exact E0
              · exact hnn q' z
            · rw [hqr]; exact C
        · rintro σ H' ⟨nws, fa, o4, o6, o9, rfl, hnl, Fd, hnn, C⟩
          rw [List.length_map, adsOf_len, hrl] at hnl
          walk_at "rd"
          refine k D fa (mkR n names (rowsOf rs)) _ _ at2 lf2 H' (by unfold mkR; rw [List.length_map, List.length_range]) (good_of hn1 hn5 hm1 (by rw [rowsOf_len, hrl]) hD N) (by omega) (by omega) b2 C.toRet (C.get 3 rfl) D0 (C.get 0 rfl) (fun a ha => ?_) ⟨by rw [Fd.len]; unfold mkR; rw [List.length_map, List.length_range], fun i a hia => ?_⟩
          · obtain ⟨p, hp, e⟩ := List.mem_iff_getElem.mp ha
            obtain ⟨q, hq, e1, e2⟩ := Fd.rows N hnl (p := p) (a := a) (by rw [List.getElem?_eq_getElem hp, e])
            rw [← e1]; exact hnn q hq
          · obtain ⟨q, hq, e1, e2⟩ := Fd.rows N hnl hia
            rw [← e1, ← e2]
            exact C.own _ (List.mem_cons_of_mem _ (List.mem_cons_of_mem _ (List.mem_cons_of_mem _ (List.mem_cons_of_mem _ (List.mem_cons_of_mem _ (List.mem_append_left _ (fam_mem hq)))))))
end
end K94

end

section
set_option Elab.async false
set_option linter.all false
set_option maxRecDepth 100000
set_option maxHeartbeats 1000000
namespace K94
open PySem PySem.Spec PyProof.Rows L2 Nd M94
set_option hygiene false
local macro_rules | `(tactic| walk_at "hg") => `(tactic| first | assumption | exact C.get 0 rfl | exact C.get 1 rfl | exact C.get 2 rfl | exact C.get 3 rfl | exact C.get 4 rfl | exact C.get 5 rfl | exact C.get 6 rfl | exact C.get 7 rfl | exact C.get 8 rfl | exact C.get 9 rfl)
local macro_rules | `(tactic| walk_at "rd1") => `(tactic| first
  | with_reducible refine u_seq ?_ | with_reducible refine u_asg ?_ | ((with_reducible refine' u_var ?hv ?_); (case hv => exact rfl)) | with_reducible refine u_c ?_ | with_reducible refine u_op ?_ | with_reducible refine u_if ?_ | with_reducible refine u_ret ?_
  | with_reducible refine u_test ?_ | with_reducible refine u_tB ?_ | with_reducible refine u_and ?_ | with_reducible refine u_or ?_ | with_reducible refine u_not ?_ | with_reducible refine u_call ?_ | with_reducible refine u_cb ?_ | with_reducible refine u_cons ?_ | with_reducible refine u_nil ?_
  | with_reducible refine u_gname ?_ | with_reducible refine u_gcons ?_ | with_reducible refine u_gnil ?_ | with_reducible refine u_gsub ?_ | with_reducible refine u_lst ?_ | with_reducible refine u_tup ?_ | with_reducible refine u_un ?_ | with_reducible refine u_ifE ?_
  | with_reducible refine u_drop ?_ | with_reducible refine u_next ?_ | with_reducible refine u_retN ?_ | with_reducible refine u_tf ?_ | with_reducible refine u_fld ?_ | with_reducible refine u_gfld ?_ | with_reducible refine u_par ?_ | with_reducible refine u_par3 ?_ | with_reducible refine u_meth ?_ | with_reducible refine u_prop ?_ | with_reducible refine u_make ?_
  | with_reducible refine u_bm ?_ | with_reducible refine u_bm0 ?_ | with_reducible refine u_sl ?_ | with_reducible refine u_noPart ?_ | with_reducible refine u_part ?_ | with_reducible refine u_chain ?_ | with_reducible refine u_andV ?_ | with_reducible refine u_orV ?_ | with_reducible refine u_notV ?_
  | with_reducible refine u_listRg ?_ | with_reducible refine u_rg1 ?_ | with_reducible refine u_lc2 ?_ | with_reducible refine u_enum ?_ | with_reducible refine u_zip ?_ | with_reducible refine u_for ?_ | with_reducible refine u_lc ?_ | with_reducible refine u_rng1 ?_ | with_reducible refine u_rng2 ?_ | with_reducible refine u_yes ?_ | with_reducible refine u_brk ?_ | with_reducible refine u_cont ?_
  | with_reducible refine r_add ?_ | with_reducible refine r_sub ?_ | with_reducible refine r_lt ?_ | with_reducible refine r_le ?_ | with_reducible refine r_gt ?_ | with_reducible refine r_ge ?_ | with_reducible refine r_eqI ?_ | with_reducible refine r_neI ?_ | with_reducible refine r_neg ?_ | with_reducible refine r_int ?_ | with_reducible refine r_intB ?_ | with_reducible refine r_abs ?_ | with_reducible refine r_isNi ?_ | with_reducible refine r_isNn ?_ | with_reducible refine r_isNr ?_ | with_reducible refine r_isNs ?_ | with_reducible refine r_notN ?_
  | ((with_reducible refine' r_ixL ?hs ?ha ?_); (case hs => exact SqL.of (by walk_at "hg")); (case ha => first | exact rfl | exact atI_nat (by assumption)))
  | ((with_reducible refine' r_ixT ?hs ?ha ?_); (case hs => exact SqT.of (by walk_at "hg")); (case ha => first | exact rfl | exact atI_nat (by assumption)))
  | ((with_reducible refine' r_len ?hs ?_); (case hs => exact SqL.of (by walk_at "hg")))
  | ((with_reducible refine' r_lenT ?hs ?_); (case hs => exact SqT.of (by walk_at "hg")))
  | ((with_reducible refine' r_mod ?c ?_); (case c => first | decide | omega)) | ((with_reducible refine' r_div ?c ?_); (case c => first | (constructor <;> decide) | (constructor <;> omega)))
  | ((with_reducible refine' r_mul ?c ?_); (case c => first | exact .inl ⟨by omega, by omega⟩ | exact .inr ⟨by omega, by omega⟩))
  | ((with_reducible refine' r_pow ?c ?_); (case c => exact ⟨by omega, by omega, by omega⟩))
  | with_reducible refine b_nT ?_ | with_reducible refine b_nF ?_ | with_reducible refine iteF ?_ | with_reducible refine iteT ?_
  | with_reducible refine k_blA ?_ | with_reducible refine k_int ?_ | with_reducible refine k_two ?_ | with_reducible refine k_three ?_
  | ((with_reducible refine' k_size ?hn ?_); (case hn => exact Nat.le_of_ble_eq_true rfl))
  | ((with_reducible refine' k_fld ?ha ?c ?n ?hl ?_); (case ha => walk_at "hg"); (case c => walk_at "cls"); (case n => walk_at "att"); (case hl => exact rfl))
  | ((with_reducible refine' k_put ?ha ?c ?n ?hl ?_); (case ha => walk_at "hg"); (case c => walk_at "cls"); (case n => walk_at "att"); (case hl => first | decide | exact Nat.lt_of_lt_of_le (Nat.lt_succ_self _) (Nat.le_of_ble_eq_true rfl)))
  | ((with_reducible refine' k_meth ?ha ?hl ?_); (case ha => walk_at "hg"); (case hl => exact rfl))
  | ((with_reducible refine' k_prop ?ha ?_); (case ha => walk_at "hg")))
local macro_rules | `(tactic| walk_at "rd") => `(tactic| repeat walk_at "rd1")
local macro_rules | `(tactic| walk_at "cls") => `(tactic| first | exact T.c_Board | exact T.c_World)
local macro_rules | `(tactic| walk_at "att") => `(tactic| first | exact T.n_Board_homes | exact T.n_Board_places | exact T.n_Board_rows | exact T.n_World_board | exact T.n_World_shown | exact T.n_World_standing | exact T.n_World_won | exact T.n_World_steps)

def sp_law (K : PySem.W.Frag) (A : Adr) : Sp := fun vs H Q E => ∃ (a : Addr), vs = [.ref a] ∧ ∃ ns : List Int, SqL K H a (ns.map V.int) ∧ ns.length ≤ 63 ∧ ∀ H', Q (.bl true) H'
theorem getD_snoc {xs : List Int} {d : Int} {p : Nat} : (xs ++ [d]).getD p 0 = if p < xs.length then xs.getD p 0 else if p = xs.length then d else 0 := by
  rw [List.getD_eq_getElem?_getD, List.getD_eq_getElem?_getD]
  by_cases h : p < xs.length
  · rw [if_pos h, List.getElem?_append_left h]
  · rw [if_neg h, List.getElem?_append_right (by omega)]
    by_cases e : p = xs.length
    · rw [if_pos e, e, Nat.sub_self]; rfl
    · rw [if_neg e, List.getElem?_eq_none (by simp; omega)]; rfl
theorem shape3 (as bs : List Int) (i : Int) : SeqAt.shaped (.list [.tuple (pyI as), .tuple (pyI bs), .int i]) = true := by
  have h1 : PyData.canLay0 (.list [.tuple (pyI as), .tuple (pyI bs), .int i]) = true := by
    show (PyData.canLayAll0 (pyI as) && (PyData.canLayAll0 (pyI bs) && (PyData.canLay0 (.int i) && true))) = true
    rw [lay_ints, lay_ints]; rfl
  have h2 : PyData.depth (.list [.tuple (pyI as), .tuple (pyI bs), .int i]) = 2 := by
    show max (PyData.depthAll (pyI as) + 1) (max (PyData.depthAll (pyI bs) + 1) (max 0 0)) + 1 = 2
    rw [dep_ints, dep_ints]; rfl
  unfold SeqAt.shaped
  rw [h1, h2]; rfl
theorem r_ne3 {K : PySem.W.Frag} {H : Hp} {Q : VK} {p q t1 t2 u1 u2 : Addr} {as bs : List Int} {i : Int} (h1 : SqL K H p [.ref t1, .ref t2, .int i]) (h2 : SqL K H q [.ref u1, .ref u2, .int i]) (a1 : SqT K H t1 (as.map V.int)) (a2 : SqT K H t2 (bs.map V.int)) (b1 : SqT K H u1 (as.map V.int)) (b2 : SqT K H u2 (bs.map V.int)) (h : Q (.bl false) H) :
    rNeU K (.ref p) (.ref q) H Q :=
  .inr ⟨.list [.tuple (pyI as), .tuple (pyI bs), .int i], .list [.tuple (pyI as), .tuple (pyI bs), .int i], .lst h1 (.cons (.tup a1 (dp_ints as)) (.cons (.tup a2 (dp_ints bs)) (.cons (.int i) .nil))), .lst h2 (.cons (.tup b1 (dp_ints as)) (.cons (.tup b2 (dp_ints bs)) (.cons (.int i) .nil))),
    shape3 as bs i, shape3 as bs i, by
      have e : PyData.eqv (.list [.tuple (pyI as), .tuple (pyI bs), .int i]) (.list [.tuple (pyI as), .tuple (pyI bs), .int i]) = true := by
        show (PyData.eqvAll (pyI as) (pyI as) && (PyData.eqvAll (pyI bs) (pyI bs) && (PyData.eqv (.int i) (.int i) && true))) = true
        rw [eqv_ints, eqv_ints]; simp [PyData.eqv]
      rw [e]; exact h⟩
theorem own_mid {A : Adr} {a : WA} {s s' : WS} {H0 H H' : Hp} {S : List Addr} {x : Addr × HO} {L : List (Addr × HO)} (C : Cur H0 S H (x :: (wL A a s ++ L))) (hm : ∀ x ∈ wS a, x ∈ S ∨ H0 x = none) (r : Ret (wS a) H H') (h : ∀ q ∈ wL A a s', H' q.1 = some q.2) : Cur H0 S H' (x :: (wL A a s' ++ L)) :=
  (callApp (L1 := wL A a s) (L1' := wL A a s') (C.perm List.perm_middle.symm) r hm rfl h).perm List.perm_middle
theorem cur_join {H0 H : Hp} {S : List Addr} {L1 L2 : List (Addr × HO)} (C : Cur H0 S H L2) (h : Has H L1) (d : ∀ p ∈ L1, p.1 ∉ L2.map (·.1)) : Cur H0 S H (L1 ++ L2) where
  nd := by
    rw [List.map_append]
    refine List.nodup_append.mpr ⟨h.1, C.nd, fun x hx y hy e => ?_⟩
    obtain ⟨p, hp, rfl⟩ := List.mem_map.mp hx
    exact d p hp (e ▸ hy)
  own := fun p hp => (List.mem_append.mp hp).elim (h.2 p) (C.own p)
  ret := C.ret
theorem cur_sub {H0 H : Hp} {S : List Addr} {L L' : List (Addr × HO)} (C : Cur H0 S H L) (s : L'.Sublist L) : Cur H0 S H L' := C.sub ((s.map _).nodup C.nd) fun p hp => s.mem hp
theorem _root_.Nd.Cur.pick {H0 H : Hp} {S : List Addr} {L : List (Addr × HO)} (C : Cur H0 S H L) (is : List Nat) (nd : is.Nodup) : Cur H0 S H (is.filterMap fun i => L[i]?) :=
  C.sub (List.pairwise_map.mpr (List.pairwise_filterMap.mpr (nd.imp fun {i j} hij p hp q hq => C.ne i j (o := p.2) (o2 := q.2) hp hq hij))) (fun p hp => by
    obtain ⟨i, _, e⟩ := List.mem_filterMap.mp hp
    exact List.mem_of_getElem? e)
theorem bok_of {R : Rows} {m : Nat} {rk gd : Nat → Nat} (G : Good R m rk gd) (h9 : m ≤ 9) : BOk R m :=
  ⟨G.n1, by have := G.n5; omega, fun p hp => ⟨(G.le4 p hp).1, by have := (G.le4 p hp).2; omega⟩, fun p hp x hx => G.ents p hp x hx, G.m1, h9⟩
section
variable {P : Program} {w : World} {K : PySem.W.Frag} {mg : Str → Option Value} {base : Heap} {A : Adr}
theorem ok_law {f : Addr} {fd : FuncData} (F : Fun K "law" "law" s_law f fd) (T : Txt K mg A) (G_l_shepherd : Gd P w K mg base CX0 1 "_law_shepherd" ["_law_script"] [] (sp_l_shepherd K A)) (G_l_crook : Gd P w K mg base CX0 1 "_law_crook" ["_law_shepherd_here", "_law_many"] [] (sp_l_crook K A)) (G_l_one : Gd P w K mg base CX0 2 "_law_one" ["_law_shepherd_here", "_law_some"] [] (sp_l_one K A)) (G_l_rows : Gd P w K mg base CX0 3 "_law_rows" ["_law_shepherd_here", "_law_places", "_law_homes"] [] (sp_l_rows K A)) (G_l_played : Gd P w K mg base CX0 2 "_law_played" ["_law_rows_here", "_law_hands", "_law_place", "_law_most"] [] (sp_l_played K A)) (G_Board_init : Gm P w K mg base CX0 4 "Board" A.Board ["self", "homes", "rows"] [] (sp_Board_init K A)) (G_World_init : Gm P w K mg base CX0 4 "World" A.World ["self", "board", "hands"] [] (sp_World_init K A)) (G_World_enter : Gv P w K mg base CX0 4 A.World "enter" ["self", "place"] [] (sp_World_enter K A)) (G_l_home : Gd P w K mg base CX0 8 "_law_home" ["_law_shepherd_here", "_law_world", "_law_places", "_law_way"] [] (sp_l_home K A)) (G_World_wins : Gp P w K mg base CX0 1 A.World "wins" ["self"] (sp_World_wins K A)) (G_World_hands : Gp P w K mg base CX0 1 A.World "hands" ["self"] (sp_World_hands K A)) (G_World_walkers : Gp P w K mg base CX0 1 A.World "walkers" ["self"] (sp_World_walkers K A)) : FnOk P w K mg base CX0 9 f fd ["_law_script"] (sp_law K A) := by
  refine F.ok sc_law (fun vs H Q E h => by first | (obtain ⟨rfl, _⟩ := h; rfl) | (obtain ⟨_, rfl, _⟩ := h; rfl) | (obtain ⟨_, _, rfl, _⟩ := h; rfl) | (obtain ⟨_, _, _, rfl, _⟩ := h; rfl) | (obtain ⟨_, _, _, _, rfl, _⟩ := h; rfl) | (obtain ⟨_, _, _, _, _, rfl, _⟩ := h; rfl) | (obtain ⟨_, _, _, _, _, _, rfl, _⟩ := h; rfl) | (obtain ⟨_, _, _, _, _, _, _, rfl, _⟩ := h; rfl)) (fun cdv A' outer s H vs Q E hr h => ⟨_, (pss_cons (ps_set (i := 1) sc_law.nd rfl (.inr rfl) (pe_callG G_l_shepherd (hr.mono (by decide)) (by rfl) pass0 (pa_cons (pv 0) pa_nil)))
      (pss_cons (ps_for PassesOwn.never rfl (pi_range1 (by rfl) T.b_range (pa_cons pe_int pa_nil)) (pg_name (i := 2) sc_law.nd rfl (.inl rfl)) (pss_cons (ps_asg (pe_tup (pa_cons (pe_callG G_l_one (hr.mono (by decide)) (by rfl) pass0 (pa_cons (pv 1) (pa_cons (pe_lst (pa_cons pe_int (pa_cons pe_int (pa_cons pe_int (pa_cons pe_int (pa_cons pe_int pa_nil)))))) pa_nil))) (pa_cons (pe_op op_addU pe_int (pe_callG G_l_crook (hr.mono (by decide)) (by rfl) pass0 (pa_cons (pv 1) (pa_cons pe_int pa_nil)))) pa_nil))) (pg_tupK K (n := 2) rfl (pgs_cons (pg_name (i := 7) sc_law.nd rfl (.inr rfl)) (pgs_cons (pg_name (i := 8) sc_law.nd rfl (.inl rfl)) pgs_nil))))
      (pss_cons (ps_set (i := 3) sc_law.nd rfl (.inl rfl) (pe_callG G_l_rows (hr.mono (by decide)) (by rfl) pass0 (pa_cons (pv 1) (pa_cons (pv 7) (pa_cons (pv 8) pa_nil)))))
      (pss_cons (ps_par (i := 9) (j := 10) (by rfl) sc_law.nd rfl rfl (by decide) rfl rfl (pa_cons (pe_lc (own := [("_law_row", 18)]) rfl sc_law.nd (pi_seqK K (pv 3)) (blkOk_by (N := N_law) (sc := defScope s_law) (own := [("_law_row", 18)]) (by decide +kernel)) (fun _ _ _ _ _ => (pg_name (i := 18) sc_law.nd rfl (by first | exact .inl rfl | exact .inr rfl))) (fun _ _ _ _ _ => pts_nil) (fun _ _ _ _ _ => (pe_callG G_l_crook (hr.mono (by decide)) (by rfl) pass0 (pa_cons (pv 1) (pa_cons (pe_callB (call_lenK K) (by rfl) T.b_len PySem.boot_len (pa_cons (pv 18) pa_nil)) pa_nil))))) (pa_cons (pe_lc (own := [("_law_walker", 19)]) rfl sc_law.nd (pi_range1 (by rfl) T.b_range (pa_cons (pe_op op_addU pe_int (pe_callG G_l_crook (hr.mono (by decide)) (by rfl) pass0 (pa_cons (pv 1) (pa_cons pe_int pa_nil)))) pa_nil)) (blkOk_by (N := N_law) (sc := defScope s_law) (own := [("_law_walker", 19)]) (by decide +kernel)) (fun _ _ _ _ _ => (pg_name (i := 19) sc_law.nd rfl (by first | exact .inl rfl | exact .inr rfl))) (fun _ _ _ _ _ => pts_nil) (fun _ _ _ _ _ => (pe_callG G_l_crook (hr.mono (by decide)) (by rfl) pass0 (pa_cons (pv 1) (pa_cons (pv 7) pa_nil))))) pa_nil)) (by rfl))
      (pss_cons (ps_par3 (i := 11) (j := 12) (l := 13) (by rfl) sc_law.nd rfl rfl rfl (by decide) (by decide) (by decide) rfl rfl rfl (pa_cons (pe_callTy (call_listK K) (by rfl) T.b_list (by decide +kernel) (pa_cons (pv 9) pa_nil)) (pa_cons (pe_op op_mulU (pe_lst (pa_cons pe_int pa_nil)) (pv 8)) (pa_cons pe_int pa_nil))) (by rfl))
      (pss_cons (ps_for PassesOwn.never rfl (pi_seqK K (pv 10)) (pg_name (i := 4) sc_law.nd rfl (.inl rfl)) (pss_cons (ps_asg (pe_callG G_l_played (hr.mono (by decide)) (by rfl) pass0 (pa_cons (pv 3) (pa_cons (pv 11) (pa_cons (pv 4) (pa_cons pe_int pa_nil))))) (pg_tupK K (n := 2) rfl (pgs_cons (pg_name (i := 14) sc_law.nd rfl (.inl rfl)) (pgs_cons (pg_name (i := 15) sc_law.nd rfl (.inl rfl)) pgs_nil))))
      (pss_one (ps_asg (pe_tup (pa_cons (pe_op op_addU (pe_ix (ix_seqK K) (pv 12) (pe_op op_subI (pv 14) (pv 7)) (fun _ _ => rfl)) pe_int) (pa_cons (pe_op op_addU (pv 13) (pv 15)) pa_nil))) (pg_tupK K (n := 2) rfl (pgs_cons (pg_sub (pv 12) (pe_op op_subI (pv 14) (pv 7)) set_list) (pgs_cons (pg_name (i := 13) sc_law.nd rfl (.inl rfl)) pgs_nil)))))))
      (pss_cons (ps_set (i := 5) sc_law.nd rfl (.inl rfl) (pe_makeG G_Board_init (hr.mono (by decide)) (by rfl) pass0 (pa_cons (pv 8) (pa_cons (pv 3) pa_nil))))
      (pss_one (ps_for PassesOwn.never rfl (pi_seqK K (pe_tup (pa_cons pe_int (pa_cons pe_int (pa_cons pe_int (pa_cons pe_int (pa_cons pe_int pa_nil))))))) (pg_name (i := 6) sc_law.nd rfl (.inl rfl)) (pss_cons (ps_par (i := 16) (j := 17) (by rfl) sc_law.nd rfl rfl (by decide) rfl rfl (pa_cons (pe_makeG G_World_init (hr.mono (by decide)) (by rfl) pass0 (pa_cons (pv 5) (pa_cons (pv 9) pa_nil))) (pa_cons (pe_ifExp (pt_cmpR op_gtI (pv 6) pe_int (nomark _)) (pe_callG G_l_crook (hr.mono (by decide)) (by rfl) pass0 (pa_cons (pv 1) (pa_cons (pe_callB (call_lenK K) (by rfl) T.b_len PySem.boot_len (pa_cons (pv 10) pa_nil)) pa_nil))) pe_int) pa_nil)) (by rfl))
      (pss_cons (ps_for PassesOwn.never rfl (pi_seqK K (pe_slice (sl_listK K) (pv 10) (po_some (pv 17)) po_none)) (pg_name (i := 4) sc_law.nd rfl (.inl rfl)) (pss_one (ps_expr (pe_methG G_World_enter T.c_World (hr.mono (by decide)) pass0 (pv 16) (pa_cons (pv 4) pa_nil)))))
      (pss_cons (ps_expr (pe_callG G_l_home (hr.mono (by decide)) (by rfl) pass0 (pa_cons (pv 1) (pa_cons (pv 16) (pa_cons (pv 7) (pa_cons (pv 6) pa_nil))))))
      (pss_cons (ps_for PassesOwn.never rfl (pi_seqK K (pe_slice (sl_listK K) (pv 10) po_none (po_some (pv 17)))) (pg_name (i := 4) sc_law.nd rfl (.inl rfl)) (pss_one (ps_expr (pe_methG G_World_enter T.c_World (hr.mono (by decide)) pass0 (pv 16) (pa_cons (pv 4) pa_nil)))))
      (pss_cons (ps_expr (pe_callG G_l_home (hr.mono (by decide)) (by rfl) pass0 (pa_cons (pv 1) (pa_cons (pv 16) (pa_cons (pv 7) (pa_cons (pv 6) pa_nil))))))
      (pss_cons (ps_if (pt_cmpR (op_neK K hr.units) (pe_lst (pa_cons (pe_propG G_World_hands T.c_World (hr.mono (by decide)) pass0 (pv 16)) (pa_cons (pe_propG G_World_wins T.c_World (hr.mono (by decide)) pass0 (pv 16)) (pa_cons (pe_fldK K (pv 16) rfl) pa_nil)))) (pe_lst (pa_cons (pe_callTy (call_tupleK K) (by rfl) T.b_tuple (by decide +kernel) (pa_cons (pv 11) pa_nil)) (pa_cons (pe_callTy (call_tupleK K) (by rfl) T.b_tuple (by decide +kernel) (pa_cons (pv 12) pa_nil)) (pa_cons (pv 13) pa_nil)))) (nomark _)) (pss_one (ps_ret pe_bl)) pss_nil)
      (pss_one (ps_if (PW.pt (pw_or (pt_cmpR (op_neK K hr.units) (pe_lc (own := [("_law_spot", 20)]) rfl sc_law.nd (pi_seqK K (pe_propG G_World_walkers T.c_World (hr.mono (by decide)) pass0 (pv 16))) (blkOk_by (N := N_law) (sc := defScope s_law) (own := [("_law_spot", 20)]) (by decide +kernel)) (fun _ _ _ _ _ => (pg_name (i := 20) sc_law.nd rfl (by first | exact .inl rfl | exact .inr rfl))) (fun _ _ _ _ _ => (pts_one (pt_cmpR op_ltI (pv 20) (pv 7) (nomark _)))) (fun _ _ _ _ _ => (pv 20))) (pe_lst pa_nil) (nomark _)) (pw_or1 (pt_cmpR (op_neK K hr.units) (pe_callB (call_lenK K) (by rfl) T.b_len PySem.boot_len (pa_cons (pe_propG G_World_walkers T.c_World (hr.mono (by decide)) pass0 (pv 16)) pa_nil)) (pe_callB (call_lenK K) (by rfl) T.b_len PySem.boot_len (pa_cons (pv 10) pa_nil)) (nomark _))))) (pss_one (ps_ret pe_bl)) pss_nil)))))))))))))))))
      (pss_one (ps_ret pe_bl)))), ?_⟩)
  obtain ⟨a, rfl, ns, hS, hl, k⟩ := h
  have C : Cur H [] H [] := Cur.start (by simp) (by simp)
  walk_at "rd"
  refine ⟨a, rfl, ns, hS, hl, fun b c cells H1 r1 b0 c0 hbc hb hc hcl => ?_⟩
  have C : Cur H [] H1 [(b, bail c 0 0), (c, HO.lst (cells.map V.int))] := ((C.call0 r1).add (by simp) hc).add (by simp [hbc]) hb
  have hW1 := has_of C
  walk_at "rd"
  refine k_rng1 (j := 2) (by omega) (by omega) ?_
  refine for_r (fun i σ H' => ∃ (at' lf' : Int) (o2 o3 o4 o5 o6 o7 o8 o9 o10 o11 o12 o13 o14 o15 o16 o17 : Option V), σ = [some (.ref a), some (.ref b), o2, o3, o4, o5, o6, o7, o8, o9, o10, o11, o12, o13, o14, o15, o16, o17, none, none, none] ∧ 0 ≤ at' ∧ at' ≤ 1000000 * i ∧ 0 ≤ lf' ∧
    Has H' [(b, bail c at' lf'), (c, HO.lst (cells.map V.int))]) ⟨0, 0, _, _, _, _, _, _, _, _, _, _, _, _, _, _, _, _, rfl, Int.le_refl _, by omega, Int.le_refl _, hW1⟩ ?_ ?_
  · rintro tn σ H' hi ⟨at', lf', o2, o3, o4, o5, o6, o7, o8, o9, o10, o11, o12, o13, o14, o15, o16, o17, rfl, a0, a1, l0, hW⟩
    have hi2 : tn < 2 := hi
    have C : Cur H' [b] H' [(b, bail c at' lf'), (c, HO.lst (cells.map V.int))] := hW.cur
    walk_at "rd"
    refine new_c C fun dl H2 dl0 C => ?_
    walk_at "rd"
    refine ⟨b, dl, rfl, c, cells, at', lf', [3, 1, 2, 4, 5], C.get 1 rfl, C.get 2 rfl, C.ne 1 2 rfl rfl (by decide), C.get 0 rfl, C.ne 1 0 rfl rfl (by decide), hcl, by omega, by omega, l0, by decide, by decide, fun dn at1 lf1 H3 hdn a1' a2' a3' r3 e3 => ?_⟩
    have C := (C.call1 1 rfl (.inl (by simp)) r3 e3).drop
    obtain ⟨n, rfl, hn1, hn5⟩ : ∃ n : Nat, dn = (n : Int) ∧ 1 ≤ n ∧ n ≤ 5 := by
      simp only [List.mem_cons, List.not_mem_nil, or_false] at hdn
      exact ⟨dn.toNat, by omega, by omega, by omega⟩
    walk_at "rd"
    refine use_crook C 0 1 rfl rfl (by decide) (.inl (by simp)) hcl (by omega) (by omega) a3' (by decide) (by decide) fun dh at2 lf2 H4 d0 d1 b0' b1 b2 C => ?_
    obtain ⟨m, hm, hm1, hm9⟩ : ∃ m : Nat, 1 + dh = (m : Int) ∧ 1 ≤ m ∧ m ≤ 3 := ⟨(1 + dh).toNat, by omega, by omega, by omega⟩
    walk_at "rd"
    refine new_c C fun t H5 t0 C => ?_
    refine u_gtup (SqT.of (C.get 0 rfl)) rfl ?_
    have C := C.drop
    have C7 := C
    walk_at "rd"
    rw [hm]
    refine ⟨b, n, m, rfl, c, cells, at2, lf2, has_of C, hn1, hn5, hm1, by omega, hcl, by omega, by omega, b2, fun r ads R rk gd at3 lf3 H6 hRl G c0' c1 c2 r6 hb6 hr0 hr6 had hRA => ?_⟩
    have hbads : b ∉ ads := fun z => by have h1 := had b z; rw [C.get 0 rfl] at h1; cases h1
    subst hRl
    have C := C7.call1n 0 rfl (.inl (by simp)) r6 hb6 hr0 hr6
    have C : Cur H6 [b] H6 [(r, HO.lst (ads.map V.ref)), (b, bail c at3 lf3), (c, HO.lst (cells.map V.int))] := C.again
    have nb : ∀ x ∈ ads, x ∉ [b] := fun x hx z => hbads (List.mem_singleton.mp z ▸ hx)
    have adN : ∀ x ∈ ads, H6 x ≠ none := fun x hx => by
      obtain ⟨j, hj, e⟩ := List.mem_iff_getElem.mp hx
      rw [hRA.2 j x (by rw [List.getElem?_eq_getElem hj, e])]; simp
    walk_at "rd"
    refine u_sseqL ?_
    walk_at "rd"
    refine k_seqL (SqL.of (C.get 0 rfl)) ?_
    refine lc_l (xs := ads.map V.ref) C (fun D j H' => ∃ (hs : List Int) (at4 lf4 : Int), hs.length = j ∧ (∀ p, p < j → 0 ≤ hs.getD p 0 ∧ hs.getD p 0 < ((row R p).length : Int)) ∧ at3 ≤ at4 ∧ at4 ≤ at3 + j ∧ 0 ≤ lf4 ∧
      Cur H6 [b] H' [(D, HO.lst (hs.map V.int)), (r, HO.lst (ads.map V.ref)), (b, bail c at4 lf4), (c, HO.lst (cells.map V.int))]) (fun D H1 D0 C => ⟨[], at3, lf3, rfl, by simp, Int.le_refl _, by omega, c2, C⟩) (fun D j H' hj h => ?_) (fun D j x H' D0 hx h => ?_) (fun hh H' hh0 h => ?_)
    · obtain ⟨hs, at4, lf4, _, _, _, _, _, C⟩ := h
      exact SqL.of (C.get 1 rfl)
    · obtain ⟨hs, at4, lf4, hsl, hsb, e0, e1, e2, C⟩ := h
      obtain ⟨ra, hra, rfl⟩ := ref_of hx
      have hjR : j < R.length := by rw [← hRA.1]; exact (List.getElem?_eq_some_iff.mp hra).1
      have hrow := (hRA.to C.ret nb).2 j ra hra
      have hle := G.le4 j hjR
      have hR5 := G.n5
      walk_at "rd"
      refine ⟨rfl, ?_⟩
      walk_at "rd"
      refine use_crook C 2 3 rfl rfl (by decide) (.inl (by simp)) hcl (by omega) (by omega) e2 (by rw [len_map]; omega) (by rw [len_map]; omega) fun d at5 lf5 H7 d0 d1 f0 f1 f2 C => ?_
      rw [len_map] at d1
      refine k_acc (C.get 0 rfl) (by rw [len_map]; omega) ?_
      refine mod_c C 0 rfl (.inr D0) fun H8 C => ?_
      refine ⟨hs ++ [d], at5, lf5, by simp [hsl], fun p hp => ?_, by omega, by omega, f2, by rw [List.map_append]; exact C⟩
      rw [getD_snoc]
      by_cases q : p < j
      · rw [if_pos (by omega)]; exact hsb p q
      · obtain rfl : p = j := by omega
        rw [if_neg (by omega), if_pos hsl.symm]; exact ⟨d0, d1⟩
    · obtain ⟨hs0, at4, lf4, hsl, hsb, e0, e1, e2, C⟩ := h
      rw [List.length_map, hRA.1] at hsl e1 hsb
      have hok : HandsOk R hs0 := ⟨hsl, hsb⟩
      have hR5 := G.n5
      walk_at "rd"
      refine use_crook C 2 3 rfl rfl (by decide) (.inl (by simp)) hcl (by omega) (by omega) e2 (by decide) (by decide) fun dw at5 lf5 H7 w0 w1 f0 f1 f2 C => ?_
      walk_at "rd"
      refine k_rng1 (j := 2 + dw) (by omega) (by omega) ?_
      refine lc_r C (fun D j H' => ∃ (bg : List Int) (at6 lf6 : Int), bg.length = j ∧ (∀ x ∈ bg, 0 ≤ x ∧ x < (R.length : Int)) ∧ at5 ≤ at6 ∧ at6 ≤ at5 + j ∧ 0 ≤ lf6 ∧
        Cur H6 [b] H' [(D, HO.lst (bg.map V.int)), (hh, HO.lst (hs0.map V.int)), (r, HO.lst (ads.map V.ref)), (b, bail c at6 lf6), (c, HO.lst (cells.map V.int))]) (fun D H1 D0 C => ⟨[], at5, lf5, rfl, by simp, Int.le_refl _, by omega, f2, C⟩) (fun D j H' D0 hj h => ?_) (fun bA H' bA0 h => ?_)
      · obtain ⟨bg, at6, lf6, hbl, hbb, g0, g1, g2, C⟩ := h
        walk_at "rd"
        refine ⟨rfl, ?_⟩
        walk_at "rd"
        refine use_crook C 3 4 rfl rfl (by decide) (.inl (by simp)) hcl (by omega) (by omega) g2 (by omega) (by omega) fun d at7 lf7 H7 d0 d1 i0 i1 i2 C => ?_
        refine k_acc (C.get 0 rfl) (by rw [len_map]; omega) ?_
        refine mod_c C 0 rfl (.inr D0) fun H8 C => ?_
        refine ⟨bg ++ [d], at7, lf7, by simp [hbl], fun x hx => ?_, by omega, by omega, i2, by rw [List.map_append]; exact C⟩
        rcases List.mem_append.mp hx with q | q
        · exact hbb x q
        · rw [List.mem_singleton.mp q]; exact ⟨d0, d1⟩
      · obtain ⟨bg, at6, lf6, hbl, hbb, g0, g1, g2, C⟩ := h
        have hbl9 : 2 ≤ bg.length ∧ bg.length ≤ 9 := by omega
        have hat6 : at6 ≤ at' + 200 := by omega
        have hat6' : 0 ≤ at6 := by omega
        clear hbl g0 g1 f0 f1 e0 e1 c0' c1 b0' b1 a1' a2' hsb hdn
        walk_at "rd"
        refine r_listL (SqL.of (C.get 1 rfl)) (new_c C fun ow H8 ow0 C => ?_)
        walk_at "rd"
        refine new_c C fun z0 H9 z00 C => ?_
        walk_at "rd"
        refine r_rep (C.get 0 rfl) (by omega) (by omega) (by simp) ?_
        refine new_c C fun wo H10 wo0 C => ?_
        rw [Int.toNat_natCast, rep_zero] at C
        have C := drop2 C
        have howa : ow ∉ ads := fun z => adN ow z ow0
        walk_at "rd"
        refine u_sseqL ?_
        walk_at "rd"
        refine k_seqL (SqL.of (C.get 2 rfl)) ?_
        refine for_l (xs := bg.map V.int) (fun i σ H' => ∃ (hsI wn : List Int) (kI : Nat) (E : List Int) (o4 o14 o15 : Option V), σ = [some (.ref a), some (.ref b), some (.int (0 + (tn : Int))), some (.ref r), o4, o5, o6, some (.int R.length), some (.int m), some (.ref hh), some (.ref bA), some (.ref ow), some (.ref wo), some (.int kI), o14, o15, o16, o17, none, none, none] ∧ Seq R m hs0 bg i hsI wn kI E ∧
          Cur H6 [b] H' [(wo, HO.lst (wn.map V.int)), (ow, HO.lst (hsI.map V.int)), (bA, HO.lst (bg.map V.int)), (hh, HO.lst (hs0.map V.int)), (r, HO.lst (ads.map V.ref)), (b, bail c at6 lf6), (c, HO.lst (cells.map V.int))]) ⟨hs0, _, 0, [], _, _, _, rfl, Seq.start hok, C⟩ ?_ ?_ ?_
        · rintro i σ H' hi ⟨hsI, wn, kI, E, o4, o14, o15, rfl, S, C⟩
          exact SqL.of (C.get 2 rfl)
        · rintro i x σ H' hx ⟨hsI, wn, kI, E, o4, o14, o15, rfl, S, C⟩
          obtain ⟨z, hz, rfl⟩ := int_of hx
          obtain ⟨z0, z1⟩ := hbb z (List.mem_of_getElem? hz)
          obtain ⟨y, g, hsN, hpl, p1, p2, p3, S'⟩ : ∃ y g hsN, play R 10000 hsI z = (hsN, y, g) ∧ (R.length : Int) ≤ y ∧ XOk R m y ∧ g ≤ 10000 ∧ Seq R m hs0 bg (i + 1) hsN (M94.bump wn (y - R.length).toNat) (kI + g) (E ++ [y]) := ⟨_, _, _, rfl, S.step G hz z0 z1⟩
          have p22 := p2.2
          have hwl := S.wl
          walk_at "rd"
          refine ⟨r, ow, z, rfl, ads, R, hsI, m, rk, gd, C.get 4 rfl, hRA.to C.ret nb, C.get 1 rfl, C.ne 1 4 rfl rfl (by decide), howa, ⟨z0, by omega⟩, S.hok, G, fun t2 H11 r11 t20 h11 e11 => ?_⟩
          rw [hpl] at e11 h11
          replace h11 : H11 t2 = some (.tup [.int y, .int (g : Int)]) := h11
          replace e11 : H11 ow = some (.lst (hsN.map V.int)) := e11
          have C := C.call1n 1 rfl (.inr ow0) r11 e11 t20 h11
          refine u_gtup (SqT.of (C.get 0 rfl)) rfl ?_
          have C := C.drop
          walk_at "rd"
          refine r_ixL (SqL.of (C.get 0 rfl)) (atI_int (ns := wn) (by omega) (by omega)) ?_
          walk_at "rd"
          refine new_c C fun t3 H12 t30 C => ?_
          refine u_gtup (SqT.of (C.get 0 rfl)) rfl ?_
          have C := C.drop
          walk_at "rd"
          refine r_setL (C.get 0 rfl) (ixN_of (by omega) (by rw [len_map]; omega)) ?_
          refine mod_c C 0 rfl (.inr wo0) fun H13 C => ?_
          walk_at "rd"
          have e : (wn.map V.int).set (y - (R.length : Int)).toNat (V.int (wn[(y - (R.length : Int)).toNat]'(by omega) + 1)) = (M94.bump wn (y - R.length).toNat).map V.int := by
            unfold M94.bump
            rw [List.map_set, getD_get]
          rw [e] at C
          exact ⟨hsN, _, kI + g, _, _, _, _, by rw [Int.natCast_add]; rfl, S', C⟩
        · rintro σ H' ⟨hsE, wn, kE, E, o4, o14, o15, rfl, S, C⟩
          rw [len_map] at S
          have Sr := S.fin
          have Sk := S.k0
          walk_at "rd"
          refine make_c C fun x dx H11 x0 dx0 C => ?_
          refine ⟨x, r, m, rfl, dx, ads, R, C.get 0 rfl, C.get 6 rfl, hRA.to C.ret nb, bok_of G (by omega), fun t2 tads H12 r12 t20 hx12 ht12 hT => ⟨rfl, ?_⟩⟩
          have C := C.call1n 0 rfl (.inr x0) r12 hx12 t20 ht12
          have C : Cur H12 [b] H12 [(b, bail c at6 lf6), (c, HO.lst (cells.map V.int)), (x, HO.ins A.Board dx [("homes", .int m), ("places", .int R.length), ("rows", .ref t2)]), (t2, HO.tup (tads.map V.ref)), (wo, HO.lst (wn.map V.int)), (ow, HO.lst (hsE.map V.int)), (bA, HO.lst (bg.map V.int)), (hh, HO.lst (hs0.map V.int))] := (C.pick [8, 9, 1, 0, 3, 4, 5, 6] (by decide)).again
          have hbt : ∀ s ∈ [b], ∀ xs, H12 s ≠ some (.tup xs) := fun s hs xs e => by rw [List.mem_singleton.mp hs, C.get 0 rfl] at e; cases e
          walk_at "rd"
          refine u_sseqT ?_
          walk_at "rd"
          refine new_c C fun tt H13 tt0 C => ?_
          refine k_seqT (xs := ([0, 1, 2, 3, 4] : List Int).map V.int) (SqT.of (C.get 0 rfl)) ?_
          refine for_t (xs := ([0, 1, 2, 3, 4] : List Int).map V.int) (fun i σ H' => ∃ (at7 lf7 : Int) (o4 o6 o14 o15 o16 o17 : Option V), σ = [some (.ref a), some (.ref b), some (.int (0 + (tn : Int))), some (.ref r), o4, some (.ref x), o6, some (.int R.length), some (.int m), some (.ref hh), some (.ref bA), some (.ref ow), some (.ref wo), some (.int kE), o14, o15, o16, o17, none, none, none] ∧ at6 ≤ at7 ∧ at7 ≤ at6 + 180001 * i ∧ 0 ≤ lf7 ∧
            Cur H12 [b] H' [(tt, HO.tup (([0, 1, 2, 3, 4] : List Int).map V.int)), (b, bail c at7 lf7), (c, HO.lst (cells.map V.int)), (x, HO.ins A.Board dx [("homes", .int m), ("places", .int R.length), ("rows", .ref t2)]), (t2, HO.tup (tads.map V.ref)), (wo, HO.lst (wn.map V.int)), (ow, HO.lst (hsE.map V.int)), (bA, HO.lst (bg.map V.int)), (hh, HO.lst (hs0.map V.int))]) ⟨at6, lf6, _, _, _, _, _, _, rfl, Int.le_refl _, by omega, g2, C⟩ ?_ ?_ ?_
          · rintro i σ H' hi ⟨at7, lf7, o4, o6, o14, o15, o16, o17, rfl, b7, b7', l7, C⟩
            exact SqT.of (C.get 0 rfl)
          · rintro i x' σ H' hx ⟨at7, lf7, o4, o6, o14, o15, o16, o17, rfl, b7, b7', l7, C⟩
            obtain ⟨wy, hwy, rfl⟩ := int_of hx
            have hi5 : i < 5 := (List.getElem?_eq_some_iff.mp hwy).1
            walk_at "rd"
            refine make_c C fun w dw H14 w0 dw0 C => ?_
            refine ⟨w, x, hh, rfl, ⟨w, dw, 0, 0, 0, x, dx, t2⟩, R, m, tads, hs0, rfl, rfl, has_of (C.pick [0, 10, 5, 6] (by decide)), hT.to C.ret hbt, hok, lenOk_of G, by omega, by omega, fun sh st wo2 H15 r15 f1 f2 f3 hW15 => ⟨rfl, ?_⟩⟩
            have hm' : ∀ y ∈ wS (⟨w, dw, sh, st, wo2, x, dx, t2⟩ : WA), y ∈ [b] ∨ H12 y = none := fun y hy => by
              simp only [wS, List.mem_cons, List.not_mem_nil, or_false] at hy
              rcases hy with rfl | rfl | rfl | rfl
              · exact .inr w0
              · exact .inr (C.fresh f1)
              · exact .inr (C.fresh f2)
              · exact .inr (C.fresh f3)
            have hm2 : ∀ y ∈ (b :: wS (⟨w, dw, sh, st, wo2, x, dx, t2⟩ : WA)), y ∈ [b] ∨ H12 y = none := fun y hy => (List.mem_cons.mp hy).elim (fun e => .inl (by simp [e])) (hm' y)
            have C2 := C.call1 0 rfl (.inr w0) r15 (hW15.2 (w, _) List.mem_cons_self)
            have C3 := cur_join C2.drop hW15 (fun p hp => by
              simp only [wL, List.mem_cons, List.not_mem_nil, or_false] at hp
              rcases hp with rfl | rfl | rfl | rfl
              · exact (List.nodup_cons.mp C2.nd).1
              · exact fun z => C.out f1 (List.mem_cons_of_mem _ z)
              · exact fun z => C.out f2 (List.mem_cons_of_mem _ z)
              · exact fun z => C.out f3 (List.mem_cons_of_mem _ z))
            have C : Cur H12 [b] H15 ((b, bail c at7 lf7) :: (wL A (⟨w, dw, sh, st, wo2, x, dx, t2⟩ : WA) ⟨hs0, [], List.replicate m 0, 0⟩ ++ ((c, HO.lst (cells.map V.int)) :: (bL A (⟨w, dw, sh, st, wo2, x, dx, t2⟩ : WA) R m tads ++ [(bA, HO.lst (bg.map V.int)), (tt, HO.tup (([0, 1, 2, 3, 4] : List Int).map V.int)), (wo, HO.lst (wn.map V.int)), (ow, HO.lst (hsE.map V.int)), (hh, HO.lst (hs0.map V.int))])))) := C3.pick [6, 0, 1, 2, 3, 7, 8, 9, 12, 5, 10, 11, 13] (by decide)
            (with_reducible refine u_cons ?_)
            refine cutQ (fun v H16 => ∃ (lt : Nat) (at8 lf8 : Int), v = .int lt ∧ lt ≤ bg.length ∧ at7 ≤ at8 ∧ at8 ≤ at7 + 1 ∧ 0 ≤ lf8 ∧ Cur H12 [b] H16 ((b, bail c at8 lf8) :: (wL A (⟨w, dw, sh, st, wo2, x, dx, t2⟩ : WA) ⟨hs0, [], List.replicate m 0, 0⟩ ++ ((c, HO.lst (cells.map V.int)) :: (bL A (⟨w, dw, sh, st, wo2, x, dx, t2⟩ : WA) R m tads ++ [(bA, HO.lst (bg.map V.int)), (tt, HO.tup (([0, 1, 2, 3, 4] : List Int).map V.int)), (wo, HO.lst (wn.map V.int)), (ow, HO.lst (hsE.map V.int)), (hh, HO.lst (hs0.map V.int))]))))) (fun Q0 hQ0 => ?_) ?_
            · walk_at "rd"
              refine b_dec (fun h1 => ?_) (fun h1 => ?_)
              · walk_at "rd"
                refine use_crook C 0 5 rfl rfl (by decide) (.inl (by simp)) hcl (by omega) (by omega) l7 (by rw [len_map]; omega) (by rw [len_map]; omega) fun dd at8 lf8 H16 d0 d1 j0 j1 j2 C => ?_
                rw [len_map] at d1
                exact hQ0 _ _ ⟨dd.toNat, at8, lf8, by rw [Int.toNat_of_nonneg d0], by omega, j0, j1, j2, C⟩
              · walk_at "rd"
                exact hQ0 _ _ ⟨0, at7, lf7, rfl, by omega, Int.le_refl _, by omega, l7, C⟩
            · rintro v H16 ⟨lt, at8, lf8, rfl, hlt, b8, b8', l8, C⟩
              have hdl : (bg.drop lt).length ≤ 9 := by rw [List.length_drop]; omega
              have htl : (bg.take lt).length ≤ 9 := by rw [List.length_take]; omega
              walk_at "rd"
              refine u_sseqL ?_
              walk_at "rd"
              refine r_slL (SqL.of (C.get 8 rfl)) ?_
              refine new_c C fun s1 H17 s10 C => ?_
              refine k_seqL (SqL.of (C.get 0 rfl)) ?_
              rw [cut_from (by omega), ← List.map_drop, Int.toNat_natCast] at C
              have C : Cur H12 [b] H17 ((b, bail c at8 lf8) :: (wL A (⟨w, dw, sh, st, wo2, x, dx, t2⟩ : WA) ⟨hs0, [], List.replicate m 0, 0⟩ ++ ((c, HO.lst (cells.map V.int)) :: (bL A (⟨w, dw, sh, st, wo2, x, dx, t2⟩ : WA) R m tads ++ ((s1, HO.lst ((bg.drop lt).map V.int)) :: [(bA, HO.lst (bg.map V.int)), (tt, HO.tup (([0, 1, 2, 3, 4] : List Int).map V.int)), (wo, HO.lst (wn.map V.int)), (ow, HO.lst (hsE.map V.int)), (hh, HO.lst (hs0.map V.int))]))))) := C.pick [1, 2, 3, 4, 5, 6, 7, 8, 0, 9, 10, 11, 12, 13] (by decide)
              refine for_l (xs := (bg.drop lt).map V.int) (fun i σ H' => ∃ (o4 : Option V), σ = [some (.ref a), some (.ref b), some (.int (0 + (tn : Int))), some (.ref r), o4, some (.ref x), some (.int wy), some (.int R.length), some (.int m), some (.ref hh), some (.ref bA), some (.ref ow), some (.ref wo), some (.int kE), o14, o15, some (.ref w), some (.int lt), none, none, none] ∧ SOk R m ⟨hs0, (bg.drop lt).take i, List.replicate m 0, 0⟩ ∧ Cur H12 [b] H' ((b, bail c at8 lf8) :: (wL A (⟨w, dw, sh, st, wo2, x, dx, t2⟩ : WA) ⟨hs0, (bg.drop lt).take i, List.replicate m 0, 0⟩ ++ ((c, HO.lst (cells.map V.int)) :: (bL A (⟨w, dw, sh, st, wo2, x, dx, t2⟩ : WA) R m tads ++ ((s1, HO.lst ((bg.drop lt).map V.int)) :: [(bA, HO.lst (bg.map V.int)), (tt, HO.tup (([0, 1, 2, 3, 4] : List Int).map V.int)), (wo, HO.lst (wn.map V.int)), (ow, HO.lst (hsE.map V.int)), (hh, HO.lst (hs0.map V.int))])))))) ⟨_, rfl, SOk.start hok, C⟩ ?_ ?_ ?_
              · rintro i σ H' hi ⟨o4, rfl, ok, C⟩
                exact SqL.of (C.get 8 rfl)
              · rintro i y σ H' hy ⟨o4, rfl, ok, C⟩
                obtain ⟨p, hp, rfl⟩ := int_of hy
                obtain ⟨p0, p1⟩ := hbb p (List.mem_of_mem_drop (List.mem_of_getElem? hp))
                have hl200 : ((bg.drop lt).take i).length < 200 := by rw [List.length_take]; omega
                have et : (bg.drop lt).take i ++ [p] = (bg.drop lt).take (i + 1) := by rw [List.take_add_one, hp]; rfl
                walk_at "rd"
                refine ⟨w, p, rfl, (⟨w, dw, sh, st, wo2, x, dx, t2⟩ : WA), ⟨hs0, (bg.drop lt).take i, List.replicate m 0, 0⟩, R, m, tads, rfl, has_of (C.pick [1, 2, 3, 4, 6, 7] (by decide)), p0, p1, hl200, fun v H18 r18 h18 => ?_⟩
                have C := own_mid C hm' r18 h18
                have ok := ok.enter p0 p1 hl200
                simp only [et] at C ok
                exact ⟨_, rfl, ok, C⟩
              · rintro σ H' ⟨o4, rfl, ok, C⟩
                rw [len_map, List.take_length] at C ok
                walk_at "rd"
                refine ⟨b, w, R.length, wy, rfl, c, cells, at8, lf8, (⟨w, dw, sh, st, wo2, x, dx, t2⟩ : WA), ⟨hs0, bg.drop lt, List.replicate m 0, 0⟩, R, m, rk, gd, tads, cnt (bg.take lt), kE, ⟨hsE, cnt E⟩, rfl, rfl, has_of (C.pick [0, 5, 1, 2, 3, 4, 6, 7] (by decide)), hT.to C.ret hbt, G, ok, by omega, run_late Sr, hcl, by omega, by omega, l8, fun s2 st2 at9 lf9 H18 r18 e18 h18 ok2 ho2 hl2 run2 hk2 q1 q2 q3 => ?_⟩
                have C : Cur H12 [b] H18 ((b, bail c at9 lf9) :: (wL A (⟨w, dw, sh, st, wo2, x, dx, t2⟩ : WA) s2 ++ ((c, HO.lst (cells.map V.int)) :: (bL A (⟨w, dw, sh, st, wo2, x, dx, t2⟩ : WA) R m tads ++ ((s1, HO.lst ((bg.drop lt).map V.int)) :: [(bA, HO.lst (bg.map V.int)), (tt, HO.tup (([0, 1, 2, 3, 4] : List Int).map V.int)), (wo, HO.lst (wn.map V.int)), (ow, HO.lst (hsE.map V.int)), (hh, HO.lst (hs0.map V.int))]))))) := callApp (L1 := (b, bail c at8 lf8) :: wL A (⟨w, dw, sh, st, wo2, x, dx, t2⟩ : WA) ⟨hs0, bg.drop lt, List.replicate m 0, 0⟩) (L1' := (b, bail c at9 lf9) :: wL A (⟨w, dw, sh, st, wo2, x, dx, t2⟩ : WA) s2) C r18 hm2 rfl (fun p hp => (List.mem_cons.mp hp).elim (fun e => e ▸ e18) (h18 p))
                walk_at "rd"
                refine u_sseqL ?_
                walk_at "rd"
                refine r_slL (SqL.of (C.get 9 rfl)) ?_
                refine new_c C fun s3 H19 s30 C => ?_
                refine k_seqL (SqL.of (C.get 0 rfl)) ?_
                rw [cut_to (by omega), ← List.map_take, Int.toNat_natCast] at C
                have C : Cur H12 [b] H19 ((b, bail c at9 lf9) :: (wL A (⟨w, dw, sh, st, wo2, x, dx, t2⟩ : WA) ⟨s2.hs, s2.sn ++ [], s2.won, s2.k⟩ ++ ((c, HO.lst (cells.map V.int)) :: (bL A (⟨w, dw, sh, st, wo2, x, dx, t2⟩ : WA) R m tads ++ ((s3, HO.lst ((bg.take lt).map V.int)) :: [(bA, HO.lst (bg.map V.int)), (tt, HO.tup (([0, 1, 2, 3, 4] : List Int).map V.int)), (wo, HO.lst (wn.map V.int)), (ow, HO.lst (hsE.map V.int)), (hh, HO.lst (hs0.map V.int))]))))) := by rw [List.append_nil]; exact C.pick [1, 2, 3, 4, 5, 6, 7, 8, 0, 10, 11, 12, 13, 14] (by decide)
                have ok2' : SOk R m ⟨s2.hs, s2.sn ++ [], s2.won, s2.k⟩ := by rw [List.append_nil]; exact ok2
                refine for_l (xs := (bg.take lt).map V.int) (fun i σ H' => ∃ (o4 : Option V), σ = [some (.ref a), some (.ref b), some (.int (0 + (tn : Int))), some (.ref r), o4, some (.ref x), some (.int wy), some (.int R.length), some (.int m), some (.ref hh), some (.ref bA), some (.ref ow), some (.ref wo), some (.int kE), o14, o15, some (.ref w), some (.int lt), none, none, none] ∧ SOk R m ⟨s2.hs, s2.sn ++ (bg.take lt).take i, s2.won, s2.k⟩ ∧ Cur H12 [b] H' ((b, bail c at9 lf9) :: (wL A (⟨w, dw, sh, st, wo2, x, dx, t2⟩ : WA) ⟨s2.hs, s2.sn ++ (bg.take lt).take i, s2.won, s2.k⟩ ++ ((c, HO.lst (cells.map V.int)) :: (bL A (⟨w, dw, sh, st, wo2, x, dx, t2⟩ : WA) R m tads ++ ((s3, HO.lst ((bg.take lt).map V.int)) :: [(bA, HO.lst (bg.map V.int)), (tt, HO.tup (([0, 1, 2, 3, 4] : List Int).map V.int)), (wo, HO.lst (wn.map V.int)), (ow, HO.lst (hsE.map V.int)), (hh, HO.lst (hs0.map V.int))])))))) ⟨_, rfl, ok2', C⟩ ?_ ?_ ?_
                · rintro i σ H' hi ⟨o4, rfl, ok, C⟩
                  exact SqL.of (C.get 8 rfl)
                · rintro i y σ H' hy ⟨o4, rfl, ok, C⟩
                  obtain ⟨p, hp, rfl⟩ := int_of hy
                  obtain ⟨p0, p1⟩ := hbb p (List.mem_of_mem_take (List.mem_of_getElem? hp))
                  have hl200 : (s2.sn ++ (bg.take lt).take i).length < 200 := by
                    have h2 : s2.sn.length ≤ 9 := by rw [hl2]; exact hdl
                    rw [List.length_append, List.length_take]; omega
                  have et : s2.sn ++ (bg.take lt).take i ++ [p] = s2.sn ++ (bg.take lt).take (i + 1) := by rw [List.append_assoc, List.take_add_one, hp]; rfl
                  walk_at "rd"
                  refine ⟨w, p, rfl, (⟨w, dw, sh, st, wo2, x, dx, t2⟩ : WA), ⟨s2.hs, s2.sn ++ (bg.take lt).take i, s2.won, s2.k⟩, R, m, tads, rfl, has_of (C.pick [1, 2, 3, 4, 6, 7] (by decide)), p0, p1, hl200, fun v H18 r18 h18 => ?_⟩
                  have C := own_mid C hm' r18 h18
                  have ok := ok.enter p0 p1 hl200
                  simp only [et] at C ok
                  exact ⟨_, rfl, ok, C⟩
                · rintro σ H' ⟨o4, rfl, ok, C⟩
                  rw [len_map, List.take_length] at C ok
                  walk_at "rd"
                  refine ⟨b, w, R.length, wy, rfl, c, cells, at9, lf9, (⟨w, dw, sh, st, wo2, x, dx, t2⟩ : WA), ⟨s2.hs, s2.sn ++ bg.take lt, s2.won, s2.k⟩, R, m, rk, gd, tads, (fun _ => 0), st2, ⟨hsE, cnt E⟩, rfl, rfl, has_of (C.pick [0, 5, 1, 2, 3, 4, 6, 7] (by decide)), hT.to C.ret hbt, G, ok, by omega, run_in run2, hcl, by omega, by omega, q3, fun s4 st4 at10 lf10 H20 r20 e20 h20 ok4 ho4 hl4 run4 hk4 u1 u2 u3 => ?_⟩
                  have C : Cur H12 [b] H20 ((b, bail c at10 lf10) :: (wL A (⟨w, dw, sh, st, wo2, x, dx, t2⟩ : WA) s4 ++ ((c, HO.lst (cells.map V.int)) :: (bL A (⟨w, dw, sh, st, wo2, x, dx, t2⟩ : WA) R m tads ++ ((s3, HO.lst ((bg.take lt).map V.int)) :: [(bA, HO.lst (bg.map V.int)), (tt, HO.tup (([0, 1, 2, 3, 4] : List Int).map V.int)), (wo, HO.lst (wn.map V.int)), (ow, HO.lst (hsE.map V.int)), (hh, HO.lst (hs0.map V.int))]))))) := callApp (L1 := (b, bail c at9 lf9) :: wL A (⟨w, dw, sh, st, wo2, x, dx, t2⟩ : WA) ⟨s2.hs, s2.sn ++ bg.take lt, s2.won, s2.k⟩) (L1' := (b, bail c at10 lf10) :: wL A (⟨w, dw, sh, st, wo2, x, dx, t2⟩ : WA) s4) C r20 hm2 rfl (fun p hp => (List.mem_cons.mp hp).elim (fun e => e ▸ e20) (h20 p))
                  obtain ⟨z1, z2, z3⟩ := run_fin ok4 S.wl S.won ho4 run4
                  have z4 : s4.k = (kE : Int) := by
                    have h1 : s2.k + (st2 : Int) = 0 + (kE : Int) := hk2
                    have h2 : s4.k + (st4 : Int) = s2.k + (st2 : Int) := hk4
                    omega
                  have z5 : s4.sn.length = bg.length := by
                    rw [hl4]
                    show (s2.sn ++ bg.take lt).length = _
                    rw [List.length_append, hl2, List.length_drop, List.length_take]; omega
                  walk_at "rd"
                  refine ⟨w, rfl, (⟨w, dw, sh, st, wo2, x, dx, t2⟩ : WA), s4, rfl, has_of (C.pick [1, 2, 3, 4] (by decide)), fun t5 H21 r21 t50 e21 => ?_⟩
                  have C := C.call0n r21 t50 e21
                  walk_at "rd"
                  refine ⟨w, rfl, (⟨w, dw, sh, st, wo2, x, dx, t2⟩ : WA), s4, rfl, has_of (C.pick [2, 3, 4, 5] (by decide)), fun t6 H22 r22 t60 e22 => ?_⟩
                  have C := C.call0n r22 t60 e22
                  walk_at "rd"
                  refine new_c C fun l5 H23 l50 C => ?_
                  walk_at "rd"
                  refine r_tupL (SqL.of (C.get 15 rfl)) (new_c C fun t7 H24 t70 C => ?_)
                  walk_at "rd"
                  refine r_tupL (SqL.of (C.get 15 rfl)) (new_c C fun t8 H25 t80 C => ?_)
                  walk_at "rd"
                  refine new_c C fun l6 H26 l60 C => ?_
                  have v5 : H26 t5 = some (.tup (hsE.map V.int)) := by rw [← z2]; exact C.get 5 rfl
                  have v6 : H26 t6 = some (.tup (wn.map V.int)) := by rw [← z3]; exact C.get 4 rfl
                  have v7 : H26 l5 = some (.lst [.ref t5, .ref t6, .int (kE : Int)]) := by rw [← z4]; exact C.get 3 rfl
                  refine r_ne3 (as := hsE) (bs := wn) (i := kE) (t1 := t5) (t2 := t6) (u1 := t7) (u2 := t8) (SqL.of v7) (SqL.of (C.get 0 rfl)) (SqT.of v5) (SqT.of v6) (SqT.of (C.get 2 rfl)) (SqT.of (C.get 1 rfl)) ?_
                  have C : Cur H12 [b] H26 ((b, bail c at10 lf10) :: (wL A (⟨w, dw, sh, st, wo2, x, dx, t2⟩ : WA) s4 ++ ((c, HO.lst (cells.map V.int)) :: (bL A (⟨w, dw, sh, st, wo2, x, dx, t2⟩ : WA) R m tads ++ ((s3, HO.lst ((bg.take lt).map V.int)) :: [(bA, HO.lst (bg.map V.int)), (tt, HO.tup (([0, 1, 2, 3, 4] : List Int).map V.int)), (wo, HO.lst (wn.map V.int)), (ow, HO.lst (hsE.map V.int)), (hh, HO.lst (hs0.map V.int))]))))) := C.drop.drop.drop.drop.drop.drop
                  walk_at "rd"
                  refine u_sseqT ?_
                  walk_at "rd"
                  refine ⟨w, rfl, (⟨w, dw, sh, st, wo2, x, dx, t2⟩ : WA), s4, rfl, has_of (C.pick [1, 2, 3, 4] (by decide)), fun t9 H27 r27 t90 e27 => ?_⟩
                  have C := C.call0n r27 t90 e27
                  refine k_seqT (xs := s4.sn.map V.int) (SqT.of (C.get 0 rfl)) ?_
                  refine lc_t (xs := s4.sn.map V.int) C (fun D j H' => Cur H12 [b] H' ((D, HO.lst (([] : List Int).map V.int)) :: (t9, HO.tup (s4.sn.map V.int)) :: ((b, bail c at10 lf10) :: (wL A (⟨w, dw, sh, st, wo2, x, dx, t2⟩ : WA) s4 ++ ((c, HO.lst (cells.map V.int)) :: (bL A (⟨w, dw, sh, st, wo2, x, dx, t2⟩ : WA) R m tads ++ ((s3, HO.lst ((bg.take lt).map V.int)) :: [(bA, HO.lst (bg.map V.int)), (tt, HO.tup (([0, 1, 2, 3, 4] : List Int).map V.int)), (wo, HO.lst (wn.map V.int)), (ow, HO.lst (hsE.map V.int)), (hh, HO.lst (hs0.map V.int))]))))))) (fun D H1 D0 C => C) (fun D j H' hj C => SqT.of (C.get 1 rfl)) (fun D j y H' D0 hy C => ?_) (fun D H' D0 C => ?_)
                  · obtain ⟨q, hq, rfl⟩ := int_of hy
                    have hqo := ho4 q (List.mem_of_getElem? hq)
                    walk_at "rd"
                    refine ⟨rfl, ?_⟩
                    walk_at "rd"
                    exact b_dec (fun h => absurd h (by omega)) (fun _ => C)
                  · walk_at "rd"
                    refine new_c C fun z9 H28 z90 C => ?_
                    refine r_neL (ns := []) (ms := []) (SqL.of (C.get 1 rfl)) (SqL.of (C.get 0 rfl)) ?_
                    have C : Cur H12 [b] H28 ((b, bail c at10 lf10) :: (wL A (⟨w, dw, sh, st, wo2, x, dx, t2⟩ : WA) s4 ++ ((c, HO.lst (cells.map V.int)) :: (bL A (⟨w, dw, sh, st, wo2, x, dx, t2⟩ : WA) R m tads ++ ((s3, HO.lst ((bg.take lt).map V.int)) :: [(bA, HO.lst (bg.map V.int)), (tt, HO.tup (([0, 1, 2, 3, 4] : List Int).map V.int)), (wo, HO.lst (wn.map V.int)), (ow, HO.lst (hsE.map V.int)), (hh, HO.lst (hs0.map V.int))]))))) := C.drop.drop.drop
                    walk_at "rd"
                    refine b_f (by simp) ?_
                    walk_at "rd"
                    refine ⟨w, rfl, (⟨w, dw, sh, st, wo2, x, dx, t2⟩ : WA), s4, rfl, has_of (C.pick [1, 2, 3, 4] (by decide)), fun ta H29 r29 ta0 e29 => ?_⟩
                    have C := C.call0n r29 ta0 e29
                    walk_at "rd"
                    refine r_len (SqL.of (C.get 10 rfl)) ?_
                    walk_at "rd"
                    refine b_f (by simp [z5]) ?_
                    walk_at "rd"
                    exact ⟨at10, lf10, _, _, _, _, _, _, rfl, by omega, by omega, u3, C.pick [11, 1, 6, 7, 8, 12, 13, 10, 14] (by decide)⟩
          · rintro σ H' ⟨at7, lf7, o4, o6, o14, o15, o16, o17, rfl, b7, b7', l7, C⟩
            refine ⟨at7, lf7, _, _, _, _, _, _, _, _, _, _, _, _, _, _, _, _, rfl, by omega, ?_, l7, has_of (C.pick [1, 2] (by decide))⟩
            have h5 : ((([0, 1, 2, 3, 4] : List Int).map V.int).length : Int) = 5 := rfl
            rw [h5] at b7'
            omega
  · rintro σ H' ⟨at', lf', o2, o3, o4, o5, o6, o7, o8, o9, o10, o11, o12, o13, o14, o15, o16, o17, rfl, a0, a1, l0, hW⟩
    walk_at "rd"
    exact k _
end
end K94

end

section
set_option Elab.async false
set_option linter.all false
set_option maxRecDepth 100000
set_option maxHeartbeats 1000000
namespace K94
open PySem PySem.Spec PyProof.Rows L2 Nd
def sp_law' (K : PySem.W.Frag) : Sp := fun vs H Q E => ∃ (a : Addr), vs = [.ref a] ∧ ∃ ns : List Int, SqL K H a (ns.map V.int) ∧ ns.length ≤ 63 ∧ ∀ H', Q (.bl true) H'
theorem law_in (K : PySem.W.Frag) (H : Hp) (a : Addr) (ns : List Int) (hl : ns.length ≤ 63) (hO : Only H) (hS : SqL K H a (ns.map V.int)) : sp_law' K [.ref a] H (fun v _ => v = .bl true) fun _ _ _ => False := ⟨a, rfl, ns, hS, hl, fun _ => rfl⟩
theorem kit_me {K : PySem.W.Frag} {C : Addr} : PySem.W.kitOne K (.ref C) (.ref C) = some true := by
  unfold PySem.W.kitOne
  exact if_pos (beq_self_eq_true _)
theorem fin_law {P : Program} {w : World} {K : PySem.W.Frag} {mg : Str → Option Value} {h : Heap} {fa : Addr} {A : Adr} (X : K.In h) (hfa : mg "law" = some (.ref fa)) (T : Txt K mg A) :
    ∃ fd : FuncData, (∀ (s : Shared) (u : Value), BindsTo s fd ⟨[u], []⟩ [("_law_script", u)]) ∧ ∀ base : Heap, K.In base → base.Ns mainGlobals mg → FnOk P w K mg base CX0 9 fa fd ["_law_script"] (sp_law' K) := by
  obtain ⟨f, fd, F, hm⟩ := T.f_law
  obtain rfl : fa = f := by have := hfa.symm.trans hm; injection this with e; injection e
  refine ⟨fd, ?_, fun base hb hn => ?_⟩
  · obtain ⟨oc, od, kV, doc, pm, an, cdv, ct, osl, rfl, lk, hcd⟩ := F.ex
    exact fun s u => BindsTo.of_eq rfl
  have G_l_shepherd := ok_l_shepherd (P := P) (w := w) (base := base) T 
  have G_l_crook := ok_l_crook (P := P) (w := w) (base := base) T 
  have G_l_one := ok_l_one (P := P) (w := w) (base := base) T G_l_crook
  have G_l_rows := ok_l_rows (P := P) (w := w) (base := base) T G_l_one G_l_crook
  have G_l_sent := ok_l_sent (P := P) (w := w) (base := base) T 
  have G_l_played := ok_l_played (P := P) (w := w) (base := base) T G_l_sent
  have G_is_integer := ok_is_integer (P := P) (w := w) (base := base) T 
  have G_is_within := ok_is_within (P := P) (w := w) (base := base) T G_is_integer
  have G_do_fit := ok_do_fit (P := P) (w := w) (base := base) T G_is_within
  have G_are_rows := ok_are_rows (P := P) (w := w) (base := base) T 
  have G_Board_init := ok_Board_init (P := P) (w := w) (base := base) T G_is_within G_do_fit G_are_rows
  have G_need_board := ok_need_board (P := P) (w := w) (base := base) T 
  have G_need_hands := ok_need_hands (P := P) (w := w) (base := base) T G_is_within
  have G_World_init := ok_World_init (P := P) (w := w) (base := base) T G_need_board G_need_hands
  have G_need_number := ok_need_number (P := P) (w := w) (base := base) T G_is_within
  have G_World_enter := ok_World_enter (P := P) (w := w) (base := base) T G_need_number
  have G_World_walkers := ok_World_walkers (P := P) (w := w) (base := base) T 
  have G_World_need_out := ok_World_need_out (P := P) (w := w) (base := base) T G_need_number
  have G_World_need_away := ok_World_need_away (P := P) (w := w) (base := base) T 
  have G_World_sent := ok_World_sent (P := P) (w := w) (base := base) T 
  have G_World_take := ok_World_take (P := P) (w := w) (base := base) T 
  have G_World_sent_home := ok_World_sent_home (P := P) (w := w) (base := base) T G_World_sent G_World_take
  have G_World_copy := ok_World_copy (P := P) (w := w) (base := base) T G_World_init G_World_take
  have G_World_led := ok_World_led (P := P) (w := w) (base := base) T G_World_need_out G_need_number G_World_need_away G_World_sent_home G_World_copy
  have G_World_advance := ok_World_advance (P := P) (w := w) (base := base) T G_World_need_out G_World_need_away G_World_sent
  have G_l_home := ok_l_home (P := P) (w := w) (base := base) T G_World_walkers G_l_one G_l_crook G_World_led G_World_advance
  have G_World_wins := ok_World_wins (P := P) (w := w) (base := base) T 
  have G_World_hands := ok_World_hands (P := P) (w := w) (base := base) T 
  exact ok_law F T G_l_shepherd G_l_crook G_l_one G_l_rows G_l_played G_Board_init G_World_init G_World_enter G_l_home G_World_wins G_World_hands G_World_walkers
end K94

end

section
set_option Elab.async false
set_option linter.all false
set_option maxRecDepth 100000
open PySem PySem.W PyProof.Rows
set_option maxHeartbeats 0 in
theorem PySem.Challenge.cw_nodice_k94_whole_walkers_in_any_order_holds : PySem.Challenge.rw_nodice_k94_whole_walkers_in_any_order.Holds := by
  w_on; o_law; k_head; (case hw => w_witness2)
  k_fill
  refine L2.walk_ofK (l := PySem.Challenge.rw_nodice_k94_whole_walkers_in_any_order) (n := 63) (k := 9) (x := "_law_script") (CX := L2.CX0) (sp := K94.sp_law') rfl (by decide) rfl ⟨rfl, by decide, by decide⟩ (fun w h Y => PySem.W.kIn_of Y) ?F K94.law_in (fun _ _ _ _ h => h)
  case F =>
    intro w mg fa h KX G hmg
    refine' K94.fin_law KX hmg (K94.txt_mk
      (g_Board := PySem.W.mg_of KX G ?g_Board)
      (g_World := PySem.W.mg_of KX G ?g_World)
      (c_Board := ⟨?pg_Board, ?hd_Board, ?po_Board, ?sa_Board⟩)
      (n_Board_homes := ?n_Board_homes)
      (n_Board_places := ?n_Board_places)
      (n_Board_rows := ?n_Board_rows)
      (c_World := ⟨?pg_World, ?hd_World, ?po_World, ?sa_World⟩)
      (n_World_board := ?n_World_board)
      (n_World_shown := ?n_World_shown)
      (n_World_standing := ?n_World_standing)
      (n_World_won := ?n_World_won)
      (n_World_steps := ?n_World_steps)
      (f_law := Nd.tx_fn KX G ?a_law ?l_law ?c_law ?k_law)
      (f_l_shepherd := Nd.tx_fn KX G ?a_l_shepherd ?l_l_shepherd ?c_l_shepherd ?k_l_shepherd)
      (f_l_crook := Nd.tx_fn KX G ?a_l_crook ?l_l_crook ?c_l_crook ?k_l_crook)
      (f_l_one := Nd.tx_fn KX G ?a_l_one ?l_l_one ?c_l_one ?k_l_one)
      (f_l_rows := Nd.tx_fn KX G ?a_l_rows ?l_l_rows ?c_l_rows ?k_l_rows)
      (f_l_played := Nd.tx_fn KX G ?a_l_played ?l_l_played ?c_l_played ?k_l_played)
      (f_l_sent := Nd.tx_fn KX G ?a_l_sent ?l_l_sent ?c_l_sent ?k_l_sent)
      (v_Board_init := Nd.tx_init KX G ?h_Board_init ?a_Board_init ?i_Board_init ?l_Board_init ?c_Board_init ?k_Board_init ?m_Board_init ?e_Board_init)
      (f_is_within := Nd.tx_fn KX G ?a_is_within ?l_is_within ?c_is_within ?k_is_within)
      (f_is_integer := Nd.tx_fn KX G ?a_is_integer ?l_is_integer ?c_is_integer ?k_is_integer)
      (f_do_fit := Nd.tx_fn KX G ?a_do_fit ?l_do_fit ?c_do_fit ?k_do_fit)
      (f_are_rows := Nd.tx_fn KX G ?a_are_rows ?l_are_rows ?c_are_rows ?k_are_rows)
      (v_World_init := Nd.tx_init KX G ?h_World_init ?a_World_init ?i_World_init ?l_World_init ?c_World_init ?k_World_init ?m_World_init ?e_World_init)
      (f_need_board := Nd.tx_fnD (by simp) KX G ?a_need_board ?l_need_board ?c_need_board ?k_need_board ?d_need_board ?o_need_board ?v_need_board)
      (f_need_hands := Nd.tx_fn KX G ?a_need_hands ?l_need_hands ?c_need_hands ?k_need_hands)
      (v_World_enter := Nd.tx_meth ?a_World_enter ?i_World_enter ?l_World_enter ?c_World_enter ?k_World_enter)
      (f_need_number := Nd.tx_fn KX G ?a_need_number ?l_need_number ?c_need_number ?k_need_number)
      (f_l_home := Nd.tx_fn KX G ?a_l_home ?l_l_home ?c_l_home ?k_l_home)
      (v_World_walkers := Nd.tx_prop ?a_World_walkers ?g_World_walkers ?t_World_walkers ?r_World_walkers ?l_World_walkers ?c_World_walkers ?k_World_walkers)
      (v_World_led := Nd.tx_meth ?a_World_led ?i_World_led ?l_World_led ?c_World_led ?k_World_led)
      (v_World_need_out := Nd.tx_meth ?a_World_need_out ?i_World_need_out ?l_World_need_out ?c_World_need_out ?k_World_need_out)
      (v_World_need_away := Nd.tx_meth ?a_World_need_away ?i_World_need_away ?l_World_need_away ?c_World_need_away ?k_World_need_away)
      (v_World_sent_home := Nd.tx_meth ?a_World_sent_home ?i_World_sent_home ?l_World_sent_home ?c_World_sent_home ?k_World_sent_home)
      (v_World_sent := Nd.tx_meth ?a_World_sent ?i_World_sent ?l_World_sent ?c_World_sent ?k_World_sent)
      (v_World_take := Nd.tx_meth ?a_World_take ?i_World_take ?l_World_take ?c_World_take ?k_World_take)
      (v_World_copy := Nd.tx_meth ?a_World_copy ?i_World_copy ?l_World_copy ?c_World_copy ?k_World_copy)
      (v_World_advance := Nd.tx_meth ?a_World_advance ?i_World_advance ?l_World_advance ?c_World_advance ?k_World_advance)
      (v_World_wins := Nd.tx_prop ?a_World_wins ?g_World_wins ?t_World_wins ?r_World_wins ?l_World_wins ?c_World_wins ?k_World_wins)
      (v_World_hands := Nd.tx_prop ?a_World_hands ?g_World_hands ?t_World_hands ?r_World_hands ?l_World_hands ?c_World_hands ?k_World_hands)
      (b_abs := PySem.W.mg_none_of KX G ?b_abs)
      (b_all := PySem.W.mg_none_of KX G ?b_all)
      (b_bool := PySem.W.mg_none_of KX G ?b_bool)
      (b_enumerate := PySem.W.mg_none_of KX G ?b_enumerate)
      (b_int := PySem.W.mg_none_of KX G ?b_int)
      (b_isinstance := PySem.W.mg_none_of KX G ?b_isinstance)
      (b_len := PySem.W.mg_none_of KX G ?b_len)
      (b_list := PySem.W.mg_none_of KX G ?b_list)
      (b_range := PySem.W.mg_none_of KX G ?b_range)
      (b_tuple := PySem.W.mg_none_of KX G ?b_tuple)
      (b_zip := PySem.W.mg_none_of KX G ?b_zip)
      (k_MOST_HOMES := Nd.tx_int KX G ?x_MOST_HOMES)
      (k_MOST_PLACES := Nd.tx_int KX G ?x_MOST_PLACES)
      (k_MOST_ROW := Nd.tx_int KX G ?x_MOST_ROW)
      (k_MOST_STEPS := Nd.tx_int KX G ?x_MOST_STEPS)
      (k_MOST_WALKERS := Nd.tx_int KX G ?x_MOST_WALKERS)
      (s_Board := ⟨⟨?pg2, ?hd2, ?po2, ?sa2⟩, ?ic1, ?ic2, ?ic3, ?ic4, ?ic5⟩))
    (case g_Board => k_is)
    (case g_World => k_is)
    (case pg_Board => k_is)
    (case hd_Board => k_is)
    (case po_Board => k_is)
    (case sa_Board => k_is)
    (case n_Board_homes => k_is)
    (case n_Board_places => k_is)
    (case n_Board_rows => k_is)
    (case pg_World => k_is)
    (case hd_World => k_is)
    (case po_World => k_is)
    (case sa_World => k_is)
    (case n_World_board => k_is)
    (case n_World_shown => k_is)
    (case n_World_standing => k_is)
    (case n_World_won => k_is)
    (case n_World_steps => k_is)
    (case a_law => k_is)
    (case l_law => k_is)
    (case c_law => k_is)
    (case k_law => k_is)
    (case a_l_shepherd => k_is)
    (case l_l_shepherd => k_is)
    (case c_l_shepherd => k_is)
    (case k_l_shepherd => k_is)
    (case a_l_crook => k_is)
    (case l_l_crook => k_is)
    (case c_l_crook => k_is)
    (case k_l_crook => k_is)
    (case a_l_one => k_is)
    (case l_l_one => k_is)
    (case c_l_one => k_is)
    (case k_l_one => k_is)
    (case a_l_rows => k_is)
    (case l_l_rows => k_is)
    (case c_l_rows => k_is)
    (case k_l_rows => k_is)
    (case a_l_played => k_is)
    (case l_l_played => k_is)
    (case c_l_played => k_is)
    (case k_l_played => k_is)
    (case a_l_sent => k_is)
    (case l_l_sent => k_is)
    (case c_l_sent => k_is)
    (case k_l_sent => k_is)
    (case h_Board_init => k_is)
    (case a_Board_init => k_is)
    (case i_Board_init => k_is)
    (case l_Board_init => k_is)
    (case c_Board_init => k_is)
    (case k_Board_init => k_is)
    (case m_Board_init => k_is)
    (case e_Board_init => k_is)
    (case a_is_within => k_is)
    (case l_is_within => k_is)
    (case c_is_within => k_is)
    (case k_is_within => k_is)
    (case a_is_integer => k_is)
    (case l_is_integer => k_is)
    (case c_is_integer => k_is)
    (case k_is_integer => k_is)
    (case a_do_fit => k_is)
    (case l_do_fit => k_is)
    (case c_do_fit => k_is)
    (case k_do_fit => k_is)
    (case a_are_rows => k_is)
    (case l_are_rows => k_is)
    (case c_are_rows => k_is)
    (case k_are_rows => k_is)
    (case h_World_init => k_is)
    (case a_World_init => k_is)
    (case i_World_init => k_is)
    (case l_World_init => k_is)
    (case c_World_init => k_is)
    (case k_World_init => k_is)
    (case m_World_init => k_is)
    (case e_World_init => k_is)
    (case a_need_board => k_is)
    (case l_need_board => k_is)
    (case c_need_board => k_is)
    (case k_need_board => k_is)
    (case d_need_board => k_is)
    (case o_need_board => rfl)
    (case v_need_board => repeat (first | exact .nil | refine .cons ⟨_, rfl⟩ ?_ | refine .cons rfl ?_))
    (case a_need_hands => k_is)
    (case l_need_hands => k_is)
    (case c_need_hands => k_is)
    (case k_need_hands => k_is)
    (case a_World_enter => k_is)
    (case i_World_enter => k_is)
    (case l_World_enter => k_is)
    (case c_World_enter => k_is)
    (case k_World_enter => k_is)
    (case a_need_number => k_is)
    (case l_need_number => k_is)
    (case c_need_number => k_is)
    (case k_need_number => k_is)
    (case a_l_home => k_is)
    (case l_l_home => k_is)
    (case c_l_home => k_is)
    (case k_l_home => k_is)
    (case a_World_walkers => k_is)
    (case g_World_walkers => k_is)
    (case t_World_walkers => k_is)
    (case r_World_walkers => k_is)
    (case l_World_walkers => k_is)
    (case c_World_walkers => k_is)
    (case k_World_walkers => k_is)
    (case a_World_led => k_is)
    (case i_World_led => k_is)
    (case l_World_led => k_is)
    (case c_World_led => k_is)
    (case k_World_led => k_is)
    (case a_World_need_out => k_is)
    (case i_World_need_out => k_is)
    (case l_World_need_out => k_is)
    (case c_World_need_out => k_is)
    (case k_World_need_out => k_is)
    (case a_World_need_away => k_is)
    (case i_World_need_away => k_is)
    (case l_World_need_away => k_is)
    (case c_World_need_away => k_is)
    (case k_World_need_away => k_is)
    (case a_World_sent_home => k_is)
    (case i_World_sent_home => k_is)
    (case l_World_sent_home => k_is)
    (case c_World_sent_home => k_is)
    (case k_World_sent_home => k_is)
    (case a_World_sent => k_is)
    (case i_World_sent => k_is)
    (case l_World_sent => k_is)
    (case c_World_sent => k_is)
    (case k_World_sent => k_is)
    (case a_World_take => k_is)
    (case i_World_take => k_is)
    (case l_World_take => k_is)
    (case c_World_take => k_is)
    (case k_World_take => k_is)
    (case a_World_copy => k_is)
    (case i_World_copy => k_is)
    (case l_World_copy => k_is)
    (case c_World_copy => k_is)
    (case k_World_copy => k_is)
    (case a_World_advance => k_is)
    (case i_World_advance => k_is)
    (case l_World_advance => k_is)
    (case c_World_advance => k_is)
    (case k_World_advance => k_is)
    (case a_World_wins => k_is)
    (case g_World_wins => k_is)
    (case t_World_wins => k_is)
    (case r_World_wins => k_is)
    (case l_World_wins => k_is)
    (case c_World_wins => k_is)
    (case k_World_wins => k_is)
    (case a_World_hands => k_is)
    (case g_World_hands => k_is)
    (case t_World_hands => k_is)
    (case r_World_hands => k_is)
    (case l_World_hands => k_is)
    (case c_World_hands => k_is)
    (case k_World_hands => k_is)
    (case b_abs => k_is)
    (case b_all => k_is)
    (case b_bool => k_is)
    (case b_enumerate => k_is)
    (case b_int => k_is)
    (case b_isinstance => k_is)
    (case b_len => k_is)
    (case b_list => k_is)
    (case b_range => k_is)
    (case b_tuple => k_is)
    (case b_zip => k_is)
    (case x_MOST_HOMES => k_is)
    (case x_MOST_PLACES => k_is)
    (case x_MOST_ROW => k_is)
    (case x_MOST_STEPS => k_is)
    (case x_MOST_WALKERS => k_is)
    (case pg2 => k_is)
    (case hd2 => k_is)
    (case po2 => k_is)
    (case sa2 => k_is)
    (case ic1 => k_is)
    (case ic2 => k_is)
    (case ic3 => k_is)
    (case ic4 => k_is)
    (case ic5 => exact K94.kit_me)
#print axioms PySem.Challenge.cw_nodice_k94_whole_walkers_in_any_order_holds

end
