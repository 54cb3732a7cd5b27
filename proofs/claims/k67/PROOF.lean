import PyProof.Rows.All
import Wide.All
import OpenK.AllK
import Wide.FinOn
import HandS.ForMost
import HandS.Conv
import HandS.SetFor
import HandS.IsInst
import HandS.Property
import HandS.Wide
import HandS.Defaults
import HandS.Codes
import HandS.Zip
import HandS.Style
import HandS.Gcd
import HandS.DictSub
import HandS.Star
import HandS.Lambda
import HandS.Ends
import PyProof.ReprRoads
import KE.KTupSum
import PyProof.FitsInt
import PySem.Challenge.RW_nodice_k67_what_steps_keep
section
set_option Elab.async false
set_option linter.all false
set_option maxRecDepth 100000
set_option maxHeartbeats 4000000
/-! Nd: rules by values in one, the heap in hand (Cur), readings step by step. -/
namespace Nd
open PySem PySem.Spec PyProof.Rows L2

/-! ### the heap in hand -/
/-- what a call leaves: all that was tracked stands, but for S -/
structure Ret (S : List Addr) (H H' : Hp) : Prop where
  fr : ∀ a o, H a = some o → a ∉ S → H' a = some o
  keep : ∀ a, H a ≠ none → H' a ≠ none
theorem Ret.refl {S : List Addr} {H : Hp} : Ret S H H := ⟨fun _ _ h _ => h, fun _ h => h⟩
theorem Ret.trans {S : List Addr} {H H1 H2 : Hp} (a : Ret S H H1) (b : Ret S H1 H2) : Ret S H H2 :=
  ⟨fun x o h n => b.fr x o (a.fr x o h n) n, fun x h => b.keep x (a.keep x h)⟩
theorem Ret.mono {S T : List Addr} {H H' : Hp} (h : Ret S H H') (st : ∀ a ∈ S, a ∈ T) : Ret T H H' :=
  ⟨fun a o e n => h.fr a o e fun m => n (st a m), h.keep⟩
theorem Ret.nil {S : List Addr} {H H' : Hp} (h : Ret [] H H') : Ret S H H' := h.mono fun _ m => nomatch m
theorem Ret.new {S : List Addr} {H : Hp} {p : Addr} {o : HO} (hp : H p = none) : Ret S H (upd H p o) :=
  ⟨fun a u h _ => by rw [upd_ne (ne_of_none h hp)]; exact h, fun a h => by
    by_cases e : a = p
    · subst e; exact absurd hp h
    · rw [upd_ne e]; exact h⟩
theorem Ret.set {S : List Addr} {H : Hp} {p : Addr} {o : HO} (hp : p ∈ S) : Ret S H (upd H p o) :=
  ⟨fun a u h n => by rw [upd_ne (show a ≠ p from fun e => n (by rw [e]; exact hp))]; exact h, fun a h => by
    by_cases e : a = p
    · subst e; rw [upd_same]; simp
    · rw [upd_ne e]; exact h⟩
/-- what is no changed thing -/
theorem Ret.tup {S : List Addr} {H H' : Hp} (r : Ret S H H') (hs : ∀ s ∈ S, ∀ xs, H s ≠ some (.tup xs)) {a : Addr} {xs : List V} (h : H a = some (.tup xs)) : H' a = some (.tup xs) :=
  r.fr a _ h fun m => hs a m xs h

structure Cur (H0 : Hp) (S : List Addr) (H : Hp) (L : List (Addr × HO)) : Prop where
  nd : (L.map (·.1)).Nodup
  own : ∀ p ∈ L, H p.1 = some p.2
  ret : Ret S H0 H
section
variable {H0 H H' : Hp} {S S1 : List Addr} {L L' : List (Addr × HO)} {a b p : Addr} {o o' : HO} {i j : Nat}
theorem Cur.start (nd : (L.map (·.1)).Nodup) (own : ∀ p ∈ L, H p.1 = some p.2) : Cur H S H L := ⟨nd, own, .refl⟩
theorem Cur.mem (C : Cur H0 S H L) (h : (a, o) ∈ L) : H a = some o := C.own _ h
theorem Cur.get (C : Cur H0 S H L) (i : Nat) (h : L[i]? = some (a, o)) : H a = some o := C.own _ (List.mem_of_getElem? h)
theorem Cur.fresh (C : Cur H0 S H L) (hp : H p = none) : H0 p = none := by
  cases e : H0 p with
  | none => rfl
  | some u => exact absurd hp (C.ret.keep p (by rw [e]; simp))
theorem Cur.out (C : Cur H0 S H L) (hp : H p = none) : p ∉ L.map (·.1) := fun m => by
  obtain ⟨q, hq, e⟩ := List.mem_map.mp m
  have := C.own q hq
  rw [e, hp] at this
  cases this
theorem Cur.new (C : Cur H0 S H L) (hp : H p = none) : Cur H0 S (upd H p o) ((p, o) :: L) where
  nd := List.nodup_cons.mpr ⟨C.out hp, C.nd⟩
  own := fun q hq => by
    rcases List.mem_cons.mp hq with e | hq
    · subst e; exact upd_same
    · have h := C.own q hq
      rw [upd_ne (ne_of_none h hp)]; exact h
  ret := C.ret.trans (.new hp)
theorem Cur.ne (C : Cur H0 S H L) {o2 : HO} (i j : Nat) (hi : L[i]? = some (a, o)) (hj : L[j]? = some (b, o2)) (n : i ≠ j) : a ≠ b := fun e => by
  subst e
  have h1 : (L.map (·.1))[i]? = some a := by rw [List.getElem?_map, hi]; rfl
  have h2 : (L.map (·.1))[j]? = some a := by rw [List.getElem?_map, hj]; rfl
  obtain ⟨l1, e1⟩ := List.getElem?_eq_some_iff.mp h1
  obtain ⟨l2, e2⟩ := List.getElem?_eq_some_iff.mp h2
  exact n ((List.getElem_inj C.nd).mp (e1.trans e2.symm))
theorem set_fst {L : List (Addr × HO)} {i : Nat} (h : L[i]? = some (a, o)) : (L.set i (a, o')).map (·.1) = L.map (·.1) := by
  rw [List.map_set]
  have h1 : (L.map (·.1))[i]? = some a := by rw [List.getElem?_map, h]; rfl
  obtain ⟨l1, e1⟩ := List.getElem?_eq_some_iff.mp h1
  show (L.map (·.1)).set i a = _
  conv => lhs; rw [← e1]
  exact List.set_getElem_self l1
/-- a changed object, in general -/
theorem Cur.at' (C : Cur H0 S H L) (i : Nat) (hi : L[i]? = some (a, o)) (r : Ret S H0 H') (h1 : H' a = some o') (hk : ∀ b u, H b = some u → b ≠ a → b ∈ L.map (·.1) → H' b = some u) : Cur H0 S H' (L.set i (a, o')) where
  nd := by rw [set_fst hi]; exact C.nd
  own := fun q hq => by
    obtain ⟨k, hk1, e⟩ := List.mem_iff_getElem.mp hq
    rw [List.length_set] at hk1
    by_cases hki : i = k
    · subst hki
      rw [List.getElem_set_self] at e
      subst e
      exact h1
    · rw [List.getElem_set_ne hki] at e
      have hq' : q ∈ L := e ▸ List.getElem_mem hk1
      have hne : q.1 ≠ a := fun z => by
        have g : L[k]? = some (q.1, q.2) := by rw [List.getElem?_eq_getElem hk1, e]
        exact C.ne k i g hi (Ne.symm hki) z
      exact hk _ _ (C.own q hq') hne (List.mem_map_of_mem hq')
  ret := r
theorem Cur.set (C : Cur H0 S H L) (i : Nat) (hi : L[i]? = some (a, o)) (m : a ∈ S ∨ H0 a = none) : Cur H0 S (upd H a o') (L.set i (a, o')) := by
  refine C.at' i hi ?_ upd_same fun b u h n _ => by rw [upd_ne n]; exact h
  refine ⟨fun b u h n => ?_, fun b h => ?_⟩
  · have hne : b ≠ a := fun e => by
      subst e
      rcases m with m | m
      · exact n m
      · rw [h] at m; cases m
    rw [upd_ne hne]
    exact C.ret.fr b u h n
  · by_cases e : b = a
    · subst e; rw [upd_same]; simp
    · rw [upd_ne e]; exact C.ret.keep b h
theorem Cur.retTo (C : Cur H0 S H L) (r : Ret S1 H H') (m : ∀ a ∈ S1, a ∈ S ∨ H0 a = none) : Ret S H0 H' where
  fr := fun b u h n => r.fr b u (C.ret.fr b u h n) fun z => (m b z).elim (fun q => n q) fun q => nomatch (h.symm.trans q)
  keep := fun b h => r.keep b (C.ret.keep b h)
/-- behind a call that changes nothing of ours -/
theorem Cur.call0 (C : Cur H0 S H L) (r : Ret [] H H') : Cur H0 S H' L :=
  ⟨C.nd, fun p hp => r.fr _ _ (C.own p hp) (fun m => nomatch m), C.retTo r fun _ m => nomatch m⟩
/-- behind a call that changes one thing -/
theorem Cur.call1 (C : Cur H0 S H L) (i : Nat) (hi : L[i]? = some (a, o)) (m : a ∈ S ∨ H0 a = none) (r : Ret [a] H H') (h1 : H' a = some o') : Cur H0 S H' (L.set i (a, o')) :=
  C.at' i hi (C.retTo r fun b hb => by rw [List.mem_singleton.mp hb]; exact m) h1 fun b u h n _ => r.fr b u h fun z => n (List.mem_singleton.mp z)
/-- a new thing of a call's -/
theorem Cur.add (C : Cur H0 S H' L) (hp : p ∉ L.map (·.1)) (h : H' p = some o) : Cur H0 S H' ((p, o) :: L) where
  nd := List.nodup_cons.mpr ⟨hp, C.nd⟩
  own := fun q hq => (List.mem_cons.mp hq).elim (fun e => by subst e; exact h) (fun hq => C.own q hq)
  ret := C.ret
theorem Cur.call0n (C : Cur H0 S H L) (r : Ret [] H H') (hp : H p = none) (h : H' p = some o) : Cur H0 S H' ((p, o) :: L) := (C.call0 r).add (C.out hp) h
theorem Cur.call1n (C : Cur H0 S H L) (i : Nat) (hi : L[i]? = some (a, o)) (m : a ∈ S ∨ H0 a = none) (r : Ret [a] H H') (h1 : H' a = some o') {u : HO} (hp : H p = none) (h : H' p = some u) : Cur H0 S H' ((p, u) :: L.set i (a, o')) :=
  (C.call1 i hi m r h1).add (by rw [set_fst hi]; exact C.out hp) h
/-- fewer things, in another order -/
theorem Cur.sub (C : Cur H0 S H L) (nd : (L'.map (·.1)).Nodup) (hs : ∀ p ∈ L', p ∈ L) : Cur H0 S H L' := ⟨nd, fun p hp => C.own p (hs p hp), C.ret⟩
theorem Cur.drop (C : Cur H0 S H (p' :: L)) : Cur H0 S H L := ⟨(List.nodup_cons.mp C.nd).2, fun q hq => C.own q (List.mem_cons_of_mem _ hq), C.ret⟩
theorem Cur.toRet (C : Cur H0 S H L) : Ret S H0 H := C.ret
/-- begin anew: what is owned is owned at the heap as it stands -/
theorem Cur.again (C : Cur H0 S H L) : Cur H S1 H L := ⟨C.nd, C.own, .refl⟩
end

/-! ### rules in one -/
section
variable {X : Cx}
def rAddU : R2 := fun x y H Q => rI0 (fun i j => .int (i + j)) x y H Q ∨ rCat x y H Q ∨ ∃ i j, x = .str i ∧ y = .str j ∧ i.length + j.length ≤ sizeLine ∧ Q (.str (i ++ j)) H
theorem op_addU : OpR X (binaryOp .Add) rAddU := OpR.or op_add (OpR.or op_cat op_add_str)
def rMulU : R2 := fun x y H Q => rI CMul (fun i j => .int (i * j)) x y H Q ∨ rRep x y H Q
theorem op_mulU : OpR X (binaryOp .Mult) rMulU := OpR.or op_mul op_rep
def rEqU (K : PySem.W.Frag) : R2 := fun x y H Q => rEq x y H Q ∨ rEqD K x y H Q
theorem op_eqU (hu : X.A.units + 64 < cLine) : OpR X (compareOp .Eq) (rEqU X.K) := OpR.or op_eq (op_eqD hu)
def rNeU (K : PySem.W.Frag) : R2 := fun x y H Q => rNe x y H Q ∨ rNeD K x y H Q
theorem op_neU (hu : X.A.units + 64 < cLine) : OpR X (compareOp .NotEq) (rNeU X.K) := OpR.or op_ne (op_neD hu)
def rLtI : R2 := rI0 fun i j => .bl (decide (i < j))
theorem op_ltI : OpR X (compareOp .Lt) rLtI := op_lt
def rLeI : R2 := rI0 fun i j => .bl (decide (i ≤ j))
theorem op_leI : OpR X (compareOp .LtE) rLeI := op_le
def rGtI : R2 := rI0 fun i j => .bl (decide (j < i))
theorem op_gtI : OpR X (compareOp .Gt) rGtI := op_gt
def rGeI : R2 := rI0 fun i j => .bl (decide (j ≤ i))
theorem op_geI : OpR X (compareOp .GtE) rGeI := op_ge
def rSubI : R2 := rI0 fun i j => .int (i - j)
theorem op_subI : OpR X (binaryOp .Sub) rSubI := op_sub
def rModI : R2 := rI (fun _ j => 0 < j) fun i j => .int (i % j)
theorem op_modI : OpR X (binaryOp .Mod) rModI := op_mod
def rDivI : R2 := rI CDivN fun i j => .int (i.fdiv j)
theorem op_divI : OpR X (binaryOp .FloorDiv) rDivI := op_fdivN
def rPowI : R2 := rI CPow fun i j => .int (i ^ j.toNat)
theorem op_powI : OpR X (binaryOp .Pow) rPowI := op_pow
def rIsN : R2 := fun x y H Q => y = .non ∧ Q (.bl (decide (x = .non))) H
theorem op_isNU : OpR X (compareOp .Is) rIsN := op_isN
def rNotN : R2 := fun x y H Q => y = .non ∧ Q (.bl (!decide (x = .non))) H
theorem op_notNU : OpR X (compareOp .IsNot) rNotN := op_notN
def uNegI : V → Hp → VK → Prop := rU fun i => .int (-i)
theorem un_negI : UnR X (unaryOp .USub) uNegI := un_neg
def cLen (K : PySem.W.Frag) : List V → Hp → VK → Prop := fun xs H Q => (∃ p ys, xs = [.ref p] ∧ (SqL K H p ys ∨ SqT K H p ys) ∧ Q (.int ys.length) H)
theorem call_lenU : CallR X (.builtin "len") (cLen X.K) := call_len_seq
def cInt : List V → Hp → VK → Prop := fun xs H Q => (∃ i, xs = [.int i] ∧ Q (.int i) H) ∨ ∃ k, xs = [.bl k] ∧ Q (.int (if k then 1 else 0)) H
theorem call_intU : CallR X (.type "int") cInt := call_int1
def cAbs : List V → Hp → VK → Prop := fun xs H Q => ∃ i, xs = [.int i] ∧ Q (.int (if i < 0 then -i else i)) H
theorem call_absU : CallR X (.builtin "abs") cAbs := call_abs
def cList (K : PySem.W.Frag) : List V → Hp → VK → Prop := fun xs H Q => ∃ p ys, xs = [.ref p] ∧ (SqL K H p ys ∨ SqT K H p ys) ∧ ∀ l, H l = none → Q (.ref l) (upd H l (.lst ys))
theorem call_listU : CallR X (.type "list") (cList X.K) := call_list_of
def cTuple (K : PySem.W.Frag) : List V → Hp → VK → Prop := fun xs H Q => ∃ p ys, xs = [.ref p] ∧ ((SqL K H p ys ∧ ∀ l, H l = none → Q (.ref l) (upd H l (.tup ys))) ∨ (SqT K H p ys ∧ Q (.ref p) H))
theorem call_tupleU : CallR X (.type "tuple") (cTuple X.K) := call_tuple_of
theorem call_allU (hc : X.calm = true) : CallR X (.builtin "all") (rAll X.K) := cr_all hc
theorem call_anyU (hc : X.calm = true) : CallR X (.builtin "any") (rAny X.K) := cr_any hc
theorem call_sumU (hc : X.calm = true) : CallR X (.builtin "sum") (rSum X.K) := cr_sum hc
def rSlU (K : PySem.W.Frag) : V → Option Int → Option Int → Hp → VK → Prop := rSlL K
theorem sl_listU : SlR X (rSlU X.K) := sl_list
theorem ix_seqU : IxR X (rIx X.K) := ix_seq
/-- a walked thing: a list or a tuple -/
def iSeq (K : PySem.W.Frag) (tl : TE) : TI := fun σ H R => iList K tl σ H R ∨ iTup K tl σ H R
theorem pi_seq {tg e : Expr} {tl : TE} (he : PE X e tl) : PI X tg e (iSeq X.K tl) :=
  ⟨fun pins s σ H R I h => h.elim (fun h => (pi_list he).run pins s σ H R I h) fun h => (pi_tup he).run pins s σ H R I h⟩
/-- a call of an own def -/
structure Gd (P : Program) (w : World) (K : PySem.W.Frag) (mg : Str → Option Value) (base : Heap) (CX : CXT) (k : Nat) (x : Str) (ps : List Str) (dvs : List V) (sp : Sp) : Prop where
  ex : ∃ f fd ds, FnOk P w K mg base CX k f fd ps sp ∧ mg x = some (.ref f) ∧ PySem.W.keepIn K (.ref f) = true ∧ Binds K fd ps ds ∧ Vals dvs ds
theorem pe_callG {CX : CXT} {k : Nat} {ps : List Str} {dvs : List V} {sp : Sp} {E : XK} {x : Str} {p pos : Pos} {e : Expr} {es : List Expr} {t : TA} (G : Gd X.prog X.w X.K X.mg X.base CX k x ps dvs sp) (hr : Room k X.A) (hg : Gl X x) (hx : Passes CX X E) (ha : PA X (e :: es) t)
    (hdb : (x == ("__debug__" : Str)) = false := by decide) (he : starEach (e :: es) X.env = (false, eval e X.env) :: starEach es X.env := by rfl) (hpl : (backTo pos (starEach es X.env)).any (·.1) = false := by rfl) :
    PE X (.Call (.Name x p) (e :: es) [] pos) (tCall sp dvs E t) := by
  obtain ⟨f, fd, ds, F, hm, hk, hb, hd⟩ := G.ex
  exact pe_call F hr hg hm hk hb hd hx ha hdb he hpl
/-- a class made -/
structure Gm (P : Program) (w : World) (K : PySem.W.Frag) (mg : Str → Option Value) (base : Heap) (CX : CXT) (k : Nat) (x : Str) (C : Addr) (ps : List Str) (dvs : List V) (sp : Sp) : Prop where
  ex : ∃ f fd ds, FnOk P w K mg base CX k f fd ps sp ∧ mg x = some (.ref C) ∧ Mk K C f ∧ Binds K fd ps ds ∧ Vals dvs ds
theorem pe_makeG {CX : CXT} {k : Nat} {C : Addr} {ps : List Str} {dvs : List V} {sp : Sp} {E : XK} {x : Str} {p pos : Pos} {e : Expr} {es : List Expr} {t : TA} (G : Gm X.prog X.w X.K X.mg X.base CX k x C ps dvs sp) (hr : Room (k + 1) X.A) (hg : Gl X x) (hx : Passes CX X E) (ha : PA X (e :: es) t)
    (hdb : (x == ("__debug__" : Str)) = false := by decide) (he : starEach (e :: es) X.env = (false, eval e X.env) :: starEach es X.env := by rfl) (hpl : (backTo pos (starEach es X.env)).any (·.1) = false := by rfl) :
    PE X (.Call (.Name x p) (e :: es) [] pos) (tMake C sp dvs E t) := by
  obtain ⟨f, fd, ds, F, hm, M, hb, hd⟩ := G.ex
  exact pe_make M F hr hg hm hb hd hx ha hdb he hpl
/-- a method -/
structure Gv (P : Program) (w : World) (K : PySem.W.Frag) (mg : Str → Option Value) (base : Heap) (CX : CXT) (k : Nat) (C : Addr) (m : Str) (ps : List Str) (dvs : List V) (sp : Sp) : Prop where
  ex : ∃ f fd ds, FnOk P w K mg base CX k f fd ps sp ∧ Meth K C m f ∧ Binds K fd ps ds ∧ Vals dvs ds
theorem pe_methG {CX : CXT} {k : Nat} {C : Addr} {m : Str} {ps : List Str} {dvs : List V} {sp : Sp} {E : XK} {o e : Expr} {es : List Expr} {apos pos : Pos} {ta : TE} {t : TA} (G : Gv X.prog X.w X.K X.mg X.base CX k C m ps dvs sp) (c : Cls X.K C) (hr : Room k X.A) (hx : Passes CX X E) (he : PE X o ta) (ha : PA X (e :: es) t) {pl : Sem Bool}
    (hst : starEach (e :: es) X.env = (false, eval e X.env) :: starEach es X.env := by rfl) (hpl : (backTo pos (starEach es X.env)).any (·.1) = false := by rfl)
    (ht : eval (.Call (.Attribute o m apos) (e :: es) [] pos) X.env = (do
      let ov ← eval o X.env
      standAt apos.atName
      let (f, first) ← holding [ov] (getMethod ov m pl)
      callWith pos f first (backTo pos (starEach (e :: es) X.env)) (backToKw pos (keywordEach [] X.env))) := by rfl) :
    PE X (.Call (.Attribute o m apos) (e :: es) [] pos) (tMeth C m sp dvs E ta t) := by
  obtain ⟨f, fd, ds, F, hm, hb, hd⟩ := G.ex
  exact pe_meth he c hm F hr hb hd hx ha hst hpl ht
theorem pe_meth0G {CX : CXT} {k : Nat} {C : Addr} {m : Str} {ps : List Str} {dvs : List V} {sp : Sp} {E : XK} {o : Expr} {apos pos : Pos} {ta : TE} (G : Gv X.prog X.w X.K X.mg X.base CX k C m ps dvs sp) (c : Cls X.K C) (hr : Room k X.A) (hx : Passes CX X E) (he : PE X o ta) {pl : Sem Bool}
    (ht : eval (.Call (.Attribute o m apos) [] [] pos) X.env = (do
      let ov ← eval o X.env
      standAt apos.atName
      let (f, first) ← holding [ov] (getMethod ov m pl)
      callWith pos f first (backTo pos (starEach [] X.env)) (backToKw pos (keywordEach [] X.env))) := by rfl) :
    PE X (.Call (.Attribute o m apos) [] [] pos) (tMeth C m sp dvs E ta tNil) := by
  obtain ⟨f, fd, ds, F, hm, hb, hd⟩ := G.ex
  exact pe_meth0 he c hm F hr hb hd hx ht
/-- a property -/
structure Gp (P : Program) (w : World) (K : PySem.W.Frag) (mg : Str → Option Value) (base : Heap) (CX : CXT) (k : Nat) (C : Addr) (m : Str) (ps : List Str) (sp : Sp) : Prop where
  ex : ∃ p g fd, FnOk P w K mg base CX k g fd ps sp ∧ PropOf K C m p g ∧ Binds K fd ps []
theorem pe_propG {CX : CXT} {k : Nat} {C : Addr} {m : Str} {ps : List Str} {sp : Sp} {E : XK} {e : Expr} {pos : Pos} {ta : TE} (G : Gp X.prog X.w X.K X.mg X.base CX k C m ps sp) (c : Cls X.K C) (hr : Room (k + 1) X.A) (hx : Passes CX X.nox E) (he : PE X e ta)
    (hab : attributeBase e m X.env (eval e X.env) = eval e X.env := by rfl) : PE X (.Attribute e m pos) (tProp C sp [] E ta) := by
  obtain ⟨p, g, fd, F, hp, hb⟩ := G.ex
  exact pe_prop he c hp F hr hb .nil hx hab
end
end Nd

end

section
set_option Elab.async false
set_option linter.all false
set_option maxRecDepth 100000
set_option maxHeartbeats 4000000
/-! Nd: readings, one lemma a word; attributes as targets; three names at once. -/
namespace Nd
open PySem PySem.Spec PyProof.Rows L2
/-! ### more targets -/
section
variable {X : Cx}
/-- o.f as one of several targets -/
def gFld (K : PySem.W.Frag) (to : TE) (f : Str) : TG := fun v σ H Q => to σ H fun x H1 => ∃ a C dx fs, x = .ref a ∧ H1 a = some (.ins C dx fs) ∧ Cls K C ∧ NoAttr K C f ∧ fs.length < 1000 ∧ Q σ (upd H1 a (.ins C dx (putF f v fs)))
theorem pg_fld {o : Expr} {f : Str} {to : TE} {pos : Pos} (ho : PE X o to) : PG X (.Attribute o f pos) (gFld X.K to f) := by
  refine ⟨fun pins s σ H v u Q I r h => ?_⟩
  refine PySem.W.kas_attr (thn (ho.run pins s σ H _ I h) fun ov s1 ⟨x, H1, I1, rx, a, C, dx, fs, ex, ea, c, n, l, q⟩ => ?_)
  subst ex
  obtain rfl : ov = Value.ref a := rx
  exact setattr_ok I1 ea c n l r fun s2 I2 => ⟨σ, _, I2, q⟩
end

/-! ### new things, changed things -/
/-- a new thing o is laid, then Q -/
def NewO (Q : VK) (H : Hp) (o : HO) : Prop := ∀ p, H p = none → Q (.ref p) (upd H p o)
/-- the thing at p becomes o, then k -/
def ModO (k : Hp → Prop) (H : Hp) (p : Addr) (o : HO) : Prop := k (upd H p o)
section
variable {H0 H H' : Hp} {S : List Addr} {L : List (Addr × HO)} {p : Addr} {o o' : HO} {Q : VK} {k : Hp → Prop}
theorem new_c (C : Cur H0 S H L) (h : ∀ p H1, H0 p = none → Cur H0 S H1 ((p, o) :: L) → Q (.ref p) H1) : NewO Q H o := fun p hp => h p _ (C.fresh hp) (C.new hp)
theorem mod_c (C : Cur H0 S H L) (i : Nat) (hi : L[i]? = some (p, o)) (m : p ∈ S ∨ H0 p = none) (h : ∀ H1, Cur H0 S H1 (L.set i (p, o')) → k H1) : ModO k H p o' := h _ (C.set i hi m)
end

/-! ### one lemma a word -/
section
variable {D : Ends} {σ : L2.St} {H : Hp} {Q : VK} {QA : List V → Hp → Prop} {QT : Bool → Hp → Prop} {te ta tb tc : TE} {t u : TS} {tt tu : TT} {tl tr : TA} {g : TG} {gs : TGs} {v : V} {K : PySem.W.Frag} {f m : Str} {i : Nat} {r : R2} {sp : Sp} {E : XK} {C : Addr}
theorem u_seq (h : t { D with nx := u D } σ H) : tSeq t u D σ H := h
theorem u_next (h : D.nx σ H) : tNext D σ H := h
theorem u_asg (h : te σ H fun x H1 => g x σ H1 D.nx) : tAsg te g D σ H := h
theorem u_if (h : tt σ H fun b H1 => if b = true then t D σ H1 else u D σ H1) : tIfS tt t u D σ H := h
theorem u_ret (h : te σ H D.rt) : tRet te D σ H := h
theorem u_retN (h : D.rt .non H) : tRetN D σ H := h
theorem u_drop (h : te σ H fun _ H1 => D.nx σ H1) : tDrop te D σ H := h
theorem u_brk (h : D.bk σ H) : tBreak D σ H := h
theorem u_cont (h : D.ct σ H) : tCont D σ H := h
theorem u_fld {tv : TE} (h : tv σ H fun y H1 => ta σ H1 fun x H2 => ∃ a C dx fs, x = .ref a ∧ H2 a = some (.ins C dx fs) ∧ Cls K C ∧ NoAttr K C f ∧ fs.length < 1000 ∧ ModO (D.nx σ) H2 a (.ins C dx (putF f y fs))) : sFld K ta tv f D σ H := h
theorem u_par {j : Nat} (h : tl σ H fun vs H1 => ∃ v w, vs = [v, w] ∧ D.nx ((σ.set i (some v)).set j (some w)) H1) : tPar i j tl D σ H := h
theorem u_gname {k : L2.St → Hp → Prop} (h : k (σ.set i (some v)) H) : gName i v σ H k := h
theorem u_gsub {to ti : TE} {ts : TSet} {k : L2.St → Hp → Prop} (h : to σ H fun o H1 => ti σ H1 fun i H2 => ts o i v H2 fun H3 => k σ H3) : gSub to ti ts v σ H k := h
theorem u_gfld {to : TE} {k : L2.St → Hp → Prop} (h : to σ H fun x H1 => ∃ a C dx fs, x = .ref a ∧ H1 a = some (.ins C dx fs) ∧ Cls K C ∧ NoAttr K C f ∧ fs.length < 1000 ∧ ModO (k σ) H1 a (.ins C dx (putF f v fs))) : gFld K to f v σ H k := h
theorem u_gtup {n : Nat} {a : Addr} {xs : List V} {k : L2.St → Hp → Prop} (hs : SqT K H a xs) (hn : xs.length = n) (h : gs xs σ H k) : gTup K n gs (.ref a) σ H k := ⟨a, xs, rfl, hs, hn, h⟩
theorem u_gcons {xs : List V} {k : L2.St → Hp → Prop} (h : g v σ H fun σ' H' => gs xs σ' H' k) : gCons g gs (v :: xs) σ H k := ⟨v, xs, rfl, h⟩
theorem u_gnil {k : L2.St → Hp → Prop} (h : k σ H) : gNil [] σ H k := ⟨rfl, h⟩
theorem u_var (hv : σ[i]? = some (some v)) (h : Q v H) : tVar i σ H Q := ⟨v, hv, h⟩
theorem u_c (h : Q v H) : tC v σ H Q := h
theorem u_op (h : ta σ H fun x H1 => tb σ H1 fun y H2 => r x y H2 Q) : tOp r ta tb σ H Q := h
theorem u_un {r : V → Hp → VK → Prop} (h : ta σ H fun x H1 => r x H1 Q) : tUn r ta σ H Q := h
theorem u_ifE (h : tt σ H fun c H1 => if c = true then ta σ H1 Q else tb σ H1 Q) : tIf tt ta tb σ H Q := h
theorem u_call {dvs : List V} (h : tl σ H fun vs H1 => sp (vs ++ dvs) H1 Q E) : tCall sp dvs E tl σ H Q := h
theorem u_cb {r : List V → Hp → VK → Prop} (h : tl σ H fun vs H1 => r vs H1 Q) : tCB r tl σ H Q := h
theorem u_cons (h : ta σ H fun x H1 => tr σ H1 fun xs H2 => QA (x :: xs) H2) : tCons ta tr σ H QA := h
theorem u_nil (h : QA [] H) : tNil σ H QA := h
theorem u_lst (h : tl σ H fun xs H1 => xs.length ≤ sizeLine ∧ NewO Q H1 (.lst xs)) : tLst tl σ H Q := h
theorem u_tup (h : tl σ H fun xs H1 => xs.length ≤ sizeLine ∧ NewO Q H1 (.tup xs)) : tTup tl σ H Q := h
theorem u_test (h : te σ H fun x H1 => ∃ k, x = .bl k ∧ QT k H1) : tTest te σ H QT := h
theorem u_tB (h : te σ H fun x H1 => ∃ c, x = .bl c ∧ QT c H1) : tB te σ H QT := h
theorem u_and (h : tt σ H fun c H1 => if c = true then tu σ H1 QT else QT false H1) : tAnd tt tu σ H QT := h
theorem u_or (h : tt σ H fun c H1 => if c = true then QT true H1 else tu σ H1 QT) : tOr tt tu σ H QT := h
theorem u_not (h : tt σ H fun c H1 => QT (!c) H1) : tNot tt σ H QT := h
theorem u_chain {r r' : R2} (h : ta σ H fun x H1 => tb σ H1 fun y H2 => r x y H2 fun z H3 => ∃ k, z = .bl k ∧ (if k = true then tc σ H3 fun w' H4 => r' y w' H4 Q else Q (.bl false) H3)) : tChain r r' ta tb tc σ H Q := h
theorem u_andV (h : ta σ H fun x H1 => ∃ c, x = .bl c ∧ if c = true then tb σ H1 Q else Q (.bl false) H1) : tAndV ta tb σ H Q := h
theorem u_orV (h : ta σ H fun x H1 => ∃ c, x = .bl c ∧ if c = true then Q (.bl true) H1 else tb σ H1 Q) : tOrV ta tb σ H Q := h
theorem u_notV (h : ta σ H fun x H1 => ∃ c, x = .bl c ∧ Q (.bl (!c)) H1) : tNotV ta σ H Q := h
theorem u_bm {T : String} {r : V → List V → Hp → VK → Prop} (h : ta σ H fun x H1 => tyV K T x H1 ∧ tl σ H1 fun xs H2 => r x xs H2 Q) : tBM K T r ta tl σ H Q := h
theorem u_bm0 {T : String} {r : V → List V → Hp → VK → Prop} (h : ta σ H fun x H1 => tyV K T x H1 ∧ r x [] H1 Q) : tBM0 K T r ta σ H Q := h
theorem u_sl {r : V → Option Int → Option Int → Hp → VK → Prop} {tlo thi : TO} (h : ta σ H fun x H1 => tlo σ H1 fun l H2 => thi σ H2 fun u H3 => r x l u H3 Q) : tSl r ta tlo thi σ H Q := h
theorem u_noPart {k : Option Int → Hp → Prop} (h : k none H) : tNoPart σ H k := h
theorem u_part {k : Option Int → Hp → Prop} (h : ta σ H fun x H1 => ∃ i, x = .int i ∧ k (some i) H1) : tPart ta σ H k := h
theorem u_sseqL {R : It → Hp → Prop} (h : ta σ H fun x H1 => ∃ a, x = .ref a ∧ (∃ xs, SqL K H1 a xs) ∧ R (Itl K a) H1) : iSeq K ta σ H R := .inl h
theorem u_sseqT {R : It → Hp → Prop} (h : ta σ H fun x H1 => ∃ a, x = .ref a ∧ (∃ xs, SqT K H1 a xs) ∧ R (Itt K a) H1) : iSeq K ta σ H R := .inr h
theorem k_seqL {A : Addr → Prop} {a : Addr} {xs : List V} (hs : SqL K H a xs) (h : A a) : ∃ a', V.ref a = .ref a' ∧ (∃ xs, SqL K H a' xs) ∧ A a' := ⟨a, rfl, ⟨xs, hs⟩, h⟩
theorem k_seqT {A : Addr → Prop} {a : Addr} {xs : List V} (hs : SqT K H a xs) (h : A a) : ∃ a', V.ref a = .ref a' ∧ (∃ xs, SqT K H a' xs) ∧ A a' := ⟨a, rfl, ⟨xs, hs⟩, h⟩
theorem u_rng1 {R : It → Hp → Prop} (h : tl σ H fun vs H1 => ∃ j : Int, vs = [.int j] ∧ -(2 ^ 62) ≤ j ∧ j < 2 ^ 62 ∧ R (Itr 0 j.toNat) H1) : iRng1 tl σ H R := h
theorem u_rng2 {R : It → Hp → Prop} (h : tl σ H fun vs H1 => ∃ i j : Int, vs = [.int i, .int j] ∧ (-(2 ^ 62) ≤ i ∧ i < 2 ^ 62 ∧ -(2 ^ 62) ≤ j ∧ j < 2 ^ 62) ∧ R (Itr i (j - i).toNat) H1) : iRng2 tl σ H R := h
theorem k_rng1 {j : Int} {A : Int → Prop} (h1 : 0 ≤ j) (h2 : j ≤ 1000000) (h : A j) : ∃ j' : Int, [V.int j] = [.int j'] ∧ -(2 ^ 62) ≤ j' ∧ j' < 2 ^ 62 ∧ A j' := ⟨j, rfl, by omega, by omega, h⟩
theorem k_rng2 {i j : Int} {A : Int → Int → Prop} (h1 : 0 ≤ i) (h2 : i ≤ 1000000) (h3 : 0 ≤ j) (h4 : j ≤ 1000000) (h : A i j) : ∃ i' j' : Int, [V.int i, V.int j] = [.int i', .int j'] ∧ (-(2 ^ 62) ≤ i' ∧ i' < 2 ^ 62 ∧ -(2 ^ 62) ≤ j' ∧ j' < 2 ^ 62) ∧ A i' j' := ⟨i, j, rfl, ⟨by omega, by omega, by omega, by omega⟩, h⟩
/-- a loop over what comes -/
def ForO (J : It) (g : TG) (tb : TS) (D : Ends) (σ : L2.St) (H : Hp) : Prop := ∃ W : Nat → Nat → L2.St → Hp → Prop, (∃ m, W 0 m σ H) ∧ ∀ i m σ H, W i m σ H →
  (J.stop i H ∧ D.nx σ H) ∨ (J.go i H ∧ ∃ N : L2.St → Hp → Prop, (∀ σ' H', N σ' H' → ∃ m', m' < m ∧ W (i + 1) m' σ' H') ∧ ∀ x H', J.yld i H x H' → g x σ H' fun σ2 H2 => tb { D with nx := N, ct := N, bk := D.nx } σ2 H2)
theorem u_for {wi : TI} (h : wi σ H fun J H1 => ForO J g t D σ H1) : tFor wi g t D σ H := h
theorem for_l {a : Addr} {xs : List V} (P : Nat → L2.St → Hp → Prop) (h0 : P 0 σ H) (hl : ∀ i σ H, i ≤ xs.length → P i σ H → SqL K H a xs)
    (hs : ∀ i x σ H, xs[i]? = some x → P i σ H → g x σ H fun σ2 H2 => t { D with nx := P (i + 1), ct := P (i + 1), bk := D.nx } σ2 H2) (hd : ∀ σ H, P xs.length σ H → D.nx σ H) : ForO (Itl K a) g t D σ H := for_list P h0 hl hs hd
theorem for_t {a : Addr} {xs : List V} (P : Nat → L2.St → Hp → Prop) (h0 : P 0 σ H) (hl : ∀ i σ H, i ≤ xs.length → P i σ H → SqT K H a xs)
    (hs : ∀ i x σ H, xs[i]? = some x → P i σ H → g x σ H fun σ2 H2 => t { D with nx := P (i + 1), ct := P (i + 1), bk := D.nx } σ2 H2) (hd : ∀ σ H, P xs.length σ H → D.nx σ H) : ForO (Itt K a) g t D σ H := for_tup P h0 hl hs hd
theorem for_r {lo : Int} {n : Nat} (P : Nat → L2.St → Hp → Prop) (h0 : P 0 σ H)
    (hs : ∀ i σ H, i < n → P i σ H → g (.int (lo + i)) σ H fun σ2 H2 => t { D with nx := P (i + 1), ct := P (i + 1), bk := D.nx } σ2 H2) (hd : ∀ σ H, P n σ H → D.nx σ H) : ForO (Itr lo n) g t D σ H := for_range P h0 hs hd
/-- a while by a number that falls -/
def WhB (P : Nat → L2.St → Hp → Prop) (m : Nat) (t : TS) (D : Ends) (σ : L2.St) (H : Hp) : Prop := ∃ N : L2.St → Hp → Prop, (∀ σ' H', N σ' H' → ∃ m', m' < m ∧ P m' σ' H') ∧ t { D with nx := N, ct := N, bk := D.nx } σ H
theorem u_while (P : Nat → L2.St → Hp → Prop) {m0 : Nat} (h0 : P m0 σ H) (hs : ∀ m σ H, P m σ H → tt σ H fun b H1 => if b = true then WhB P m t D σ H1 else D.nx σ H1) : tWhile tt t D σ H := ⟨P, ⟨m0, h0⟩, hs⟩
theorem wh_b {P : Nat → L2.St → Hp → Prop} {m : Nat} (h : t { D with nx := fun σ' H' => ∃ m', m' < m ∧ P m' σ' H', ct := fun σ' H' => ∃ m', m' < m ∧ P m' σ' H', bk := D.nx } σ H) : WhB P m t D σ H := ⟨_, fun _ _ h => h, h⟩
/-- a comprehension -/
def LcO (J : It) (g : TG) (tt : TT) (te : TE) (vs : List Nat) (σ : L2.St) (H : Hp) (Q : VK) : Prop := ∀ D, H D = none → ∃ W : Nat → Nat → Hp → Prop, (∃ m, W 0 m (upd H D (.lst []))) ∧ ∀ i m H, W i m H →
  (J.stop i H ∧ Q (.ref D) H) ∨ (J.go i H ∧ ∃ Nx : Hp → Prop, (∀ H', Nx H' → ∃ m', m' < m ∧ W (i + 1) m' H') ∧ ∀ x H', J.yld i H x H' → g x (wipe σ vs) H' fun σ2 H2 => wipe σ2 vs = wipe σ vs ∧ tt σ2 H2 fun b H3 =>
    if b = true then te σ2 H3 fun y H4 => ∃ acc, H4 D = some (.lst acc) ∧ acc.length < sizeLine ∧ Nx (upd H4 D (.lst (acc ++ [y]))) else Nx H3)
theorem u_lc {wi : TI} {vs : List Nat} (h : wi σ H fun J H1 => LcO J g tt te vs σ H1 Q) : tLc wi g tt te vs σ H Q := h
section
variable {H0 : Hp} {S : List Addr} {L : List (Addr × HO)} {vs : List Nat}
theorem lc_l {a : Addr} {xs : List V} (c : Cur H0 S H L) (P : Addr → Nat → Hp → Prop) (h0 : ∀ D H1, H0 D = none → Cur H0 S H1 ((D, .lst []) :: L) → P D 0 H1) (hl : ∀ D i H, i ≤ xs.length → P D i H → SqL K H a xs)
    (hs : ∀ D i x H, H0 D = none → xs[i]? = some x → P D i H → g x (wipe σ vs) H fun σ2 H2 => wipe σ2 vs = wipe σ vs ∧ tt σ2 H2 fun b H3 =>
      if b = true then te σ2 H3 fun y H4 => ∃ acc, H4 D = some (.lst acc) ∧ acc.length < sizeLine ∧ ModO (P D (i + 1)) H4 D (.lst (acc ++ [y])) else P D (i + 1) H3) (hd : ∀ D H, H0 D = none → P D xs.length H → Q (.ref D) H) : LcO (Itl K a) g tt te vs σ H Q :=
  fun D hD => lc_list (P D) (h0 D _ (c.fresh hD) (c.new hD)) (hl D) (fun i x H => hs D i x H (c.fresh hD)) (fun H => hd D H (c.fresh hD))
theorem lc_t {a : Addr} {xs : List V} (c : Cur H0 S H L) (P : Addr → Nat → Hp → Prop) (h0 : ∀ D H1, H0 D = none → Cur H0 S H1 ((D, .lst []) :: L) → P D 0 H1) (hl : ∀ D i H, i ≤ xs.length → P D i H → SqT K H a xs)
    (hs : ∀ D i x H, H0 D = none → xs[i]? = some x → P D i H → g x (wipe σ vs) H fun σ2 H2 => wipe σ2 vs = wipe σ vs ∧ tt σ2 H2 fun b H3 =>
      if b = true then te σ2 H3 fun y H4 => ∃ acc, H4 D = some (.lst acc) ∧ acc.length < sizeLine ∧ ModO (P D (i + 1)) H4 D (.lst (acc ++ [y])) else P D (i + 1) H3) (hd : ∀ D H, H0 D = none → P D xs.length H → Q (.ref D) H) : LcO (Itt K a) g tt te vs σ H Q :=
  fun D hD => lc_tup (P D) (h0 D _ (c.fresh hD) (c.new hD)) (hl D) (fun i x H => hs D i x H (c.fresh hD)) (fun H => hd D H (c.fresh hD))
theorem lc_r {lo : Int} {n : Nat} (c : Cur H0 S H L) (P : Addr → Nat → Hp → Prop) (h0 : ∀ D H1, H0 D = none → Cur H0 S H1 ((D, .lst []) :: L) → P D 0 H1)
    (hs : ∀ D i H, H0 D = none → i < n → P D i H → g (.int (lo + i)) (wipe σ vs) H fun σ2 H2 => wipe σ2 vs = wipe σ vs ∧ tt σ2 H2 fun b H3 =>
      if b = true then te σ2 H3 fun y H4 => ∃ acc, H4 D = some (.lst acc) ∧ acc.length < sizeLine ∧ ModO (P D (i + 1)) H4 D (.lst (acc ++ [y])) else P D (i + 1) H3) (hd : ∀ D H, H0 D = none → P D n H → Q (.ref D) H) : LcO (Itr lo n) g tt te vs σ H Q :=
  fun D hD => lc_range (P D) (h0 D _ (c.fresh hD) (c.new hD)) (fun i H => hs D i H (c.fresh hD)) (fun H => hd D H (c.fresh hD))
theorem k_acc {k : Hp → Prop} {D : Addr} {acc : List V} {y : V} (hD : H D = some (.lst acc)) (hn : acc.length < 100000) (h : ModO k H D (.lst (acc ++ [y]))) : ∃ acc, H D = some (.lst acc) ∧ acc.length < sizeLine ∧ ModO k H D (.lst (acc ++ [y])) := ⟨acc, hD, Nat.lt_of_lt_of_le hn (by decide), h⟩
end
theorem u_yes (h : QT true H) : tYes σ H QT := h
/-- values handed on -/
theorem k_bl {b : Bool} (h : QT b H) : ∃ k, V.bl b = .bl k ∧ QT k H := ⟨b, rfl, h⟩
theorem k_blA {b : Bool} {A : Bool → Prop} (h : A b) : ∃ k, V.bl b = .bl k ∧ A k := ⟨b, rfl, h⟩
theorem k_int {j : Int} {A : Int → Prop} (h : A j) : ∃ i, V.int j = .int i ∧ A i := ⟨j, rfl, h⟩
theorem k_two {A : V → V → Prop} {a b : V} (h : A a b) : ∃ v w, [a, b] = [v, w] ∧ A v w := ⟨a, b, rfl, h⟩
theorem k_size {xs : List V} {A : Prop} (hn : xs.length ≤ 1000) (h : A) : xs.length ≤ sizeLine ∧ A := ⟨Nat.le_trans hn (by decide), h⟩
/-- fields -/
theorem u_tfld {a dx : Addr} {fs : List (Str × V)} (e : ta σ H fun x H1 => ∃ a dx fs v, x = .ref a ∧ H1 a = some (.ins C dx fs) ∧ fs.lookup f = some v ∧ Q v H1) (c : Cls K C) (n : NoAttr K C f) (mono : ∀ Q Q' : VK, (∀ v H, Q v H → Q' v H) → ta σ H Q → ta σ H Q') : tFld K ta f σ H Q := by
  refine mono _ _ (fun x H1 h => ?_) e
  obtain ⟨a, dx, fs, v, rfl, h1, h2, h3⟩ := h
  exact ⟨a, C, dx, fs, v, rfl, h1, c, n, h2, h3⟩
/-- a field of what stands in a slot -/
theorem u_fldv {a dx : Addr} {fs : List (Str × V)} (hv : σ[i]? = some (some (.ref a))) (ha : H a = some (.ins C dx fs)) (c : Cls K C) (n : NoAttr K C f) (hl : fs.lookup f = some v) (h : Q v H) : tFld K (tVar i) f σ H Q := ⟨.ref a, hv, a, C, dx, fs, v, rfl, ha, c, n, hl, h⟩
theorem u_tf (h : ta σ H fun x H1 => ∃ a C dx fs v, x = .ref a ∧ H1 a = some (.ins C dx fs) ∧ Cls K C ∧ NoAttr K C f ∧ fs.lookup f = some v ∧ Q v H1) : tFld K ta f σ H Q := h
theorem k_fld {a dx : Addr} {fs : List (Str × V)} {A : V → Prop} (ha : H a = some (.ins C dx fs)) (c : Cls K C) (n : NoAttr K C f) (hl : fs.lookup f = some v) (h : A v) : ∃ a' C dx fs v, V.ref a = .ref a' ∧ H a' = some (.ins C dx fs) ∧ Cls K C ∧ NoAttr K C f ∧ fs.lookup f = some v ∧ A v := ⟨a, C, dx, fs, v, rfl, ha, c, n, hl, h⟩
theorem k_put {a dx : Addr} {fs : List (Str × V)} {k : Hp → Prop} (ha : H a = some (.ins C dx fs)) (c : Cls K C) (n : NoAttr K C f) (hl : fs.length < 1000) (h : ModO k H a (.ins C dx (putF f v fs))) : ∃ a' C dx fs, V.ref a = .ref a' ∧ H a' = some (.ins C dx fs) ∧ Cls K C ∧ NoAttr K C f ∧ fs.length < 1000 ∧ ModO k H a' (.ins C dx (putF f v fs)) := ⟨a, C, dx, fs, rfl, ha, c, n, hl, h⟩
theorem u_meth {dvs : List V} (h : ta σ H fun x H1 => ∃ a dx fs, x = .ref a ∧ H1 a = some (.ins C dx fs) ∧ fs.lookup m = none ∧ tl σ H1 fun vs H2 => sp (x :: (vs ++ dvs)) H2 Q E) : tMeth C m sp dvs E ta tl σ H Q := h
theorem k_meth {a dx : Addr} {fs : List (Str × V)} {A : Prop} (ha : H a = some (.ins C dx fs)) (hl : fs.lookup m = none) (h : A) : ∃ a' dx fs, V.ref a = .ref a' ∧ H a' = some (.ins C dx fs) ∧ fs.lookup m = none ∧ A := ⟨a, dx, fs, rfl, ha, hl, h⟩
theorem u_prop {dvs : List V} (h : ta σ H fun x H1 => ∃ a dx fs, x = .ref a ∧ H1 a = some (.ins C dx fs) ∧ sp (.ref a :: dvs) H1 Q E) : tProp C sp dvs E ta σ H Q := h
theorem k_prop {a dx : Addr} {fs : List (Str × V)} {A : Addr → Prop} (ha : H a = some (.ins C dx fs)) (h : A a) : ∃ a' dx fs, V.ref a = .ref a' ∧ H a' = some (.ins C dx fs) ∧ A a' := ⟨a, dx, fs, rfl, ha, h⟩
/-- a new instance, then its __init__ -/
def MakeO (C : Addr) (sp : Sp) (E : XK) (vs : List V) (H : Hp) (Q : VK) : Prop := ∀ x dx, H x = none → H dx = none → dx ≠ x → sp (.ref x :: vs) (upd (upd H dx (.own x)) x (.ins C dx [])) (fun v H2 => v = .non ∧ Q (.ref x) H2) E
theorem make_c {H0 : Hp} {S : List Addr} {L : List (Addr × HO)} {vs : List V} (c : Cur H0 S H L) (h : ∀ x dx H1, H0 x = none → H0 dx = none → Cur H0 S H1 ((x, .ins C dx []) :: (dx, .own x) :: L) → sp (.ref x :: vs) H1 (fun v H2 => v = .non ∧ Q (.ref x) H2) E) : MakeO C sp E vs H Q := fun x dx hx hd n =>
  h x dx _ (c.fresh hx) (c.fresh hd) ((c.new (o := .own x) hd).new (by rw [upd_ne (Ne.symm n)]; exact hx))
theorem u_make {dvs : List V} (h : tl σ H fun vs H1 => MakeO C sp E (vs ++ dvs) H1 Q) : tMake C sp dvs E tl σ H Q := h
/-! operators -/
variable {a b : Int} {p q : Addr} {xs ys : List V} {x y : V}
theorem r_add (h : Q (.int (a + b)) H) : rAddU (.int a) (.int b) H Q := .inl ⟨a, b, rfl, rfl, h⟩
theorem r_cat {zs : List V} (h1 : H p = some (.lst xs)) (h2 : H q = some (.lst zs)) (hn : xs.length + zs.length ≤ 1000) (h : NewO Q H (.lst (xs ++ zs))) : rAddU (.ref p) (.ref q) H Q := .inr (.inl ⟨p, q, xs, zs, rfl, rfl, h1, h2, Nat.le_trans hn (by decide), h⟩)
theorem r_sub (h : Q (.int (a - b)) H) : rSubI (.int a) (.int b) H Q := ⟨a, b, rfl, rfl, h⟩
theorem r_mul (c : CMul a b) (h : Q (.int (a * b)) H) : rMulU (.int a) (.int b) H Q := .inl ⟨a, b, rfl, rfl, c, h⟩
theorem r_rep (h1 : H p = some (.lst xs)) (h0 : 0 ≤ b) (hb : b ≤ 1000) (hn : xs.length ≤ 1000) (h : NewO Q H (.lst (List.replicate b.toNat xs).flatten)) : rMulU (.ref p) (.int b) H Q :=
  .inr ⟨p, b, xs, rfl, rfl, h1, by omega, by omega, Nat.le_trans (Nat.mul_le_mul hn (show b.toNat ≤ 1000 by omega)) (by decide), h⟩
theorem r_mod (c : 0 < b) (h : Q (.int (a % b)) H) : rModI (.int a) (.int b) H Q := ⟨a, b, rfl, rfl, c, h⟩
theorem r_div (c : CDivN a b) (h : Q (.int (a.fdiv b)) H) : rDivI (.int a) (.int b) H Q := ⟨a, b, rfl, rfl, c, h⟩
theorem r_pow (c : CPow a b) (h : Q (.int (a ^ b.toNat)) H) : rPowI (.int a) (.int b) H Q := ⟨a, b, rfl, rfl, c, h⟩
theorem r_lt (h : Q (.bl (decide (a < b))) H) : rLtI (.int a) (.int b) H Q := ⟨a, b, rfl, rfl, h⟩
theorem r_le (h : Q (.bl (decide (a ≤ b))) H) : rLeI (.int a) (.int b) H Q := ⟨a, b, rfl, rfl, h⟩
theorem r_gt (h : Q (.bl (decide (b < a))) H) : rGtI (.int a) (.int b) H Q := ⟨a, b, rfl, rfl, h⟩
theorem r_ge (h : Q (.bl (decide (b ≤ a))) H) : rGeI (.int a) (.int b) H Q := ⟨a, b, rfl, rfl, h⟩
theorem r_isN (h : Q (.bl (decide (x = .non))) H) : rIsN x .non H Q := ⟨rfl, h⟩
theorem r_notN (h : Q (.bl (!decide (x = .non))) H) : rNotN x .non H Q := ⟨rfl, h⟩
theorem r_eq (hs : scal x y = true) (h : Q (.bl (decide (x = y))) H) : rEqU K x y H Q := .inl ⟨hs, h⟩
theorem r_ne (hs : scal x y = true) (h : Q (.bl (!decide (x = y))) H) : rNeU K x y H Q := .inl ⟨hs, h⟩
theorem r_eqI (h : Q (.bl (decide (a = b))) H) : rEqU K (.int a) (.int b) H Q := .inl ⟨rfl, by
  have e : decide ((V.int a) = V.int b) = decide (a = b) := decide_eq_decide.mpr ⟨fun e => V.int.inj e, fun e => by rw [e]⟩
  rw [e]; exact h⟩
theorem r_neI (h : Q (.bl (!decide (a = b))) H) : rNeU K (.int a) (.int b) H Q := .inl ⟨rfl, by
  have e : decide ((V.int a) = V.int b) = decide (a = b) := decide_eq_decide.mpr ⟨fun e => V.int.inj e, fun e => by rw [e]⟩
  rw [e]; exact h⟩
theorem r_neg (h : Q (.int (-a)) H) : uNegI (.int a) H Q := ⟨a, rfl, h⟩
theorem r_ixL (hs : SqL K H p xs) (ha : atI xs a = some v) (h : Q v H) : rIx K (.ref p) (.int a) H Q := .inl ⟨p, xs, a, v, rfl, rfl, hs, ha, h⟩
theorem r_ixT (hs : SqT K H p xs) (ha : atI xs a = some v) (h : Q v H) : rIx K (.ref p) (.int a) H Q := .inr (.inl ⟨p, xs, a, v, rfl, rfl, hs, ha, h⟩)
theorem r_slL {lo hi : Option Int} (hs : SqL K H p xs) (h : NewO Q H (.lst (cutV xs lo hi))) : rSlU K (.ref p) lo hi H Q := ⟨p, xs, rfl, hs, h⟩
theorem r_setL {j : Nat} {k : Hp → Prop} (hp : H p = some (.lst xs)) (hj : ixN xs.length a = some j) (h : ModO k H p (.lst (xs.set j v))) : rSetL (.ref p) (.int a) v H k := ⟨p, xs, a, j, rfl, rfl, hp, hj, h⟩
theorem r_len (hs : SqL K H p xs) (h : Q (.int xs.length) H) : cLen K [.ref p] H Q := ⟨p, xs, rfl, .inl hs, h⟩
theorem r_lenT (hs : SqT K H p xs) (h : Q (.int xs.length) H) : cLen K [.ref p] H Q := ⟨p, xs, rfl, .inr hs, h⟩
theorem r_int (h : Q (.int a) H) : cInt [.int a] H Q := .inl ⟨a, rfl, h⟩
theorem r_intB {k : Bool} (h : Q (.int (if k then 1 else 0)) H) : cInt [.bl k] H Q := .inr ⟨k, rfl, h⟩
theorem r_abs (h : Q (.int (if a < 0 then -a else a)) H) : cAbs [.int a] H Q := ⟨a, rfl, h⟩
theorem r_listL (hs : SqL K H p xs) (h : NewO Q H (.lst xs)) : cList K [.ref p] H Q := ⟨p, xs, rfl, .inl hs, h⟩
theorem r_listT (hs : SqT K H p xs) (h : NewO Q H (.lst xs)) : cList K [.ref p] H Q := ⟨p, xs, rfl, .inr hs, h⟩
theorem r_tupL (hs : SqL K H p xs) (h : NewO Q H (.tup xs)) : cTuple K [.ref p] H Q := ⟨p, xs, rfl, .inl ⟨hs, h⟩⟩
theorem r_tupT (hs : SqT K H p xs) (h : Q (.ref p) H) : cTuple K [.ref p] H Q := ⟨p, xs, rfl, .inr ⟨hs, h⟩⟩
theorem r_app {c : VK} (hp : H p = some (.lst xs)) (hn : xs.length < 1000) (h : ModO (c .non) H p (.lst (xs ++ [v]))) : rAppend (.ref p) [v] H c := ⟨p, xs, v, rfl, rfl, hp, Nat.lt_of_lt_of_le hn (by decide), h⟩
theorem ty_list (hp : H p = some (.lst xs)) : tyV K "list" (.ref p) H := .inl ⟨rfl, _, SqL.of hp⟩
/-- branches -/
theorem b_dec {c : Prop} [Decidable c] {A B : Prop} (h1 : c → A) (h2 : ¬ c → B) : if decide c = true then A else B := by
  by_cases h : c
  · rw [decide_eq_true h]; exact iteT (h1 h)
  · rw [decide_eq_false h]; exact iteF (h2 h)
theorem b_ndec {c : Prop} [Decidable c] {A B : Prop} (h1 : ¬ c → A) (h2 : c → B) : if (!decide c) = true then A else B := by
  by_cases h : c
  · rw [decide_eq_true h]; exact iteF (h2 h)
  · rw [decide_eq_false h]; exact iteT (h1 h)
theorem b_t {c : Bool} {A B : Prop} (hc : c = true) (h : A) : if c = true then A else B := by rw [hc]; exact iteT h
theorem b_f {c : Bool} {A B : Prop} (hc : c = false) (h : B) : if c = true then A else B := by rw [hc]; exact iteF h
theorem b_dt {c : Prop} [Decidable c] {A B : Prop} (hc : c) (h : A) : if decide c = true then A else B := b_t (decide_eq_true hc) h
theorem b_df {c : Prop} [Decidable c] {A B : Prop} (hc : ¬ c) (h : B) : if decide c = true then A else B := b_f (decide_eq_false hc) h
end
end Nd

end

section
set_option Elab.async false
set_option linter.all false
set_option maxRecDepth 100000
set_option maxHeartbeats 4000000
/-! Nd: == of lists of whole numbers. -/
namespace Nd
open PySem PySem.Spec PyProof.Rows L2
def pyI (ns : List Int) : List PyData := ns.map PyData.int
theorem dp_ints {K : PySem.W.Frag} {H : Hp} : ∀ ns : List Int, DpAll K H (ns.map V.int) (pyI ns)
  | [] => .nil
  | n :: r => .cons (.int n) (dp_ints r)
theorem eqv_ints : ∀ ns ms : List Int, PyData.eqvAll (pyI ns) (pyI ms) = decide (ns = ms)
  | [], [] => by simp [pyI, PyData.eqvAll]
  | [], m :: ms => by simp [pyI, PyData.eqvAll]
  | n :: ns, [] => by simp [pyI, PyData.eqvAll]
  | n :: ns, m :: ms => by
    have ih := eqv_ints ns ms
    show (PyData.eqv (.int n) (.int m) && PyData.eqvAll (pyI ns) (pyI ms)) = _
    rw [ih]
    by_cases h : n = m <;> by_cases h2 : ns = ms <;> simp [PyData.eqv, h, h2]
theorem lay_ints : ∀ ns : List Int, PyData.canLayAll0 (pyI ns) = true
  | [] => rfl
  | n :: r => by
    show (PyData.canLay0 (.int n) && PyData.canLayAll0 (pyI r)) = true
    rw [lay_ints r]; rfl
theorem dep_ints : ∀ ns : List Int, PyData.depthAll (pyI ns) = 0
  | [] => rfl
  | n :: r => by
    show max (PyData.depth (.int n)) (PyData.depthAll (pyI r)) = 0
    rw [dep_ints r]; rfl
theorem shape_l (ns : List Int) : SeqAt.shaped (.list (pyI ns)) = true := by
  have h1 : PyData.canLay0 (.list (pyI ns)) = true := lay_ints ns
  have h2 : PyData.depth (.list (pyI ns)) = 1 := by show PyData.depthAll (pyI ns) + 1 = 1; rw [dep_ints]
  unfold SeqAt.shaped
  rw [h1, h2]; rfl
theorem shape_t (ns : List Int) : SeqAt.shaped (.tuple (pyI ns)) = true := by
  have h1 : PyData.canLay0 (.tuple (pyI ns)) = true := lay_ints ns
  have h2 : PyData.depth (.tuple (pyI ns)) = 1 := by show PyData.depthAll (pyI ns) + 1 = 1; rw [dep_ints]
  unfold SeqAt.shaped
  rw [h1, h2]; rfl
section
variable {K : PySem.W.Frag} {H : Hp} {Q : VK} {a b : Addr} {ns ms : List Int}
theorem r_neL (h1 : SqL K H a (ns.map V.int)) (h2 : SqL K H b (ms.map V.int)) (h : Q (.bl (!decide (ns = ms))) H) : rNeU K (.ref a) (.ref b) H Q :=
  .inr ⟨.list (pyI ns), .list (pyI ms), .lst h1 (dp_ints ns), .lst h2 (dp_ints ms), shape_l ns, shape_l ms, by show Q (.bl (!PyData.eqvAll (pyI ns) (pyI ms))) H; rw [eqv_ints]; exact h⟩
theorem r_eqL (h1 : SqL K H a (ns.map V.int)) (h2 : SqL K H b (ms.map V.int)) (h : Q (.bl (decide (ns = ms))) H) : rEqU K (.ref a) (.ref b) H Q :=
  .inr ⟨.list (pyI ns), .list (pyI ms), .lst h1 (dp_ints ns), .lst h2 (dp_ints ms), shape_l ns, shape_l ms, by show Q (.bl (PyData.eqvAll (pyI ns) (pyI ms))) H; rw [eqv_ints]; exact h⟩
theorem r_neT (h1 : SqT K H a (ns.map V.int)) (h2 : SqT K H b (ms.map V.int)) (h : Q (.bl (!decide (ns = ms))) H) : rNeU K (.ref a) (.ref b) H Q :=
  .inr ⟨.tuple (pyI ns), .tuple (pyI ms), .tup h1 (dp_ints ns), .tup h2 (dp_ints ms), shape_t ns, shape_t ms, by show Q (.bl (!PyData.eqvAll (pyI ns) (pyI ms))) H; rw [eqv_ints]; exact h⟩
theorem r_eqT (h1 : SqT K H a (ns.map V.int)) (h2 : SqT K H b (ms.map V.int)) (h : Q (.bl (decide (ns = ms))) H) : rEqU K (.ref a) (.ref b) H Q :=
  .inr ⟨.tuple (pyI ns), .tuple (pyI ms), .tup h1 (dp_ints ns), .tup h2 (dp_ints ms), shape_t ns, shape_t ms, by show Q (.bl (PyData.eqvAll (pyI ns) (pyI ms))) H; rw [eqv_ints]; exact h⟩
end
/-! ### places in lists of numbers -/
theorem atI_int {ns : List Int} {i : Int} (h0 : 0 ≤ i) (h1 : i < ns.length) : atI (ns.map V.int) i = some (.int (ns[i.toNat]'(by omega))) := by
  obtain ⟨k, rfl⟩ : ∃ k : Nat, i = (k : Int) := ⟨i.toNat, by omega⟩
  refine atI_nat ?_
  rw [List.getElem?_map, List.getElem?_eq_getElem (show k < ns.length by omega)]
  rfl
theorem atI_of {α : Type} {xs : List α} {i : Int} {x : α} (h0 : 0 ≤ i) (h : xs[i.toNat]? = some x) : atI xs i = some x := by
  obtain ⟨k, rfl⟩ : ∃ k : Nat, i = (k : Int) := ⟨i.toNat, by omega⟩
  exact atI_nat h
theorem ixN_of {n : Nat} {i : Int} (h0 : 0 ≤ i) (h1 : i < n) : ixN n i = some i.toNat := by
  unfold ixN
  rw [if_pos h0, if_pos h1]
theorem take_one {α : Type} {xs : List α} {i : Nat} {x : α} (h : xs[i]? = some x) : xs.take (i + 1) = xs.take i ++ [x] := by rw [List.take_add_one, h]; rfl
theorem cut_to {xs : List V} {k : Int} (h : 0 ≤ k) : cutV xs none (some k) = xs.take k.toNat := by
  obtain ⟨j, rfl⟩ : ∃ j : Nat, k = (j : Int) := ⟨k.toNat, by omega⟩
  unfold cutV
  rw [HT.sIx_none, HT.sIx_nat, List.drop_zero, Nat.sub_zero, Int.toNat_natCast, ← List.take_take, List.take_length]
theorem cut_from {xs : List V} {k : Int} (h : 0 ≤ k) : cutV xs (some k) none = xs.drop k.toNat := by
  obtain ⟨j, rfl⟩ : ∃ j : Nat, k = (j : Int) := ⟨k.toNat, by omega⟩
  unfold cutV
  rw [HT.sIx_none, HT.sIx_nat, Int.toNat_natCast]
  by_cases h : j ≤ xs.length
  · rw [Nat.min_eq_left h]
    exact List.take_of_length_le (by rw [List.length_drop]; omega)
  · rw [Nat.min_eq_right (by omega), Nat.sub_self, List.take_zero, List.drop_eq_nil_of_le (by omega)]
theorem int_of {ns : List Int} {i : Nat} {x : V} (h : (ns.map V.int)[i]? = some x) : ∃ n, ns[i]? = some n ∧ x = .int n := by
  rw [List.getElem?_map] at h
  cases e : ns[i]? with
  | none => rw [e] at h; cases h
  | some n => rw [e] at h; exact ⟨n, rfl, (Option.some.inj h).symm⟩
theorem len_map (ns : List Int) : (ns.map V.int).length = ns.length := List.length_map ..
end Nd

end

section
set_option Elab.async false
set_option linter.all false
set_option maxRecDepth 100000
set_option maxHeartbeats 4000000
/-! Nd: what the top has written, one fact a def. -/
namespace Nd
open PySem PySem.Spec PyProof.Rows L2
section
variable {K : PySem.W.Frag} {mg : Str → Option Value} {h : Heap} {x qual m : Str} {st : Stmt} {f p C : Addr} {oc kV dc pm cd ct : Value} {od an : Option Addr} {sl : Array (Option Value)} {rest : List Value}
theorem tx_fn (X : K.In h) (G : h.Ns mainGlobals mg) (a : PySem.W.nsIn K mainGlobals x = some (some (.ref f)))
    (l : K.lookup f = some ⟨oc, od, .func (PySem.W.fnOf x x (defArgs st) (defBody st) (defScope st) .none kV dc pm an cd ct), sl⟩) (c : PySem.W.codeIn K cd x = true) (k : PySem.W.keepIn K (.ref f) = true) :
    ∃ f fd, Fun K x x st f fd ∧ mg x = some (.ref f) := ⟨f, _, fun_mk l c k, PySem.W.mg_of X G a⟩
theorem tx_fnD {T : Addr} {o : Obj} {its : List Value} {n : Nat} {dvs : List V} (hne : dvs ≠ []) (X : K.In h) (G : h.Ns mainGlobals mg) (a : PySem.W.nsIn K mainGlobals x = some (some (.ref f)))
    (l : K.lookup f = some ⟨oc, od, .func (PySem.W.fnOf x x (defArgs st) (defBody st) (defScope st) (.ref T) kV dc pm an cd ct), sl⟩) (c : PySem.W.codeIn K cd x = true) (k : PySem.W.keepIn K (.ref f) = true)
    (d : K.lookup T = some o) (od' : o.data = .seq its.toArray n) (v : Vals dvs its) :
    ∃ f fd, FunD K x x (defArgs st) (defBody st) (defScope st) dvs [] f fd ∧ mg x = some (.ref f) := ⟨f, _, ⟨⟨oc, od, .ref T, kV, dc, pm, an, cd, ct, sl, rfl, l, c, .inr ⟨hne, T, o, its, n, rfl, d, od', v⟩, .inl rfl⟩, k⟩, PySem.W.mg_of X G a⟩
theorem tx_meth (a : PySem.W.findIn K (.ref C) m = some (some (.ref f))) (i : PySem.W.isFn K (.ref f) = true)
    (l : K.lookup f = some ⟨oc, od, .func (PySem.W.fnOf m qual (defArgs st) (defBody st) (defScope st) .none kV dc pm an cd ct), sl⟩) (c : PySem.W.codeIn K cd qual = true) (k : PySem.W.keepIn K (.ref f) = true) :
    ∃ f fd, Fun K m qual st f fd ∧ Meth K C m f := ⟨f, _, fun_mk l c k, ⟨a, i, k⟩⟩
theorem tx_init {cn : Str} (X : K.In h) (G : h.Ns mainGlobals mg) (g : PySem.W.nsIn K mainGlobals cn = some (some (.ref C))) (a : PySem.W.findIn K (.ref C) "__init__" = some (some (.ref f))) (i : PySem.W.isFn K (.ref f) = true)
    (l : K.lookup f = some ⟨oc, od, .func (PySem.W.fnOf "__init__" qual (defArgs st) (defBody st) (defScope st) .none kV dc pm an cd ct), sl⟩) (c : PySem.W.codeIn K cd qual = true) (k : PySem.W.keepIn K (.ref f) = true)
    (mk : PySem.W.makesIn K C = true) (kc : PySem.W.keepIn K (.ref C) = true) :
    ∃ f fd, Fun K "__init__" qual st f fd ∧ Mk K C f ∧ mg cn = some (.ref C) := ⟨f, _, fun_mk l c k, ⟨mk, a, i, kc⟩, PySem.W.mg_of X G g⟩
theorem tx_prop (a : PySem.W.findIn K (.ref C) m = some (some (.ref p))) (g : PySem.W.specialIn K (.ref p) "__get__" = some (some (.builtin "property.__get__"))) (t : PySem.W.takesIn K (.ref p) = some true) (r : PySem.W.recIn K p "property" = some (.ref f :: rest))
    (l : K.lookup f = some ⟨oc, od, .func (PySem.W.fnOf m qual (defArgs st) (defBody st) (defScope st) .none kV dc pm an cd ct), sl⟩) (c : PySem.W.codeIn K cd qual = true) (k : PySem.W.keepIn K (.ref f) = true) :
    ∃ p f fd, Fun K m qual st f fd ∧ PropOf K C m p f := ⟨p, f, _, fun_mk l c k, ⟨a, g, t, rest, r⟩⟩
theorem tx_int {i : Int} {t : Tok} (X : K.In h) (G : h.Ns mainGlobals mg) (a : PySem.W.nsIn K mainGlobals x = some (some (.int i t))) : ∃ t, mg x = some (.int i t) := ⟨t, PySem.W.mg_of X G a⟩
theorem tx_str {i : Str} {t : Tok} (X : K.In h) (G : h.Ns mainGlobals mg) (a : PySem.W.nsIn K mainGlobals x = some (some (.str i t))) : ∃ t, mg x = some (.str i t) := ⟨t, PySem.W.mg_of X G a⟩
end
end Nd

end

section
set_option Elab.async false
set_option linter.all false
set_option maxRecDepth 100000
set_option maxHeartbeats 4000000
/-! Nd: isinstance, step by step. -/
namespace Nd
open PySem PySem.Spec PyProof.Rows L2
section
variable {K : PySem.W.Frag} {H : Hp} {Q : VK} {a p : Addr} {xs : List V} {i : Int}
theorem q_isInt (h : Q (.bl true) H) : rIsi K [.int i, .ty "int"] H Q := ⟨_, _, _, _, true, rfl, .ty "int", .base (.int i), kit_ty (by decide +kernel), h⟩
theorem q_isBool (h : Q (.bl false) H) : rIsi K [.int i, .ty "bool"] H Q := ⟨_, _, _, _, false, rfl, .ty "bool", .base (.int i), kit_ty (by decide +kernel), h⟩
theorem q_kitL : PySem.W.kitAny K (.type "list") [.type "list", .type "tuple"] = some true := kitAny_cons (b := true) (kit_ty (by decide +kernel)) (fun z => nomatch z) fun _ => rfl
theorem q_kitT : PySem.W.kitAny K (.type "tuple") [.type "list", .type "tuple"] = some true :=
  kitAny_cons (b := false) (kit_ty (by decide +kernel)) (fun _ => kitAny_cons (b := true) (kit_ty (by decide +kernel)) (fun z => nomatch z) fun _ => rfl) fun z => nomatch z
theorem q_isSeqL (hp : H p = some (.tup [.ty "list", .ty "tuple"])) (ha : H a = some (.lst xs)) (h : Q (.bl true) H) : rIsiT K [.ref a, .ref p] H Q :=
  ⟨_, _, _, _, _, true, rfl, hp, .cons (.ty _) (.cons (.ty _) .nil), .base (.lst ha), q_kitL, h⟩
theorem q_isSeqT (hp : H p = some (.tup [.ty "list", .ty "tuple"])) (ha : H a = some (.tup xs)) (h : Q (.bl true) H) : rIsiT K [.ref a, .ref p] H Q :=
  ⟨_, _, _, _, _, true, rfl, hp, .cons (.ty _) (.cons (.ty _) .nil), .base (.tup ha), q_kitT, h⟩
theorem b_nT {A B : Prop} (h : B) : if (!true) = true then A else B := h
theorem b_nF {A B : Prop} (h : A) : if (!false) = true then A else B := h
theorem r_isNi (h : Q (.bl false) H) : rIsN (.int i) .non H Q := ⟨rfl, h⟩
theorem r_isNn (h : Q (.bl true) H) : rIsN .non .non H Q := ⟨rfl, h⟩
theorem r_isNr (h : Q (.bl false) H) : rIsN (.ref a) .non H Q := ⟨rfl, h⟩
theorem r_isNs {z : Str} (h : Q (.bl false) H) : rIsN (.str z) .non H Q := ⟨rfl, h⟩
/-- several places may be changed: a part of what we hold, at the front -/
theorem callApp {H0 H H' : Hp} {S : List Addr} {L1 L2 L1' : List (Addr × HO)} (C : Cur H0 S H (L1 ++ L2)) (r : Ret (L1.map (·.1)) H H') (m : ∀ a ∈ L1.map (·.1), a ∈ S ∨ H0 a = none) (hm : L1'.map (·.1) = L1.map (·.1)) (h1 : ∀ p ∈ L1', H' p.1 = some p.2) : Cur H0 S H' (L1' ++ L2) where
  nd := by rw [List.map_append, hm, ← List.map_append]; exact C.nd
  own := fun p hp => by
    rcases List.mem_append.mp hp with h | h
    · exact h1 p h
    · refine r.fr _ _ (C.own p (List.mem_append_right _ h)) fun z => ?_
      have nd := C.nd
      rw [List.map_append] at nd
      exact (List.nodup_append.mp nd).2.2 _ z _ (List.mem_map_of_mem h) rfl
  ret := C.retTo r m
end
end Nd

end

section
set_option Elab.async false
set_option linter.all false
set_option maxRecDepth 100000
set_option maxHeartbeats 4000000
/-! Nd: enumerate and zip over lists and tuples, each of either kind (k: whether a tuple). -/
namespace Nd
open PySem PySem.Spec PyProof.Rows L2
/-- a sequence at l: a tuple, or a list; its iterator at it -/
def Sq (k : Bool) (h : Heap) (l : Addr) (items : Array Value) : Prop := cond k (h.IsTuple l items) (h.IsList l items)
def SqIt (k : Bool) (h : Heap) (it l : Addr) (i : Nat) : Prop := cond k (h.IsTupleIter it l i) (h.IsListIter it l i)
def SqV (k : Bool) (K : PySem.W.Frag) (H : Hp) (a : Addr) (xs : List V) : Prop := cond k (SqT K H a xs) (SqL K H a xs)
abbrev itName (k : Bool) : String := cond k "tuple_iterator" "list_iterator"
section
variable {h h' : Heap} {k : Bool} {a b l : Addr} {i : Nat} {items : Array Value}
theorem Sq.ext (x : Sq k h a items) (hs : Heap.ExtBut b h h') (n : a ≠ b) : Sq k h' a items := by
  cases k with
  | true => exact Heap.IsTuple.extBut x hs n
  | false => exact Heap.IsList.extBut x hs n
theorem SqIt.ext (x : SqIt k h a l i) (hs : Heap.ExtBut b h h') (n : a ≠ b) : SqIt k h' a l i := by
  cases k with
  | true => exact Heap.IsTupleIter.extBut x hs n
  | false => exact Heap.IsListIter.extBut x hs n
theorem SqIt.to (x : SqIt k h a l i) (e : ∀ o, h.get? a = some o → h'.get? a = some o) : SqIt k h' a l i := by
  cases k with
  | true => exact Heap.IsTupleIter.at x e
  | false => exact Heap.IsListIter.at x e
theorem SqIt.obj (x : SqIt k h a l i) : ∃ o, h.get? a = some o ∧ o.data = .fields #[.ref l, .int i 0] := by
  cases k with
  | true => obtain ⟨o, h1, _, h2⟩ := (show h.IsTupleIter a l i from x); exact ⟨o, h1, h2⟩
  | false => obtain ⟨o, h1, _, h2⟩ := (show h.IsListIter a l i from x); exact ⟨o, h1, h2⟩
theorem Sq.obj (x : Sq k h a items) : ∃ o, h.get? a = some o ∧ o.cls = .type (cond k "tuple" "list") := by
  cases k with
  | true => obtain ⟨o, h1, h2, _⟩ := (show h.IsTuple a items from x); exact ⟨o, h1, h2⟩
  | false => obtain ⟨o, h1, h2, _⟩ := (show h.IsList a items from x); exact ⟨o, h1, h2⟩
theorem Sq.push (x : Sq k h a items) (o : Obj) : Sq k (h.push o) a items := by
  cases k with
  | true => exact Heap.IsTuple.push x o
  | false => exact Heap.IsList.push x o
end
section
variable {prog : Program} {w : World} {A : Around} {E : Value → Shared → Prop} {s : Shared} {k k1 k2 : Bool}
theorem sq_item {it l : Addr} {i : Nat} {items : Array Value} {x : Value} {Q : Value → Shared → Prop} (hit : SqIt k s.heap it l i) (hl : Sq k s.heap l items) (hx : items[i]? = some x)
    (hQ : ∀ h', SqIt k h' it l (i + 1) → Heap.SameBut it s.heap h' → Q x { s with heap := h' }) : wpAny (model prog w) A (Builtin.SmallTypes.nextOf (.ref it)) Q E s := by
  cases k with
  | true => exact RZ.nextOf_tuple_item hit hl hx hQ
  | false => exact wpAny_nextOf_list_item hit hl hx hQ
theorem sq_end {it l : Addr} {i : Nat} {items : Array Value} {Q : Value → Shared → Prop} (hh : A.handled = none) (hit : SqIt k s.heap it l i) (hl : Sq k s.heap l items) (hx : items[i]? = none)
    (hE : ∀ h' e, Heap.ExtBut it s.heap h' → (∃ o, h'.get? e = some o ∧ o.cls = .type "StopIteration") → E (.ref e) { s with heap := h' }) : wpAny (model prog w) A (Builtin.SmallTypes.nextOf (.ref it)) Q E s := by
  cases k with
  | true => exact RZ.nextOf_tuple_end hh hit hl hx hE
  | false => exact wpAny_nextOf_list_end hh hit hl hx hE
theorem sq_iter {l : Addr} {items : Array Value} {Q : Value → Shared → Prop} (hl : Sq k s.heap l items)
    (hQ : Q (.ref s.heap.objs.size) { s with heap := s.heap.push { cls := .type (itName k), data := .fields #[.ref l, .int 0 0] } }) : wpAny (model prog w) A (pyIter (.ref l)) Q E s := by
  cases k with
  | true => exact wpAny_pyIter_tuple hl hQ
  | false => exact wpAny_pyIter_list hl hQ
theorem sq_new {l : Addr} {h : Heap} : SqIt k (h.push { cls := .type (itName k), data := .fields #[.ref l, .int 0 0] }) h.objs.size l 0 := by
  cases k with
  | true => exact ⟨_, Heap.get?_push_size _ rfl, rfl, rfl⟩
  | false => exact ⟨_, Heap.get?_push_size _ rfl, rfl, rfl⟩
/-- what draws from such an iterator -/
theorem sq_draws (hh : A.handled = none) (it l : Addr) (hne : l ≠ it) (items : Array Value) : Draws prog w A it [it, l] items.size (fun i v => items[i]? = some v) (fun i h => SqIt k h it l i ∧ Sq k h l items) where
  live := fun i h st => let ⟨o, e, _⟩ := st.1.obj; ⟨o, e⟩
  frame := fun i h h' st f => ⟨st.1.to fun o e => f it (by simp) o e, by
    have g : ∀ o, h.get? l = some o → h'.get? l = some o := fun o e => f l (by simp) o e
    cases k with
    | true => exact Heap.IsTuple.at st.2 g
    | false => exact Heap.IsList.at st.2 g⟩
  item := fun i s Q E hi st hQ => sq_item st.1 st.2 (Array.getElem?_eq_getElem hi) fun h' a b => hQ _ h' s.toks (Array.getElem?_eq_getElem hi) ⟨a, st.2.ext b.extBut hne⟩ b
  done := fun s Q E st hE => sq_end hh st.1 st.2 (Array.getElem?_eq_none (Nat.le_refl _)) hE
end
/-! ### enumerate -/
def IteV (k : Bool) (K : PySem.W.Frag) (a : Addr) : It :=
  ⟨fun i H => ∃ (xs : List V) (x : V), SqV k K H a xs ∧ xs[i]? = some x, fun i H v H' => ∃ T x, v = .ref T ∧ H T = none ∧ H' = upd H T (.tup [.int (i : Nat), x]) ∧ ∀ xs, SqV k K H a xs → xs[i]? = some x, fun i H => ∃ xs : List V, SqV k K H a xs ∧ xs.length ≤ i⟩
section
variable {X : Cx} {pins : List (Addr × Obj)} {σ : L2.St} {H : Hp} {s : Shared}
theorem sqv_get {k : Bool} {a : Addr} {xs : List V} (I : Inv X pins σ H s) (h : SqV k X.K H a xs) : ∃ its : List Value, Vals xs its ∧ Sq k s.heap a its.toArray := by
  cases k with
  | true => obtain ⟨its, rv, p, _⟩ := I.tuple h; exact ⟨its, rv, p⟩
  | false => obtain ⟨its, rv, p, _⟩ := I.list h; exact ⟨its, rv, p.isList⟩
theorem sqv_inj {k : Bool} {a : Addr} {xs ys : List V} (I : Inv X pins σ H s) (h : SqV k X.K H a xs) (h' : SqV k X.K H a ys) : xs = ys := by
  cases k with
  | true => exact I.tuple_inj h h'
  | false => exact I.list_inj h h'
end
theorem turn_enumV {P : Program} {w : World} {K : PySem.W.Frag} {elts : List Expr} {kk : Nat} {tpos : Pos} (k : Bool) (a e it : Addr) :
    Turn P w K (.Tuple elts kk tpos) (IteV k K a) [e, it] e (fun i h => (∃ old, IsEnum h e it ((i : Nat) : Int) old) ∧ SqIt k h it a i ∧ e ≠ it) where
  mem := List.mem_cons_self
  obj := fun i h st b hb => by
    obtain ⟨⟨old, he⟩, hi, _⟩ := st
    rcases List.mem_cons.mp hb with z | z
    · rw [z]; exact ⟨_, he, fun v q => nomatch q⟩
    · obtain ⟨o, ho, hd⟩ := hi.obj
      exact ⟨o, (List.mem_singleton.mp z) ▸ ho, fun v q => by rw [hd] at q; cases q⟩
  keep := fun i h h' st kp => ⟨st.1.elim fun old he => ⟨old, kp e (by simp) _ he⟩, st.2.1.to fun o q => kp it (by simp) o q, st.2.2⟩
  item := by
    intro X hP hw hK hc i pins s σ H E I hf st hg
    subst hP hw hK
    obtain ⟨⟨old, he⟩, hit, hne⟩ := st
    obtain ⟨xs, x, hq, hx⟩ := hg
    obtain ⟨its, rv, p⟩ := sqv_get I hq
    obtain ⟨u, hu, ru⟩ := rv.get hx
    obtain ⟨oa, hoa, hca⟩ := p.obj
    obtain ⟨oi, hoi, hdi⟩ := hit.obj
    have hel : e < s.heap.objs.size := Heap.lt_size he
    have hil : it < s.heap.objs.size := Heap.lt_size hoi
    have aie : a ≠ it := fun z => by
      subst z
      cases k with
      | true => obtain ⟨o1, e1, _, _, d1⟩ := (show s.heap.IsTuple a its.toArray from p); rw [hoi] at e1; cases e1; rw [hdi] at d1; cases d1
      | false => obtain ⟨o1, e1, _, _, d1⟩ := (show s.heap.IsList a its.toArray from p); rw [hoi] at e1; cases e1; rw [hdi] at d1; cases d1
    have aee : e ≠ a := fun z => by
      subst z
      rw [show s.heap.get? e = some _ from he] at hoa
      cases hoa
      cases k <;> simp at hca
    have hlt : i < its.toArray.size := by
      rcases Nat.lt_or_ge i its.toArray.size with g | g
      · exact g
      · rw [List.getElem?_eq_none (by simpa using g)] at hu; cases hu
    refine wpAny_pyNext_enum_itemD (sq_draws (show X.A.in1.handled = none from I.ok.hd hc) it a aie its.toArray) he ⟨hit, p⟩ hlt hne (by simp [hne, aee]) fun v h' tk hv ho hst hT hsz hk => ?_
    have ev : v = u := by
      have : its.toArray[i]? = some u := by simpa using hu
      rw [this] at hv; exact (Option.some.inj hv).symm
    subst ev
    refine ⟨_, rfl, wpAny_letOwnedTupleGo_enum (s := { s with heap := h', toks := tk + 1 }) ho fun h'' he' sb => ?_⟩
    have hT2 : h''.get? s.heap.objs.size = some { cls := .type "tuple", data := .seq #[.int i tk, v] } := (sb.2 _ (Nat.ne_of_gt hel)).trans hT
    have new : ObjOk X.prog X.w (upd H s.heap.objs.size (.tup [.int (i : Nat), x])) h'' s.heap.objs.size (.tup [.int (i : Nat), x]) :=
      ⟨by show 2 ≤ sizeLine; decide, [.int i tk, v], .cons ⟨_, rfl⟩ (.cons ru .nil), _, hT2, rfl, _, rfl⟩
    have I1 : Inv X pins σ (upd H s.heap.objs.size (.tup [.int (i : Nat), x])) { s with heap := h'', toks := tk + 1 } :=
      I.turnedNew (ch := [e, it]) (fun b ob hb q => by
        have b1 : b ≠ e := fun z => hb (by simp [z])
        have b2 : b ≠ it := fun z => hb (by simp [z])
        exact (sb.2 b b1).trans (hk b ob b1 b2 q)) hf (Nat.le_refl _) new
    refine ⟨.ref s.heap.objs.size, _, I1, rfl, ⟨_, x, rfl, I.hok.fresh (Nat.le_refl _), rfl, fun ys hy => (sqv_inj I hy hq) ▸ hx⟩, ⟨⟨v, ?_⟩, hst.1.to fun o q => (sb.2 it (Ne.symm hne)).trans q, hne⟩, fun b hb => ?_⟩
    · rw [show ((i + 1 : Nat) : Int) = (i : Int) + 1 from Int.natCast_succ i]; exact he'
    · have hb' : b < s.heap.objs.size := by
        rcases List.mem_cons.mp hb with z | z
        · exact z ▸ hel
        · exact (List.mem_singleton.mp z) ▸ hil
      rw [upd_ne (Nat.ne_of_lt hb')]
      exact (hf b hb).1
  done := by
    intro X hP hw hK hc i pins s σ H E I hf st hg
    subst hP hw hK
    obtain ⟨⟨old, he⟩, hit, hne⟩ := st
    obtain ⟨xs, hq, hx⟩ := hg
    obtain ⟨its, rv, p⟩ := sqv_get I hq
    obtain ⟨f0, f1, f2, f3, f4, f5⟩ := hf it (by simp)
    have hl := rv.length
    have fin : ∀ h', Heap.ExtBut it s.heap h' → (none : Option Value) = none ∧ Inv X pins σ H { s with heap := h' } := fun h' eb => ⟨rfl, I.turned (t' := s.toks) (fun b o hb q => eb b o hb q) f0 f1 f3 f4 f5⟩
    have hnone : its.toArray[i]? = none := Array.getElem?_eq_none (by simp only [List.size_toArray]; omega)
    have hT : s.TypeIs (.ref e) "enumerate" := ⟨_, he, rfl⟩
    unfold pyNext
    refine wpAny_bind (wpAny_attempt (wpAny_callSpecial?_slot (name := Str.ofString "__next__") hT F.slot_enumerate_next (wpAny_call_entry F.slot_enumerate_next hT F.entry_enumerate_next ?_ (F.args_enumerate_next_1 _))))
    show wpAny _ _ (field (.ref e) 2 >>= _) _ _ _
    refine wpAny_bind (wpAny_field he rfl (x := .ref it) rfl (wpAny_bind (sq_end (I.ok.hd hc) hit p hnone fun h' x he' hx' => ?_)))
    obtain ⟨o, ho, hcx⟩ := hx'
    exact wpAny_bind (wpAny_isInstance (T := "StopIteration") (b := true) ⟨o, ho, hcx⟩ isSubtype_stop (wpAny_pure (fin _ he')))
  self := fun A i s Q E st h => st.1.elim fun _ he => wpAny_pyIter_enum he h
theorem meets_enumV {k : Bool} (l : Addr) (items : Array Value) : Meets (Builtin.«enumerate.__new__» ⟨[.type "enumerate", .ref l], []⟩) (fun _ R s => Sq k s.heap l items ∧
      R (.ok (.ret (.ref (s.heap.push { cls := .type (itName k), data := .fields #[.ref l, .int 0 0] }).objs.size)))
        { s with heap := (s.heap.push { cls := .type (itName k), data := .fields #[.ref l, .int 0 0] }).push { cls := .type "enumerate", data := .fields #[.none, .bool false, .ref s.heap.objs.size, rawInt 0, .none, .none] } }) :=
  .of_wp fun prog w A R s h => by
    obtain ⟨hp, g, d, tk, os⟩ := s
    obtain ⟨hl, h⟩ := h
    have hsub := sub_enumerate
    have hL : Sq k (Shared.heap ⟨hp, g, d, tk, os⟩) l items := hl
    obtain ⟨o, ho, hco⟩ := hl.obj
    obtain ⟨c, dct, dt, sl⟩ := o
    replace hco : c = .type (cond k "tuple" "list") := hco
    subst hco
    cases k with
    | true =>
      wp_walk using AutoSeq1.wpAny_loadPart' ho
      refine wpAny_stack_any fun st => wpAny_pure ?_
      split
      · rename_i c _ _ _ _ _
        cases (c == Value.type "enumerate")
        · wp_walk using AutoSeq1.wpAny_loadPart' ho, sq_iter hL
          exact ⟨_, rfl, h⟩
        · wp_walk using AutoSeq1.wpAny_loadPart' ho, sq_iter hL
          exact ⟨_, rfl, h⟩
      · wp_walk using AutoSeq1.wpAny_loadPart' ho, sq_iter hL
        exact ⟨_, rfl, h⟩
    | false =>
      wp_walk using AutoSeq1.wpAny_loadPart' ho
      refine wpAny_stack_any fun st => wpAny_pure ?_
      split
      · rename_i c _ _ _ _ _
        cases (c == Value.type "enumerate")
        · wp_walk using AutoSeq1.wpAny_loadPart' ho, sq_iter hL
          exact ⟨_, rfl, h⟩
        · wp_walk using AutoSeq1.wpAny_loadPart' ho, sq_iter hL
          exact ⟨_, rfl, h⟩
      · wp_walk using AutoSeq1.wpAny_loadPart' ho, sq_iter hL
        exact ⟨_, rfl, h⟩
section
variable {prog : Program} {w : World} {A : Around} {E : Value → Shared → Prop} {s : Shared} {k : Bool}
theorem call_enumV {l : Addr} {items : Array Value} {Q : Value → Shared → Prop} (hL : Sq k s.heap l items)
    (h : ∀ h', IsEnum h' (s.heap.objs.size + 1) s.heap.objs.size 0 .none → SqIt k h' s.heap.objs.size l 0 → (∀ b o, s.heap.get? b = some o → h'.get? b = some o) → Q (.ref (s.heap.objs.size + 1)) { s with heap := h' }) :
    wpAny (model prog w) A (call (.type "enumerate") [.ref l]) Q E s := by
  refine callType_new F.called_enumerate (by decide) (F.typeCall_enumerate_1 _) (F.newCall_enumerate_1 _) (fun obj => F.args_object_init_2 obj _) F.entry_enumerate_new (meets_enumV (k := k) l items) ⟨hL, ?_⟩
  have hz : (s.heap.push { cls := .type (itName k), data := .fields #[.ref l, .int 0 0] }).objs.size = s.heap.objs.size + 1 := Heap.size_push ..
  have he := Heap.get?_push_size (s.heap.push { cls := .type (itName k), data := .fields #[.ref l, .int 0 0] }) (o := { cls := .type "enumerate", data := .fields #[.none, .bool false, .ref s.heap.objs.size, rawInt 0, .none, .none] }) rfl
  show _ ∧ _
  rw [hz] at he ⊢
  exact ⟨⟨_, he, rfl⟩, h _ he (SqIt.to (sq_new (k := k) (l := l)) fun o e => Heap.get?_push_of_some _ e) fun b o x => Heap.get?_push_of_some _ (Heap.get?_push_of_some _ x)⟩
end
def iEnumV (k : Bool) (K : PySem.W.Frag) (ta : TA) : TI := fun σ H R => ta σ H fun vs H1 => ∃ a xs, vs = [.ref a] ∧ SqV k K H1 a xs ∧ R (IteV k K a) H1
theorem pi_enumV {X : Cx} (k : Bool) {e : Expr} {ta : TA} {p pos tpos : Pos} {elts : List Expr} {kk : Nat} (hg : Gl X "enumerate") (hm : X.mg "enumerate" = none) (ha : PA X [e] ta) (hs : starEach [e] X.env = [(false, eval e X.env)] := by rfl) :
    PI X (.Tuple elts kk tpos) (.Call (.Name "enumerate" p) [e] [] pos) (iEnumV k X.K ta) := by
  refine ⟨fun pins s σ H R I h => Call_ (ld_blt I hg hm boot_enumerate (PyProof.Rows.callWith_type1 (thn (ha.run pos pins s σ H _ I h) fun us s1 ⟨vs, H1, I1, r1, q1⟩ => ?_) hs rfl))⟩
  obtain ⟨a, xs, ex, hq, q⟩ := q1
  subst ex
  cases r1 with
  | cons r rr =>
    cases rr
    cases r
    obtain ⟨its, rv, p'⟩ := sqv_get I1 hq
    refine call_enumV p' fun h' he hit hk => wpAny_pyIter_enum he ?_
    have I2 : Inv X pins σ H1 { s1 with heap := h' } := I1.kept (t' := s1.toks) hk
    refine ⟨s1.heap.objs.size + 1, [s1.heap.objs.size + 1, s1.heap.objs.size], _, _, H1, rfl, I2, turn_enumV k a (s1.heap.objs.size + 1) s1.heap.objs.size, ⟨⟨.none, he⟩, hit, Nat.succ_ne_self _⟩, fun b hb => ?_, q⟩
    have hle : s1.heap.objs.size ≤ b := by
      rcases List.mem_cons.mp hb with z | z
      · rw [z]; exact Nat.le_succ _
      · rw [List.mem_singleton.mp z]; exact Nat.le_refl _
    exact I1.fpOk hle (I1.hok.fresh hle)
section
variable {D : Ends} {σ : L2.St} {H : Hp} {Q : VK} {K : PySem.W.Frag} {g : TG} {t : TS} {tt : TT} {te : TE} {tl : TA} {k : Bool} {a : Addr} {xs : List V}
theorem u_enum {R : It → Hp → Prop} (h : tl σ H fun vs H1 => ∃ a xs, vs = [.ref a] ∧ SqV k K H1 a xs ∧ R (IteV k K a) H1) : iEnumV k K tl σ H R := h
theorem k_enum {A : Addr → Prop} (hs : SqV k K H a xs) (h : A a) : ∃ a' xs, [V.ref a] = [.ref a'] ∧ SqV k K H a' xs ∧ A a' := ⟨a, xs, rfl, hs, h⟩
theorem for_e (P : Nat → L2.St → Hp → Prop) (h0 : P 0 σ H) (hl : ∀ i σ H, i ≤ xs.length → P i σ H → SqV k K H a xs)
    (hs : ∀ i x σ H, xs[i]? = some x → P i σ H → NewO (fun v H1 => g v σ H1 fun σ2 H2 => t { D with nx := P (i + 1), ct := P (i + 1), bk := D.nx } σ2 H2) H (.tup [.int (i : Nat), x])) (hd : ∀ σ H, P xs.length σ H → D.nx σ H) : ForO (IteV k K a) g t D σ H := by
  refine ⟨fun i m σ H => m = xs.length - i ∧ i ≤ xs.length ∧ P i σ H, ⟨xs.length, by simp, Nat.zero_le _, h0⟩, ?_⟩
  rintro i m σ H ⟨rfl, hi, p⟩
  have q := hl i σ H hi p
  by_cases hlt : i < xs.length
  · refine .inr ⟨⟨xs, xs[i], q, by simp [hlt]⟩, P (i + 1), fun σ' H' p' => ⟨xs.length - (i + 1), by omega, rfl, hlt, p'⟩, fun v H' y => ?_⟩
    obtain ⟨T, x, rfl, hT, rfl, hx⟩ := y
    exact hs i x σ H (hx xs q) p T hT
  · obtain rfl : i = xs.length := by omega
    exact .inl ⟨⟨xs, q, Nat.le_refl _⟩, hd σ H p⟩
theorem lc_e {H0 : Hp} {S : List Addr} {L : List (Addr × HO)} {vs : List Nat} (c : Cur H0 S H L) (P : Addr → Nat → Hp → Prop) (h0 : ∀ D H1, H0 D = none → Cur H0 S H1 ((D, .lst []) :: L) → P D 0 H1) (hl : ∀ D i H, i ≤ xs.length → P D i H → SqV k K H a xs)
    (hs : ∀ D i x H, H0 D = none → xs[i]? = some x → P D i H → NewO (fun v H1 => g v (wipe σ vs) H1 fun σ2 H2 => wipe σ2 vs = wipe σ vs ∧ tt σ2 H2 fun b H3 =>
      if b = true then te σ2 H3 fun y H4 => ∃ acc, H4 D = some (.lst acc) ∧ acc.length < sizeLine ∧ ModO (P D (i + 1)) H4 D (.lst (acc ++ [y])) else P D (i + 1) H3) H (.tup [.int (i : Nat), x])) (hd : ∀ D H, H0 D = none → P D xs.length H → Q (.ref D) H) : LcO (IteV k K a) g tt te vs σ H Q := by
  intro D hD
  refine ⟨fun i m H => m = xs.length - i ∧ i ≤ xs.length ∧ P D i H, ⟨xs.length, by simp, Nat.zero_le _, h0 D _ (c.fresh hD) (c.new hD)⟩, ?_⟩
  rintro i m H ⟨rfl, hi, p⟩
  have q := hl D i H hi p
  by_cases hlt : i < xs.length
  · refine .inr ⟨⟨xs, xs[i], q, by simp [hlt]⟩, P D (i + 1), fun H' p' => ⟨xs.length - (i + 1), by omega, rfl, hlt, p'⟩, fun v H' y => ?_⟩
    obtain ⟨T, x, rfl, hT, rfl, hx⟩ := y
    exact hs D i x H (c.fresh hD) (hx xs q) p T hT
  · obtain rfl : i = xs.length := by omega
    exact .inl ⟨⟨xs, q, Nat.le_refl _⟩, hd D H (c.fresh hD) p⟩
end
end Nd

end

section
set_option Elab.async false
set_option linter.all false
set_option maxRecDepth 100000
set_option maxHeartbeats 4000000
/-! Nd: zip of two sequences, each a list or a tuple. -/
namespace Nd
open PySem PySem.Spec PyProof.Rows L2
section
variable {prog : Program} {w : World} {A : Around} {E : Value → Shared → Prop} {s : Shared} {k1 k2 : Bool}
/-- zip's own state ahead of a draw: its pair of iterators, its kept pair -/
structure ZipSt (k1 k2 : Bool) (h : Heap) (z TI TO i1 i2 l1 l2 : Addr) (n : Nat) : Prop where
  D : ZipApart z TI TO i1 i2 l1 l2
  hz : IsZip h z TI TO .none
  hTI : PySem.IsPair h TI (.ref i1) (.ref i2)
  hTO : ∃ a b, PySem.IsPair h TO a b
  h1 : SqIt k1 h i1 l1 n
  h2 : SqIt k2 h i2 l2 n
theorem zip_item {z TI TO i1 i2 l1 l2 : Addr} {n : Nat} {xs ys : Array Value} {x y : Value} {Q : Option Value → Shared → Prop} (Z : ZipSt k1 k2 s.heap z TI TO i1 i2 l1 l2 n) (hl1 : Sq k1 s.heap l1 xs) (hl2 : Sq k2 s.heap l2 ys) (hx : xs[n]? = some x) (hy : ys[n]? = some y)
    (hQ : ∀ h', IsZip h' z TI TO (rawInt s.heap.objs.size) → PySem.IsPair h' TO x y → SqIt k1 h' i1 l1 (n + 1) → SqIt k2 h' i2 l2 (n + 1) → PySem.IsPair h' s.heap.objs.size x y →
      (∀ c o, c ≠ z → c ≠ TO → c ≠ i1 → c ≠ i2 → s.heap.get? c = some o → h'.get? c = some o) → Q (some (.ref s.heap.objs.size)) { s with heap := h' }) : wpAny (model prog w) A (pyNext (.ref z)) Q E s := by
  obtain ⟨D, hz, hTI, ⟨a, b, hTO⟩, h1, h2⟩ := Z
  have hT : s.TypeIs (.ref z) "zip" := ⟨_, hz, rfl⟩
  unfold pyNext
  refine wpAny_bind (wpAny_attempt (wpAny_callSpecial?_slot (name := Str.ofString "__next__") hT F.slot_zip_next (wpAny_call_entry F.slot_zip_next hT F.entry_zip_next ?_ (F.args_zip_next_1 _))))
  show wpAny _ _ (field (.ref z) 2 >>= _) _ _ _
  refine wpAny_bind (wpAny_field hz rfl (x := .bool false) rfl ?_)
  show wpAny _ _ (field (.ref z) 3 >>= _) _ _ _
  refine wpAny_bind (wpAny_field hz rfl (x := .ref TI) rfl (wpAny_bind (wpAny_seqItems hTI rfl ?_)))
  show wpAny _ _ (Builtin.SmallTypes.ownedTupleIsFree (.ref z) >>= _) _ _ _
  refine wpAny_bind ?_
  unfold Builtin.SmallTypes.ownedTupleIsFree
  refine wpAny_bind (wpAny_field hz rfl (x := .none) rfl (wpAny_pure ?_))
  simp only [if_true]
  refine wpAny_bind (wpAny_rule (wpAny_bind (wpAny_field hz rfl (x := .ref TO) rfl (wpAny_bind (wpAny_setField_rec hz (by simp) fun g1 z1 b1 => ?_)))))
  replace z1 : IsZip g1 z TI TO .ellipsis := z1
  refine wpAny_bind ?_
  simp only [List.zipIdx_cons, List.zipIdx_nil, List.forIn_cons, List.forIn_nil]
  -- the first iterator
  refine wpAny_bind (wpAny_bind (wpAny_onRaise ?_))
  show wpAny _ _ (Builtin.SmallTypes.nextOf (.ref i1) >>= _) _ _ _
  refine wpAny_bind (sq_item (h1.ext b1.extBut D.i1z) (hl1.ext b1.extBut D.l1z) hx fun g2 n1 b2 => wpAny_pure ?_)
  have p2 : PySem.IsPair g2 TO a b := b2.extBut _ _ D.TOi1 (b1.extBut _ _ D.TOz hTO)
  refine wpAny_bind (wpAny_seqItems p2 rfl (wpAny_bind (wpAny_updateSeq_pair p2 fun g3 p3 b3 => wpAny_bind (wpAny_letGo (wpAny_pure ?_)))))
  replace p3 : PySem.IsPair g3 TO x b := p3
  -- the second one
  refine wpAny_bind (wpAny_bind (wpAny_onRaise ?_))
  show wpAny _ _ (Builtin.SmallTypes.nextOf (.ref i2) >>= _) _ _ _
  refine wpAny_bind (sq_item (((h2.ext b1.extBut D.i2z).ext b2.extBut D.i12.symm).ext b3.extBut D.TOi2.symm) (((hl2.ext b1.extBut D.l2z).ext b2.extBut D.l2i1).ext b3.extBut D.l2TO) hy fun g4 n2 b4 => wpAny_pure ?_)
  have p4 : PySem.IsPair g4 TO x b := b4.extBut _ _ D.TOi2 p3
  refine wpAny_bind (wpAny_seqItems p4 rfl (wpAny_bind (wpAny_updateSeq_pair p4 fun g5 p5 b5 => wpAny_bind (wpAny_letGo (wpAny_pure (wpAny_pure ?_))))))
  replace p5 : PySem.IsPair g5 TO x y := p5
  refine wpAny_bind (wpAny_seqItems p5 rfl (wpAny_bind (wpAny_newTuple ?_)))
  have sz : g5.objs.size = s.heap.objs.size := by rw [b5.1, b4.1, b3.1, b2.1, b1.1]
  have z5 : IsZip g5 z TI TO .ellipsis := b5.extBut _ _ D.TOz.symm (b4.extBut _ _ D.i2z.symm (b3.extBut _ _ D.TOz.symm (b2.extBut _ _ D.i1z.symm z1)))
  have n15 : SqIt k1 g5 i1 l1 (n + 1) := ((n1.ext b3.extBut D.TOi1.symm).ext b4.extBut D.i12).ext b5.extBut D.TOi1.symm
  have n25 : SqIt k2 g5 i2 l2 (n + 1) := n2.ext b5.extBut D.TOi2.symm
  have zl : z < g5.objs.size := Heap.lt_size z5
  show wpAny _ _ (Builtin.SmallTypes.ownedTupleHandOut (.ref z) (.ref g5.objs.size) >>= _) _ _ _
  refine wpAny_bind ?_
  unfold Builtin.SmallTypes.ownedTupleHandOut
  have z6 : IsZip (g5.push { cls := .type "tuple", data := .seq #[x, y] }) z TI TO .ellipsis := Heap.get?_push_of_some _ z5
  refine wpAny_bind (wpAny_setField_rec z6 (by simp) fun g7 z7 b7 => ?_)
  replace z7 : IsZip g7 z TI TO (rawInt g5.objs.size) := z7
  refine wpAny_setField_rec z7 (by simp) fun g8 z8 b8 => ?_
  replace z8 : IsZip g8 z TI TO (rawInt g5.objs.size) := z8
  have up : ∀ c o, c ≠ z → g5.get? c = some o → g8.get? c = some o := fun c o c1 e => b8.extBut _ _ c1 (b7.extBut _ _ c1 (Heap.get?_push_of_some _ e))
  have t8 : PySem.IsPair g8 g5.objs.size x y := b8.extBut _ _ (Nat.ne_of_gt zl) (b7.extBut _ _ (Nat.ne_of_gt zl) (Heap.get?_push_size _ rfl))
  rw [sz] at z8 t8
  refine wpAny_pure ⟨_, rfl, ?_⟩
  show wpAny _ _ _ _ _ _
  rw [sz]
  exact wpAny_pure (hQ g8 z8 (up _ _ D.TOz p5) (n15.to fun o e => up _ o D.i1z e) (n25.to fun o e => up _ o D.i2z e) t8 fun c o c1 c2 c3 c4 e =>
    up c o c1 (b5.extBut _ _ c2 (b4.extBut _ _ c4 (b3.extBut _ _ c2 (b2.extBut _ _ c3 (b1.extBut _ _ c1 e))))))
theorem zip_end {z TI TO i1 i2 l1 l2 : Addr} {n : Nat} {xs ys : Array Value} {Q : Option Value → Shared → Prop} (hh : A.handled = none) (Z : ZipSt k1 k2 s.heap z TI TO i1 i2 l1 l2 n) (hl1 : Sq k1 s.heap l1 xs) (hl2 : Sq k2 s.heap l2 ys) (hend : xs[n]? = none ∨ ys[n]? = none)
    (hQ : ∀ h', (∀ c o, c ≠ z → c ≠ TO → c ≠ i1 → c ≠ i2 → s.heap.get? c = some o → h'.get? c = some o) → Q none { s with heap := h' }) : wpAny (model prog w) A (pyNext (.ref z)) Q E s := by
  obtain ⟨D, hz, hTI, ⟨a, b, hTO⟩, h1, h2⟩ := Z
  have hT : s.TypeIs (.ref z) "zip" := ⟨_, hz, rfl⟩
  unfold pyNext
  refine wpAny_bind (wpAny_attempt (wpAny_callSpecial?_slot (name := Str.ofString "__next__") hT F.slot_zip_next (wpAny_call_entry F.slot_zip_next hT F.entry_zip_next ?_ (F.args_zip_next_1 _))))
  show wpAny _ _ (field (.ref z) 2 >>= _) _ _ _
  refine wpAny_bind (wpAny_field hz rfl (x := .bool false) rfl ?_)
  show wpAny _ _ (field (.ref z) 3 >>= _) _ _ _
  refine wpAny_bind (wpAny_field hz rfl (x := .ref TI) rfl (wpAny_bind (wpAny_seqItems hTI rfl ?_)))
  show wpAny _ _ (Builtin.SmallTypes.ownedTupleIsFree (.ref z) >>= _) _ _ _
  refine wpAny_bind ?_
  unfold Builtin.SmallTypes.ownedTupleIsFree
  refine wpAny_bind (wpAny_field hz rfl (x := .none) rfl (wpAny_pure ?_))
  simp only [if_true]
  refine wpAny_bind (wpAny_rule (wpAny_bind (wpAny_field hz rfl (x := .ref TO) rfl (wpAny_bind (wpAny_setField_rec hz (by simp) fun g1 z1 b1 => ?_)))))
  replace z1 : IsZip g1 z TI TO .ellipsis := z1
  refine wpAny_bind ?_
  simp only [List.zipIdx_cons, List.zipIdx_nil, List.forIn_cons, List.forIn_nil]
  refine wpAny_bind (wpAny_bind (wpAny_onRaise ?_))
  show wpAny _ _ (Builtin.SmallTypes.nextOf (.ref i1) >>= _) _ _ _
  cases hx : xs[n]? with
  | none =>
    refine wpAny_bind (sq_end hh (h1.ext b1.extBut D.i1z) (hl1.ext b1.extBut D.l1z) hx fun g2 e b2 he => ?_)
    obtain ⟨oe, hoe, hce⟩ := he
    have z2 : IsZip g2 z TI TO .ellipsis := b2 _ _ D.i1z.symm z1
    have ez : e ≠ z := fun q => by subst q; rw [z2] at hoe; cases hoe; simp at hce
    refine wpAny_setField_rec z2 (by simp) fun g3 _ b3 => ?_
    exact wpAny_bind (wpAny_isInstance (T := "StopIteration") (b := true) ⟨oe, b3.extBut _ _ ez hoe, hce⟩ isSubtype_stop (wpAny_pure (hQ _ fun c o c1 _ c3 _ q => b3.extBut _ _ c1 (b2 _ _ c3 (b1.extBut _ _ c1 q)))))
  | some x =>
    have hy : ys[n]? = none := hend.elim (fun q => by rw [hx] at q; cases q) id
    refine wpAny_bind (sq_item (h1.ext b1.extBut D.i1z) (hl1.ext b1.extBut D.l1z) hx fun g2 n1 b2 => wpAny_pure ?_)
    have p2 : PySem.IsPair g2 TO a b := b2.extBut _ _ D.TOi1 (b1.extBut _ _ D.TOz hTO)
    refine wpAny_bind (wpAny_seqItems p2 rfl (wpAny_bind (wpAny_updateSeq_pair p2 fun g3 p3 b3 => wpAny_bind (wpAny_letGo (wpAny_pure ?_)))))
    refine wpAny_bind (wpAny_bind (wpAny_onRaise ?_))
    show wpAny _ _ (Builtin.SmallTypes.nextOf (.ref i2) >>= _) _ _ _
    refine wpAny_bind (sq_end hh (((h2.ext b1.extBut D.i2z).ext b2.extBut D.i12.symm).ext b3.extBut D.TOi2.symm) (((hl2.ext b1.extBut D.l2z).ext b2.extBut D.l2i1).ext b3.extBut D.l2TO) hy fun g4 e b4 he => ?_)
    obtain ⟨oe, hoe, hce⟩ := he
    have z4 : IsZip g4 z TI TO .ellipsis := b4 _ _ D.i2z.symm (b3.extBut _ _ D.TOz.symm (b2.extBut _ _ D.i1z.symm z1))
    have ez : e ≠ z := fun q => by subst q; rw [z4] at hoe; cases hoe; simp at hce
    refine wpAny_setField_rec z4 (by simp) fun g5 _ b5 => ?_
    exact wpAny_bind (wpAny_isInstance (T := "StopIteration") (b := true) ⟨oe, b5.extBut _ _ ez hoe, hce⟩ isSubtype_stop (wpAny_pure (hQ _ fun c o c1 c2 c3 c4 q => b5.extBut _ _ c1 (b4 _ _ c4 (b3.extBut _ _ c2 (b2.extBut _ _ c3 (b1.extBut _ _ c1 q)))))))
/-! the call -/
abbrev zH1 (k : Bool) (h : Heap) (l : Addr) : Heap := h.push { cls := .type (itName k), data := .fields #[.ref l, .int 0 0] }
abbrev zH2 (k1 k2 : Bool) (h : Heap) (l1 l2 : Addr) : Heap := zH1 k2 (zH1 k1 h l1) l2
abbrev zH3 (k1 k2 : Bool) (h : Heap) (l1 l2 : Addr) : Heap := (zH2 k1 k2 h l1 l2).push { cls := .type "tuple", data := .seq #[.ref h.objs.size, .ref (zH1 k1 h l1).objs.size] }
abbrev zH4 (k1 k2 : Bool) (h : Heap) (l1 l2 : Addr) : Heap := (zH3 k1 k2 h l1 l2).push { cls := .type "tuple", data := .seq #[.none, .none] }
abbrev zH5 (k1 k2 : Bool) (h : Heap) (l1 l2 : Addr) : Heap := (zH4 k1 k2 h l1 l2).push { cls := .type "zip", data := .fields #[.none, .bool false, .bool false, .ref (zH2 k1 k2 h l1 l2).objs.size, .ref (zH3 k1 k2 h l1 l2).objs.size] }
theorem meets_zipV {k1 k2 : Bool} (l1 l2 : Addr) (xs ys : Array Value) :
    Meets (Builtin.«zip.__new__» ⟨[.type "zip", .ref l1, .ref l2], []⟩) (fun _ R s => Sq k1 s.heap l1 xs ∧ Sq k2 s.heap l2 ys ∧ R (.ok (.ret (.ref (zH4 k1 k2 s.heap l1 l2).objs.size))) { s with heap := zH5 k1 k2 s.heap l1 l2 }) :=
  .of_wp fun prog w A R s h => by
    obtain ⟨hp, g, d, tk, os⟩ := s
    obtain ⟨hl1, hl2, h⟩ := h
    have hsub := sub_zip
    have a1 : Sq k1 (Shared.heap ⟨hp, g, d, tk, os⟩) l1 xs := hl1
    have a2 : Sq k2 (Shared.heap ⟨hp.push { cls := .type (itName k1), data := .fields #[.ref l1, .int 0 0] }, g, d, tk, os⟩) l2 ys := Sq.push hl2 _
    wp_walk using sq_iter a1, sq_iter a2
    exact ⟨_, rfl, h⟩
theorem call_zipV {l1 l2 : Addr} {xs ys : Array Value} {Q : Value → Shared → Prop} (hl1 : Sq k1 s.heap l1 xs) (hl2 : Sq k2 s.heap l2 ys) (b1 : l1 < s.heap.objs.size) (b2 : l2 < s.heap.objs.size)
    (h : ∀ h', ZipSt k1 k2 h' (s.heap.objs.size + 4) (s.heap.objs.size + 2) (s.heap.objs.size + 3) s.heap.objs.size (s.heap.objs.size + 1) l1 l2 0 → (∀ c o, s.heap.get? c = some o → h'.get? c = some o) → Q (.ref (s.heap.objs.size + 4)) { s with heap := h' }) :
    wpAny (model prog w) A (call (.type "zip") [.ref l1, .ref l2]) Q E s := by
  refine callType_new F.called_zip (by decide) (F.typeCall_zip_2 _ _) (F.newCall_zip_2 _ _) (fun obj => F.args_object_init_3 obj _ _) F.entry_zip_new (meets_zipV (k1 := k1) (k2 := k2) l1 l2 xs ys) ⟨hl1, hl2, ?_⟩
  have e1 : (zH1 k1 s.heap l1).objs.size = s.heap.objs.size + 1 := Heap.size_push ..
  have e2 : (zH2 k1 k2 s.heap l1 l2).objs.size = s.heap.objs.size + 2 := by rw [Heap.size_push, e1]
  have e3 : (zH3 k1 k2 s.heap l1 l2).objs.size = s.heap.objs.size + 3 := by rw [Heap.size_push, e2]
  have e4 : (zH4 k1 k2 s.heap l1 l2).objs.size = s.heap.objs.size + 4 := by rw [Heap.size_push, e3]
  have up1 : ∀ c o, s.heap.get? c = some o → (zH1 k1 s.heap l1).get? c = some o := fun c o q => Heap.get?_push_of_some _ q
  have up5 : ∀ c o, (zH2 k1 k2 s.heap l1 l2).get? c = some o → (zH5 k1 k2 s.heap l1 l2).get? c = some o := fun c o q => Heap.get?_push_of_some _ (Heap.get?_push_of_some _ (Heap.get?_push_of_some _ q))
  have g5 : (zH5 k1 k2 s.heap l1 l2).get? (zH4 k1 k2 s.heap l1 l2).objs.size = some _ := Heap.get?_push_size _ rfl
  have g4 : (zH5 k1 k2 s.heap l1 l2).get? (zH3 k1 k2 s.heap l1 l2).objs.size = some _ := Heap.get?_push_of_some _ (Heap.get?_push_size _ rfl)
  have g3 : (zH5 k1 k2 s.heap l1 l2).get? (zH2 k1 k2 s.heap l1 l2).objs.size = some _ := Heap.get?_push_of_some _ (Heap.get?_push_of_some _ (Heap.get?_push_size _ rfl))
  have g2 : SqIt k2 (zH5 k1 k2 s.heap l1 l2) (zH1 k1 s.heap l1).objs.size l2 0 := SqIt.to (sq_new (k := k2) (l := l2)) fun o q => up5 _ o q
  have g1 : SqIt k1 (zH5 k1 k2 s.heap l1 l2) s.heap.objs.size l1 0 := SqIt.to (sq_new (k := k1) (l := l1)) fun o q => up5 _ o (Heap.get?_push_of_some _ q)
  show _ ∧ _
  rw [e2, e3, e4] at g5
  rw [e1, e2] at g3
  rw [e3] at g4
  rw [e1] at g2
  rw [e4]
  exact ⟨⟨_, g5, rfl⟩, h _ ⟨PySem.W.ktu_apart _ _ _ b1 b2, g5, g3, ⟨_, _, g4⟩, g1, g2⟩ fun c o q => up5 c o (Heap.get?_push_of_some _ (up1 c o q))⟩
end
/-! ### the walk -/
def ItzV (k1 k2 : Bool) (K : PySem.W.Frag) (a b : Addr) : It :=
  ⟨fun i H => ∃ (xs ys : List V) (x y : V), SqV k1 K H a xs ∧ SqV k2 K H b ys ∧ xs[i]? = some x ∧ ys[i]? = some y,
    fun i H v H' => ∃ T x y, v = .ref T ∧ H T = none ∧ H' = upd H T (.tup [x, y]) ∧ (∀ xs, SqV k1 K H a xs → xs[i]? = some x) ∧ ∀ ys, SqV k2 K H b ys → ys[i]? = some y,
    fun i H => ∃ xs ys : List V, SqV k1 K H a xs ∧ SqV k2 K H b ys ∧ (xs.length ≤ i ∨ ys.length ≤ i)⟩
theorem turn_zipV {P : Program} {w : World} {K : PySem.W.Frag} {elts : List Expr} {kk : Nat} {tpos : Pos} {k1 k2 : Bool} {a b z TI TO i1 i2 : Addr} :
    Turn P w K (.Tuple elts kk tpos) (ItzV k1 k2 K a b) [z, TI, TO, i1, i2] z (fun i h => ZipSt k1 k2 h z TI TO i1 i2 a b i) where
  mem := List.mem_cons_self
  obj := fun i h st c hc => by
    obtain ⟨D, hz, hTI, ⟨x, y, hTO⟩, h1, h2⟩ := st
    obtain ⟨o1, e1, d1⟩ := h1.obj
    obtain ⟨o2, e2, d2⟩ := h2.obj
    have e' : c = z ∨ c = TI ∨ c = TO ∨ c = i1 ∨ c = i2 := by simpa using hc
    rcases e' with q | q | q | q | q <;> rw [q]
    · exact ⟨_, hz, fun v q => nomatch q⟩
    · exact ⟨_, hTI, fun v q => nomatch q⟩
    · exact ⟨_, hTO, fun v q => nomatch q⟩
    · exact ⟨o1, e1, fun v q => by rw [d1] at q; cases q⟩
    · exact ⟨o2, e2, fun v q => by rw [d2] at q; cases q⟩
  keep := fun i h h' st kp => by
    obtain ⟨D, hz, hTI, ⟨x, y, hTO⟩, h1, h2⟩ := st
    exact ⟨D, kp z (by simp) _ hz, kp TI (by simp) _ hTI, ⟨x, y, kp TO (by simp) _ hTO⟩, h1.to fun o q => kp i1 (by simp) o q, h2.to fun o q => kp i2 (by simp) o q⟩
  item := by
    intro X hP hw hK hc i pins s σ H E I hf st hg
    subst hP hw hK
    obtain ⟨xs, ys, x, y, hqx, hqy, hx, hy⟩ := hg
    obtain ⟨its, rv, p⟩ := sqv_get I hqx
    obtain ⟨its2, rv2, p2⟩ := sqv_get I hqy
    obtain ⟨u, hu, ru⟩ := rv.get hx
    obtain ⟨u2, hu2, ru2⟩ := rv2.get hy
    have st' := st
    obtain ⟨D, hz, hTI, ⟨x0, y0, hTO⟩, h1, h2⟩ := st'
    obtain ⟨o1, q1, _⟩ := h1.obj
    obtain ⟨o2, q2, _⟩ := h2.obj
    have hzl : z < s.heap.objs.size := Heap.lt_size hz
    refine zip_item st p p2 (x := u) (y := u2) (by simpa using hu) (by simpa using hu2) fun h' z' TO' h1' h2' hT hk => ?_
    refine ⟨_, rfl, wpAny_letOwnedTupleGo_zip (s := { s with heap := h' }) z' fun h'' z'' sb => ?_⟩
    have hT2 : h''.get? s.heap.objs.size = some { cls := .type "tuple", data := .seq #[u, u2] } := (sb.2 _ (Nat.ne_of_gt hzl)).trans hT
    have new : ObjOk X.prog X.w (upd H s.heap.objs.size (.tup [x, y])) h'' s.heap.objs.size (.tup [x, y]) := ⟨by show 2 ≤ sizeLine; decide, [u, u2], .cons ru (.cons ru2 .nil), _, hT2, rfl, _, rfl⟩
    have kp : ∀ c o, c ∉ [z, TI, TO, i1, i2] → s.heap.get? c = some o → h''.get? c = some o := fun c o hb q => by
      simp only [List.mem_cons, List.not_mem_nil, or_false, not_or] at hb
      exact (sb.2 c hb.1).trans (hk c o hb.1 hb.2.2.1 hb.2.2.2.1 hb.2.2.2.2 q)
    have I1 : Inv X pins σ (upd H s.heap.objs.size (.tup [x, y])) { s with heap := h'' } := I.turnedNew (t' := s.toks) (ch := [z, TI, TO, i1, i2]) kp hf (Nat.le_refl _) new
    refine ⟨.ref s.heap.objs.size, _, I1, rfl, ⟨_, x, y, rfl, I.hok.fresh (Nat.le_refl _), rfl, fun l hl => (sqv_inj I hl hqx) ▸ hx, fun l hl => (sqv_inj I hl hqy) ▸ hy⟩, ⟨D, z'', ?_, ⟨u, u2, ?_⟩, ?_, ?_⟩, fun c hcm => ?_⟩
    · exact (sb.2 _ D.TIz).trans (hk _ _ D.TIz D.TITO D.TIi1 D.TIi2 hTI)
    · exact (sb.2 _ D.TOz).trans TO'
    · exact h1'.to fun o q => (sb.2 _ D.i1z).trans q
    · exact h2'.to fun o q => (sb.2 _ D.i2z).trans q
    · have hlt : c < s.heap.objs.size := by
        have e' : c = z ∨ c = TI ∨ c = TO ∨ c = i1 ∨ c = i2 := by simpa using hcm
        rcases e' with q | q | q | q | q <;> rw [q]
        · exact hzl
        · exact Heap.lt_size hTI
        · exact Heap.lt_size hTO
        · exact Heap.lt_size q1
        · exact Heap.lt_size q2
      rw [upd_ne (Nat.ne_of_lt hlt)]
      exact (hf c hcm).1
  done := by
    intro X hP hw hK hc i pins s σ H E I hf st hg
    subst hP hw hK
    obtain ⟨xs, ys, hqx, hqy, hend⟩ := hg
    obtain ⟨its, rv, p⟩ := sqv_get I hqx
    obtain ⟨its2, rv2, p2⟩ := sqv_get I hqy
    have l1 := rv.length
    have l2 := rv2.length
    have he : its.toArray[i]? = none ∨ its2.toArray[i]? = none := hend.imp (fun q => Array.getElem?_eq_none (by simp only [List.size_toArray]; omega)) fun q => Array.getElem?_eq_none (by simp only [List.size_toArray]; omega)
    refine zip_end (I.ok.hd hc) st p p2 he fun h' hk => ⟨rfl, I.turnedL (t' := s.toks) (ch := [z, TI, TO, i1, i2]) (fun c o hb q => ?_) hf⟩
    simp only [List.mem_cons, List.not_mem_nil, or_false, not_or] at hb
    exact hk c o hb.1 hb.2.2.1 hb.2.2.2.1 hb.2.2.2.2 q
  self := fun A i s Q E st h => wpAny_pyIter_zip st.hz h
def iZipV (k1 k2 : Bool) (K : PySem.W.Frag) (ta : TA) : TI := fun σ H R => ta σ H fun vs H1 => ∃ a b xs ys, vs = [.ref a, .ref b] ∧ SqV k1 K H1 a xs ∧ SqV k2 K H1 b ys ∧ R (ItzV k1 k2 K a b) H1
theorem pi_zipV {X : Cx} (k1 k2 : Bool) {e e2 : Expr} {ta : TA} {p pos tpos : Pos} {elts : List Expr} {kk : Nat} (hg : Gl X "zip") (hm : X.mg "zip" = none) (ha : PA X [e, e2] ta)
    (hs : starEach [e, e2] X.env = (false, eval e X.env) :: starEach [e2] X.env := by rfl) (hpl : (backTo pos (starEach [e2] X.env)).any (·.1) = false := by rfl) :
    PI X (.Tuple elts kk tpos) (.Call (.Name "zip" p) [e, e2] [] pos) (iZipV k1 k2 X.K ta) := by
  refine ⟨fun pins s σ H R I h => Call_ (ld_blt I hg hm PyProof.Rows.boot_zip (PyProof.Rows.callWith_type1 (thn (ha.run pos pins s σ H _ I h) fun us s1 ⟨vs, H1, I1, r1, q1⟩ => ?_) hs hpl))⟩
  obtain ⟨a, b, xs, ys, ex, hqx, hqy, q⟩ := q1
  subst ex
  cases r1 with
  | cons r rr =>
    cases rr with
    | cons r' rr =>
      cases rr
      cases r
      cases r'
      obtain ⟨its, rv, p1⟩ := sqv_get I1 hqx
      obtain ⟨its2, rv2, p2⟩ := sqv_get I1 hqy
      obtain ⟨o1, e1, _⟩ := p1.obj
      obtain ⟨o2, e2, _⟩ := p2.obj
      refine call_zipV p1 p2 (Heap.lt_size e1) (Heap.lt_size e2) fun h' Z hk => wpAny_pyIter_zip Z.hz ?_
      have I2 : Inv X pins σ H1 { s1 with heap := h' } := I1.kept (t' := s1.toks) hk
      refine ⟨s1.heap.objs.size + 4, [s1.heap.objs.size + 4, s1.heap.objs.size + 2, s1.heap.objs.size + 3, s1.heap.objs.size, s1.heap.objs.size + 1], _, _, H1, rfl, I2, turn_zipV, Z, fun c hcm => ?_, q⟩
      have e' : c = s1.heap.objs.size + 4 ∨ c = s1.heap.objs.size + 2 ∨ c = s1.heap.objs.size + 3 ∨ c = s1.heap.objs.size ∨ c = s1.heap.objs.size + 1 := by simpa using hcm
      have hle : s1.heap.objs.size ≤ c := by
        rcases e' with z | z | z | z | z <;> rw [z] <;> first | exact Nat.le_refl _ | exact Nat.le_add_right _ _
      exact I1.fpOk hle (I1.hok.fresh hle)
section
variable {D : Ends} {σ : L2.St} {H : Hp} {Q : VK} {K : PySem.W.Frag} {g : TG} {t : TS} {tt : TT} {te : TE} {tl : TA} {k1 k2 : Bool} {a b : Addr} {xs ys : List V}
theorem u_zip {R : It → Hp → Prop} (h : tl σ H fun vs H1 => ∃ a b xs ys, vs = [.ref a, .ref b] ∧ SqV k1 K H1 a xs ∧ SqV k2 K H1 b ys ∧ R (ItzV k1 k2 K a b) H1) : iZipV k1 k2 K tl σ H R := h
theorem k_zip {A : Addr → Addr → Prop} (hs : SqV k1 K H a xs) (hs2 : SqV k2 K H b ys) (h : A a b) : ∃ a' b' xs ys, [V.ref a, V.ref b] = [.ref a', .ref b'] ∧ SqV k1 K H a' xs ∧ SqV k2 K H b' ys ∧ A a' b' := ⟨a, b, xs, ys, rfl, hs, hs2, h⟩
theorem for_z (hl : xs.length = ys.length) (P : Nat → L2.St → Hp → Prop) (h0 : P 0 σ H) (hq : ∀ i σ H, i ≤ xs.length → P i σ H → SqV k1 K H a xs ∧ SqV k2 K H b ys)
    (hs : ∀ i x y σ H, xs[i]? = some x → ys[i]? = some y → P i σ H → NewO (fun v H1 => g v σ H1 fun σ2 H2 => t { D with nx := P (i + 1), ct := P (i + 1), bk := D.nx } σ2 H2) H (.tup [x, y])) (hd : ∀ σ H, P xs.length σ H → D.nx σ H) : ForO (ItzV k1 k2 K a b) g t D σ H := by
  refine ⟨fun i m σ H => m = xs.length - i ∧ i ≤ xs.length ∧ P i σ H, ⟨xs.length, by simp, Nat.zero_le _, h0⟩, ?_⟩
  rintro i m σ H ⟨rfl, hi, p⟩
  obtain ⟨q1, q2⟩ := hq i σ H hi p
  by_cases hlt : i < xs.length
  · refine .inr ⟨⟨xs, ys, xs[i], ys[i]'(by omega), q1, q2, by simp [hlt], by simp [hl ▸ hlt]⟩, P (i + 1), fun σ' H' p' => ⟨xs.length - (i + 1), by omega, rfl, hlt, p'⟩, fun v H' y => ?_⟩
    obtain ⟨T, x, y, rfl, hT, rfl, hx, hy⟩ := y
    exact hs i x y σ H (hx xs q1) (hy ys q2) p T hT
  · obtain rfl : i = xs.length := by omega
    exact .inl ⟨⟨xs, ys, q1, q2, .inl (Nat.le_refl _)⟩, hd σ H p⟩
theorem lc_z {H0 : Hp} {S : List Addr} {L : List (Addr × HO)} {vs : List Nat} (hl : xs.length = ys.length) (c : Cur H0 S H L) (P : Addr → Nat → Hp → Prop) (h0 : ∀ D H1, H0 D = none → Cur H0 S H1 ((D, .lst []) :: L) → P D 0 H1) (hq : ∀ D i H, i ≤ xs.length → P D i H → SqV k1 K H a xs ∧ SqV k2 K H b ys)
    (hs : ∀ D i x y H, H0 D = none → xs[i]? = some x → ys[i]? = some y → P D i H → NewO (fun v H1 => g v (wipe σ vs) H1 fun σ2 H2 => wipe σ2 vs = wipe σ vs ∧ tt σ2 H2 fun b H3 =>
      if b = true then te σ2 H3 fun y H4 => ∃ acc, H4 D = some (.lst acc) ∧ acc.length < sizeLine ∧ ModO (P D (i + 1)) H4 D (.lst (acc ++ [y])) else P D (i + 1) H3) H (.tup [x, y])) (hd : ∀ D H, H0 D = none → P D xs.length H → Q (.ref D) H) : LcO (ItzV k1 k2 K a b) g tt te vs σ H Q := by
  intro D hD
  refine ⟨fun i m H => m = xs.length - i ∧ i ≤ xs.length ∧ P D i H, ⟨xs.length, by simp, Nat.zero_le _, h0 D _ (c.fresh hD) (c.new hD)⟩, ?_⟩
  rintro i m H ⟨rfl, hi, p⟩
  obtain ⟨q1, q2⟩ := hq D i H hi p
  by_cases hlt : i < xs.length
  · refine .inr ⟨⟨xs, ys, xs[i], ys[i]'(by omega), q1, q2, by simp [hlt], by simp [hl ▸ hlt]⟩, P D (i + 1), fun H' p' => ⟨xs.length - (i + 1), by omega, rfl, hlt, p'⟩, fun v H' y => ?_⟩
    obtain ⟨T, x, y, rfl, hT, rfl, hx, hy⟩ := y
    exact hs D i x y H (c.fresh hD) (hx xs q1) (hy ys q2) p T hT
  · obtain rfl : i = xs.length := by omega
    exact .inl ⟨⟨xs, ys, q1, q2, .inl (Nat.le_refl _)⟩, hd D H (c.fresh hD) p⟩
end
end Nd

end

section
set_option Elab.async false
set_option linter.all false
set_option maxRecDepth 100000
set_option maxHeartbeats 4000000
/-! Nd: the rules that name the written part, with it told. -/
namespace Nd
open PySem PySem.Spec PyProof.Rows L2
section
variable (K : PySem.W.Frag) {X : Cx}
theorem call_lenK (e : X.K = K := by rfl) : CallR X (.builtin "len") (cLen K) := e ▸ call_lenU
theorem call_listK (e : X.K = K := by rfl) : CallR X (.type "list") (cList K) := e ▸ call_listU
theorem call_tupleK (e : X.K = K := by rfl) : CallR X (.type "tuple") (cTuple K) := e ▸ call_tupleU
theorem call_allK (hc : X.calm = true) (e : X.K = K := by rfl) : CallR X (.builtin "all") (rAll K) := e ▸ call_allU hc
theorem call_anyK (hc : X.calm = true) (e : X.K = K := by rfl) : CallR X (.builtin "any") (rAny K) := e ▸ call_anyU hc
theorem call_sumK (hc : X.calm = true) (e : X.K = K := by rfl) : CallR X (.builtin "sum") (rSum K) := e ▸ call_sumU hc
theorem call_isi1K (e : X.K = K := by rfl) : CallR X (.builtin "isinstance") (rIsi K) := e ▸ call_isi
theorem call_isiTK (e : X.K = K := by rfl) : CallR X (.builtin "isinstance") (rIsiT K) := e ▸ call_isiT
theorem ix_seqK (e : X.K = K := by rfl) : IxR X (rIx K) := e ▸ ix_seqU
theorem sl_listK (e : X.K = K := by rfl) : SlR X (rSlU K) := e ▸ sl_listU
theorem op_eqK (hu : X.A.units + 64 < cLine) (e : X.K = K := by rfl) : OpR X (compareOp .Eq) (rEqU K) := e ▸ op_eqU hu
theorem op_neK (hu : X.A.units + 64 < cLine) (e : X.K = K := by rfl) : OpR X (compareOp .NotEq) (rNeU K) := e ▸ op_neU hu
theorem op_inK (e : X.K = K := by rfl) : OpR X (compareOp .In) (rIn K false) := e ▸ op_in_seq
theorem op_notInK (e : X.K = K := by rfl) : OpR X (compareOp .NotIn) (rIn K true) := e ▸ op_notIn_seq
theorem pi_seqK {tg e : Expr} {tl : TE} (he : PE X e tl) (ek : X.K = K := by rfl) : PI X tg e (iSeq K tl) := ek ▸ pi_seq he
theorem pi_enumK (k : Bool) {e : Expr} {ta : TA} {p pos tpos : Pos} {elts : List Expr} {kk : Nat} (hg : Gl X "enumerate") (hm : X.mg "enumerate" = none) (ha : PA X [e] ta) (ek : X.K = K := by rfl) (hs : starEach [e] X.env = [(false, eval e X.env)] := by rfl) :
    PI X (.Tuple elts kk tpos) (.Call (.Name "enumerate" p) [e] [] pos) (iEnumV k K ta) := ek ▸ pi_enumV k hg hm ha hs
theorem pi_zipK (k1 k2 : Bool) {e e2 : Expr} {ta : TA} {p pos tpos : Pos} {elts : List Expr} {kk : Nat} (hg : Gl X "zip") (hm : X.mg "zip" = none) (ha : PA X [e, e2] ta) (ek : X.K = K := by rfl)
    (hs : starEach [e, e2] X.env = (false, eval e X.env) :: starEach [e2] X.env := by rfl) (hpl : (backTo pos (starEach [e2] X.env)).any (·.1) = false := by rfl) :
    PI X (.Tuple elts kk tpos) (.Call (.Name "zip" p) [e, e2] [] pos) (iZipV k1 k2 K ta) := ek ▸ pi_zipV k1 k2 hg hm ha hs hpl
theorem pe_fldK {e : Expr} {f : Str} {ta : TE} {pos : Pos} (he : PE X e ta) (hb : attributeBase e f X.env (eval e X.env) = eval e X.env) (ek : X.K = K := by rfl) : PE X (.Attribute e f pos) (tFld K ta f) := ek ▸ pe_fld he hb
theorem ps_fldK {o value : Expr} {f : Str} {ta tv : TE} {pos' pos : Pos} (ha : PE X o ta) (hv : PE X value tv) (hs : swapsWith value (some (.Attribute o f pos')) pos.line X.env = pure false) (ek : X.K = K := by rfl) : PS X (.Assign [.Attribute o f pos'] value pos) (sFld K ta tv f) := ek ▸ ps_fld ha hv hs
theorem pg_fldK {o : Expr} {f : Str} {to : TE} {pos : Pos} (ho : PE X o to) (ek : X.K = K := by rfl) : PG X (.Attribute o f pos) (gFld K to f) := ek ▸ pg_fld ho
theorem pg_tupK {es : List Expr} {k : Nat} {t : TGs} {n : Nat} {pos : Pos} (hc : X.calm = true) (h : PGs X es t) (ek : X.K = K := by rfl) (hn : (assignEach es X.env).length = n := by rfl) (hst : (assignEach es X.env).findIdx? (·.1) = none := by rfl) : PG X (.Tuple es k pos) (gTup K n t) := ek ▸ pg_tup hc h hn hst
theorem pe_bmK {T id : String} {name : Str} {r : V → List V → Hp → VK → Prop} {o e : Expr} {es : List Expr} {to : TE} {t : TA} {apos cpos : Pos} (pa : PlainAttrs T) (slot : Slot T name id) (hty : typeOf (.builtin id) = pure (.type "method_descriptor")) (hm : MtR X id r) (ho : PE X o to) (ha : PA X (e :: es) t) (ek : X.K = K := by rfl)
    (hbase : attributeBase o name X.env (eval o X.env) = eval o X.env := by rfl)
    (hfew : ((backTo cpos (starEach (e :: es) X.env)).all (fun x => !x.1) && (backToKw cpos (keywordEach [] X.env)).all (fun x => x.1.isSome) && decide ((e :: es).length + ([] : List Keyword).length + (if ([] : List Keyword).isEmpty then 0 else 1) < 30)) = true := by rfl)
    (hline : (apos.endLine == cpos.line) = true := by rfl) (hs : starEach (e :: es) X.env = (false, eval e X.env) :: starEach es X.env := by rfl) (hplain : (backTo cpos (starEach es X.env)).any (·.1) = false := by rfl) :
    PE X (.Call (.Attribute o name apos) (e :: es) [] cpos) (tBM K T r to t) := ek ▸ pe_bm pa slot hty hm ho ha hbase hfew hline hs hplain
theorem pe_bm0K {T id : String} {name : Str} {r : V → List V → Hp → VK → Prop} {o : Expr} {to : TE} {apos cpos : Pos} (pa : PlainAttrs T) (slot : Slot T name id) (hty : typeOf (.builtin id) = pure (.type "method_descriptor")) (hm : MtR X id r) (ho : PE X o to) (ek : X.K = K := by rfl)
    (hbase : attributeBase o name X.env (eval o X.env) = eval o X.env := by rfl) (hline : (apos.endLine == cpos.line) = true := by rfl) : PE X (.Call (.Attribute o name apos) [] [] cpos) (tBM0 K T r to) := ek ▸ pe_bm0 pa slot hty hm ho hbase hline
end
end Nd

end

section
set_option Elab.async false
set_option linter.all false
set_option maxRecDepth 100000
set_option maxHeartbeats 4000000
/-! Nd: comprehensions of two clauses. -/
namespace Nd
open PySem PySem.Spec PyProof.Rows L2
def InO (J1 : It) (g1 : TG) (tt1 : TT) (te : TE) (vs1 : List Nat) (σ2 : L2.St) (D : Addr) (Nx : Hp → Prop) (H4 : Hp) : Prop := ∃ W1 : Nat → Nat → Hp → Prop, (∃ m, W1 0 m H4) ∧ ∀ j k H, W1 j k H →
  (J1.stop j H ∧ Nx H) ∨ (J1.go j H ∧ ∃ Nx1 : Hp → Prop, (∀ H', Nx1 H' → ∃ k', k' < k ∧ W1 (j + 1) k' H') ∧ ∀ x H', J1.yld j H x H' → g1 x (wipe σ2 vs1) H' fun σ3 H5 => wipe σ3 vs1 = wipe σ2 vs1 ∧ tt1 σ3 H5 fun b H6 =>
    if b = true then te σ3 H6 fun y H7 => ∃ acc, H7 D = some (.lst acc) ∧ acc.length < sizeLine ∧ Nx1 (upd H7 D (.lst (acc ++ [y]))) else Nx1 H6)
def LcO2 (J : It) (g : TG) (tt : TT) (wi1 : TI) (g1 : TG) (tt1 : TT) (te : TE) (vs vs1 : List Nat) (σ : L2.St) (H1 : Hp) (Q : VK) : Prop := ∀ D, H1 D = none → ∃ W : Nat → Nat → Hp → Prop, (∃ m, W 0 m (upd H1 D (.lst []))) ∧ ∀ i m H, W i m H →
  (J.stop i H ∧ Q (.ref D) H) ∨ (J.go i H ∧ ∃ Nx : Hp → Prop, (∀ H', Nx H' → ∃ m', m' < m ∧ W (i + 1) m' H') ∧ ∀ x H', J.yld i H x H' → g x (wipe σ vs) H' fun σ2 H2 => wipe σ2 vs = wipe σ vs ∧ tt σ2 H2 fun b H3 =>
    if b = true then wi1 σ2 H3 fun J1 H4 => InO J1 g1 tt1 te vs1 σ2 D Nx H4 else Nx H3)
section
variable {σ σ2 : L2.St} {H : Hp} {Q : VK} {K : PySem.W.Frag} {g g1 : TG} {tt tt1 : TT} {te : TE} {wi wi1 : TI} {vs vs1 : List Nat} {a D : Addr} {xs ys : List V} {H0 : Hp} {S : List Addr} {L : List (Addr × HO)}
theorem u_lc2 (h : wi σ H fun J H1 => LcO2 J g tt wi1 g1 tt1 te vs vs1 σ H1 Q) : tLc2 wi g tt wi1 g1 tt1 te vs vs1 σ H Q := h
theorem lc2_l (c : Cur H0 S H L) (P : Addr → Nat → Hp → Prop) (h0 : ∀ D H1, H0 D = none → Cur H0 S H1 ((D, .lst []) :: L) → P D 0 H1) (hl : ∀ D i H, i ≤ xs.length → P D i H → SqL K H a xs)
    (hs : ∀ D i x H, H0 D = none → xs[i]? = some x → P D i H → g x (wipe σ vs) H fun σ2 H2 => wipe σ2 vs = wipe σ vs ∧ tt σ2 H2 fun b H3 => if b = true then wi1 σ2 H3 fun J1 H4 => InO J1 g1 tt1 te vs1 σ2 D (P D (i + 1)) H4 else P D (i + 1) H3)
    (hd : ∀ D H, H0 D = none → P D xs.length H → Q (.ref D) H) : LcO2 (Itl K a) g tt wi1 g1 tt1 te vs vs1 σ H Q := by
  intro D hD
  refine ⟨fun i m H => m = xs.length - i ∧ i ≤ xs.length ∧ P D i H, ⟨xs.length, by simp, Nat.zero_le _, h0 D _ (c.fresh hD) (c.new hD)⟩, ?_⟩
  rintro i m H ⟨rfl, hi, p⟩
  have q := hl D i H hi p
  by_cases hlt : i < xs.length
  · refine .inr ⟨⟨xs, xs[i], q, by simp [hlt]⟩, P D (i + 1), fun H' p' => ⟨xs.length - (i + 1), by omega, rfl, hlt, p'⟩, fun x H' y => ?_⟩
    obtain ⟨e, y⟩ := y
    subst e
    exact hs D i x _ (c.fresh hD) (y xs q) p
  · obtain rfl : i = xs.length := by omega
    exact .inl ⟨⟨xs, q, Nat.le_refl _⟩, hd D H (c.fresh hD) p⟩
theorem in_l {Nx : Hp → Prop} (P : Nat → Hp → Prop) (h0 : P 0 H) (hl : ∀ j H, j ≤ ys.length → P j H → SqL K H a ys)
    (hs : ∀ j y H, ys[j]? = some y → P j H → g1 y (wipe σ2 vs1) H fun σ3 H5 => wipe σ3 vs1 = wipe σ2 vs1 ∧ tt1 σ3 H5 fun b H6 =>
      if b = true then te σ3 H6 fun v H7 => ∃ acc, H7 D = some (.lst acc) ∧ acc.length < sizeLine ∧ ModO (P (j + 1)) H7 D (.lst (acc ++ [v])) else P (j + 1) H6)
    (hd : ∀ H, P ys.length H → Nx H) : InO (Itl K a) g1 tt1 te vs1 σ2 D Nx H := by
  refine ⟨fun i m H => m = ys.length - i ∧ i ≤ ys.length ∧ P i H, ⟨ys.length, by simp, Nat.zero_le _, h0⟩, ?_⟩
  rintro i m H ⟨rfl, hi, p⟩
  have q := hl i H hi p
  by_cases hlt : i < ys.length
  · refine .inr ⟨⟨ys, ys[i], q, by simp [hlt]⟩, P (i + 1), fun H' p' => ⟨ys.length - (i + 1), by omega, rfl, hlt, p'⟩, fun x H' y => ?_⟩
    obtain ⟨e, y⟩ := y
    subst e
    exact hs i x _ (y ys q) p
  · obtain rfl : i = ys.length := by omega
    exact .inl ⟨⟨ys, q, Nat.le_refl _⟩, hd H p⟩
theorem u_listRg {te : L2.St → Hp → (Int → Int → Hp → Prop) → Prop} (h : te σ H fun a b H1 => RgOk a b ∧ NewO Q H1 (.lst (rgV a b))) : tLstRg te σ H Q := h
theorem u_rg1 {ta : TE} {k : Int → Int → Hp → Prop} (h : ta σ H fun x H1 => ∃ n, x = .int n ∧ k 0 n H1) : tRg1 ta σ H k := h
theorem rg_ints (n : Nat) : rgV 0 (n : Int) = ((List.range n).map fun (i : Nat) => ((i : Nat) : Int)).map V.int := by
  unfold rgV
  rw [List.map_map, show ((n : Int) - 0).toNat = n by omega]
  exact List.map_congr_left fun i _ => by show V.int (0 + (i : Int)) = V.int (i : Int); rw [Int.zero_add]
theorem r_popAt {l : Addr} {xs : List V} {i : Int} {y : V} {k : VK} (hl : H l = some (.lst xs)) (i0 : 0 ≤ i) (i1 : i < (xs.length : Int)) (h63 : xs.length ≤ 1000) (hy : xs[i.toNat]? = some y) (h : ModO (k y) H l (.lst (xs.eraseIdx i.toNat))) : rPopAt (.ref l) [.int i] H k := by
  have e : seqIndex? i xs.length = some i.toNat := by
    unfold seqIndex?
    simp [show ¬ i < 0 by omega, i0, i1]
  exact ⟨l, xs, i, i.toNat, y, rfl, rfl, hl, by omega, by omega, e, hy, h⟩
/-- a place to cut: what follows is shown once -/
theorem cutQ {te : TE} (P : VK) (h1 : ∀ Q0 : VK, (∀ v H', P v H' → Q0 v H') → te σ H Q0) (h2 : ∀ v H', P v H' → Q v H') : te σ H Q := h1 Q h2
theorem cutT {t : TT} {QT : Bool → Hp → Prop} (P : Bool → Hp → Prop) (h1 : ∀ Q0 : Bool → Hp → Prop, (∀ v H', P v H' → Q0 v H') → t σ H Q0) (h2 : ∀ v H', P v H' → QT v H') : t σ H QT := h1 QT h2
theorem cutS {t : TS} {D : Ends} (P : L2.St → Hp → Prop) (h1 : ∀ nx0 : L2.St → Hp → Prop, (∀ σ' H', P σ' H' → nx0 σ' H') → t { D with nx := nx0 } σ H) (h2 : ∀ σ' H', P σ' H' → D.nx σ' H') : t D σ H := h1 D.nx h2
theorem first_at {k : Int} : ∀ {ns : List Int}, k ∈ ns → ∃ j, ns[j]? = some k ∧ (∀ m : Nat, m < j → ns[m]? ≠ some k) ∧ ns.eraseIdx j = ns.erase k
  | [], h => nomatch h
  | a :: ns, h => by
    by_cases e : a = k
    · subst e
      exact ⟨0, rfl, fun m hm => absurd hm (Nat.not_lt_zero _), by simp⟩
    · obtain ⟨j, h1, h2, h3⟩ := first_at (ns := ns) ((List.mem_cons.mp h).resolve_left fun z => e z.symm)
      refine ⟨j + 1, by simpa using h1, fun m hm => ?_, ?_⟩
      · cases m with
        | zero => simpa using e
        | succ m => simpa using h2 m (by omega)
      · rw [List.erase_cons_tail (by simpa using e), ← h3]; rfl
theorem r_rem {l : Addr} {ns : List Int} {k : Int} (hl : H l = some (.lst (ns.map V.int))) (hk : k ∈ ns) (h : ModO (Q .non) H l (.lst ((ns.erase k).map V.int))) : rRemI (.ref l) [.int k] H Q := by
  obtain ⟨j, h1, h2, h3⟩ := first_at hk
  refine ⟨l, ns, k, j, rfl, rfl, hl, h1, h2, ?_⟩
  rw [h3]
  exact h
/-- as new_c, mod_c, with what stays said -/
theorem new_r {o : HO} (C : Cur H0 S H L) (h : ∀ p H1, H0 p = none → H p = none → Cur H0 S H1 ((p, o) :: L) → Ret [] H H1 → Q (.ref p) H1) : NewO Q H o := fun p hp => h p _ (C.fresh hp) hp (C.new hp) (.new hp)
theorem mod_r {o o' : HO} {p : Addr} {k : Hp → Prop} (C : Cur H0 S H L) (i : Nat) (hi : L[i]? = some (p, o)) (m : p ∈ S ∨ H0 p = none) (h : ∀ H1, Cur H0 S H1 (L.set i (p, o')) → Ret [p] H H1 → k H1) : ModO k H p o' := h _ (C.set i hi m) (.set (List.mem_singleton.mpr rfl))
end
end Nd

end

section
set_option Elab.async false
set_option linter.all false
/-! Nd: three names at once. -/
namespace Nd
open PySem PySem.Spec PyProof.Rows L2
theorem u_par3 {i j l : Nat} {tl : TA} {D : Ends} {σ : L2.St} {H : Hp} (h : tl σ H fun vs H1 => ∃ u v w, vs = [u, v, w] ∧ D.nx (((σ.set i (some u)).set j (some v)).set l (some w)) H1) : tPar3 i j l tl D σ H := h
theorem k_three {u v w : V} {A : V → V → V → Prop} (h : A u v w) : ∃ u' v' w', [u, v, w] = [u', v', w'] ∧ A u' v' w' := ⟨u, v, w, rfl, h⟩
end Nd

end

section
set_option Elab.async false
set_option linter.all false
set_option maxRecDepth 100000
set_option maxHeartbeats 4000000
/-! Nd: // of great numbers, [*a, *b], calls by keywords alone, gcd. -/
namespace Nd
open PySem PySem.Spec PyProof.Rows L2
section
variable {X : Cx}
/-- // by a divisor of either sign, below 2 ^ 9000 -/
def CDivB (_ j : Int) : Prop := j ≠ 0 ∧ j.natAbs.log2 < 9000
def rDivB : R2 := rI CDivB fun i j => .int (i.fdiv j)
theorem op_divB : OpR X (binaryOp .FloorDiv) rDivB := opI fun _ _ _ _ _ _ _ hc q => floordiv_int hc.1 q (.inl (PyProof.noPylong_of_log2 hc.2))
/-- * of great numbers, or of a list -/
def rMulB : R2 := fun x y H Q => rI CMulW (fun i j => .int (i * j)) x y H Q ∨ rRep x y H Q
theorem op_mulB : OpR X (binaryOp .Mult) rMulB := OpR.or op_mulW op_rep
theorem pa_starK (K : PySem.W.Frag) {e : Expr} {es : List Expr} {p : Pos} {te : TE} {t : TA} (he : PE X e te) (hr : PA X es t) (ek : X.K = K := by rfl) (hs : starEach (.Starred e p :: es) X.env = (true, eval e X.env) :: starEach es X.env := by rfl) :
    PA X (.Starred e p :: es) (StX.tStar K te t) := ek ▸ StX.pa_star he hr hs
end
section
variable {K : PySem.W.Frag} {H : Hp} {Q : VK} {σ : L2.St} {p : Addr} {xs : List V} {QA : List V → Hp → Prop} {te : TE} {t : TA} {a b : Int}
theorem u_star (h : te σ H fun x H1 => ∃ p xs, x = V.ref p ∧ (SqT K H1 p xs ∨ SqL K H1 p xs) ∧ t σ H1 fun ys H2 => QA (xs ++ ys) H2) : StX.tStar K te t σ H QA := h
theorem k_starT {A : List V → Prop} (hs : SqT K H p xs) (h : A xs) : ∃ p' xs, V.ref p = V.ref p' ∧ (SqT K H p' xs ∨ SqL K H p' xs) ∧ A xs := ⟨p, xs, rfl, .inl hs, h⟩
theorem k_starL {A : List V → Prop} (hs : SqL K H p xs) (h : A xs) : ∃ p' xs, V.ref p = V.ref p' ∧ (SqT K H p' xs ∨ SqL K H p' xs) ∧ A xs := ⟨p, xs, rfl, .inr hs, h⟩
theorem r_divB (c : CDivB a b) (h : Q (.int (a.fdiv b)) H) : rDivB (.int a) (.int b) H Q := ⟨a, b, rfl, rfl, c, h⟩
theorem r_mulB (c : CMulW a b) (h : Q (.int (a * b)) H) : rMulB (.int a) (.int b) H Q := .inl ⟨a, b, rfl, rfl, c, h⟩
theorem r_gcd (h : Q (.int ((Nat.gcd a.natAbs b.natAbs : Nat) : Int)) H) : rGcd [.int a, .int b] H Q := ⟨a, b, rfl, h⟩
end
/-! ### f(k = v, ..), no value by its place -/
section
variable {X : Cx} {CX : CXT} {k : Nat} {f : Addr} {fd : FuncData} {ps ks : List Str} {sp : Sp} {E : XK} {x : Str} {p pos : Pos} {kws : List Keyword} {tk : TA} {g : List Value → List Value → List Value} {gV : List V → List V → List V}
theorem pe_kw0 (F : FnOk X.prog X.w X.K X.mg X.base CX k f fd ps sp) (hr : Room k X.A) (hg : Gl X x) (hm : X.mg x = some (.ref f)) (hk : PySem.W.keepIn X.K (.ref f) = true) (hb : KBn X.K fd ps 0 ks g gV) (hx : Passes CX X E) (hkw : PK X kws tk)
    (hall : (backToKw pos (keywordEach kws X.env)).all (·.1.isSome) = true := by rfl) (hks : (backToKw pos (keywordEach kws X.env)).filterMap (·.1) = ks := by rfl) (hdb : (x == ("__debug__" : Str)) = false := by decide)
    (hpl : ((backTo pos (starEach [] X.env)).any (·.1) || (backToKw pos (keywordEach kws X.env)).any (·.1.isNone)) = false := by rfl) :
    PE X (.Call (.Name x p) [] kws pos) (tCallN 0 ks.length sp gV E tNil tk) := by
  refine ⟨fun pins s σ H Q I h => wpAny_Call_Name_kw (ld_glob I hg hm ?_ hdb)⟩
  refine PySem.W.callWith_KW0 (h₀ := X.base) I.ok.mod.kin hk hall (thn (hkw.run pos pins s σ H _ I h) fun ws s2 ⟨zs, H2, I2, rz, l1, l2, q2⟩ => ⟨I2.kIn, ?_⟩) hpl
  rw [hks]
  exact run_fnN (us := []) (vs := []) F hr hb hx I2 .nil rz l1 l2 q2
end
theorem u_kw0 {σ : L2.St} {H : Hp} {Q : VK} {n m : Nat} {sp : Sp} {gV : List V → List V → List V} {E : XK} {t tk : TA} (h : t σ H fun vs H1 => tk σ H1 fun zs H2 => vs.length = n ∧ zs.length = m ∧ sp (gV vs zs) H2 Q E) : tCallN n m sp gV E t tk σ H Q := h
/-- two values, the other way round -/
def swap2 {α : Type} : List α → List α
  | [a, b] => [b, a]
  | l => l
theorem swap2_rel : ∀ {vs : List V} {us : List Value}, Vals vs us → Vals (swap2 vs) (swap2 us)
  | [], _, .nil => .nil
  | [_], _, .cons a .nil => .cons a .nil
  | [_, _], _, .cons a (.cons b .nil) => .cons b (.cons a .nil)
  | _ :: _ :: _ :: _, _, .cons a (.cons b (.cons c r)) => .cons a (.cons b (.cons c r))
/-! ### texts of data -/
def rReprD (K : PySem.W.Frag) : List V → Hp → VK → Prop := fun xs H Q => ∃ (a : Addr) (d : PyData), xs = [.ref a] ∧ Dp K H (.ref a) d ∧ d.showable = true ∧ d.hasDict = false ∧ d.depth ≤ 64 ∧ d.shown.length ≤ sizeLine ∧ Q (.str d.shown) H
theorem cr_reprD {X : Cx} (hg : X.A.guards = some []) (hu : X.A.units + 100 < cLine) : CallR X (.builtin "repr") (rReprD X.K) := by
  intro pins s σ H xs us Q I r h
  obtain ⟨a, d, rfl, hd, h1, h2, h3, h4, q⟩ := h
  cases r with
  | cons ra rr =>
    cases rr
    obtain ⟨as, rd⟩ := Dp.reads I d _ _ hd ra
    obtain rfl : _ = Value.ref a := ra
    refine repr_of_reads' rd h1 (PyData.noDict_hsm h2) hg (by omega) (fun _ _ e => e) (fun h' u tk hk => ?_) h4
    exact ⟨.str _, H, I.kept hk, ⟨_, rfl⟩, q⟩
theorem cr_reprK (K : PySem.W.Frag) {X : Cx} (hg : X.A.guards = some []) (hu : X.A.units + 100 < cLine) (ek : X.K = K := by rfl) : CallR X (.builtin "repr") (rReprD K) := ek ▸ cr_reprD hg hu
end Nd

end

section
set_option Elab.async false
set_option linter.all false
set_option maxRecDepth 100000
set_option maxHeartbeats 4000000
/-! Nd: defs that run where no text of data is being written (guards = []): repr may be asked in them. -/
namespace Nd
open PySem PySem.Spec PyProof.Rows L2
structure FnG (P : Program) (w : World) (K : PySem.W.Frag) (mg : Str → Option Value) (base : Heap) (CX : CXT) (k : Nat) (f : Addr) (fd : FuncData) (ps : List Str) (sp : Sp) : Prop where
  len : ∀ vs H Q E, sp vs H Q E → vs.length = ps.length
  go : ∀ (A : Around) (outer : List Env) (s : Shared) (H : Hp) (args : Args) (us : List Value) (vs : List V) (Q : VK) (E : XK), A.guards = some [] → Room k A → Env0 P w K mg base A outer s H → BindsTo s fd args (ps.zip us) → Vals vs us →
    sp vs H Q E → codeAny (model P w) A (.call (.ref f) args) (CR CX outer P w H s Q E) s
section
variable {P : Program} {w : World} {K : PySem.W.Frag} {mg : Str → Option Value} {base : Heap}
/-- a def without defaults -/
theorem okG {x qual : Str} {st : Stmt} {f : Addr} {fd : FuncData} {N ps : List Str} {k : Nat} {sp : Sp} (F : Fun K x qual st f fd) (S : FnScope N ps (defScope st)) (len : ∀ vs H Q E, sp vs H Q E → vs.length = ps.length)
    (body : ∀ (cdv : Value) (A : Around) (outer : List Env) (s : Shared) (H : Hp) (vs : List V) (Q : VK) (E : XK), (A.deeper (envOfC qual (defScope st) s.heap.objs.size f cdv)).guards = some [] → Room k (A.deeper (envOfC qual (defScope st) s.heap.objs.size f cdv)) → sp vs H Q E →
      ∃ t, PSs (cxOf CX0 P w K mg base N qual (defScope st) f cdv A outer s H E).nox (defBody st) t ∧ t { nx := fun _ H' => Q .non H', rt := Q } (start N vs) H) : FnG P w K mg base CX0 (k + 1) f fd ps sp := by
  obtain ⟨oc, od, kV, doc, pm, an, cdv, ct, osl, rfl, lk, hcd⟩ := F.ex
  refine ⟨len, fun A outer s H args us vs Q E hgd hr e0 hb r hsp => ?_⟩
  refine LamX.run_ofS lk hcd S hr e0 hb r (len _ _ _ _ hsp) fun hr' => ?_
  obtain ⟨t, h, q⟩ := body cdv A outer s H vs Q E hgd hr' hsp
  exact ⟨t, h.nox, q⟩
/-- any def -/
theorem FnG.of {CX : CXT} {k : Nat} {f : Addr} {fd : FuncData} {ps : List Str} {sp : Sp} (F : FnOk P w K mg base CX k f fd ps sp) : FnG P w K mg base CX k f fd ps sp := ⟨F.len, fun A outer s H args us vs Q E _ hr e0 hb r hsp => F.run A outer s H args us vs Q E hr e0 hb r hsp⟩
end
/-- such a def, called -/
structure GdG (P : Program) (w : World) (K : PySem.W.Frag) (mg : Str → Option Value) (base : Heap) (CX : CXT) (k : Nat) (x : Str) (ps : List Str) (sp : Sp) : Prop where
  ex : ∃ f fd, FnG P w K mg base CX k f fd ps sp ∧ mg x = some (.ref f) ∧ PySem.W.keepIn K (.ref f) = true ∧ Binds K fd ps []
theorem pe_callGG {X : Cx} {CX : CXT} {k : Nat} {ps : List Str} {sp : Sp} {E : XK} {x : Str} {p pos : Pos} {e : Expr} {es : List Expr} {t : TA} (G : GdG X.prog X.w X.K X.mg X.base CX k x ps sp) (hgd : X.A.guards = some []) (hr : Room k X.A) (hg : Gl X x) (hx : Passes CX X E) (ha : PA X (e :: es) t)
    (hdb : (x == ("__debug__" : Str)) = false := by decide) (he : starEach (e :: es) X.env = (false, eval e X.env) :: starEach es X.env := by rfl) (hpl : (backTo pos (starEach es X.env)).any (·.1) = false := by rfl) :
    PE X (.Call (.Name x p) (e :: es) [] pos) (tCall sp [] E t) := by
  obtain ⟨f, fd, F, hm, hk, hb⟩ := G.ex
  refine ⟨fun pins s σ H Q I h => wpAny_Call_Name_kw (ld_glob I hg hm ?_ hdb)⟩
  have run : ∀ us s1 vs H1, Inv X pins σ H1 s1 → Vals vs us → sp (vs ++ []) H1 Q E → wpAny (model X.prog X.w) X.A (call (.ref f) us) (EP X pins σ Q) X.xe s1 := by
    intro us s1 vs H1 I1 r q
    rw [List.append_nil] at q
    have n : (us ++ ([] : List Value)).length = ps.length := by rw [List.append_nil, ← r.length]; exact F.len _ _ _ _ q
    have b := hb s1 us I1.kIn n
    rw [List.append_nil] at b
    refine wpAny_call (codeAny_mono (F.go X.A X.stack s1 H1 ⟨us, []⟩ us vs Q E hgd hr I1.env0 b r q) fun rs s2 z => ?_)
    match rs, z with
    | .error e, z => exact hx pins σ H1 s1 e s2 I1 z
    | .ok (.ret u), z => exact I1.after z
    | .ok .next, z => exact z.elim
    | .ok .brk, z => exact z.elim
    | .ok .cont, z => exact z.elim
  exact PySem.W.callWith_K (h₀ := X.base) I.ok.mod.kin hk (thn (ha.run pos pins s σ H _ I h) fun us s1 ⟨vs, H1, I1, r, q⟩ => ⟨I1.kIn, run us s1 vs H1 I1 r q⟩) he hpl
theorem r100 {k : Nat} {A : Around} (r : Room k A) : A.units + 100 < cLine := by have := r.un; omega
/-- a def called by keywords alone -/
structure GdK (P : Program) (w : World) (K : PySem.W.Frag) (mg : Str → Option Value) (base : Heap) (CX : CXT) (k : Nat) (x : Str) (ps ks : List Str) (g : List Value → List Value → List Value) (gV : List V → List V → List V) (sp : Sp) : Prop where
  ex : ∃ f fd, FnOk P w K mg base CX k f fd ps sp ∧ mg x = some (.ref f) ∧ PySem.W.keepIn K (.ref f) = true ∧ KBn K fd ps 0 ks g gV
theorem pe_callGK {X : Cx} {CX : CXT} {k : Nat} {ps ks : List Str} {sp : Sp} {E : XK} {x : Str} {p pos : Pos} {kws : List Keyword} {tk : TA} {g : List Value → List Value → List Value} {gV : List V → List V → List V} (G : GdK X.prog X.w X.K X.mg X.base CX k x ps ks g gV sp) (hr : Room k X.A) (hg : Gl X x) (hx : Passes CX X E) (hkw : PK X kws tk)
    (hall : (backToKw pos (keywordEach kws X.env)).all (·.1.isSome) = true := by rfl) (hks : (backToKw pos (keywordEach kws X.env)).filterMap (·.1) = ks := by rfl) (hdb : (x == ("__debug__" : Str)) = false := by decide)
    (hpl : ((backTo pos (starEach [] X.env)).any (·.1) || (backToKw pos (keywordEach kws X.env)).any (·.1.isNone)) = false := by rfl) :
    PE X (.Call (.Name x p) [] kws pos) (tCallN 0 ks.length sp gV E tNil tk) := by
  obtain ⟨f, fd, F, hm, hk, hb⟩ := G.ex
  exact pe_kw0 F hr hg hm hk hb hx hkw hall hks hdb hpl
/-! ### a tuple of the module -/
def KT (K : PySem.W.Frag) (a : Addr) (xs : List V) : Prop := ∃ (o : Obj) (its : Array Value) (n : Nat), K.lookup a = some o ∧ o.cls = .type "tuple" ∧ o.data = .seq its n ∧ its.size ≤ sizeLine ∧ Vals xs its.toList
theorem KT.sq {K : PySem.W.Frag} {H : Hp} {a : Addr} {xs : List V} (h : KT K a xs) : SqT K H a xs := .inr h
theorem tx_tup {K : PySem.W.Frag} {mg : Str → Option Value} {h : Heap} {x : Str} {a : Addr} {o : Obj} {its : List Value} {n : Nat} {xs : List V} (X : K.In h) (G : h.Ns mainGlobals mg) (g : PySem.W.nsIn K mainGlobals x = some (some (.ref a))) (l : K.lookup a = some o)
    (c : o.cls = .type "tuple") (d : o.data = .seq its.toArray n) (z : its.length ≤ sizeLine) (v : Vals xs its) : mg x = some (.ref a) ∧ KT K a xs := ⟨PySem.W.mg_of X G g, o, _, n, l, c, d, by simpa using z, by simpa using v⟩
theorem sl_tupK (K : PySem.W.Frag) {X : Cx} (e : X.K = K := by rfl) : SlR X (rSlT K) := e ▸ sl_tup
theorem r_slT {K : PySem.W.Frag} {H : Hp} {Q : VK} {p : Addr} {xs : List V} {lo hi : Option Int} (hs : SqT K H p xs) (hn : ¬ (HT.sIx xs.length 0 lo = 0 ∧ HT.sIx xs.length xs.length hi = xs.length)) (h : NewO Q H (.tup (cutV xs lo hi))) : rSlT K (.ref p) lo hi H Q := ⟨p, xs, rfl, hs, hn, h⟩
/-! ### the end -/
section
variable {P : Program} {w : World} {K : PySem.W.Frag} {mg mb : Str → Option Value} {k : Nat} {fa a : Addr} {fd : FuncData} {x : Str} {sp : Sp} {s : Shared} {vs : List Value} {ns : List Int}
/-- the script as an object -/
abbrev scr (vs : List Value) : Obj := { cls := .type "list", data := .seq vs.toArray }
/-- the law's def, called at the very end of the top: from a heap where just the script may be told -/
theorem last_call {H : Hp} (KX : K.In s.heap) (hns : s.heap.Ns mainGlobals mg) (hb : s.heap.Ns builtinsNs mb) (hbb : ∀ x : Str, x ≠ "__name__" → mb x = bootBuiltins x) (lim : s.heap.NoLimit) (hg : s.gens = #[]) (ha : s.heap.get? a = some (scr vs)) (hr : Room k callerA)
    (F : ∀ base : Heap, K.In base → base.Ns mainGlobals mg → FnG P w K mg base CX0 k fa fd [x] sp) (bind : ∀ (s : Shared) (u : Value), BindsTo s fd ⟨[u], []⟩ [(x, u)]) (hO : Only H) (hok : HOk P w H s.heap) (hA : ∀ b, H b ≠ none → b = a) (hK : H a ≠ none → K.lookup a = none)
    (hsp : sp [.ref a] H (fun v _ => v = .bl true) fun _ _ _ => False) :
    codeAny (model P w) callerA (.call (.ref fa) ⟨[.ref a], []⟩) (fun r t => r = .ok (.ret (.bool true)) ∧ OldK s.heap t.heap ∧ t.os = s.os ∧ AllBare t.gens) s := by
  have at_a : ∀ {b : Addr} {u : HO}, H b = some u → b = a := fun {b u} q => hA b (by rw [q]; simp)
  have free : ∀ {b : Addr} {o : Obj}, s.heap.get? b = some o → (∀ y z, o.data ≠ .seq y z) → H b = none := fun {b o} e d => by
    cases q : H b with
    | none => rfl
    | some u =>
      obtain rfl := at_a q
      have z := Option.some.inj (ha.symm.trans e)
      subst z
      exact absurd rfl (d _ _)
  have names : ∀ {b : Addr} {m : Str → Option Value}, s.heap.Ns b m → (hidT s.heap H).Ns b m := fun {b m} n => by
    obtain ⟨o, es, ep, e, d, r⟩ := n
    exact ⟨o, es, ep, hidT_get e (free e fun y z q => by rw [d] at q; cases q), d, r⟩
  have kin : K.In (hidT s.heap H) := fun b o e => hidT_get (KX b o e) (by
    cases q : H b with
    | none => rfl
    | some u =>
      obtain rfl := at_a q
      exact absurd ((hK (by rw [q]; simp)).symm.trans e) (fun z => nomatch z))
  have nolim : (hidT s.heap H).NoLimit := by
    obtain ⟨mc, h1, h2⟩ := lim
    exact ⟨mc, names h1, h2⟩
  have e0 : Env0 P w K mg (hidT s.heap H) callerA [] s H := ⟨rfl, ⟨kin, names hns, ⟨mb, names hb, hbb⟩, nolim⟩, fun b o => of_hidT, Nat.le_of_eq (hidT_size _ _), trivial, fun b m => (nomatch (show b ∈ ([] : List Addr) from m)), hok, .of_eq hg⟩
  refine codeAny_mono ((F _ kin (names hns)).go callerA [] s H ⟨[.ref a], []⟩ [.ref a] [.ref a] _ _ rfl hr e0 (bind s (.ref a)) (.cons rfl .nil) hsp) fun rs t z => ?_
  match rs, z with
  | .error e, z => exact z.elim
  | .ok .next, z => exact z.elim
  | .ok .brk, z => exact z.elim
  | .ok .cont, z => exact z.elim
  | .ok (.ret u), z =>
    obtain ⟨v, H', os, bare, un, hok', rv, q⟩ := z
    obtain rfl : v = .bl true := q
    obtain rfl : u = Value.bool true := rv
    refine ⟨rfl, OldK.of_keep fun b o e => ?_, os, bare⟩
    rcases hO b with q | ⟨ob, xs, q⟩
    · exact un.keep b o e q (fun z => nomatch (show b ∈ ([] : List Addr) from z)) (by simp)
    · have e1 := (hok b _ q).1
      have e2 := (hok' b _ (un.frzs b ob _ q)).1
      exact (Option.some.inj (e.symm.trans e1)) ▸ e2
theorem last_any (KX : K.In s.heap) (hns : s.heap.Ns mainGlobals mg) (hb : s.heap.Ns builtinsNs mb) (hbb : ∀ x : Str, x ≠ "__name__" → mb x = bootBuiltins x) (lim : s.heap.NoLimit) (hg : s.gens = #[]) (ha : s.heap.get? a = some (scr vs)) (hi : IntsAre vs ns) (hl : ns.length ≤ sizeLine) (hr : Room k callerA)
    (F : ∀ base : Heap, K.In base → base.Ns mainGlobals mg → FnG P w K mg base CX0 k fa fd [x] sp) (bind : ∀ (s : Shared) (u : Value), BindsTo s fd ⟨[u], []⟩ [(x, u)])
    (hsp : ∀ H : Hp, Only H → SqL K H a (ns.map V.int) → sp [.ref a] H (fun v _ => v = .bl true) fun _ _ _ => False) :
    codeAny (model P w) callerA (.call (.ref fa) ⟨[.ref a], []⟩) (fun r t => r = .ok (.ret (.bool true)) ∧ OldK s.heap t.heap ∧ t.os = s.os ∧ AllBare t.gens) s := by
  have rv : Vals (ns.map V.int) vs := vals_ints hi
  have lv : vs.length = ns.length := hi.length
  cases hk : K.lookup a with
  | some o =>
    have e : o = scr vs := Option.some.inj ((KX a o hk).symm.trans ha)
    have O : Only fun _ => none := fun _ => .inl rfl
    refine last_call (H := fun _ => none) KX hns hb hbb lim hg ha hr F bind O (fun b u z => nomatch (show (none : Option HO) = some u from z)) (fun b z => absurd rfl z) (fun z => absurd rfl z) (hsp _ O (.inr ?_))
    subst e
    exact ⟨_, vs.toArray, _, hk, rfl, rfl, rfl, by simpa [lv] using hl, by simpa using rv⟩
  | none =>
    have at_ : (fun b => if b = a then some (HO.frz (scr vs) (.lst (ns.map V.int))) else none : Hp) a = some (.frz (scr vs) (.lst (ns.map V.int))) := if_pos rfl
    have O : Only fun b => if b = a then some (HO.frz (scr vs) (.lst (ns.map V.int))) else none := fun b => by
      by_cases q : b = a
      · exact .inr ⟨_, _, if_pos q⟩
      · exact .inl (if_neg q)
    refine last_call KX hns hb hbb lim hg ha hr F bind O (fun b u z => ?_) (fun b z => ?_) (fun _ => hk) (hsp _ O (.inl (.inr ⟨_, at_⟩)))
    · by_cases q : b = a
      · obtain rfl := q
        obtain rfl := Option.some.inj (at_.symm.trans z)
        exact ⟨ha, by simpa using hl, vs, _, rv, ha⟩
      · exact nomatch (if_neg q).symm.trans z
    · exact Classical.byContradiction fun q => z (if_neg q)
end
theorem walk_G {l : PySem.W.OpenLaw} {n k : Nat} {q : Program} {loose : List Str} {XP : (Str → Option Value) → Heap → Prop} {YP : World → Heap → Prop} {d : DefRec} {K : Params → PySem.W.Frag} {sp : PySem.W.Frag → Sp} {x : Str}
    (hn : l.most = some n) (hn2 : n ≤ sizeLine) (hdf : d.params.defaults = []) (hr : Room k callerA) (hY : ∀ (w : World) (h : Heap), YP w h → (K w.params).In h)
    (F : ∀ (w : World) (mg : Str → Option Value) (fa : Addr) (h : Heap), (K w.params).In h → h.Ns mainGlobals mg → mg d.name = some (.ref fa) →
      ∃ fd : FuncData, (∀ (s : Shared) (u : Value), BindsTo s fd ⟨[u], []⟩ [(x, u)]) ∧ ∀ base : Heap, (K w.params).In base → base.Ns mainGlobals mg → FnG l.prog w (K w.params) mg base CX0 k fa fd [x] (sp (K w.params)))
    (hsp : ∀ (K : PySem.W.Frag) (H : Hp) (a : Addr) (ns : List Int), ns.length ≤ n → Only H → SqL K H a (ns.map V.int) → sp K [.ref a] H (fun v _ => v = .bl true) fun _ _ _ => False) :
    PySem.W.WalkO q loose XP YP l.row.toRowW d [] (fun f vs => PySem.call f vs) := by
  refine Att.attach_call hn hdf fun w _ s mg _ fa _ _ _ _ a vs ns G Y _ _ _ hmg hobj hints hlen hg => ?_
  obtain ⟨fd, hb, hF⟩ := F w mg fa _ (hY w _ Y) G.T.g hmg
  exact last_any (hY w _ Y) G.T.g G.T.b G.T.builtins G.T.nolimit hg hobj hints (Nat.le_trans hlen hn2) hr hF hb fun H hO hS => hsp _ H a ns hlen hO hS
end Nd

end

section
set_option Elab.async false
set_option linter.all false
set_option maxRecDepth 100000
set_option maxHeartbeats 4000000
/-! Nd: zip whose first part is a list or a tuple; things that are one of these. -/
namespace Nd
open PySem PySem.Spec PyProof.Rows L2
def iZipU (k2 : Bool) (K : PySem.W.Frag) (ta : TA) : TI := fun σ H R => iZipV false k2 K ta σ H R ∨ iZipV true k2 K ta σ H R
theorem pi_zipUK (K : PySem.W.Frag) {X : Cx} (k2 : Bool) {e e2 : Expr} {ta : TA} {p pos tpos : Pos} {elts : List Expr} {kk : Nat} (hg : Gl X "zip") (hm : X.mg "zip" = none) (ha : PA X [e, e2] ta) (ek : X.K = K := by rfl)
    (hs : starEach [e, e2] X.env = (false, eval e X.env) :: starEach [e2] X.env := by rfl) (hpl : (backTo pos (starEach [e2] X.env)).any (·.1) = false := by rfl) :
    PI X (.Tuple elts kk tpos) (.Call (.Name "zip" p) [e, e2] [] pos) (iZipU k2 K ta) :=
  ⟨fun pins s σ H R I h => h.elim (fun h => (pi_zipK K false k2 hg hm ha ek hs hpl).run pins s σ H R I h) fun h => (pi_zipK K true k2 hg hm ha ek hs hpl).run pins s σ H R I h⟩
section
variable {K : PySem.W.Frag} {tl : TA} {σ : L2.St} {H : Hp} {k2 : Bool} {R : It → Hp → Prop}
theorem u_zipUL (h : tl σ H fun vs H1 => ∃ a b xs ys, vs = [.ref a, .ref b] ∧ SqV false K H1 a xs ∧ SqV k2 K H1 b ys ∧ R (ItzV false k2 K a b) H1) : iZipU k2 K tl σ H R := .inl h
theorem u_zipUT (h : tl σ H fun vs H1 => ∃ a b xs ys, vs = [.ref a, .ref b] ∧ SqV true K H1 a xs ∧ SqV k2 K H1 b ys ∧ R (ItzV true k2 K a b) H1) : iZipU k2 K tl σ H R := .inr h
end
/-- a list, or a tuple -/
abbrev sqO (k : Bool) (xs : List V) : HO := cond k (.tup xs) (.lst xs)
end Nd

end

section
set_option linter.all false
/-! Plain law of k94: rotor walks are abelian; one walk is short. -/
namespace M94
abbrev Rows := List (List Int)
def row (R : Rows) (p : Nat) : List Int := R.getD p []
def ent (R : Rows) (h : List Int) (p : Nat) : Int := (row R p).getD (h.getD p 0).toNat 0
def nxt (R : Rows) (h : List Int) (p : Nat) : List Int := h.set p ((h.getD p 0 + 1) % ((row R p).length : Int))
structure Cfg where
  h : List Int
  c : Int → Nat
theorem Cfg.ext' {a b : Cfg} (h1 : a.h = b.h) (h2 : ∀ x, a.c x = b.c x) : a = b := by
  cases a; cases b
  simp only at h1 h2
  rw [h1, funext h2]
def fire (R : Rows) (s : Cfg) (p : Nat) : Cfg := ⟨nxt R s.h p, fun x => (s.c x - if x = (p : Int) then 1 else 0) + if x = ent R s.h p then 1 else 0⟩
theorem getD_set_ne {l : List Int} {p q : Nat} {v : Int} (h : p ≠ q) : (l.set p v).getD q 0 = l.getD q 0 := by
  simp only [List.getD_eq_getElem?_getD, List.getElem?_set_ne h]
theorem ent_other {R : Rows} {h : List Int} {p q : Nat} (n : p ≠ q) : ent R (nxt R h p) q = ent R h q := by
  unfold ent nxt
  rw [getD_set_ne n]
theorem nxt_comm {R : Rows} {h : List Int} {p q : Nat} (n : p ≠ q) : nxt R (nxt R h p) q = nxt R (nxt R h q) p := by
  have e1 : (nxt R h p).getD q 0 = h.getD q 0 := getD_set_ne n
  have e2 : (nxt R h q).getD p 0 = h.getD p 0 := getD_set_ne (Ne.symm n)
  show (nxt R h p).set q (((nxt R h p).getD q 0 + 1) % _) = (nxt R h q).set p (((nxt R h q).getD p 0 + 1) % _)
  rw [e1, e2]
  exact List.set_comm _ _ n
theorem fire_comm {R : Rows} {s : Cfg} {p q : Nat} (n : p ≠ q) (hp : 0 < s.c p) (hq : 0 < s.c q) : fire R (fire R s p) q = fire R (fire R s q) p := by
  refine Cfg.ext' (nxt_comm n) fun x => ?_
  show (((s.c x - _) + _) - _) + (if x = ent R (nxt R s.h p) q then 1 else 0) = (((s.c x - _) + _) - _) + (if x = ent R (nxt R s.h q) p then 1 else 0)
  rw [ent_other n, ent_other (Ne.symm n)]
  have n' : (p : Int) ≠ (q : Int) := by omega
  by_cases e1 : x = (p : Int)
  · have e2 : x ≠ (q : Int) := by omega
    subst e1
    simp only [if_pos, if_neg e2]
    omega
  · by_cases e2 : x = (q : Int)
    · subst e2
      simp only [if_neg e1, if_pos]
      omega
    · simp only [if_neg e1, if_neg e2]
      omega
inductive Run (R : Rows) : Cfg → Nat → Cfg → Prop where
  | done {s : Cfg} (h : ∀ p : Nat, p < R.length → s.c p = 0) : Run R s 0 s
  | step {s e : Cfg} {n : Nat} (p : Nat) (hp : p < R.length) (hc : 0 < s.c p) (r : Run R (fire R s p) n e) : Run R s (n + 1) e
theorem fire_c {R : Rows} {s : Cfg} {p q : Nat} (n : p ≠ q) (hq : 0 < s.c q) : 0 < (fire R s p).c q := by
  show 0 < (s.c q - if (q : Int) = (p : Int) then 1 else 0) + _
  rw [if_neg (show ¬ (q : Int) = (p : Int) by omega)]
  omega
theorem diamond {R : Rows} : ∀ {n : Nat} {s e : Cfg} {p : Nat}, Run R s n e → p < R.length → 0 < s.c p → ∃ m, n = m + 1 ∧ Run R (fire R s p) m e
  | 0, s, e, p, r, hp, hc => by
    cases r with
    | done h => rw [h p hp] at hc; omega
  | n + 1, s, e, p, r, hp, hc => by
    cases r with
    | step q hq hcq r =>
      by_cases h : p = q
      · subst h
        exact ⟨n, rfl, r⟩
      · obtain ⟨m, e1, r1⟩ := diamond r hp (fire_c (Ne.symm h) hc)
        subst e1
        refine ⟨m + 1, rfl, .step q hq (fire_c h hcq) ?_⟩
        rw [fire_comm h hc hcq]
        exact r1
theorem run_end {R : Rows} {n : Nat} {s e : Cfg} (r : Run R s n e) (h : ∀ p : Nat, p < R.length → s.c p = 0) : n = 0 ∧ s = e := by
  cases r with
  | done _ => exact ⟨rfl, rfl⟩
  | step q hq hc _ => rw [h q hq] at hc; omega
/-- more walkers, who wait -/
def more (s : Cfg) (d : Int → Nat) : Cfg := ⟨s.h, fun x => s.c x + d x⟩
theorem fire_more {R : Rows} {s : Cfg} {d : Int → Nat} {p : Nat} (hc : 0 < s.c p) : fire R (more s d) p = more (fire R s p) d := by
  refine Cfg.ext' rfl fun x => ?_
  show (s.c x + d x - _) + _ = (s.c x - _) + _ + d x
  by_cases e : x = (p : Int)
  · subst e
    simp only [if_pos, more]
    show s.c p + d p - 1 + (if (p : Int) = ent R s.h p then 1 else 0) = _
    omega
  · simp only [if_neg e]
    show s.c x + d x - 0 + (if x = ent R s.h p then 1 else 0) = s.c x - 0 + (if x = ent R s.h p then 1 else 0) + d x
    omega

/-! ### one walk -/
/-- rows in which each place leads on: rk a rank, gd an entry that leads to a greater rank, or home -/
structure Good (R : Rows) (m : Nat) (rk gd : Nat → Nat) : Prop where
  n5 : R.length ≤ 5
  n1 : 1 ≤ R.length
  le4 : ∀ p, p < R.length → 1 ≤ (row R p).length ∧ (row R p).length ≤ 4
  ents : ∀ p, p < R.length → ∀ x ∈ row R p, 0 ≤ x ∧ x < (R.length : Int) + m
  m1 : 1 ≤ m
  rk5 : ∀ p, p < R.length → rk p < R.length
  good : ∀ p, p < R.length → gd p < (row R p).length ∧ ∀ x, (row R p)[gd p]? = some x → (R.length : Int) ≤ x ∨ rk p < rk x.toNat
def HandsOk (R : Rows) (h : List Int) : Prop := h.length = R.length ∧ ∀ p, p < R.length → 0 ≤ h.getD p 0 ∧ h.getD p 0 < ((row R p).length : Int)
def aD : Nat → Int
  | 0 => 0
  | 1 => 4
  | 2 => 20
  | 3 => 84
  | 4 => 340
  | _ => 1364
/-- how many turns until the good entry -/
def wait (R : Rows) (gd : Nat → Nat) (h : List Int) (p : Nat) : Int := ((gd p : Int) - h.getD p 0) % ((row R p).length : Int)
def potB (R : Rows) (rk : Nat → Nat) (x : Int) : Int := if x < (R.length : Int) then 1364 - aD (rk x.toNat) else 0
def potH (R : Rows) (rk gd : Nat → Nat) (h : List Int) : Nat → Int
  | 0 => 0
  | k + 1 => potH R rk gd h k + wait R gd h k * (aD (rk k) + 1)
def pot (R : Rows) (rk gd : Nat → Nat) (h : List Int) (x : Int) : Int := potH R rk gd h R.length + potB R rk x
theorem aD_le (r : Nat) : 0 ≤ aD r ∧ aD r ≤ 1364 := by
  match r with
  | 0 | 1 | 2 | 3 | 4 => simp [aD]
  | _ + 5 => simp [aD]
theorem aD_up {r s : Nat} (h : r < s) (h5 : r ≤ 4) : 4 * aD r + 4 ≤ aD s := by
  match r, s with
  | 0, 1 | 0, 2 | 0, 3 | 0, 4 | 1, 2 | 1, 3 | 1, 4 | 2, 3 | 2, 4 | 3, 4 => simp [aD]
  | 0, s + 5 | 1, s + 5 | 2, s + 5 | 3, s + 5 | 4, s + 5 => simp [aD]
  | 1, 0 | 2, 0 | 3, 0 | 4, 0 | 2, 1 | 3, 1 | 4, 1 | 3, 2 | 4, 2 | 4, 3 | 0, 0 | 1, 1 | 2, 2 | 3, 3 | 4, 4 => omega
  | _ + 5, _ => omega
theorem aD_top {r : Nat} (h5 : r ≤ 4) : 4 * aD r + 4 ≤ 1364 := by
  match r with
  | 0 | 1 | 2 | 3 | 4 => simp [aD]
  | _ + 5 => omega
theorem potH_set {R : Rows} {rk gd : Nat → Nat} {h : List Int} {p : Nat} : ∀ k, potH R rk gd (nxt R h p) k = potH R rk gd h k + if p < k then (wait R gd (nxt R h p) p - wait R gd h p) * (aD (rk p) + 1) else 0
  | 0 => by simp [potH]
  | k + 1 => by
    show potH R rk gd (nxt R h p) k + wait R gd (nxt R h p) k * (aD (rk k) + 1) = potH R rk gd h k + wait R gd h k * (aD (rk k) + 1) + _
    rw [potH_set k]
    by_cases e : p = k
    · subst e
      rw [if_neg (Nat.lt_irrefl _), if_pos (Nat.lt_succ_self _), Int.sub_mul]
      omega
    · have hw : wait R gd (nxt R h p) k = wait R gd h k := by unfold wait nxt; rw [getD_set_ne e]
      rw [hw]
      by_cases l : p < k
      · rw [if_pos l, if_pos (by omega)]; omega
      · rw [if_neg l, if_neg (by omega)]; omega
theorem nxt_len {R : Rows} {h : List Int} {p : Nat} : (nxt R h p).length = h.length := List.length_set ..
theorem nxt_at {R : Rows} {h : List Int} {p : Nat} (hp : p < h.length) : (nxt R h p).getD p 0 = (h.getD p 0 + 1) % ((row R p).length : Int) := by
  unfold nxt
  simp [List.getD_eq_getElem?_getD, List.getElem?_set_self hp]
theorem nxt_ok {R : Rows} {h : List Int} {p : Nat} (ok : HandsOk R h) (hp : p < R.length) (l : 1 ≤ (row R p).length) : HandsOk R (nxt R h p) := by
  refine ⟨nxt_len.trans ok.1, fun q hq => ?_⟩
  by_cases e : p = q
  · subst e
    rw [nxt_at (by rw [ok.1]; exact hp)]
    exact ⟨Int.emod_nonneg _ (by omega), Int.emod_lt_of_pos _ (by omega)⟩
  · have : (nxt R h p).getD q 0 = h.getD q 0 := getD_set_ne e
    rw [this]; exact ok.2 q hq
theorem ent_mem {R : Rows} {h : List Int} {p : Nat} (ok : HandsOk R h) (hp : p < R.length) : ent R h p ∈ row R p := by
  obtain ⟨h0, h1⟩ := ok.2 p hp
  unfold ent
  have : (h.getD p 0).toNat < (row R p).length := by omega
  rw [List.getD_eq_getElem?_getD, List.getElem?_eq_getElem this]
  exact List.getElem_mem _
theorem pot_down {R : Rows} {m : Nat} {rk gd : Nat → Nat} {h : List Int} {p : Nat} (G : Good R m rk gd) (ok : HandsOk R h) (hp : p < R.length) : pot R rk gd (nxt R h p) (ent R h p) + 1 ≤ pot R rk gd h p := by
  obtain ⟨l1, l4⟩ := G.le4 p hp
  obtain ⟨h0, h1⟩ := ok.2 p hp
  have hph : p < h.length := by rw [ok.1]; exact hp
  have r4 : rk p ≤ 4 := by have := G.rk5 p hp; have := G.n5; omega
  obtain ⟨a0, a1⟩ := aD_le (rk p)
  have aup := aD_top r4
  unfold pot
  rw [potH_set, if_pos hp]
  have hB : potB R rk (p : Int) = 1364 - aD (rk p) := by unfold potB; rw [if_pos (by omega)]; rfl
  rw [hB]
  have hBe : potB R rk (ent R h p) ≤ 1364 := by
    unfold potB
    have := (aD_le (rk (ent R h p).toNat)).1
    split <;> omega
  have ew : wait R gd (nxt R h p) p = ((gd p : Int) - (h.getD p 0 + 1)) % ((row R p).length : Int) := by
    unfold wait
    rw [nxt_at hph]
    rw [Int.sub_emod, Int.emod_emod_of_dvd _ (Int.dvd_refl _), ← Int.sub_emod]
  obtain ⟨g1, g2⟩ := G.good p hp
  by_cases hg : h.getD p 0 = (gd p : Int)
  · -- the good entry
    have w0 : wait R gd h p = 0 := by unfold wait; rw [hg, Int.sub_self]; exact Int.zero_emod _
    have w1 : wait R gd (nxt R h p) p ≤ 3 := by
      rw [ew]
      have := Int.emod_lt_of_pos ((gd p : Int) - (h.getD p 0 + 1)) (show (0 : Int) < ((row R p).length : Int) by omega)
      omega
    have he : (row R p)[gd p]? = some (ent R h p) := by
      unfold ent
      rw [hg, Int.toNat_natCast, List.getD_eq_getElem?_getD, List.getElem?_eq_getElem g1]
      rfl
    have hB2 : potB R rk (ent R h p) ≤ 1364 - (4 * aD (rk p) + 4) := by
      rcases g2 _ he with q | q
      · unfold potB; rw [if_neg (by omega)]; omega
      · unfold potB
        have := aD_up q r4
        split <;> omega
    rw [w0, Int.sub_zero]
    have : wait R gd (nxt R h p) p * (aD (rk p) + 1) ≤ 3 * (aD (rk p) + 1) := Int.mul_le_mul_of_nonneg_right w1 (by omega)
    omega
  · have w1 : wait R gd (nxt R h p) p = wait R gd h p - 1 := by
      rw [ew]
      unfold wait
      have hne : ((gd p : Int) - h.getD p 0) % ((row R p).length : Int) ≠ 0 := fun z => by
        obtain ⟨k, hk⟩ := Int.dvd_of_emod_eq_zero z
        have g1' : (gd p : Int) < ((row R p).length : Int) := by omega
        have k0 : k = 0 := by
          rcases Int.lt_trichotomy k 0 with q | q | q
          · have : ((row R p).length : Int) * k ≤ ((row R p).length : Int) * (-1) := Int.mul_le_mul_of_nonneg_left (by omega) (by omega)
            omega
          · exact q
          · have : ((row R p).length : Int) * 1 ≤ ((row R p).length : Int) * k := Int.mul_le_mul_of_nonneg_left (by omega) (by omega)
            omega
        rw [k0, Int.mul_zero] at hk
        omega
      have e0 := Int.emod_nonneg ((gd p : Int) - h.getD p 0) (show ((row R p).length : Int) ≠ 0 by omega)
      have e1 := Int.emod_lt_of_pos ((gd p : Int) - h.getD p 0) (show (0 : Int) < ((row R p).length : Int) by omega)
      have e2 := Int.emod_add_mul_ediv ((gd p : Int) - h.getD p 0) ((row R p).length : Int)
      generalize ((gd p : Int) - h.getD p 0) % ((row R p).length : Int) = w at *
      generalize ((gd p : Int) - h.getD p 0) / ((row R p).length : Int) = q at *
      have e3 : (gd p : Int) - (h.getD p 0 + 1) = (w - 1) + ((row R p).length : Int) * q := by omega
      rw [e3, Int.add_mul_emod_self_left]
      exact Int.emod_eq_of_lt (by omega) (by omega)
    rw [w1]
    have : (wait R gd h p - 1 - wait R gd h p) * (aD (rk p) + 1) = -(aD (rk p) + 1) := by
      rw [show wait R gd h p - 1 - wait R gd h p = -1 by omega, Int.neg_mul, Int.one_mul]
    rw [this]
    omega
theorem aD_le4 {r : Nat} (h : r ≤ 4) : aD r ≤ 340 := by
  match r with
  | 0 | 1 | 2 | 3 | 4 => simp [aD]
  | _ + 5 => omega
theorem potH_ge {R : Rows} {m : Nat} {rk gd : Nat → Nat} {h : List Int} (G : Good R m rk gd) : ∀ k, k ≤ R.length → 0 ≤ potH R rk gd h k ∧ potH R rk gd h k ≤ 1023 * k
  | 0, _ => by simp [potH]
  | k + 1, hk => by
    obtain ⟨i0, i1⟩ := potH_ge (h := h) G k (by omega)
    obtain ⟨a0, a1⟩ := aD_le (rk k)
    have a4 := aD_le4 (show rk k ≤ 4 by have := G.rk5 k (by omega); have := G.n5; omega)
    obtain ⟨l1, l4⟩ := G.le4 k (by omega)
    have w0 : 0 ≤ wait R gd h k := Int.emod_nonneg _ (by omega)
    have w1 : wait R gd h k ≤ 3 := by
      have := Int.emod_lt_of_pos ((gd k : Int) - h.getD k 0) (show (0 : Int) < ((row R k).length : Int) by omega)
      unfold wait; omega
    have m0 : 0 ≤ wait R gd h k * (aD (rk k) + 1) := Int.mul_nonneg w0 (by omega)
    have m1 : wait R gd h k * (aD (rk k) + 1) ≤ 3 * 341 := Int.mul_le_mul w1 (by omega) (by omega) (by omega)
    show 0 ≤ potH R rk gd h k + wait R gd h k * (aD (rk k) + 1) ∧ potH R rk gd h k + wait R gd h k * (aD (rk k) + 1) ≤ 1023 * ((k + 1 : Nat) : Int)
    omega
theorem pot_ge {R : Rows} {m : Nat} {rk gd : Nat → Nat} {h : List Int} (G : Good R m rk gd) (x : Int) : 0 ≤ pot R rk gd h x ∧ pot R rk gd h x ≤ 6479 := by
  obtain ⟨i0, i1⟩ := potH_ge (h := h) G R.length (Nat.le_refl _)
  have := G.n5
  have hB : 0 ≤ potB R rk x ∧ potB R rk x ≤ 1364 := by
    unfold potB
    have := aD_le (rk x.toNat)
    split <;> omega
  unfold pot
  omega
/-- a walk of at most so many steps: hands, where it ends, how many steps -/
def play (R : Rows) : Nat → List Int → Int → List Int × Int × Nat
  | 0, h, x => (h, x, 0)
  | k + 1, h, x => if x < (R.length : Int) then
      ((play R k (nxt R h x.toNat) (ent R h x.toNat)).1, (play R k (nxt R h x.toNat) (ent R h x.toNat)).2.1, (play R k (nxt R h x.toNat) (ent R h x.toNat)).2.2 + 1) else (h, x, 0)
theorem play_in {R : Rows} {k : Nat} {h : List Int} {x : Int} (hx : x < (R.length : Int)) : play R (k + 1) h x =
      ((play R k (nxt R h x.toNat) (ent R h x.toNat)).1, (play R k (nxt R h x.toNat) (ent R h x.toNat)).2.1, (play R k (nxt R h x.toNat) (ent R h x.toNat)).2.2 + 1) := if_pos hx
theorem play_out {R : Rows} {k : Nat} {h : List Int} {x : Int} (hx : (R.length : Int) ≤ x) : play R k h x = (h, x, 0) := by
  cases k with
  | zero => rfl
  | succ k => exact if_neg (by omega)
def XOk (R : Rows) (m : Nat) (x : Int) : Prop := 0 ≤ x ∧ x < (R.length : Int) + m
theorem play_home {R : Rows} {m : Nat} {rk gd : Nat → Nat} (G : Good R m rk gd) : ∀ (k : Nat) (h : List Int) (x : Int), HandsOk R h → XOk R m x → pot R rk gd h x ≤ k →
    HandsOk R (play R k h x).1 ∧ XOk R m (play R k h x).2.1 ∧ (R.length : Int) ≤ (play R k h x).2.1 ∧ ((play R k h x).2.2 : Int) ≤ k
  | 0, h, x, ok, hx, hp => by
    by_cases e : x < (R.length : Int)
    · have d := pot_down G ok (show x.toNat < R.length by have := hx.1; omega)
      have g := (pot_ge (h := nxt R h x.toNat) G (ent R h x.toNat)).1
      rw [show ((x.toNat : Nat) : Int) = x from Int.toNat_of_nonneg hx.1] at d
      omega
    · exact ⟨ok, hx, by show (R.length : Int) ≤ x; omega, by simp [play]⟩
  | k + 1, h, x, ok, hx, hp => by
    by_cases e : x < (R.length : Int)
    · have hxn : x.toNat < R.length := by have := hx.1; omega
      have d := pot_down G ok hxn
      rw [show ((x.toNat : Nat) : Int) = x from Int.toNat_of_nonneg hx.1] at d
      have ih := play_home G k (nxt R h x.toNat) (ent R h x.toNat) (nxt_ok ok hxn (G.le4 _ hxn).1) (G.ents _ hxn _ (ent_mem ok hxn)) (by omega)
      rw [play_in e]
      refine ⟨ih.1, ih.2.1, ih.2.2.1, ?_⟩
      have := ih.2.2.2
      show (((play R k (nxt R h x.toNat) (ent R h x.toNat)).2.2 + 1 : Nat) : Int) ≤ ((k + 1 : Nat) : Int)
      omega
    · rw [play_out (by omega)]
      exact ⟨ok, hx, by show (R.length : Int) ≤ x; omega, by show ((0 : Nat) : Int) ≤ _; omega⟩
/-- how many of xs are x -/
def cnt (xs : List Int) (x : Int) : Nat := xs.count x
theorem cnt_cons {a : Int} {xs : List Int} {x : Int} : cnt (a :: xs) x = cnt xs x + if x = a then 1 else 0 := by
  unfold cnt
  rw [List.count_cons]
  by_cases h : x = a
  · subst h; simp
  · have : (a == x) = false := by simpa using fun e => h e.symm
    rw [this, if_neg h]; rfl
theorem cnt_pos {xs : List Int} {i : Nat} {x : Int} (h : xs[i]? = some x) : 0 < cnt xs x := List.count_pos_iff.mpr (List.mem_of_getElem? h)
theorem cnt_set : ∀ {xs : List Int} {i : Nat} {p e : Int} {x : Int}, xs[i]? = some p → cnt (xs.set i e) x = (cnt xs x - if x = p then 1 else 0) + if x = e then 1 else 0
  | [], _, _, _, _, h => by simp at h
  | a :: xs, 0, p, e, x, h => by
    have : a = p := by simpa using h
    subst this
    rw [List.set_cons_zero, cnt_cons, cnt_cons]
    omega
  | a :: xs, i + 1, p, e, x, h => by
    have h' : xs[i]? = some p := by simpa using h
    rw [List.set_cons_succ, cnt_cons, cnt_cons, cnt_set h']
    have := cnt_pos h'
    by_cases e1 : x = p
    · subst e1
      simp only [if_pos]
      omega
    · simp only [if_neg e1]
      omega
def moved (c : Int → Nat) (x y : Int) : Int → Nat := fun z => (c z - if z = x then 1 else 0) + if z = y then 1 else 0
theorem moved_same {c : Int → Nat} {x : Int} (h : 0 < c x) : moved c x x = c := by
  funext z
  unfold moved
  by_cases e : z = x
  · subst e; simp only [if_pos]; omega
  · simp only [if_neg e]; omega
theorem moved_pos {c : Int → Nat} {x y : Int} : 0 < moved c x y y := by unfold moved; simp
theorem moved_two {c : Int → Nat} {x y z : Int} (h : 0 < c x) : moved (moved c x y) y z = moved c x z := by
  funext w
  unfold moved
  by_cases e1 : w = x <;> by_cases e2 : w = y <;> by_cases e3 : w = z <;> simp only [e1, e2, e3, if_pos, if_neg, not_false_eq_true, ↓reduceIte] <;> (try subst e1) <;> (try subst e2) <;> (try subst e3) <;> simp_all <;> omega
theorem play_run {R : Rows} {m : Nat} {rk gd : Nat → Nat} (G : Good R m rk gd) : ∀ (k : Nat) (h : List Int) (x : Int) (c : Int → Nat) (n : Nat) (e : Cfg), HandsOk R h → XOk R m x → 0 < c x →
    Run R ⟨(play R k h x).1, moved c x (play R k h x).2.1⟩ n e → Run R ⟨h, c⟩ ((play R k h x).2.2 + n) e
  | 0, h, x, c, n, e, ok, hx, hc, r => by
    show Run R ⟨h, c⟩ (0 + n) e
    rw [Nat.zero_add]
    have r' : Run R ⟨h, moved c x x⟩ n e := r
    rw [moved_same hc] at r'
    exact r'
  | k + 1, h, x, c, n, e, ok, hx, hc, r => by
    by_cases l : x < (R.length : Int)
    · have hxn : x.toNat < R.length := by have := hx.1; omega
      have ex : ((x.toNat : Nat) : Int) = x := Int.toNat_of_nonneg hx.1
      rw [play_in l] at r ⊢
      have f : fire R ⟨h, c⟩ x.toNat = ⟨nxt R h x.toNat, moved c x (ent R h x.toNat)⟩ := by
        refine Cfg.ext' rfl fun z => ?_
        show (c z - if z = ((x.toNat : Nat) : Int) then 1 else 0) + _ = _
        rw [ex]; rfl
      have ih := play_run G k (nxt R h x.toNat) (ent R h x.toNat) (moved c x (ent R h x.toNat)) n e (nxt_ok ok hxn (G.le4 _ hxn).1) (G.ents _ hxn _ (ent_mem ok hxn)) moved_pos (by rw [moved_two hc]; exact r)
      show Run R ⟨h, c⟩ ((play R k (nxt R h x.toNat) (ent R h x.toNat)).2.2 + 1 + n) e
      rw [show (play R k (nxt R h x.toNat) (ent R h x.toNat)).2.2 + 1 + n = ((play R k (nxt R h x.toNat) (ent R h x.toNat)).2.2 + n) + 1 by omega]
      refine .step x.toNat hxn (show 0 < c ((x.toNat : Nat) : Int) by rw [ex]; exact hc) ?_
      rw [f]; exact ih
    · rw [play_out (by omega)] at r ⊢
      show Run R ⟨h, c⟩ (0 + n) e
      rw [Nat.zero_add]
      have r' : Run R ⟨h, moved c x x⟩ n e := r
      rw [moved_same hc] at r'
      exact r'
end M94

end

section
set_option linter.all false
/-! Plain law of k94, on: worlds' states, rows made, all in a row. -/
namespace M94
structure WS where
  hs : List Int
  sn : List Int
  won : List Int
  k : Int
def bump (won : List Int) (j : Nat) : List Int := won.set j (won.getD j 0 + 1)
/-- walker i, at the place p, is sent on -/
def sent (R : Rows) (s : WS) (i p : Nat) : WS := ⟨nxt R s.hs p, s.sn.set i (ent R s.hs p), if (R.length : Int) ≤ ent R s.hs p then bump s.won (ent R s.hs p - R.length).toNat else s.won, s.k + 1⟩
/-- a walker is led home -/
def ledTo (R : Rows) (s : WS) (i : Nat) (x : Int) : WS := ⟨(play R 10000 s.hs x).1, s.sn.set i (play R 10000 s.hs x).2.1, bump s.won ((play R 10000 s.hs x).2.1 - R.length).toNat, s.k + (play R 10000 s.hs x).2.2⟩
structure SOk (R : Rows) (m : Nat) (s : WS) : Prop where
  hok : HandsOk R s.hs
  xs : ∀ x ∈ s.sn, XOk R m x
  wl : s.won.length = m
  won : ∀ j, j < m → s.won.getD j 0 = cnt s.sn (R.length + j)
  l200 : s.sn.length ≤ 200
theorem set_mem {xs : List Int} {i : Nat} {y x : Int} (h : x ∈ xs.set i y) : x ∈ xs ∨ x = y := by
  rcases List.mem_or_eq_of_mem_set h with q | q
  · exact .inl q
  · exact .inr q
theorem bump_get {won : List Int} {j k : Nat} (hj : j < won.length) : (bump won j).getD k 0 = won.getD k 0 + if k = j then 1 else 0 := by
  unfold bump
  by_cases e : k = j
  · subst e
    simp [List.getD_eq_getElem?_getD, List.getElem?_set_self hj]
  · rw [getD_set_ne (Ne.symm e), if_neg e, Int.add_zero]
theorem cfg_sent {R : Rows} {s : WS} {i p : Nat} (hp : s.sn[i]? = some (p : Int)) : (⟨(sent R s i p).hs, cnt (sent R s i p).sn⟩ : Cfg) = fire R ⟨s.hs, cnt s.sn⟩ p :=
  Cfg.ext' rfl fun x => cnt_set hp
theorem adv {R : Rows} {m : Nat} {rk gd : Nat → Nat} {s : WS} {i p st : Nat} {d : Int → Nat} {e : Cfg} (G : Good R m rk gd) (ok : SOk R m s) (hp : s.sn[i]? = some (p : Int)) (hpR : p < R.length) (r : Run R (more ⟨s.hs, cnt s.sn⟩ d) st e) :
    ∃ st', st = st' + 1 ∧ Run R (more ⟨(sent R s i p).hs, cnt (sent R s i p).sn⟩ d) st' e ∧ SOk R m (sent R s i p) := by
  have hc := cnt_pos hp
  obtain ⟨st', e1, r1⟩ := diamond r hpR (show 0 < (more ⟨s.hs, cnt s.sn⟩ d).c p by show 0 < cnt s.sn p + d p; omega)
  rw [fire_more hc, ← cfg_sent hp] at r1
  obtain ⟨x0, x1⟩ := G.ents p hpR _ (ent_mem ok.hok hpR)
  refine ⟨st', e1, r1, nxt_ok ok.hok hpR (G.le4 p hpR).1, fun x hx => ?_, ?_, fun j hj => ?_, by show (s.sn.set i _).length ≤ 200; rw [List.length_set]; exact ok.l200⟩
  · rcases set_mem hx with q | q
    · exact ok.xs x q
    · rw [q]; exact ⟨x0, x1⟩
  · show (if _ then _ else _ : List Int).length = m
    split
    · rw [bump, List.length_set]; exact ok.wl
    · exact ok.wl
  · show (if _ then _ else _ : List Int).getD j 0 = ((cnt (s.sn.set i (ent R s.hs p)) (R.length + j) : Nat) : Int)
    rw [cnt_set hp, if_neg (show ¬ ((R.length : Int) + j = (p : Int)) by omega)]
    have w := ok.won j hj
    split
    · rename_i h
      rw [bump_get (by rw [ok.wl]; omega), w]
      by_cases q : j = (ent R s.hs p - R.length).toNat
      · rw [if_pos q, if_pos (by omega)]; omega
      · rw [if_neg q, if_neg (by omega)]; omega
    · rw [w, if_neg (by omega)]; omega
theorem led_run {R : Rows} {m : Nat} {rk gd : Nat → Nat} (G : Good R m rk gd) {d : Int → Nat} {e : Cfg} {i : Nat} : ∀ (k : Nat) (h : List Int) (sn : List Int) (x : Int) (st : Nat), HandsOk R h → XOk R m x → sn[i]? = some x → Run R (more ⟨h, cnt sn⟩ d) st e →
    ∃ st', st = st' + (play R k h x).2.2 ∧ Run R (more ⟨(play R k h x).1, cnt (sn.set i (play R k h x).2.1)⟩ d) st' e
  | 0, h, sn, x, st, ok, hx, hi, r => by
    refine ⟨st, rfl, ?_⟩
    have e1 : sn.set i x = sn := by
      obtain ⟨l1, l2⟩ := List.getElem?_eq_some_iff.mp hi
      rw [← l2]; exact List.set_getElem_self l1
    show Run R (more ⟨h, cnt (sn.set i x)⟩ d) st e
    rw [e1]; exact r
  | k + 1, h, sn, x, st, ok, hx, hi, r => by
    by_cases l : x < (R.length : Int)
    · have hxn : x.toNat < R.length := by have := hx.1; omega
      have ex : ((x.toNat : Nat) : Int) = x := Int.toNat_of_nonneg hx.1
      have hi' : sn[i]? = some ((x.toNat : Nat) : Int) := by rw [ex]; exact hi
      have hc := cnt_pos hi'
      obtain ⟨st1, e1, r1⟩ := diamond r hxn (show 0 < (more ⟨h, cnt sn⟩ d).c x.toNat by show 0 < cnt sn x.toNat + d x.toNat; omega)
      have ef : fire R ⟨h, cnt sn⟩ x.toNat = ⟨nxt R h x.toNat, cnt (sn.set i (ent R h x.toNat))⟩ := (Cfg.ext' rfl fun z => (cnt_set hi').symm)
      rw [fire_more hc, ef] at r1
      obtain ⟨st', e2, r2⟩ := led_run G k (nxt R h x.toNat) (sn.set i (ent R h x.toNat)) (ent R h x.toNat) st1 (nxt_ok ok hxn (G.le4 _ hxn).1) (G.ents _ hxn _ (ent_mem ok hxn)) (List.getElem?_set_self (List.getElem?_eq_some_iff.mp hi).1) r1
      rw [play_in l]
      refine ⟨st', by rw [e1, e2]; rfl, ?_⟩
      rw [List.set_set] at r2
      exact r2
    · rw [play_out (by omega)]
      refine ⟨st, rfl, ?_⟩
      have e1 : sn.set i x = sn := by
        obtain ⟨l1, l2⟩ := List.getElem?_eq_some_iff.mp hi
        rw [← l2]; exact List.set_getElem_self l1
      show Run R (more ⟨h, cnt (sn.set i x)⟩ d) st e
      rw [e1]; exact r
theorem led {R : Rows} {m : Nat} {rk gd : Nat → Nat} {s : WS} {i p st : Nat} {d : Int → Nat} {e : Cfg} (G : Good R m rk gd) (ok : SOk R m s) (hp : s.sn[i]? = some (p : Int)) (hpR : p < R.length) (r : Run R (more ⟨s.hs, cnt s.sn⟩ d) st e) :
    ∃ st' j, st = st' + (j + 1) ∧ Run R (more ⟨(ledTo R s i p).hs, cnt (ledTo R s i p).sn⟩ d) st' e ∧ SOk R m (ledTo R s i p) ∧ (ledTo R s i p).k = s.k + ((j + 1 : Nat) : Int) ∧ (R.length : Int) ≤ (play R 10000 s.hs p).2.1 := by
  have hx : XOk R m (p : Int) := ⟨by omega, by have := G.m1; omega⟩
  obtain ⟨st', e1, r1⟩ := led_run G 10000 s.hs s.sn p st ok.hok hx hp r
  have ph := play_home G 10000 s.hs p ok.hok hx (by have := (pot_ge (h := s.hs) G p).2; omega)
  have hj : ∃ j, (play R 10000 s.hs p).2.2 = j + 1 := by
    rw [show (10000 : Nat) = 9999 + 1 from rfl, play_in (show (p : Int) < (R.length : Int) by omega)]
    exact ⟨_, rfl⟩
  obtain ⟨j, hj⟩ := hj
  obtain ⟨y0, y1⟩ := ph.2.1
  refine ⟨st', j, by rw [← hj]; exact e1, r1, ⟨ph.1, fun x hx => ?_, ?_, fun q hq => ?_, by show (s.sn.set i _).length ≤ 200; rw [List.length_set]; exact ok.l200⟩, ?_, ph.2.2.1⟩
  · rcases set_mem hx with q | q
    · exact ok.xs x q
    · rw [q]; exact ph.2.1
  · show (bump s.won _).length = m
    rw [bump, List.length_set]; exact ok.wl
  · show (bump s.won _).getD q 0 = ((cnt (s.sn.set i (play R 10000 s.hs p).2.1) (R.length + q) : Nat) : Int)
    have hh := ph.2.2.1
    rw [cnt_set hp, if_neg (show ¬ ((R.length : Int) + q = (p : Int)) by omega), bump_get (by rw [ok.wl]; omega), ok.won q hq]
    by_cases z : q = ((play R 10000 s.hs p).2.1 - R.length).toNat
    · rw [if_pos z, if_pos (by omega)]; omega
    · rw [if_neg z, if_neg (by omega)]; omega
  · show s.k + ((play R 10000 s.hs p).2.2 : Int) = _
    rw [hj]
/-! ### who is not home -/
def alive (n : Int) (sn : List Int) : Nat → List Int
  | 0 => []
  | k + 1 => alive n sn k ++ if sn.getD k 0 < n then [(k : Int)] else []
theorem alive_mem {n : Int} {sn : List Int} {x : Int} : ∀ {k : Nat}, x ∈ alive n sn k ↔ 0 ≤ x ∧ x < k ∧ sn.getD x.toNat 0 < n
  | 0 => by simp [alive]; omega
  | k + 1 => by
    show x ∈ alive n sn k ++ _ ↔ _
    rw [List.mem_append, alive_mem (k := k)]
    by_cases h : sn.getD k 0 < n
    · rw [if_pos h]
      constructor
      · rintro (q | q)
        · exact ⟨q.1, by omega, q.2.2⟩
        · have := List.mem_singleton.mp q
          subst this
          exact ⟨by omega, by omega, by rw [Int.toNat_natCast]; exact h⟩
      · rintro ⟨q1, q2, q3⟩
        by_cases z : x < k
        · exact .inl ⟨q1, z, q3⟩
        · exact .inr (List.mem_singleton.mpr (by omega))
    · rw [if_neg h]
      constructor
      · rintro (q | q)
        · exact ⟨q.1, by omega, q.2.2⟩
        · cases q
      · rintro ⟨q1, q2, q3⟩
        refine .inl ⟨q1, ?_, q3⟩
        by_cases z : x < k
        · exact z
        · have : x.toNat = k := by omega
          rw [this] at q3
          exact absurd q3 h
theorem alive_nodup {n : Int} {sn : List Int} : ∀ k : Nat, (alive n sn k).Nodup
  | 0 => by simp [alive]
  | k + 1 => by
    show (alive n sn k ++ _).Nodup
    refine List.nodup_append.mpr ⟨alive_nodup k, by split <;> simp, fun a ha b hb e => ?_⟩
    subst e
    have := alive_mem.mp ha
    split at hb
    · have := List.mem_singleton.mp hb; omega
    · cases hb
theorem alive_len {n : Int} {sn : List Int} : ∀ k : Nat, (alive n sn k).length ≤ k
  | 0 => by simp [alive]
  | k + 1 => by
    show (alive n sn k ++ _).length ≤ _
    rw [List.length_append]
    have := alive_len (n := n) (sn := sn) k
    split <;> simp <;> omega
/-- the walkers that are left, each once -/
def Left (n : Int) (sn : List Int) (l : List Int) : Prop := l.Nodup ∧ ∀ x, x ∈ l ↔ 0 ≤ x ∧ x < (sn.length : Int) ∧ sn.getD x.toNat 0 < n
theorem Left.start {n : Int} {sn : List Int} : Left n sn (alive n sn sn.length) := ⟨alive_nodup _, fun _ => alive_mem⟩
theorem len_sub : ∀ {l r : List Int}, l.Nodup → (∀ x ∈ l, x ∈ r) → l.length ≤ r.length
  | [], _, _, _ => Nat.zero_le _
  | a :: l, r, nd, h => by
    obtain ⟨n1, n2⟩ := List.nodup_cons.mp nd
    have ha := h a List.mem_cons_self
    have ih := len_sub (l := l) (r := r.erase a) n2 fun x hx => (List.mem_erase_of_ne (by intro e; subst e; exact n1 hx)).mpr (h x (List.mem_cons_of_mem _ hx))
    rw [List.length_erase_of_mem ha] at ih
    have := List.length_pos_of_mem ha
    rw [List.length_cons]
    omega
theorem Left.len {n : Int} {sn l : List Int} (h : Left n sn l) : l.length ≤ sn.length := Nat.le_trans (len_sub h.1 fun x hx => alive_mem.mpr ((h.2 x).mp hx)) (alive_len _)
theorem getD_set_self {xs : List Int} {i : Nat} {y : Int} (h : i < xs.length) : (xs.set i y).getD i 0 = y := by simp [List.getD_eq_getElem?_getD, List.getElem?_set_self h]
theorem Left.gone {n : Int} {sn l : List Int} {w y : Int} (h : Left n sn l) (hw : w ∈ l) (hy : ¬ y < n) : Left n (sn.set w.toNat y) (l.erase w) := by
  obtain ⟨w0, w1, w2⟩ := (h.2 w).mp hw
  refine ⟨h.1.erase _, fun x => ?_⟩
  rw [h.1.mem_erase_iff, h.2 x, List.length_set]
  constructor
  · rintro ⟨q1, q2, q3, q4⟩
    refine ⟨q2, q3, ?_⟩
    rw [getD_set_ne (by omega)]; exact q4
  · rintro ⟨q2, q3, q4⟩
    by_cases e : x = w
    · subst e
      rw [getD_set_self (by omega)] at q4
      exact absurd q4 hy
    · rw [getD_set_ne (by omega)] at q4
      exact ⟨e, q2, q3, q4⟩
theorem Left.stays {n : Int} {sn l : List Int} {w y : Int} (h : Left n sn l) (hw : w ∈ l) (hy : y < n) : Left n (sn.set w.toNat y) (l.erase w ++ [w]) := by
  obtain ⟨w0, w1, w2⟩ := (h.2 w).mp hw
  refine ⟨List.nodup_append.mpr ⟨h.1.erase _, by simp, fun a ha b hb e => ?_⟩, fun x => ?_⟩
  · have := List.mem_singleton.mp hb
    subst this
    subst e
    exact (h.1.mem_erase_iff.mp ha).1 rfl
  · rw [List.mem_append, h.1.mem_erase_iff, h.2 x, List.length_set, List.mem_singleton]
    constructor
    · rintro (⟨q1, q2, q3, q4⟩ | q)
      · exact ⟨q2, q3, by rw [getD_set_ne (by omega)]; exact q4⟩
      · subst q
        exact ⟨w0, w1, by rw [getD_set_self (by omega)]; exact hy⟩
    · rintro ⟨q2, q3, q4⟩
      by_cases e : x = w
      · exact .inr e
      · rw [getD_set_ne (by omega)] at q4
        exact .inl ⟨e, q2, q3, q4⟩
theorem Left.none {n : Int} {sn : List Int} (h : Left n sn []) : ∀ x ∈ sn, n ≤ x := fun x hx => by
  obtain ⟨i, hi, e⟩ := List.mem_iff_getElem.mp hx
  by_cases q : x < n
  · have : ((i : Nat) : Int) ∈ ([] : List Int) := (h.2 _).mpr ⟨by omega, by omega, by rw [Int.toNat_natCast, List.getD_eq_getElem?_getD, List.getElem?_eq_getElem hi, Option.getD_some, e]; exact q⟩
    cases this
  · omega
end M94

end

section
set_option linter.all false
/-! Plain law of k94, on: rows drawn and told by other numbers. -/
namespace M94
def ren (n : Nat) (names : List Int) (e : Int) : Int := if e < (n : Int) then names.getD e.toNat 0 else e
def mkR (n : Nat) (names : List Int) (R1 : Rows) : Rows := (List.range n).map fun (p : Nat) => (row R1 (names.idxOf ((p : Nat) : Int))).map (ren n names)
/-- the drawn rows ahead of their new numbers -/
structure Drawn (n m : Nat) (R1 : Rows) (g : Nat → Nat) : Prop where
  len : ∀ j, j < R1.length → 1 ≤ (row R1 j).length ∧ (row R1 j).length ≤ 4
  ents : ∀ j, j < R1.length → ∀ x ∈ row R1 j, 0 ≤ x ∧ x < (n : Int) + m
  good : ∀ j, j < R1.length → g j < (row R1 j).length ∧ ∀ x, (row R1 j)[g j]? = some x → (j : Int) < x
theorem row_snoc {R : Rows} {rw : List Int} {j : Nat} : row (R ++ [rw]) j = if j < R.length then row R j else if j = R.length then rw else [] := by
  unfold row
  rw [List.getD_eq_getElem?_getD, List.getD_eq_getElem?_getD]
  split
  · rename_i h; rw [List.getElem?_append_left h]
  · rename_i h
    rw [List.getElem?_append_right (by omega)]
    split
    · rename_i h2; rw [show j - R.length = 0 by omega]; rfl
    · rw [List.getElem?_eq_none (by simp; omega)]; rfl
theorem Drawn.snoc {n m : Nat} {R1 : Rows} {g : Nat → Nat} {rw : List Int} {d : Nat} (D : Drawn n m R1 g) (h1 : 1 ≤ rw.length ∧ rw.length ≤ 4) (h2 : ∀ x ∈ rw, 0 ≤ x ∧ x < (n : Int) + m) (h3 : d < rw.length) (h4 : ∀ x, rw[d]? = some x → (R1.length : Int) < x) :
    Drawn n m (R1 ++ [rw]) (fun j => if j = R1.length then d else g j) := by
  have cases_ : ∀ j, j < (R1 ++ [rw]).length → (j < R1.length ∧ row (R1 ++ [rw]) j = row R1 j) ∨ (j = R1.length ∧ row (R1 ++ [rw]) j = rw) := fun j hj => by
    rw [List.length_append] at hj
    rw [row_snoc]
    by_cases q : j < R1.length
    · exact .inl ⟨q, if_pos q⟩
    · have : j = R1.length := by simp at hj; omega
      exact .inr ⟨this, by rw [if_neg q, if_pos this]⟩
  refine ⟨fun j hj => ?_, fun j hj => ?_, fun j hj => ?_⟩
  · rcases cases_ j hj with ⟨q, e⟩ | ⟨q, e⟩ <;> rw [e]
    · exact D.len j q
    · exact h1
  · rcases cases_ j hj with ⟨q, e⟩ | ⟨q, e⟩ <;> rw [e]
    · exact D.ents j q
    · exact h2
  · rcases cases_ j hj with ⟨q, e⟩ | ⟨q, e⟩ <;> rw [e]
    · rw [if_neg (by omega)]; exact D.good j q
    · rw [if_pos q, q]; exact ⟨h3, h4⟩
structure Names (n : Nat) (names : List Int) : Prop where
  nd : names.Nodup
  mem : ∀ x, x ∈ names ↔ 0 ≤ x ∧ x < (n : Int)
  len : names.length = n
theorem idx_at {l : List Int} {x : Int} (h : x ∈ l) : l.idxOf x < l.length ∧ l.getD (l.idxOf x) 0 = x := by
  have h1 : l.idxOf x < l.length := List.idxOf_lt_length_iff.mpr h
  exact ⟨h1, by rw [List.getD_eq_getElem?_getD, List.getElem?_eq_getElem h1, Option.getD_some]; exact List.getElem_idxOf h1⟩
theorem idx_of {l : List Int} {j : Nat} (nd : l.Nodup) (h : j < l.length) : l.idxOf (l.getD j 0) = j := by
  have e : l.getD j 0 = l[j] := by rw [List.getD_eq_getElem?_getD, List.getElem?_eq_getElem h]; rfl
  rw [e]
  have hm : l[j] ∈ l := List.getElem_mem h
  have h1 : l.idxOf l[j] < l.length := List.idxOf_lt_length_iff.mpr hm
  exact (List.getElem_inj nd).mp (List.getElem_idxOf h1)
theorem row_mkR {n : Nat} {names : List Int} {R1 : Rows} {p : Nat} (hp : p < n) : row (mkR n names R1) p = (row R1 (names.idxOf (p : Int))).map (ren n names) := by
  unfold row mkR
  rw [List.getD_eq_getElem?_getD, List.getElem?_map, List.getElem?_range hp]
  rfl
theorem good_of {n m : Nat} {names : List Int} {R1 : Rows} {g : Nat → Nat} (hn1 : 1 ≤ n) (hn5 : n ≤ 5) (hm1 : 1 ≤ m) (hl : R1.length = n) (D : Drawn n m R1 g) (N : Names n names) :
    Good (mkR n names R1) m (fun p : Nat => names.idxOf ((p : Nat) : Int)) (fun p : Nat => g (names.idxOf ((p : Nat) : Int))) := by
  have len : (mkR n names R1).length = n := by unfold mkR; rw [List.length_map, List.length_range]
  have ix : ∀ {p : Nat}, p < n → names.idxOf (p : Int) < n := fun {p} hp => by
    have := (idx_at ((N.mem (p : Int)).mpr ⟨by omega, by omega⟩)).1
    rw [N.len] at this; exact this
  refine ⟨by rw [len]; exact hn5, by rw [len]; exact hn1, fun p hp => ?_, fun p hp x hx => ?_, hm1, fun p hp => ?_, fun p hp => ?_⟩
  · rw [len] at hp
    rw [row_mkR hp, List.length_map]
    exact D.len _ (by rw [hl]; exact ix hp)
  · rw [len] at hp ⊢
    rw [row_mkR hp] at hx
    obtain ⟨y, hy, e⟩ := List.mem_map.mp hx
    have hb := D.ents _ (by rw [hl]; exact ix hp) y hy
    subst e
    unfold ren
    split
    · have : names.getD y.toNat 0 ∈ names := by
        rw [List.getD_eq_getElem?_getD, List.getElem?_eq_getElem (show y.toNat < names.length by rw [N.len]; omega)]
        exact List.getElem_mem _
      have := (N.mem _).mp this
      omega
    · omega
  · rw [len] at hp ⊢
    exact ix hp
  · rw [len] at hp ⊢
    obtain ⟨g1, g2⟩ := D.good _ (by rw [hl]; exact ix hp)
    rw [row_mkR hp, List.length_map]
    refine ⟨g1, fun x hx => ?_⟩
    rw [List.getElem?_map] at hx
    rw [List.getElem?_eq_getElem g1] at hx
    have hx' : ren n names ((row R1 (names.idxOf (p : Int)))[g (names.idxOf (p : Int))]) = x := Option.some.inj hx
    have hlt := g2 _ (List.getElem?_eq_getElem g1)
    generalize (row R1 (names.idxOf (p : Int)))[g (names.idxOf (p : Int))] = y at hx' hlt
    unfold ren at hx'
    split at hx'
    · rename_i hy
      refine .inr ?_
      have hyn : y.toNat < names.length := by rw [N.len]; omega
      have h0 : 0 ≤ x := by
        have : names.getD y.toNat 0 ∈ names := by
          rw [List.getD_eq_getElem?_getD, List.getElem?_eq_getElem hyn]
          exact List.getElem_mem _
        rw [hx'] at this
        exact ((N.mem _).mp this).1
      have e : names.idxOf ((x.toNat : Nat) : Int) = y.toNat := by
        rw [Int.toNat_of_nonneg h0, ← hx']
        exact idx_of N.nd hyn
      show names.idxOf (p : Int) < names.idxOf ((x.toNat : Nat) : Int)
      rw [e]
      omega
    · exact .inl (by omega)
theorem pop_perm : ∀ {l : List Int} {k : Nat} {x : Int}, l[k]? = some x → (x :: l.eraseIdx k).Perm l
  | [], k, x, h => by simp at h
  | a :: l, 0, x, h => by
    have : a = x := by simpa using h
    subst this
    exact List.Perm.refl _
  | a :: l, k + 1, x, h => by
    have h' : l[k]? = some x := by simpa using h
    exact (List.Perm.swap a x _).trans ((pop_perm h').cons a)
/-- names told so far, and what is left -/
def Part (n : Nat) (names left : List Int) : Prop := (names ++ left).Nodup ∧ (∀ x, x ∈ names ++ left ↔ 0 ≤ x ∧ x < (n : Int)) ∧ names.length + left.length = n
theorem Part.start (n : Nat) : Part n [] ((List.range n).map fun (i : Nat) => ((i : Nat) : Int)) := by
  refine ⟨?_, fun x => ?_, by simp⟩
  · rw [List.nil_append]
    exact List.pairwise_map.mpr (List.Pairwise.imp (fun h e => h (by omega)) List.nodup_range)
  · rw [List.nil_append, List.mem_map]
    constructor
    · rintro ⟨a, ha, rfl⟩
      have := List.mem_range.mp ha
      omega
    · rintro ⟨h0, h1⟩
      exact ⟨x.toNat, List.mem_range.mpr (by omega), by omega⟩
theorem Part.pop {n : Nat} {names left : List Int} {k : Nat} {x : Int} (h : Part n names left) (hk : left[k]? = some x) : Part n (names ++ [x]) (left.eraseIdx k) := by
  have p : (names ++ [x] ++ left.eraseIdx k).Perm (names ++ left) := by
    rw [List.append_assoc]
    exact (pop_perm hk).append_left names
  refine ⟨p.nodup_iff.mpr h.1, fun y => by rw [p.mem_iff]; exact h.2.1 y, ?_⟩
  have := p.length_eq
  have h3 := h.2.2
  simp only [List.length_append] at this ⊢
  omega
theorem Part.names {n : Nat} {names : List Int} (h : Part n names []) : Names n names := ⟨by have := h.1; rwa [List.append_nil] at this, by have := h.2.1; rwa [List.append_nil] at this, by have := h.2.2; simpa using this⟩
end M94

end

section
set_option linter.all false
/-! Plain law of k67: reduced pairs are rational numbers. -/
namespace M67
/-- the signed greatest common divisor of n, d, as the pairs use it -/
def sg (n d : Int) : Int := if 0 < d then (Int.gcd n d : Int) else -(Int.gcd n d : Int)
theorem gcd_pos {n d : Int} (h : d ≠ 0) : 0 < (Int.gcd n d : Int) := by
  have := Int.gcd_pos_of_ne_zero_right n h
  omega
theorem sg_ne {n d : Int} (h : d ≠ 0) : sg n d ≠ 0 := by
  have := gcd_pos (n := n) h
  unfold sg
  split <;> omega
theorem lp {n d : Int} (h : d ≠ 0) : n / sg n d = (Rat.divInt n d).num ∧ d / sg n d = ((Rat.divInt n d).den : Int) := by
  have hg := gcd_pos (n := n) h
  obtain ⟨n', hn⟩ := Int.gcd_dvd_left n d
  obtain ⟨d', hd⟩ := Int.gcd_dvd_right n d
  have e2 : ((Rat.divInt n d).den : Int) = (d.natAbs : Int) / (Int.gcd n d : Int) := by
    rw [Rat.den_divInt, if_neg h, Int.natCast_ediv, Int.gcd_comm]
  rw [Rat.num_divInt, e2, Int.gcd_comm d n]
  unfold sg
  generalize (Int.gcd n d : Int) = g at *
  have hg0 : g ≠ 0 := by omega
  have q1 : n / g = n' := by rw [hn]; exact Int.mul_ediv_cancel_left _ hg0
  have q2 : d / g = d' := by rw [hd]; exact Int.mul_ediv_cancel_left _ hg0
  by_cases hd0 : 0 < d
  · rw [if_pos hd0, Int.sign_eq_one_of_pos hd0, Int.one_mul, Int.natAbs_of_nonneg (Int.le_of_lt hd0)]
    exact ⟨rfl, rfl⟩
  · have hd1 : d < 0 := by omega
    rw [if_neg hd0, Int.sign_eq_neg_one_of_neg hd1, Int.ediv_neg, Int.ediv_neg, q1, q2]
    have q3 : -1 * n / g = -n' := by
      have : -1 * n = g * -n' := by rw [hn, Int.mul_neg, Int.neg_one_mul]
      rw [this]; exact Int.mul_ediv_cancel_left _ hg0
    have q4 : (d.natAbs : Int) / g = -d' := by
      have : (d.natAbs : Int) = g * -d' := by rw [Int.mul_neg, ← hd]; omega
      rw [this]; exact Int.mul_ediv_cancel_left _ hg0
    rw [q3, q4]
    exact ⟨rfl, rfl⟩
theorem add_pair (a b : Rat) : Rat.divInt (a.num * b.den + b.num * a.den) (a.den * b.den) = a + b := by
  have ha : (a.den : Int) ≠ 0 := by have := a.den_nz; omega
  have hb : (b.den : Int) ≠ 0 := by have := b.den_nz; omega
  rw [← Rat.divInt_add_divInt a.num b.num ha hb, Rat.num_divInt_den, Rat.num_divInt_den]
theorem mul_pair (a b : Rat) : Rat.divInt (a.num * b.num) (a.den * b.den) = a * b := by
  rw [← Rat.divInt_mul_divInt, Rat.num_divInt_den, Rat.num_divInt_den]
theorem inv_pair (a : Rat) : Rat.divInt a.den a.num = a⁻¹ := by
  rw [← Rat.inv_divInt, Rat.num_divInt_den]
end M67

end

section
set_option linter.all false
/-! Plain law of k67: the odds are the one solution (greatest absolute value, rank by rank). -/
namespace M67
def lsum (f : Int → Rat) : List Int → Rat
  | [] => 0
  | e :: r => f e + lsum f r
def ab (x : Rat) : Rat := if 0 ≤ x then x else -x
theorem ab_ge (x : Rat) : 0 ≤ ab x := by unfold ab; split <;> grind
theorem ab_zero {x : Rat} (h : ab x ≤ 0) : x = 0 := by unfold ab at h; split at h <;> grind
theorem ab_add (x y : Rat) : ab (x + y) ≤ ab x + ab y := by unfold ab; split <;> split <;> split <;> grind
theorem ab_mul_nat (k : Nat) (x : Rat) : ab ((k : Rat) * x) = (k : Rat) * ab x := by
  have hk : (0 : Rat) ≤ (k : Rat) := by exact_mod_cast Nat.zero_le k
  unfold ab
  by_cases h : 0 ≤ x
  · have h1 : 0 ≤ (k : Rat) * x := Rat.mul_nonneg hk h
    rw [if_pos h, if_pos h1]
  · rw [if_neg h]
    split
    · have h2 : (k : Rat) * (-x) ≥ 0 := Rat.mul_nonneg hk (by grind)
      grind
    · grind
/-- all at most M: then so is the sum; where the sum is the greatest, each is -/
theorem lsum_le {f : Int → Rat} {M : Rat} : ∀ {l : List Int}, (∀ e ∈ l, ab (f e) ≤ M) → ab (lsum f l) ≤ (l.length : Rat) * M
  | [], _ => by simp [lsum, ab]
  | e :: r, h => by
    have h1 := lsum_le (l := r) fun e he => h e (List.mem_cons_of_mem _ he)
    have h2 := h e List.mem_cons_self
    have h3 := ab_add (f e) (lsum f r)
    show ab (f e + lsum f r) ≤ ((r.length + 1 : Nat) : Rat) * M
    have h4 : ((r.length + 1 : Nat) : Rat) = (r.length : Rat) + 1 := by push_cast; rfl
    rw [h4]
    grind
theorem lsum_top {f : Int → Rat} {M : Rat} : ∀ {l : List Int}, (∀ e ∈ l, ab (f e) ≤ M) → (l.length : Rat) * M ≤ ab (lsum f l) → ∀ e ∈ l, M ≤ ab (f e)
  | [], _, _ => fun e he => nomatch he
  | e :: r, h, ht => by
    have h1 := lsum_le (l := r) fun e he => h e (List.mem_cons_of_mem _ he)
    have h2 := h e List.mem_cons_self
    have h3 := ab_add (f e) (lsum f r)
    have h4 : ((r.length + 1 : Nat) : Rat) = (r.length : Rat) + 1 := by push_cast; rfl
    have ht' : ((r.length + 1 : Nat) : Rat) * M ≤ ab (f e + lsum f r) := ht
    rw [h4] at ht'
    intro e' he'
    rcases List.mem_cons.mp he' with q | q
    · rw [q]; grind
    · exact lsum_top (l := r) (fun e he => h e (List.mem_cons_of_mem _ he)) (by grind) e' q
theorem top_of (f : Nat → Rat) : ∀ {n : Nat}, 1 ≤ n → ∃ p, p < n ∧ ∀ q, q < n → f q ≤ f p
  | 1, _ => ⟨0, by omega, fun q hq => by have : q = 0 := by omega
                                         subst this; exact Rat.le_refl⟩
  | n + 2, _ => by
    obtain ⟨p, hp, h⟩ := top_of f (n := n + 1) (by omega)
    by_cases q : f p ≤ f (n + 1)
    · refine ⟨n + 1, by omega, fun j hj => ?_⟩
      by_cases e : j = n + 1
      · rw [e]; exact Rat.le_refl
      · exact Rat.le_trans (h j (by omega)) q
    · refine ⟨p, by omega, fun j hj => ?_⟩
      by_cases e : j = n + 1
      · rw [e]; grind
      · exact h j (by omega)
end M67

end

section
set_option linter.all false
/-! Plain law of k67: at most one solution. -/
namespace M67
open M94
def yv (n : Nat) (x : Nat → Rat) (t : Int → Rat) (e : Int) : Rat := if e < (n : Int) then x e.toNat else t e
def Sol (R : Rows) (t : Int → Rat) (x : Nat → Rat) : Prop := ∀ p, p < R.length → ((row R p).length : Rat) * x p = lsum (yv R.length x t) (row R p)
theorem lsum_sub {f g : Int → Rat} : ∀ {l : List Int}, lsum f l - lsum g l = lsum (fun e => f e - g e) l
  | [] => by show (0 : Rat) - 0 = 0; grind
  | e :: r => by
    have ih := lsum_sub (f := f) (g := g) (l := r)
    show f e + lsum f r - (g e + lsum g r) = (f e - g e) + lsum (fun e => f e - g e) r
    grind
theorem lsum_congr {f g : Int → Rat} : ∀ {l : List Int}, (∀ e ∈ l, f e = g e) → lsum f l = lsum g l
  | [], _ => rfl
  | e :: r, h => by
    show f e + lsum f r = g e + lsum g r
    rw [h e List.mem_cons_self, lsum_congr (l := r) fun e he => h e (List.mem_cons_of_mem _ he)]
theorem sol_diff {R : Rows} {t : Int → Rat} {x x' : Nat → Rat} (h : Sol R t x) (h' : Sol R t x') : Sol R (fun _ => 0) (fun p => x p - x' p) := fun p hp => by
  have e : lsum (yv R.length (fun p => x p - x' p) fun _ => 0) (row R p) = lsum (yv R.length x t) (row R p) - lsum (yv R.length x' t) (row R p) := by
    rw [lsum_sub]
    refine lsum_congr fun e _ => ?_
    unfold yv
    split
    · rfl
    · grind
  rw [e, ← h p hp, ← h' p hp]
  grind
/-- nothing but nought solves the equations without a home -/
theorem sol_zero {R : Rows} {m : Nat} {rk gd : Nat → Nat} {z : Nat → Rat} (G : Good R m rk gd) (h : Sol R (fun _ => 0) z) : ∀ p, p < R.length → z p = 0 := by
  obtain ⟨p0, hp0, htop⟩ := top_of (fun p => ab (z p)) G.n1
  have key : ab (z p0) ≤ 0 := by
    apply Classical.byContradiction
    intro hM
    have hM : 0 < ab (z p0) := by grind
    have climb : ∀ k p, p < R.length → ab (z p) = ab (z p0) → rk p + k = R.length → False := by
      intro k
      induction k using Nat.strongRecOn with
      | ind k ih =>
        intro p hp he hk
        obtain ⟨g1, g2⟩ := G.good p hp
        have hall : ∀ e ∈ row R p, ab (yv R.length z (fun _ => 0) e) ≤ ab (z p0) := fun e he' => by
          obtain ⟨e0, e1⟩ := G.ents p hp e he'
          unfold yv
          split
          · exact htop _ (by omega)
          · have : ab 0 = 0 := by unfold ab; simp
            rw [this]; exact ab_ge _
        have heq := h p hp
        have hge : ((row R p).length : Rat) * ab (z p0) ≤ ab (lsum (yv R.length z fun _ => 0) (row R p)) := by
          rw [← heq, ab_mul_nat, he]; exact Rat.le_refl
        have hx := lsum_top hall hge _ (List.getElem_mem g1)
        have hgd := g2 _ (List.getElem?_eq_getElem g1)
        generalize (row R p)[gd p] = y at hx hgd
        unfold yv at hx
        split at hx
        · rename_i hlt
          rcases hgd with q | q
          · omega
          · have hy0 : y.toNat < R.length := by omega
            have hr := G.rk5 y.toNat hy0
            exact ih (R.length - rk y.toNat) (by omega) y.toNat hy0 (Rat.le_antisymm (htop _ hy0) hx) (by omega)
        · have : ab 0 = 0 := by unfold ab; simp
          rw [this] at hx
          grind
    have hr := G.rk5 p0 hp0
    exact climb (R.length - rk p0) p0 hp0 rfl (by omega)
  intro p hp
  exact ab_zero (Rat.le_trans (htop p hp) key)
theorem sol_one {R : Rows} {m : Nat} {rk gd : Nat → Nat} {t : Int → Rat} {x x' : Nat → Rat} (G : Good R m rk gd) (h : Sol R t x) (h' : Sol R t x') : ∀ p, p < R.length → x p = x' p := fun p hp => by
  have := sol_zero G (sol_diff h h') p hp
  grind
end M67

end

section
set_option linter.all false
/-! Plain law of k67: a square of equations is solved by taking rows from rows. -/
namespace M67
def sumR (f : Nat → Rat) : Nat → Rat
  | 0 => 0
  | k + 1 => sumR f k + f k
theorem sumR_congr {f g : Nat → Rat} : ∀ {n : Nat}, (∀ j, j < n → f j = g j) → sumR f n = sumR g n
  | 0, _ => rfl
  | n + 1, h => by
    show sumR f n + f n = sumR g n + g n
    rw [sumR_congr (n := n) fun j hj => h j (by omega), h n (by omega)]
theorem sumR_add {f g : Nat → Rat} : ∀ {n : Nat}, sumR (fun j => f j + g j) n = sumR f n + sumR g n
  | 0 => by show (0 : Rat) = 0 + 0; grind
  | n + 1 => by
    have ih := sumR_add (f := f) (g := g) (n := n)
    show sumR (fun j => f j + g j) n + (f n + g n) = sumR f n + f n + (sumR g n + g n)
    grind
theorem sumR_mul {c : Rat} {f : Nat → Rat} : ∀ {n : Nat}, sumR (fun j => c * f j) n = c * sumR f n
  | 0 => by show (0 : Rat) = c * 0; grind
  | n + 1 => by
    have ih := sumR_mul (c := c) (f := f) (n := n)
    show sumR (fun j => c * f j) n + c * f n = c * (sumR f n + f n)
    grind
theorem sumR_zero {f : Nat → Rat} {n : Nat} (h : ∀ j, j < n → f j = 0) : sumR f n = 0 := by
  rw [sumR_congr (g := fun _ => 0) h]
  induction n with
  | zero => rfl
  | succ n ih => show sumR (fun _ => 0) n + 0 = 0; rw [ih fun j hj => h j (by omega)]; grind
theorem sumR_one {f : Nat → Rat} {i : Nat} : ∀ {n : Nat}, i < n → (∀ j, j < n → j ≠ i → f j = 0) → sumR f n = f i
  | n + 1, hi, h => by
    show sumR f n + f n = f i
    by_cases e : i = n
    · subst e
      rw [sumR_zero fun j hj => h j (by omega) (by omega)]; grind
    · rw [sumR_one (n := n) (by omega) fun j hj => h j (by omega), h n (by omega) (Ne.symm e)]; grind
abbrev Sq := Nat → Nat → Rat
def SolA (A : Sq) (n : Nat) (x : Nat → Rat) : Prop := ∀ p, p < n → sumR (fun j => A p j * x j) n = A p n
def Hom (A : Sq) (n : Nat) (z : Nat → Rat) : Prop := ∀ p, p < n → sumR (fun j => A p j * z j) n = 0
def el (A : Sq) (a : Nat) : Sq := fun p j => if p = a then A p j else A p j - A p a / A a a * A a j
def sw (A : Sq) (a b : Nat) : Sq := fun p j => if p = a then A b j else if p = b then A a j else A p j
theorem el_row {A : Sq} {a p n : Nat} {x : Nat → Rat} (h : p ≠ a) : sumR (fun j => A p j * x j) n = sumR (fun j => el A a p j * x j) n + A p a / A a a * sumR (fun j => A a j * x j) n := by
  rw [← sumR_mul, ← sumR_add]
  refine sumR_congr fun j _ => ?_
  unfold el
  rw [if_neg h]
  grind
theorem el_same {A : Sq} {a n : Nat} {x : Nat → Rat} : sumR (fun j => el A a a j * x j) n = sumR (fun j => A a j * x j) n := sumR_congr fun j _ => by unfold el; rw [if_pos rfl]
theorem el_sol {A : Sq} {a n : Nat} {x : Nat → Rat} (ha : a < n) (h : SolA (el A a) n x) : SolA A n x := by
  have h0 : sumR (fun j => A a j * x j) n = A a n := by
    have := h a ha
    rw [el_same] at this
    rw [this]; unfold el; rw [if_pos rfl]
  intro p hp
  by_cases e : p = a
  · rw [e]; exact h0
  · rw [el_row e, h p hp, h0]
    unfold el
    rw [if_neg e]
    grind
theorem el_hom {A : Sq} {a n : Nat} {x : Nat → Rat} (ha : a < n) (h : Hom (el A a) n x) : Hom A n x := by
  have h0 : sumR (fun j => A a j * x j) n = 0 := by
    have := h a ha
    rwa [el_same] at this
  intro p hp
  by_cases e : p = a
  · rw [e]; exact h0
  · rw [el_row e, h p hp, h0]
    grind
theorem sw_rows {A : Sq} {a b n : Nat} {P : (Nat → Rat) → Prop} (ha : a < n) (hb : b < n) (h : ∀ p, p < n → P (sw A a b p)) : ∀ p, p < n → P (A p) := fun p hp => by
  by_cases e1 : p = a
  · have := h b hb
    unfold sw at this
    by_cases e2 : b = a
    · subst e2; subst e1; simpa using this
    · simp only [if_neg e2, if_pos] at this
      rw [e1]; exact this
  · by_cases e2 : p = b
    · have := h a ha
      unfold sw at this
      simp only [if_pos] at this
      rw [e2]; exact this
    · have := h p hp
      unfold sw at this
      simp only [if_neg e1, if_neg e2] at this
      exact this
theorem sw_sol {A : Sq} {a b n : Nat} {x : Nat → Rat} (ha : a < n) (hb : b < n) (h : SolA (sw A a b) n x) : SolA A n x := sw_rows (P := fun r => sumR (fun j => r j * x j) n = r n) ha hb h
theorem sw_hom {A : Sq} {a b n : Nat} {x : Nat → Rat} (ha : a < n) (hb : b < n) (h : Hom (sw A a b) n x) : Hom A n x := sw_rows (P := fun r => sumR (fun j => r j * x j) n = 0) ha hb h
/-- columns below k are cleared -/
def Clear (A : Sq) (n k : Nat) : Prop := ∀ j, j < k → A j j ≠ 0 ∧ ∀ p, p < n → p ≠ j → A p j = 0
structure GJ (A0 A : Sq) (n k : Nat) : Prop where
  sol : ∀ x, SolA A n x → SolA A0 n x
  hom : ∀ z, Hom A n z → ∀ j, j < n → z j = 0
  cl : Clear A n k
theorem GJ.pivot {A0 A : Sq} {n k : Nat} (g : GJ A0 A n k) (hk : k < n) : ∃ b, k ≤ b ∧ b < n ∧ A b k ≠ 0 := by
  apply Classical.byContradiction
  intro hno
  have hz : ∀ p, k ≤ p → p < n → A p k = 0 := fun p h1 h2 => Classical.byContradiction fun q => hno ⟨p, h1, h2, q⟩
  have := g.hom (fun j => if j = k then 1 else if j < k then -A j k / A j j else 0) (fun p hp => ?_) k hk
  · simp at this
  · by_cases hpk : p < k
    · obtain ⟨d1, d2⟩ := g.cl p hpk
      have e : sumR (fun j => A p j * (if j = k then 1 else if j < k then -A j k / A j j else 0)) n = sumR (fun j => (if j = k then A p k else 0) + (if j = p then -A p k else 0)) n := by
        refine sumR_congr fun j hj => ?_
        by_cases e1 : j = k
        · subst e1; rw [if_pos rfl, if_pos rfl, if_neg (by omega)]; grind
        · rw [if_neg e1, if_neg e1]
          by_cases e2 : j = p
          · subst e2; rw [if_pos hpk, if_pos rfl]; grind
          · rw [if_neg e2]
            by_cases e3 : j < k
            · rw [(g.cl j e3).2 p hp (Ne.symm e2)]; grind
            · rw [if_neg e3]; grind
      rw [e, sumR_add, sumR_one hk (fun j _ hj => if_neg hj), sumR_one hp (fun j _ hj => if_neg hj), if_pos rfl, if_pos rfl]
      grind
    · refine sumR_zero fun j hj => ?_
      show A p j * (if j = k then 1 else if j < k then -A j k / A j j else 0) = 0
      by_cases e1 : j = k
      · subst e1; rw [hz p (by omega) hp]; grind
      · rw [if_neg e1]
        by_cases e3 : j < k
        · rw [(g.cl j e3).2 p hp (by omega)]; grind
        · rw [if_neg e3]; grind
theorem GJ.step {A0 A : Sq} {n k b : Nat} (g : GJ A0 A n k) (hk : k < n) (hb : k ≤ b) (hbn : b < n) (hne : A b k ≠ 0) : GJ A0 (el (sw A k b) k) n (k + 1) := by
  have hp : sw A k b k k = A b k := by unfold sw; rw [if_pos rfl]
  refine ⟨fun x h => g.sol x (sw_sol hk hbn (el_sol hk h)), fun z h => g.hom z (sw_hom hk hbn (el_hom hk h)), fun j hj => ?_⟩
  by_cases e : j = k
  · subst e
    refine ⟨by unfold el; rw [if_pos rfl, hp]; exact hne, fun p hp' hpj => ?_⟩
    unfold el
    rw [if_neg hpj, hp]
    have : sw A j b p j / A b j * A b j = sw A j b p j := by grind
    rw [this]; grind
  · have hj' : j < k := by omega
    obtain ⟨d1, d2⟩ := g.cl j hj'
    have s0 : sw A k b k j = 0 := by unfold sw; rw [if_pos rfl]; exact d2 b hbn (by omega)
    have s1 : ∀ p, p < n → sw A k b p j = A p j ∨ (sw A k b p j = 0 ∧ A p j = 0) := fun p hp' => by
      unfold sw
      by_cases e1 : p = k
      · rw [if_pos e1]; exact .inr ⟨d2 b hbn (by omega), d2 p hp' (by omega)⟩
      · rw [if_neg e1]
        by_cases e2 : p = b
        · rw [if_pos e2]; exact .inr ⟨d2 k hk (by omega), d2 p hp' (by omega)⟩
        · rw [if_neg e2]; exact .inl rfl
    have s2 : ∀ p, p < n → el (sw A k b) k p j = sw A k b p j := fun p hp' => by
      unfold el
      split
      · rfl
      · rw [s0]; grind
    refine ⟨?_, fun p hp' hpj => ?_⟩
    · rw [s2 j (by omega)]
      rcases s1 j (by omega) with q | ⟨_, q⟩
      · rw [q]; exact d1
      · exact absurd q d1
    · rw [s2 p hp']
      rcases s1 p hp' with q | ⟨q, _⟩
      · rw [q]; exact d2 p hp' hpj
      · exact q
theorem GJ.fin {A0 A : Sq} {n : Nat} (g : GJ A0 A n n) : SolA A0 n (fun p => A p n / A p p) ∧ ∀ p, p < n → A p p ≠ 0 := by
  refine ⟨g.sol _ fun p hp => ?_, fun p hp => (g.cl p hp).1⟩
  obtain ⟨d1, d2⟩ := g.cl p hp
  rw [sumR_one hp fun j hj hjp => by rw [(g.cl j hj).2 p hp (Ne.symm hjp)]; grind]
  grind
end M67

end

section
set_option linter.all false
/-! Plain law of k67: leaving places out one by one, in whole numbers. -/
namespace M67
/-- whole-number sums over 0..n-1 -/
def sumI (f : Nat → Int) : Nat → Int
  | 0 => 0
  | k + 1 => sumI f k + f k
theorem sumI_congr {f g : Nat → Int} : ∀ {n : Nat}, (∀ j, j < n → f j = g j) → sumI f n = sumI g n
  | 0, _ => rfl
  | n + 1, h => by
    show sumI f n + f n = sumI g n + g n
    rw [sumI_congr (n := n) fun j hj => h j (by omega), h n (by omega)]
theorem sumI_add {f g : Nat → Int} : ∀ {n : Nat}, sumI (fun j => f j + g j) n = sumI f n + sumI g n
  | 0 => rfl
  | n + 1 => by
    show sumI (fun j => f j + g j) n + (f n + g n) = sumI f n + f n + (sumI g n + g n)
    rw [sumI_add (n := n)]; omega
theorem sumI_mul {c : Int} {f : Nat → Int} : ∀ {n : Nat}, sumI (fun j => c * f j) n = c * sumI f n
  | 0 => by simp [sumI]
  | n + 1 => by
    show sumI (fun j => c * f j) n + c * f n = c * (sumI f n + f n)
    rw [sumI_mul (n := n), Int.mul_add]
theorem sumI_ge {f : Nat → Int} : ∀ {n : Nat}, (∀ j, j < n → 0 ≤ f j) → 0 ≤ sumI f n
  | 0, _ => Int.le_refl _
  | n + 1, h => by
    have h1 := sumI_ge (n := n) fun j hj => h j (by omega)
    have h2 := h n (by omega)
    show 0 ≤ sumI f n + f n
    omega
theorem sumI_two {f : Nat → Int} : ∀ {n i j : Nat}, (∀ j, j < n → 0 ≤ f j) → i < n → j < n → i ≠ j → f i + f j ≤ sumI f n
  | n + 1, i, j, h, hi, hj, hij => by
    have one : ∀ {n : Nat} {k : Nat}, (∀ j, j < n → 0 ≤ f j) → k < n → f k ≤ sumI f n := by
      intro n
      induction n with
      | zero => intro k _ hk; omega
      | succ n ih =>
        intro k h hk
        have h1 := sumI_ge (n := n) fun j hj => h j (by omega)
        have h2 := h n (by omega)
        show f k ≤ sumI f n + f n
        by_cases e : k = n
        · subst e; omega
        · have := ih (k := k) (fun j hj => h j (by omega)) (by omega); omega
    have h2 := h n (by omega)
    show f i + f j ≤ sumI f n + f n
    by_cases e : i = n
    · subst e
      have := one (n := i) (k := j) (fun j hj => h j (by omega)) (by omega)
      omega
    · by_cases e2 : j = n
      · subst e2
        have := one (n := j) (k := i) (fun j hj => h j (by omega)) (by omega)
        omega
      · have := sumI_two (n := n) (i := i) (j := j) (fun j hj => h j (by omega)) (by omega) (by omega) hij
        omega
/-- a table of whole numbers over one number a row: n places, w columns -/
structure Tab (n w : Nat) (rk : Nat → Nat) (a : Nat → Nat → Int) (D : Nat → Int) : Prop where
  nn : ∀ p, p < n → ∀ e, e < w → 0 ≤ a p e
  sum : ∀ p, p < n → sumI (a p) w = D p
  up : ∀ p, p < n → ∃ e, e < w ∧ 0 < a p e ∧ (n ≤ e ∨ rk p < rk e)
theorem Tab.off {n w : Nat} {rk : Nat → Nat} {a : Nat → Nat → Int} {D : Nat → Int} (T : Tab n w rk a D) (hnw : n ≤ w) {g : Nat} (hg : g < n) : 0 ≤ a g g ∧ a g g < D g := by
  obtain ⟨e, he, h0, h1⟩ := T.up g hg
  have hne : g ≠ e := fun q => by subst q; rcases h1 with h | h <;> omega
  have := sumI_two (T.nn g hg) (show g < w by omega) he hne
  rw [T.sum g hg] at this
  have := T.nn g hg g (by omega)
  omega
def outA (a : Nat → Nat → Int) (D : Nat → Int) (g : Nat) : Nat → Nat → Int := fun p e => if e = g then 0 else if p = g then a g e else a p e * (D g - a g g) + a p g * a g e
def outD (a : Nat → Nat → Int) (D : Nat → Int) (g : Nat) : Nat → Int := fun p => if p = g then D g - a g g else D p * (D g - a g g)
theorem sumI_but {f h : Nat → Int} {g : Nat} (h0 : h g = 0) (hs : ∀ j, j ≠ g → h j = f j) : ∀ {n : Nat}, g < n → sumI h n = sumI f n - f g
  | n + 1, hg => by
    show sumI h n + h n = sumI f n + f n - f g
    by_cases e : g = n
    · subst e
      rw [h0, sumI_congr (n := g) fun j hj => hs j (by omega)]; omega
    · rw [sumI_but h0 hs (n := n) (by omega), hs n (Ne.symm e)]; omega
theorem Tab.out {n w : Nat} {rk : Nat → Nat} {a : Nat → Nat → Int} {D : Nat → Int} (T : Tab n w rk a D) (hnw : n ≤ w) {g : Nat} (hg : g < n) : Tab n w rk (outA a D g) (outD a D g) := by
  obtain ⟨o0, o1⟩ := T.off hnw hg
  have hgw : g < w := by omega
  refine ⟨fun p hp e he => ?_, fun p hp => ?_, fun p hp => ?_⟩
  · unfold outA
    split
    · exact Int.le_refl _
    · split
      · exact T.nn g hg e he
      · exact Int.add_nonneg (Int.mul_nonneg (T.nn p hp e he) (by omega)) (Int.mul_nonneg (T.nn p hp g hgw) (T.nn g hg e he))
  · unfold outD
    by_cases hpg : p = g
    · subst hpg
      rw [if_pos rfl, ← T.sum p hp]
      exact sumI_but (g := p) (by unfold outA; rw [if_pos rfl]) (fun j hj => by unfold outA; rw [if_neg hj, if_pos rfl]) hgw
    · rw [if_neg hpg]
      have h1 := sumI_but (f := fun e => (D g - a g g) * a p e + a p g * a g e) (h := outA a D g p) (g := g) (by unfold outA; rw [if_pos rfl]) (fun j hj => by
        unfold outA; rw [if_neg hj, if_neg hpg, Int.mul_comm (a p j)]) hgw
      rw [h1, sumI_add, sumI_mul, sumI_mul, T.sum p hp, T.sum g hg]
      grind
  · obtain ⟨e, he, h0, h1⟩ := T.up p hp
    by_cases hpg : p = g
    · subst hpg
      have hne : e ≠ p := fun q => by subst q; rcases h1 with h | h <;> omega
      exact ⟨e, he, by unfold outA; rw [if_neg hne, if_pos rfl]; exact h0, h1⟩
    · by_cases heg : e = g
      · subst heg
        obtain ⟨e2, he2, k0, k1⟩ := T.up e hg
        have hne : e2 ≠ e := fun q => by subst q; rcases k1 with h | h <;> omega
        refine ⟨e2, he2, ?_, ?_⟩
        · unfold outA
          rw [if_neg hne, if_neg hpg]
          have q1 := Int.mul_pos h0 k0
          have q2 := Int.mul_nonneg (T.nn p hp e2 he2) (show 0 ≤ D e - a e e by omega)
          omega
        · rcases h1 with h | h
          · omega
          · rcases k1 with q | q
            · exact .inl q
            · exact .inr (by omega)
      · refine ⟨e, he, ?_, h1⟩
        unfold outA
        rw [if_neg heg, if_neg hpg]
        have q1 := Int.mul_pos h0 (show 0 < D g - a g g by omega)
        have q2 := Int.mul_nonneg (T.nn p hp g hgw) (T.nn g hg e he)
        omega
end M67

end

section
set_option linter.all false
/-! Plain law of k67: the solution keeps the relations of every table. -/
namespace M67
def Rel (n w : Nat) (a : Nat → Nat → Int) (D : Nat → Int) (y : Nat → Rat) : Prop := ∀ p, p < n → ((D p : Int) : Rat) * y p = sumR (fun e => ((a p e : Int) : Rat) * y e) w
theorem sumR_but {f h : Nat → Rat} {g : Nat} (h0 : h g = 0) (hs : ∀ j, j ≠ g → h j = f j) : ∀ {n : Nat}, g < n → sumR h n = sumR f n - f g
  | n + 1, hg => by
    show sumR h n + h n = sumR f n + f n - f g
    by_cases e : g = n
    · subst e
      rw [h0, sumR_congr (n := g) fun j hj => hs j (by omega)]; grind
    · rw [sumR_but h0 hs (n := n) (by omega), hs n (Ne.symm e)]; grind
theorem Rel.out {n w : Nat} {a : Nat → Nat → Int} {D : Nat → Int} {y : Nat → Rat} (h : Rel n w a D y) (hnw : n ≤ w) {g : Nat} (hg : g < n) : Rel n w (outA a D g) (outD a D g) y := by
  have hgw : g < w := by omega
  have hG := h g hg
  have hgg : (((D g - a g g : Int)) : Rat) = ((D g : Int) : Rat) - ((a g g : Int) : Rat) := by push_cast; rfl
  have own : sumR (fun e => ((outA a D g g e : Int) : Rat) * y e) w = sumR (fun e => ((a g e : Int) : Rat) * y e) w - ((a g g : Int) : Rat) * y g :=
    sumR_but (by unfold outA; rw [if_pos rfl]; simp) (fun j hj => by unfold outA; rw [if_neg hj, if_pos rfl]) hgw
  intro p hp
  by_cases hpg : p = g
  · subst hpg
    rw [own, ← hG]
    unfold outD
    rw [if_pos rfl, hgg]
    grind
  · have hP := h p hp
    have e1 : sumR (fun e => ((outA a D g p e : Int) : Rat) * y e) w = sumR (fun e => (((D g - a g g : Int)) : Rat) * (((a p e : Int) : Rat) * y e) + ((a p g : Int) : Rat) * (((a g e : Int) : Rat) * y e)) w - ((((D g - a g g : Int)) : Rat) * (((a p g : Int) : Rat) * y g) + ((a p g : Int) : Rat) * (((a g g : Int) : Rat) * y g)) :=
      sumR_but (f := fun e => (((D g - a g g : Int)) : Rat) * (((a p e : Int) : Rat) * y e) + ((a p g : Int) : Rat) * (((a g e : Int) : Rat) * y e)) (by unfold outA; rw [if_pos rfl]; simp) (fun j hj => by
        unfold outA
        rw [if_neg hj, if_neg hpg]
        push_cast
        grind) hgw
    rw [e1, sumR_add, sumR_mul, sumR_mul, ← hP, ← hG]
    unfold outD
    rw [if_neg hpg, hgg]
    have e2 : (((D p * (D g - a g g) : Int)) : Rat) = ((D p : Int) : Rat) * (((D g : Int) : Rat) - ((a g g : Int) : Rat)) := by push_cast; rfl
    rw [e2]
    grind
/-- columns of places left out are nought -/
def Gone (n : Nat) (a : Nat → Nat → Int) (k : Nat) : Prop := ∀ p, p < n → ∀ e, e < k → a p e = 0
theorem Gone.out {n k : Nat} {a : Nat → Nat → Int} {D : Nat → Int} (h : Gone n a k) (hk : k < n) : Gone n (outA a D k) (k + 1) := fun p hp e he => by
  unfold outA
  by_cases q : e = k
  · rw [if_pos q]
  · rw [if_neg q]
    have h1 := h p hp e (by omega)
    have h2 := h k hk e (by omega)
    split
    · exact h2
    · rw [h1, h2]; omega
end M67

end

section
set_option linter.all false
/-! Plain law of k67: what steps keep. -/
namespace M67
open M94
theorem lsum_app {f : Int → Rat} : ∀ {a b : List Int}, lsum f (a ++ b) = lsum f a + lsum f b
  | [], b => by show lsum f b = 0 + lsum f b; grind
  | x :: a, b => by
    have ih := lsum_app (f := f) (a := a) (b := b)
    show f x + lsum f (a ++ b) = f x + lsum f a + lsum f b
    grind
theorem lsum_set {f : Int → Rat} {e z : Int} : ∀ {l : List Int} {i : Nat}, l[i]? = some z → lsum f (l.set i e) = lsum f l - f z + f e
  | [], i, h => by simp at h
  | a :: l, 0, h => by
    have : a = z := by simpa using h
    subst this
    show f e + lsum f l = f a + lsum f l - f a + f e
    grind
  | a :: l, i + 1, h => by
    have ih := lsum_set (f := f) (e := e) (l := l) (i := i) (by simpa using h)
    show f a + lsum f (l.set i e) = f a + lsum f l - f z + f e
    grind
theorem lsum_const_sub {f : Int → Rat} {c : Rat} : ∀ {l : List Int}, lsum (fun e => c - f e) l = (l.length : Rat) * c - lsum f l
  | [] => by simp [lsum]; grind
  | e :: r => by
    have ih := lsum_const_sub (f := f) (c := c) (l := r)
    have h4 : ((r.length + 1 : Nat) : Rat) = (r.length : Rat) + 1 := by push_cast; rfl
    show c - f e + lsum (fun e => c - f e) r = ((r.length + 1 : Nat) : Rat) * c - (f e + lsum f r)
    rw [h4]
    grind
/-- what the hand k of place p has told so far -/
def wr (R : Rows) (t : Int → Rat) (x : Nat → Rat) (p k : Nat) : Rat := lsum (fun e => x p - yv R.length x t e) ((row R p).take k)
theorem wr_step {R : Rows} {t : Int → Rat} {x : Nat → Rat} {p k : Nat} {e : Int} (h : (row R p)[k]? = some e) : wr R t x p (k + 1) = wr R t x p k + (x p - yv R.length x t e) := by
  unfold wr
  rw [List.take_add_one, h, lsum_app]
  show _ + ((x p - yv R.length x t e) + 0) = _
  grind
theorem wr_all {R : Rows} {t : Int → Rat} {x : Nat → Rat} {p : Nat} (S : Sol R t x) (hp : p < R.length) : wr R t x p (row R p).length = 0 := by
  unfold wr
  rw [List.take_length, lsum_const_sub, S p hp]
  grind
theorem wr_none {R : Rows} {t : Int → Rat} {x : Nat → Rat} {p : Nat} : wr R t x p 0 = 0 := rfl
def keptR (R : Rows) (t : Int → Rat) (x : Nat → Rat) (hs sn : List Int) : Rat := sumR (fun p => wr R t x p (hs.getD p 0).toNat) R.length + lsum (yv R.length x t) sn
theorem sumR_upd {f g : Nat → Rat} {i : Nat} {d : Rat} (hi : g i = f i + d) (ho : ∀ j, j ≠ i → g j = f j) : ∀ {n : Nat}, i < n → sumR g n = sumR f n + d
  | n + 1, h => by
    show sumR g n + g n = sumR f n + f n + d
    by_cases e : i = n
    · subst e
      rw [sumR_congr (n := i) fun j hj => ho j (by omega), hi]; grind
    · rw [sumR_upd hi ho (n := n) (by omega), ho n (Ne.symm e)]; grind
theorem kept_fire {R : Rows} {m : Nat} {rk gd : Nat → Nat} {t : Int → Rat} {x : Nat → Rat} {hs sn : List Int} {i p : Nat} (G : Good R m rk gd) (S : Sol R t x) (ok : HandsOk R hs) (hp : p < R.length) (hi : sn[i]? = some (p : Int)) :
    keptR R t x (nxt R hs p) (sn.set i (ent R hs p)) = keptR R t x hs sn := by
  obtain ⟨h0, h1⟩ := ok.2 p hp
  obtain ⟨l1, _⟩ := G.le4 p hp
  obtain ⟨k, hk⟩ : ∃ k : Nat, hs.getD p 0 = (k : Int) := ⟨(hs.getD p 0).toNat, (Int.toNat_of_nonneg h0).symm⟩
  have hkl : k < (row R p).length := by rw [hk] at h1; omega
  have he : ent R hs p = (row R p)[k] := by
    unfold ent
    rw [hk, Int.toNat_natCast, List.getD_eq_getElem?_getD, List.getElem?_eq_getElem hkl]; rfl
  have hst := wr_step (t := t) (x := x) (List.getElem?_eq_getElem hkl)
  have hy : yv R.length x t (p : Int) = x p := by unfold yv; rw [if_pos (by omega), Int.toNat_natCast]
  have hn : wr R t x p ((nxt R hs p).getD p 0).toNat = wr R t x p (hs.getD p 0).toNat + (x p - yv R.length x t (row R p)[k]) := by
    rw [nxt_at (by rw [ok.1]; exact hp), hk, Int.toNat_natCast, ← hst]
    by_cases q : k + 1 = (row R p).length
    · rw [q, wr_all S hp]
      have : (((k : Int) + 1) % ((row R p).length : Int)).toNat = 0 := by
        rw [show (k : Int) + 1 = ((row R p).length : Int) by omega, Int.emod_self]; rfl
      rw [this]; rfl
    · have : (((k : Int) + 1) % ((row R p).length : Int)).toNat = k + 1 := by
        rw [Int.emod_eq_of_lt (by omega) (by omega)]; omega
      rw [this]
  unfold keptR
  rw [sumR_upd (f := fun p => wr R t x p (hs.getD p 0).toNat) (g := fun q => wr R t x q ((nxt R hs p).getD q 0).toNat) hn (fun j hj => by
    show wr R t x j ((nxt R hs p).getD j 0).toNat = _
    unfold nxt
    rw [getD_set_ne (Ne.symm hj)]) hp, lsum_set hi, hy, he]
  grind
theorem kept_enter {R : Rows} {t : Int → Rat} {x : Nat → Rat} {hs sn : List Int} {p : Nat} (hp : p < R.length) : keptR R t x hs (sn ++ [(p : Int)]) = keptR R t x hs sn + x p := by
  unfold keptR
  rw [lsum_app]
  have hy : yv R.length x t (p : Int) = x p := by unfold yv; rw [if_pos (by omega), Int.toNat_natCast]
  show _ + (_ + (yv R.length x t (p : Int) + 0)) = _
  rw [hy]
  grind
end M67

end

section
set_option linter.all false
/-! Plain law of k67: the package's equations are the board's. -/
namespace M67
open M94
def eqA (R : Rows) (t : Int → Rat) : Sq := fun p j =>
  if j < R.length then (if j = p then 1 else 0) + lsum (fun e => if e = (j : Int) then -(1 / ((row R p).length : Rat)) else 0) (row R p)
  else lsum (fun e => if e < (R.length : Int) then 0 else t e * (1 / ((row R p).length : Rat))) (row R p)
theorem sum_cnt {c : Rat} {x : Nat → Rat} {n : Nat} : ∀ {l : List Int}, (∀ e ∈ l, 0 ≤ e) → sumR (fun j => lsum (fun e => if e = (j : Int) then c else 0) l * x j) n = c * lsum (fun e => if e < (n : Int) then x e.toNat else 0) l
  | [], _ => by
    rw [sumR_zero fun j _ => by show (0 : Rat) * x j = 0; grind]
    show (0 : Rat) = c * 0; grind
  | e :: r, h => by
    have ih := sum_cnt (c := c) (x := x) (n := n) (l := r) fun e he => h e (List.mem_cons_of_mem _ he)
    have h0 := h e List.mem_cons_self
    have e1 : sumR (fun j => lsum (fun e => if e = (j : Int) then c else 0) (e :: r) * x j) n = sumR (fun j => (if e = (j : Int) then c else 0) * x j + lsum (fun e => if e = (j : Int) then c else 0) r * x j) n :=
      sumR_congr fun j _ => by show ((if e = (j : Int) then c else 0) + lsum _ r) * x j = _; grind
    rw [e1, sumR_add, ih]
    have e2 : sumR (fun j => (if e = (j : Int) then c else 0) * x j) n = c * (if e < (n : Int) then x e.toNat else 0) := by
      by_cases q : e < (n : Int)
      · rw [if_pos q, sumR_one (i := e.toNat) (by omega) fun j hj hne => by rw [if_neg (by omega)]; grind]
        rw [if_pos (by omega)]
      · rw [if_neg q, sumR_zero fun j hj => by rw [if_neg (by omega)]; grind]
        grind
    rw [e2]
    show _ = c * ((if e < (n : Int) then x e.toNat else 0) + lsum _ r)
    grind
theorem lsum_add {f g : Int → Rat} : ∀ {l : List Int}, lsum (fun e => f e + g e) l = lsum f l + lsum g l
  | [] => by show (0 : Rat) = 0 + 0; grind
  | e :: r => by
    have ih := lsum_add (f := f) (g := g) (l := r)
    show f e + g e + lsum (fun e => f e + g e) r = f e + lsum f r + (g e + lsum g r)
    grind
theorem lsum_mul {c : Rat} {f : Int → Rat} : ∀ {l : List Int}, lsum (fun e => c * f e) l = c * lsum f l
  | [] => by show (0 : Rat) = c * 0; grind
  | e :: r => by
    have ih := lsum_mul (c := c) (f := f) (l := r)
    show c * f e + lsum (fun e => c * f e) r = c * (f e + lsum f r)
    grind
theorem eq_left {R : Rows} {t : Int → Rat} {x : Nat → Rat} {p : Nat} (hp : p < R.length) (h0 : ∀ e ∈ row R p, 0 ≤ e) :
    sumR (fun j => eqA R t p j * x j) R.length = x p - 1 / ((row R p).length : Rat) * lsum (fun e => if e < (R.length : Int) then x e.toNat else 0) (row R p) := by
  have e1 : sumR (fun j => eqA R t p j * x j) R.length = sumR (fun j => (if j = p then x p else 0) + lsum (fun e => if e = (j : Int) then -(1 / ((row R p).length : Rat)) else 0) (row R p) * x j) R.length :=
    sumR_congr fun j hj => by
      unfold eqA
      rw [if_pos hj]
      by_cases q : j = p
      · subst q; rw [if_pos rfl, if_pos rfl]; grind
      · rw [if_neg q, if_neg q]; grind
  rw [e1, sumR_add, sumR_one hp fun j _ hj => if_neg hj, if_pos rfl, sum_cnt h0]
  grind
theorem len_ne {R : Rows} {m : Nat} {rk gd : Nat → Nat} (G : Good R m rk gd) {p : Nat} (hp : p < R.length) : ((row R p).length : Rat) ≠ 0 := by
  have := (G.le4 p hp).1
  intro h
  have h' : (((row R p).length : Nat) : Rat) = ((0 : Nat) : Rat) := h
  have := Rat.natCast_inj.mp h'
  omega
theorem sol_of_eq {R : Rows} {m : Nat} {rk gd : Nat → Nat} {t : Int → Rat} {x : Nat → Rat} (G : Good R m rk gd) (h : SolA (eqA R t) R.length x) : Sol R t x := fun p hp => by
  have h1 := h p hp
  rw [eq_left hp fun e he => (G.ents p hp e he).1] at h1
  have hl := len_ne G hp
  have e2 : eqA R t p R.length = 1 / ((row R p).length : Rat) * lsum (fun e => if e < (R.length : Int) then 0 else t e) (row R p) := by
    unfold eqA
    rw [if_neg (Nat.lt_irrefl _), ← lsum_mul]
    refine lsum_congr fun e _ => ?_
    split <;> grind
  have e3 : lsum (yv R.length x t) (row R p) = lsum (fun e => if e < (R.length : Int) then x e.toNat else 0) (row R p) + lsum (fun e => if e < (R.length : Int) then 0 else t e) (row R p) := by
    rw [← lsum_add]
    refine lsum_congr fun e _ => ?_
    unfold yv
    split <;> grind
  rw [e2] at h1
  rw [e3]
  grind
theorem hom_of_eq {R : Rows} {m : Nat} {rk gd : Nat → Nat} {t : Int → Rat} {z : Nat → Rat} (G : Good R m rk gd) (h : Hom (eqA R t) R.length z) : ∀ j, j < R.length → z j = 0 := by
  refine sol_zero G fun p hp => ?_
  have h1 := h p hp
  rw [eq_left hp fun e he => (G.ents p hp e he).1] at h1
  have hl := len_ne G hp
  have e3 : lsum (yv R.length z fun _ => 0) (row R p) = lsum (fun e => if e < (R.length : Int) then z e.toNat else 0) (row R p) := lsum_congr fun e _ => rfl
  rw [e3]
  grind
theorem gj_start {R : Rows} {m : Nat} {rk gd : Nat → Nat} {t : Int → Rat} (G : Good R m rk gd) : GJ (eqA R t) (eqA R t) R.length 0 :=
  ⟨fun _ h => h, fun _ h => hom_of_eq G h, fun j hj => absurd hj (Nat.not_lt_zero _)⟩
end M67

end

section
set_option linter.all false
/-! Plain law of k67: sizes of pairs. -/
namespace M67
def Ht (q : Rat) (b : Nat) : Prop := q.num.natAbs < 2 ^ b ∧ q.den < 2 ^ b
theorem Ht.mono {q : Rat} {a b : Nat} (h : Ht q a) (l : a ≤ b) : Ht q b :=
  ⟨Nat.lt_of_lt_of_le h.1 (Nat.pow_le_pow_right (by decide) l), Nat.lt_of_lt_of_le h.2 (Nat.pow_le_pow_right (by decide) l)⟩
theorem div_le {a b : Int} : (a / b).natAbs ≤ a.natAbs ∨ a < 0 := by
  by_cases h : a < 0
  · exact .inr h
  · exact .inl (Int.natAbs_ediv_le_natAbs a b)
theorem divInt_ht {n d : Int} {b : Nat} (hd : d ≠ 0) (h1 : n.natAbs < 2 ^ b) (h2 : d.natAbs < 2 ^ b) : Ht (Rat.divInt n d) b := by
  obtain ⟨e1, e2⟩ := lp (n := n) hd
  refine ⟨?_, ?_⟩
  · rw [← e1]; exact Nat.lt_of_le_of_lt (Int.natAbs_ediv_le_natAbs n _) h1
  · have h3 := Int.natAbs_ediv_le_natAbs d (sg n d)
    rw [e2] at h3
    have : (((Rat.divInt n d).den : Int)).natAbs = (Rat.divInt n d).den := Int.natAbs_natCast _
    omega
theorem mul_lt {a b p q : Nat} (h1 : a < 2 ^ p) (h2 : b < 2 ^ q) : a * b < 2 ^ (p + q) := by
  rw [Nat.pow_add]
  exact Nat.mul_lt_mul_of_le_of_lt (Nat.le_of_lt h1) h2 (Nat.pos_of_ne_zero fun z => by rw [z] at h1; omega)
theorem den_ne (a : Rat) : (a.den : Int) ≠ 0 := by have := a.den_nz; omega
theorem mul_ht {x y : Rat} {p q : Nat} (hx : Ht x p) (hy : Ht y q) : Ht (x * y) (p + q) := by
  rw [← mul_pair]
  refine divInt_ht (by have := den_ne x; have := den_ne y; exact Int.mul_ne_zero (den_ne x) (den_ne y)) ?_ ?_
  · rw [Int.natAbs_mul]; exact mul_lt hx.1 hy.1
  · rw [Int.natAbs_mul, Int.natAbs_natCast, Int.natAbs_natCast]; exact mul_lt hx.2 hy.2
theorem add_big {x y : Rat} {p q : Nat} (hx : Ht x p) (hy : Ht y q) : (x.num * y.den + y.num * x.den).natAbs < 2 ^ (p + q + 1) ∧ ((x.den : Int) * y.den).natAbs < 2 ^ (p + q) := by
  have h1 := mul_lt hx.1 hy.2
  have h2 := mul_lt hy.1 hx.2
  rw [Nat.add_comm q p] at h2
  have h3 := Int.natAbs_add_le (x.num * y.den) (y.num * x.den)
  rw [Int.natAbs_mul, Int.natAbs_mul, Int.natAbs_natCast, Int.natAbs_natCast] at h3
  refine ⟨?_, by rw [Int.natAbs_mul, Int.natAbs_natCast, Int.natAbs_natCast]; exact mul_lt hx.2 hy.2⟩
  rw [Nat.pow_succ]
  omega
theorem add_ht {x y : Rat} {p q : Nat} (hx : Ht x p) (hy : Ht y q) : Ht (x + y) (p + q + 1) := by
  rw [← add_pair]
  obtain ⟨h1, h2⟩ := add_big hx hy
  refine divInt_ht (Int.mul_ne_zero (den_ne x) (den_ne y)) h1 (Nat.lt_of_lt_of_le h2 (Nat.pow_le_pow_right (by decide) (by omega)))
theorem neg_ht {x : Rat} {p : Nat} (hx : Ht x p) : Ht (-x) p := ⟨by rw [Rat.neg_num, Int.natAbs_neg]; exact hx.1, by rw [Rat.neg_den]; exact hx.2⟩
theorem num_ne {x : Rat} (h : x ≠ 0) : x.num ≠ 0 := fun z => h (Rat.num_eq_zero.mp z)
theorem inv_ht {x : Rat} {p : Nat} (h : x ≠ 0) (hx : Ht x p) : Ht x⁻¹ p := by
  rw [← inv_pair]
  exact divInt_ht (num_ne h) (by rw [Int.natAbs_natCast]; exact hx.2) hx.1
theorem sub_mul_ht {a b c d : Rat} {p : Nat} (ha : Ht a p) (hb : Ht b p) (hc : Ht c p) (hd : Ht d p) (h : c ≠ 0) : Ht (a + -(b * c⁻¹) * d) (4 * p + 1) := by
  have := add_ht ha (mul_ht (neg_ht (mul_ht hb (inv_ht h hc))) hd)
  exact this.mono (by omega)
end M67

end

section
set_option linter.all false
/-! Plain law of k67: the package's equations entry by entry; their sizes. -/
namespace M67
open M94
theorem one_pair {d : Nat} (h : 0 < d) (s : Int) (hs : s = 1 ∨ s = -1) : (Rat.divInt s d).num = s ∧ ((Rat.divInt s d).den : Int) = d := by
  have hd : (d : Int) ≠ 0 := by omega
  obtain ⟨e1, e2⟩ := lp (n := s) hd
  have hg : sg s d = 1 := by
    unfold sg
    rw [if_pos (by omega)]
    rcases hs with q | q <;> subst q <;> simp
  rw [hg] at e1 e2
  simp at e1 e2
  exact ⟨e1.symm, e2.symm⟩
theorem divInt_eq (n : Int) (d : Nat) : Rat.divInt n d = (n : Rat) * (1 / (d : Rat)) := by
  rw [Rat.divInt_eq_div, Rat.div_def, Rat.div_def]
  have : ((d : Int) : Rat) = (d : Rat) := by push_cast; rfl
  rw [this]; grind
def cI (f : Int → Bool) (l : List Int) : Int := (l.countP f : Int)
theorem lsum_cnt {c : Rat} {f : Int → Bool} : ∀ {l : List Int}, lsum (fun e => if f e = true then c else 0) l = ((cI f l : Int) : Rat) * c
  | [] => by show (0 : Rat) = ((0 : Int) : Rat) * c; simp
  | e :: r => by
    have ih := lsum_cnt (c := c) (f := f) (l := r)
    show (if f e = true then c else 0) + lsum _ r = _
    rw [ih]
    unfold cI
    by_cases h : f e = true
    · rw [if_pos h, List.countP_cons_of_pos h]
      push_cast; grind
    · rw [if_neg h, List.countP_cons_of_neg h]
      grind
theorem cI_le {f : Int → Bool} {l : List Int} : 0 ≤ cI f l ∧ cI f l ≤ l.length := by
  unfold cI
  have := List.countP_le_length (p := f) (l := l)
  omega
/-- the equation of place p as it stands after k entries of its row -/
def eqK (R : Rows) (t : Int → Rat) (p k : Nat) : Nat → Rat := fun j =>
  if j < R.length then (if j = p then 1 else 0) + lsum (fun e => if e = (j : Int) then -(1 / ((row R p).length : Rat)) else 0) ((row R p).take k)
  else lsum (fun e => if e < (R.length : Int) then 0 else t e * (1 / ((row R p).length : Rat))) ((row R p).take k)
theorem eqK_full {R : Rows} {t : Int → Rat} {p : Nat} : eqK R t p (row R p).length = eqA R t p := by
  funext j
  unfold eqK eqA
  rw [List.take_length]
theorem eqK_zero {R : Rows} {t : Int → Rat} {p j : Nat} : eqK R t p 0 j = if j < R.length ∧ j = p then 1 else 0 := by
  unfold eqK
  rw [List.take_zero]
  by_cases h : j < R.length
  · rw [if_pos h]
    by_cases e : j = p
    · rw [if_pos e, if_pos ⟨h, e⟩]; show (1 : Rat) + 0 = 1; grind
    · rw [if_neg e, if_neg (fun z => e z.2)]; show (0 : Rat) + 0 = 0; grind
  · rw [if_neg h, if_neg (fun z => h z.1)]; rfl
theorem take_snoc {l : List Int} {k : Nat} {e : Int} (h : l[k]? = some e) : l.take (k + 1) = l.take k ++ [e] := by rw [List.take_add_one, h]; rfl
theorem eqK_in {R : Rows} {t : Int → Rat} {p k : Nat} {e : Int} (h : (row R p)[k]? = some e) (e0 : 0 ≤ e) (hn : e < (R.length : Int)) :
    eqK R t p (k + 1) e.toNat = eqK R t p k e.toNat + Rat.divInt (-1) ((row R p).length : Nat) ∧ ∀ j, j ≠ e.toNat → eqK R t p (k + 1) j = eqK R t p k j := by
  refine ⟨?_, fun j hj => ?_⟩
  · unfold eqK
    have c1 : e.toNat < R.length := by omega
    have c2 : e = ((e.toNat : Nat) : Int) := by omega
    simp only [if_pos c1]
    rw [take_snoc h, lsum_app, divInt_eq]
    show _ + (_ + ((if e = ((e.toNat : Nat) : Int) then _ else _) + 0)) = _
    rw [if_pos c2]
    have : ((-1 : Int) : Rat) = -1 := rfl
    rw [this]; grind
  · unfold eqK
    rw [take_snoc h]
    by_cases hj2 : j < R.length
    · have c2 : ¬ e = (j : Int) := by omega
      simp only [if_pos hj2]
      rw [lsum_app]
      show _ + (_ + ((if e = (j : Int) then _ else _) + 0)) = _
      rw [if_neg c2]; grind
    · simp only [if_neg hj2]
      rw [lsum_app]
      show _ + ((if e < (R.length : Int) then _ else _) + 0) = _
      rw [if_pos hn]; grind
theorem eqK_out {R : Rows} {t : Int → Rat} {p k : Nat} {e : Int} (h : (row R p)[k]? = some e) (hn : ¬ e < (R.length : Int)) :
    eqK R t p (k + 1) R.length = eqK R t p k R.length + t e * Rat.divInt 1 ((row R p).length : Nat) ∧ ∀ j, j ≠ R.length → j < R.length + 1 → eqK R t p (k + 1) j = eqK R t p k j := by
  refine ⟨?_, fun j hj hj' => ?_⟩
  · unfold eqK
    simp only [if_neg (Nat.lt_irrefl R.length)]
    rw [take_snoc h, lsum_app, divInt_eq]
    show _ + ((if e < (R.length : Int) then _ else _) + 0) = _
    rw [if_neg hn]
    have : ((1 : Int) : Rat) = 1 := rfl
    rw [this]; grind
  · unfold eqK
    rw [take_snoc h]
    have hj2 : j < R.length := by omega
    have c2 : ¬ e = (j : Int) := by omega
    simp only [if_pos hj2]
    rw [lsum_app]
    show _ + (_ + ((if e = (j : Int) then _ else _) + 0)) = _
    rw [if_neg c2]; grind
/-- what is a home's share: all of it, or nothing -/
def tH (n h : Nat) : Int → Rat := fun e => if e = (n : Int) + h then 1 else 0
theorem over_ht {z : Int} {d b : Nat} (hd : 0 < d) (h1 : z.natAbs ≤ d) (h2 : d < 2 ^ b) : Ht ((z : Rat) * (1 / (d : Rat))) b := by
  rw [← divInt_eq]
  exact divInt_ht (by omega) (by omega) (by rw [Int.natAbs_natCast]; exact h2)
theorem eqK_ht {R : Rows} {h p k j b : Nat} (hl : 0 < (row R p).length) (hb : (row R p).length < 2 ^ b) : Ht (eqK R (tH R.length h) p k j) b := by
  have hne : ((row R p).length : Rat) ≠ 0 := fun z => by
    have := Rat.natCast_inj.mp (show (((row R p).length : Nat) : Rat) = ((0 : Nat) : Rat) from z)
    omega
  have htk : ((row R p).take k).length ≤ (row R p).length := by rw [List.length_take]; omega
  unfold eqK
  by_cases hj : j < R.length
  · rw [if_pos hj]
    have e1 : lsum (fun e => if e = (j : Int) then -(1 / ((row R p).length : Rat)) else 0) ((row R p).take k) = ((cI (fun e => decide (e = (j : Int))) ((row R p).take k) : Int) : Rat) * -(1 / ((row R p).length : Rat)) := by
      rw [← lsum_cnt]
      exact lsum_congr fun e _ => by simp
    rw [e1]
    obtain ⟨c0, c1⟩ := cI_le (f := fun e => decide (e = (j : Int))) (l := (row R p).take k)
    generalize cI (fun e => decide (e = (j : Int))) ((row R p).take k) = c at *
    by_cases q : j = p
    · rw [if_pos q]
      have e2 : (1 : Rat) + (c : Rat) * -(1 / ((row R p).length : Rat)) = ((((row R p).length : Int) - c : Int) : Rat) * (1 / ((row R p).length : Rat)) := by
        push_cast
        have : ((row R p).length : Rat) * (1 / ((row R p).length : Rat)) = 1 := by grind
        grind
      rw [e2]
      exact over_ht hl (by omega) hb
    · rw [if_neg q]
      have e2 : (0 : Rat) + (c : Rat) * -(1 / ((row R p).length : Rat)) = ((-c : Int) : Rat) * (1 / ((row R p).length : Rat)) := by push_cast; grind
      rw [e2]
      exact over_ht hl (by omega) hb
  · rw [if_neg hj]
    have e1 : lsum (fun e => if e < (R.length : Int) then 0 else tH R.length h e * (1 / ((row R p).length : Rat))) ((row R p).take k) = ((cI (fun e => decide (e = (R.length : Int) + h)) ((row R p).take k) : Int) : Rat) * (1 / ((row R p).length : Rat)) := by
      rw [← lsum_cnt]
      refine lsum_congr fun e _ => ?_
      unfold tH
      by_cases q : e = (R.length : Int) + h
      · rw [if_neg (by omega)]; simp [q]
      · simp [q]
    rw [e1]
    obtain ⟨c0, c1⟩ := cI_le (f := fun e => decide (e = (R.length : Int) + h)) (l := (row R p).take k)
    exact over_ht hl (by omega) hb
theorem tH_ht {n h : Nat} {e : Int} : Ht (tH n h e) 1 := by
  unfold tH
  split
  · exact ⟨by decide, by decide⟩
  · exact ⟨by decide, by decide⟩
/-- how the sizes grow, column by column -/
def hb (b : Nat) : Nat → Nat
  | 0 => b
  | k + 1 => 4 * hb b k + 1
theorem hb_mono {b k : Nat} : hb b k ≤ hb b (k + 1) := by show hb b k ≤ 4 * hb b k + 1; omega
theorem hb_le {b k l : Nat} (h : k ≤ l) : hb b k ≤ hb b l := by
  induction l with
  | zero => have : k = 0 := by omega
            subst this; exact Nat.le_refl _
  | succ l ih =>
    by_cases e : k = l + 1
    · subst e; exact Nat.le_refl _
    · exact Nat.le_trans (ih (by omega)) hb_mono
/-- a row of el, row by row -/
def elTo (A : Sq) (a k : Nat) : Sq := fun p j => if p < k then el A a p j else A p j
theorem el_eq {A : Sq} {a p j : Nat} (h : p ≠ a) : A p j + -(A p a * (A a a)⁻¹) * A a j = el A a p j := by
  unfold el
  rw [if_neg h, Rat.div_def]; grind
theorem el_nought {A : Sq} {a p j : Nat} (h : A p a = 0) : el A a p j = A p j := by
  unfold el
  split
  · rfl
  · rw [h, Rat.div_def]; grind
theorem el_ht1 {A : Sq} {a b p j : Nat} (h : A a a ≠ 0) (h1 : Ht (A p j) b) (h2 : Ht (A p a) b) (h3 : Ht (A a a) b) (h4 : Ht (A a j) b) : Ht (el A a p j) (4 * b + 1) := by
  by_cases e : p = a
  · unfold el; rw [if_pos e]; exact h1.mono (by omega)
  · rw [← el_eq e]
    exact sub_mul_ht h1 h2 h3 h4 h
theorem elTo_zero {A : Sq} {a p j : Nat} : elTo A a 0 p j = A p j := rfl
theorem elTo_row {A : Sq} {a k j : Nat} : elTo A a k k j = A k j := by unfold elTo; rw [if_neg (Nat.lt_irrefl _)]
theorem elTo_at {A : Sq} {a k j : Nat} : elTo A a k a j = A a j := by
  unfold elTo
  split
  · unfold el; rw [if_pos rfl]
  · rfl
theorem elTo_ne {A : Sq} {a k p j : Nat} (h : p ≠ k) : elTo A a k p j = elTo A a (k + 1) p j := by
  unfold elTo
  by_cases q : p < k
  · rw [if_pos q, if_pos (by omega)]
  · rw [if_neg q, if_neg (by omega)]
theorem elTo_new {A : Sq} {a k j : Nat} : elTo A a (k + 1) k j = el A a k j := by unfold elTo; rw [if_pos (by omega)]
theorem elTo_same {A : Sq} {a k p j : Nat} (h : k = a ∨ A k a = 0) : elTo A a k p j = elTo A a (k + 1) p j := by
  by_cases e : p = k
  · subst e
    rw [elTo_row, elTo_new]
    rcases h with h | h
    · subst h; unfold el; rw [if_pos rfl]
    · rw [el_nought h]
  · exact elTo_ne e
theorem elTo_all {A : Sq} {a n p j : Nat} (h : p < n) : elTo A a n p j = el A a p j := by unfold elTo; rw [if_pos h]
theorem el_ht {A : Sq} {a b p j : Nat} (h : A a a ≠ 0) (hp : ∀ j, Ht (A p j) b) (ha : ∀ j, Ht (A a j) b) : Ht (el A a p j) (4 * b + 1) := by
  by_cases e : p = a
  · unfold el; rw [if_pos e]; exact (hp j).mono (by omega)
  · rw [← el_eq e]
    exact sub_mul_ht (hp j) (hp a) (ha a) (ha j) h
end M67

end

section
set_option linter.all false
/-! Plain law of k67: no place is shut in. -/
namespace M67
open M94
def isOpen (R : Rows) (L : List Int) (p : Int) : Bool := (row R p.toNat).any fun e => decide (e ∉ L)
def openOf (R : Rows) (L : List Int) : List Int := L.filter (isOpen R L)
def stay (R : Rows) (L : List Int) : List Int := L.filter fun p => decide (p ∉ openOf R L)
theorem top_in (f : Int → Nat) : ∀ {L : List Int}, L ≠ [] → ∃ p ∈ L, ∀ q ∈ L, f q ≤ f p
  | [], h => absurd rfl h
  | [a], _ => ⟨a, by simp, by simp⟩
  | a :: b :: l, _ => by
    obtain ⟨p, hp, h⟩ := top_in f (L := b :: l) (by simp)
    by_cases q : f p ≤ f a
    · exact ⟨a, by simp, fun x hx => by
        rcases List.mem_cons.mp hx with e | e
        · rw [e]; exact Nat.le_refl _
        · exact Nat.le_trans (h x e) q⟩
    · exact ⟨p, List.mem_cons_of_mem _ hp, fun x hx => by
        rcases List.mem_cons.mp hx with e | e
        · rw [e]; omega
        · exact h x e⟩
theorem open_some {R : Rows} {m : Nat} {rk gd : Nat → Nat} {L : List Int} (G : Good R m rk gd) (hL : ∀ p ∈ L, 0 ≤ p ∧ p < (R.length : Int)) (hne : L ≠ []) : openOf R L ≠ [] := by
  obtain ⟨p, hp, htop⟩ := top_in (fun p => rk p.toNat) hne
  obtain ⟨p0, p1⟩ := hL p hp
  obtain ⟨g1, g2⟩ := G.good p.toNat (by omega)
  have hy := g2 _ (List.getElem?_eq_getElem g1)
  have hm : p ∈ openOf R L := by
    refine List.mem_filter.mpr ⟨hp, List.any_eq_true.mpr ⟨_, List.getElem_mem g1, decide_eq_true fun z => ?_⟩⟩
    rcases hy with q | q
    · have := (hL _ z).2; omega
    · have := htop _ z; omega
  intro z
  rw [z] at hm
  exact nomatch hm
theorem stay_lt {R : Rows} {L : List Int} (h : openOf R L ≠ []) : (stay R L).length < L.length := by
  obtain ⟨p, hp⟩ := List.exists_mem_of_ne_nil _ h
  refine List.length_filter_lt_length_iff_exists.mpr ⟨p, (List.mem_filter.mp hp).1, ?_⟩
  simp [hp]
theorem stay_nil {R : Rows} {L : List Int} (h : openOf R L = []) : stay R L = L := List.filter_eq_self.mpr fun p _ => by rw [h]; simp
theorem stay_in {R : Rows} {L : List Int} {p : Int} (h : p ∈ stay R L) : p ∈ L := (List.mem_filter.mp h).1
end M67

end

section
set_option linter.all false
/-! Plain law of k67: what is kept, added up in a row. -/
namespace M67
open M94
theorem sumR_app {f : Nat → Rat} {n : Nat} : ∀ {k : Nat}, sumR f (n + k) = sumR f n + sumR (fun i => f (n + i)) k
  | 0 => by show sumR f n = sumR f n + 0; grind
  | k + 1 => by
    have ih := sumR_app (f := f) (n := n) (k := k)
    show sumR f (n + k) + f (n + k) = sumR f n + (sumR (fun i => f (n + i)) k + f (n + k))
    rw [ih]; grind
theorem lsum_sumR {f : Int → Rat} : ∀ {l : List Int}, sumR (fun i => f (l.getD i 0)) l.length = lsum f l := by
  intro l
  induction l with
  | nil => rfl
  | cons a l ih =>
    have e : (a :: l).length = 1 + l.length := by simp; omega
    rw [e, sumR_app]
    have e2 : sumR (fun i => f ((a :: l).getD (1 + i) 0)) l.length = sumR (fun i => f (l.getD i 0)) l.length := sumR_congr fun j _ => by rw [show 1 + j = j + 1 by omega]; rfl
    rw [e2, ih]
    show (0 + f a) + lsum f l = f a + lsum f l
    grind
/-- what kept adds up: the hands' worths, then the walkers' numbers -/
def keptF (R : Rows) (t : Int → Rat) (x : Nat → Rat) (hs sn : List Int) (i : Nat) : Rat := if i < R.length then wr R t x i (hs.getD i 0).toNat else yv R.length x t (sn.getD (i - R.length) 0)
theorem kept_tot {R : Rows} {t : Int → Rat} {x : Nat → Rat} {hs sn : List Int} : sumR (keptF R t x hs sn) (R.length + sn.length) = keptR R t x hs sn := by
  unfold keptR
  rw [sumR_app, ← lsum_sumR]
  have e1 : sumR (keptF R t x hs sn) R.length = sumR (fun p => wr R t x p (hs.getD p 0).toNat) R.length := sumR_congr fun j hj => by unfold keptF; rw [if_pos hj]
  have e2 : sumR (fun i => keptF R t x hs sn (R.length + i)) sn.length = sumR (fun i => yv R.length x t (sn.getD i 0)) sn.length := sumR_congr fun j hj => by
    unfold keptF; rw [if_neg (by omega), show R.length + j - R.length = j by omega]
  rw [e1, e2]
theorem yv_congr {n : Nat} {t : Int → Rat} {x x' : Nat → Rat} (h : ∀ p, p < n → x p = x' p) (e : Int) (e0 : 0 ≤ e) : yv n x t e = yv n x' t e := by
  unfold yv
  by_cases q : e < (n : Int)
  · rw [if_pos q, if_pos q, h _ (by omega)]
  · rw [if_neg q, if_neg q]
/-- sizes of sums from the left: first n of size c, then others of size d -/
theorem sum_ht {f : Nat → Rat} {n c d : Nat} (h1 : ∀ i, i < n → Ht (f i) c) : ∀ {k : Nat}, (∀ i, i < k → Ht (f (n + i)) d) → ∀ i, i ≤ n + k → Ht (sumR f i) (n * (c + 1) + k * (d + 1) + 1) := by
  have a : ∀ i, i ≤ n → Ht (sumR f i) (i * (c + 1) + 1) := by
    intro i
    induction i with
    | zero => intro _; exact ⟨by simp [sumR], by simp [sumR]⟩
    | succ i ih =>
      intro hi
      have := add_ht (ih (by omega)) (h1 i (by omega))
      exact this.mono (by have e : (i + 1) * (c + 1) = i * (c + 1) + (c + 1) := Nat.succ_mul _ _
                          rw [e]; generalize i * (c + 1) = z; omega)
  intro k
  induction k with
  | zero => intro _ i hi; exact (a i (by omega)).mono (by have := Nat.mul_le_mul_right (c + 1) (show i ≤ n by omega); omega)
  | succ k ih =>
    intro h2 i hi
    have e : (k + 1) * (d + 1) = k * (d + 1) + (d + 1) := Nat.succ_mul _ _
    rw [e]
    by_cases q : i ≤ n + k
    · exact (ih (fun j hj => h2 j (by omega)) i q).mono (by omega)
    · obtain rfl : i = n + k + 1 := by omega
      have := add_ht (ih (fun j hj => h2 j (by omega)) (n + k) (Nat.le_refl _)) (h2 k (by omega))
      exact this.mono (by omega)
end M67

end

section
set_option linter.all false
/-! Plain law of k67: the law's own table of chances, in fractions. -/
namespace M67
open M94
/-- a fraction of the table -/
def tabR (a : Nat → Nat → Int) (D : Nat → Int) (p e : Nat) : Rat := (a p e : Rat) * (D p : Rat)⁻¹
def lasR (l : Nat → Int) (D : Nat → Int) (p : Nat) : Rat := (l p : Rat) * (D p : Rat)⁻¹
theorem q_div {z d : Int} : (z : Rat) * (d : Rat)⁻¹ = Rat.divInt z d := by rw [Rat.divInt_eq_div, Rat.div_def]
theorem q_ht {z d : Int} {b : Nat} (hd : 0 < d) (h1 : z.natAbs < 2 ^ b) (h2 : d.natAbs < 2 ^ b) : Ht ((z : Rat) * (d : Rat)⁻¹) b := by rw [q_div]; exact divInt_ht (by omega) h1 h2
theorem Tab.pos {n w : Nat} {rk : Nat → Nat} {a : Nat → Nat → Int} {D : Nat → Int} (T : Tab n w rk a D) (hnw : n ≤ w) {p : Nat} (hp : p < n) : 0 < D p := by
  have := T.off hnw hp
  omega
theorem cast_ne {d : Int} (h : 0 < d) : (d : Rat) ≠ 0 := fun z => by
  have := Rat.intCast_inj.mp (show (d : Rat) = ((0 : Int) : Rat) from z)
  omega
section
variable {n w : Nat} {rk : Nat → Nat} {a : Nat → Nat → Int} {D l : Nat → Int} {g p e : Nat}
/-- how a row's own share is taken out -/
theorem by_val (T : Tab n w rk a D) (hnw : n ≤ w) (hg : g < n) : 1 + -(tabR a D g g) ≠ 0 ∧ (1 + -(tabR a D g g))⁻¹ = (D g : Rat) * ((D g - a g g : Int) : Rat)⁻¹ := by
  obtain ⟨o0, o1⟩ := T.off hnw hg
  have hD := cast_ne (T.pos hnw hg)
  have hd : ((D g - a g g : Int) : Rat) ≠ 0 := cast_ne (by omega)
  have e1 : 1 + -(tabR a D g g) = ((D g - a g g : Int) : Rat) * (D g : Rat)⁻¹ := by
    unfold tabR
    have : (D g : Rat) * (D g : Rat)⁻¹ = 1 := Rat.mul_inv_cancel _ hD
    push_cast
    grind
  have e2 : ((D g - a g g : Int) : Rat) * (D g : Rat)⁻¹ ≠ 0 := fun z => by
    rcases Rat.mul_eq_zero.mp z with q | q
    · exact hd q
    · have z1 := Rat.mul_inv_cancel _ hD
      rw [q] at z1
      simp at z1
  rw [e1]
  refine ⟨e2, ?_⟩
  rw [Rat.inv_mul_rev, Rat.inv_inv]
theorem own_val (T : Tab n w rk a D) (hnw : n ≤ w) (hg : g < n) : tabR (outA a D g) (outD a D g) g e = if e = g then 0 else (1 + -(tabR a D g g))⁻¹ * tabR a D g e := by
  obtain ⟨o0, o1⟩ := T.off hnw hg
  have hD := cast_ne (T.pos hnw hg)
  unfold tabR outA outD
  by_cases q : e = g
  · rw [if_pos q, if_pos q, if_pos rfl]; simp
  · rw [if_neg q, if_neg q, if_pos rfl, if_pos rfl]
    have := (by_val T hnw hg).2
    unfold tabR at this
    rw [this]
    have h1 : (D g : Rat) * (D g : Rat)⁻¹ = 1 := Rat.mul_inv_cancel _ hD
    grind
theorem row_val (T : Tab n w rk a D) (hnw : n ≤ w) (hg : g < n) (hp : p < n) (hpg : p ≠ g) : tabR (outA a D g) (outD a D g) p e = if e = g then 0 else tabR a D p e + tabR a D p g * tabR (outA a D g) (outD a D g) g e := by
  obtain ⟨o0, o1⟩ := T.off hnw hg
  have hd : ((D g - a g g : Int) : Rat) ≠ 0 := cast_ne (by omega)
  unfold tabR outA outD
  by_cases q : e = g
  · rw [if_pos q, if_pos q]; simp
  · simp only [if_neg q, if_neg hpg, if_pos]
    have h1 : ((D g - a g g : Int) : Rat) * ((D g - a g g : Int) : Rat)⁻¹ = 1 := Rat.mul_inv_cancel _ hd
    have h2 : ((D p * (D g - a g g) : Int) : Rat)⁻¹ = ((D g - a g g : Int) : Rat)⁻¹ * (D p : Rat)⁻¹ := by rw [Rat.intCast_mul, Rat.inv_mul_rev]
    rw [h2]
    generalize ((D g - a g g : Int) : Rat)⁻¹ = z at *
    have h3 : ((a p e * (D g - a g g) + a p g * a g e : Int) : Rat) = (a p e : Rat) * ((D g - a g g : Int) : Rat) + (a p g : Rat) * (a g e : Rat) := by push_cast; rfl
    rw [h3]
    generalize ((D g - a g g : Int) : Rat) = y at *
    grind
theorem row_same (T : Tab n w rk a D) (hnw : n ≤ w) (hg : g < n) (hp : p < n) (hpg : p ≠ g) (h0 : tabR a D p g = 0) : tabR (outA a D g) (outD a D g) p e = tabR a D p e := by
  rw [row_val T hnw hg hp hpg, h0]
  by_cases q : e = g
  · rw [if_pos q, q, h0]
  · rw [if_neg q]; grind
/-- how long walks last, over the same numbers -/
def outL (a : Nat → Nat → Int) (D l : Nat → Int) (g : Nat) : Nat → Int := fun p => if p = g then l g else l p * (D g - a g g) + a p g * l g
theorem las_own (T : Tab n w rk a D) (hnw : n ≤ w) (hg : g < n) : lasR (outL a D l g) (outD a D g) g = (1 + -(tabR a D g g))⁻¹ * lasR l D g := by
  have hD := cast_ne (T.pos hnw hg)
  rw [(by_val T hnw hg).2]
  unfold lasR outL outD
  rw [if_pos rfl, if_pos rfl]
  have h1 : (D g : Rat) * (D g : Rat)⁻¹ = 1 := Rat.mul_inv_cancel _ hD
  grind
theorem las_row (T : Tab n w rk a D) (hnw : n ≤ w) (hg : g < n) (hp : p < n) (hpg : p ≠ g) : lasR (outL a D l g) (outD a D g) p = lasR l D p + tabR a D p g * lasR (outL a D l g) (outD a D g) g := by
  obtain ⟨o0, o1⟩ := T.off hnw hg
  have hd : ((D g - a g g : Int) : Rat) ≠ 0 := cast_ne (by omega)
  unfold lasR outL outD tabR
  simp only [if_neg hpg, if_pos]
  have h1 : ((D g - a g g : Int) : Rat) * ((D g - a g g : Int) : Rat)⁻¹ = 1 := Rat.mul_inv_cancel _ hd
  have h2 : ((D p * (D g - a g g) : Int) : Rat)⁻¹ = ((D g - a g g : Int) : Rat)⁻¹ * (D p : Rat)⁻¹ := by rw [Rat.intCast_mul, Rat.inv_mul_rev]
  rw [h2]
  generalize ((D g - a g g : Int) : Rat)⁻¹ = z at *
  have h3 : ((l p * (D g - a g g) + a p g * l g : Int) : Rat) = (l p : Rat) * ((D g - a g g : Int) : Rat) + (a p g : Rat) * (l g : Rat) := by push_cast; rfl
  rw [h3]
  generalize ((D g - a g g : Int) : Rat) = y at *
  grind
/-! sizes -/
def lb : Nat → Nat
  | 0 => 2
  | k + 1 => lb k + 2 ^ (k + 1) + 1
structure Small (n w : Nat) (a : Nat → Nat → Int) (D l : Nat → Int) (k : Nat) : Prop where
  D2 : ∀ p, p < n → D p ≤ 2 ^ 2 ^ (k + 1)
  l0 : ∀ p, p < n → 0 ≤ l p
  l2 : ∀ p, p < n → l p ≤ 2 ^ lb k
theorem Tab.le (T : Tab n w rk a D) (hp : p < n) (he : e < w) : a p e ≤ D p := by
  rw [← T.sum p hp]
  have one : ∀ {m : Nat} {f : Nat → Int} {k : Nat}, (∀ j, j < m → 0 ≤ f j) → k < m → f k ≤ sumI f m := by
    intro m f
    induction m with
    | zero => intro k _ hk; omega
    | succ m ih =>
      intro k h hk
      have h1 := sumI_ge (n := m) fun j hj => h j (by omega)
      have h2 := h m (by omega)
      show f k ≤ sumI f m + f m
      by_cases q : k = m
      · subst q; omega
      · have := ih (k := k) (fun j hj => h j (by omega)) (by omega); omega
  exact one (T.nn p hp) he
theorem Small.out {k : Nat} (S : Small n w a D l k) (T : Tab n w rk a D) (hnw : n ≤ w) (hg : g < n) : Small n w (outA a D g) (outD a D g) (outL a D l g) (k + 1) := by
  obtain ⟨o0, o1⟩ := T.off hnw hg
  have hDg := S.D2 g hg
  have e2 : (2 : Int) ^ 2 ^ (k + 1 + 1) = 2 ^ 2 ^ (k + 1) * 2 ^ 2 ^ (k + 1) := by rw [← Int.pow_add]; congr 1; rw [Nat.pow_succ]; omega
  have p0 : (0 : Int) < 2 ^ 2 ^ (k + 1) := Int.pow_pos (by decide)
  have p1 : (0 : Int) < 2 ^ lb k := Int.pow_pos (by decide)
  have mono : (2 : Int) ^ 2 ^ (k + 1) ≤ 2 ^ 2 ^ (k + 1 + 1) := by
    rw [e2]
    have := Int.mul_le_mul_of_nonneg_left (show (1 : Int) ≤ 2 ^ 2 ^ (k + 1) by omega) (Int.le_of_lt p0)
    omega
  have elb : (2 : Int) ^ lb (k + 1) = 2 * (2 ^ lb k * 2 ^ 2 ^ (k + 1)) := by
    show (2 : Int) ^ (lb k + 2 ^ (k + 1) + 1) = _
    rw [Int.pow_succ, Int.pow_add]; omega
  refine ⟨fun p hp => ?_, fun p hp => ?_, fun p hp => ?_⟩
  · unfold outD
    split
    · omega
    · rw [e2]
      have := T.pos hnw hp
      exact Int.mul_le_mul (S.D2 p hp) (by omega) (by omega) (by omega)
  · unfold outL
    split
    · exact S.l0 g hg
    · exact Int.add_nonneg (Int.mul_nonneg (S.l0 p hp) (by omega)) (Int.mul_nonneg (T.nn p hp g (by omega)) (S.l0 g hg))
  · unfold outL
    rw [elb]
    have h1 : (2 : Int) ^ lb k * 1 ≤ 2 ^ lb k * 2 ^ 2 ^ (k + 1) := Int.mul_le_mul_of_nonneg_left (by omega) (by omega)
    split
    · have := S.l2 g hg
      omega
    · have a1 : l p * (D g - a g g) ≤ 2 ^ lb k * 2 ^ 2 ^ (k + 1) := Int.mul_le_mul (S.l2 p hp) (by omega) (by omega) (by omega)
      have a2 : a p g * l g ≤ 2 ^ 2 ^ (k + 1) * 2 ^ lb k := Int.mul_le_mul (Int.le_trans (T.le hp (show g < w by omega)) (S.D2 p hp)) (S.l2 g hg) (S.l0 g hg) (by omega)
      rw [Int.mul_comm (2 ^ 2 ^ (k + 1))] at a2
      omega
theorem natAbs_lt {z : Int} {b : Nat} (h0 : 0 ≤ z) (h : z ≤ 2 ^ b) : z.natAbs < 2 ^ (b + 1) := by
  have e : (((2 ^ b : Nat) : Int)) = 2 ^ b := by push_cast; rfl
  rw [Nat.pow_succ]
  have := Nat.pow_pos (n := b) (show 0 < 2 by decide)
  omega
theorem Small.tab {k : Nat} (S : Small n w a D l k) (T : Tab n w rk a D) (hnw : n ≤ w) (hp : p < n) (he : e < w) : Ht (tabR a D p e) (2 ^ (k + 1) + 1) := by
  have := T.pos hnw hp
  exact q_ht this (natAbs_lt (T.nn p hp e he) (Int.le_trans (T.le hp he) (S.D2 p hp))) (natAbs_lt (by omega) (S.D2 p hp))
theorem lb_ge : ∀ k, 2 ^ (k + 1) ≤ lb k + 2 ^ k
  | 0 => by decide
  | k + 1 => by
    have := lb_ge k
    show 2 ^ (k + 1 + 1) ≤ lb k + 2 ^ (k + 1) + 1 + 2 ^ (k + 1)
    rw [Nat.pow_succ 2 (k + 1)]; omega
theorem Small.las {k : Nat} (S : Small n w a D l k) (T : Tab n w rk a D) (hnw : n ≤ w) (hp : p < n) : Ht (lasR l D p) (lb k + 2 ^ (k + 1) + 1) := by
  have h0 := T.pos hnw hp
  exact q_ht h0 (Nat.lt_of_lt_of_le (natAbs_lt (S.l0 p hp) (S.l2 p hp)) (Nat.pow_le_pow_right (by decide) (Nat.add_le_add_right (Nat.le_add_right _ _) _))) (Nat.lt_of_lt_of_le (natAbs_lt (by omega) (S.D2 p hp)) (Nat.pow_le_pow_right (by decide) (Nat.add_le_add_right (Nat.le_add_left _ _) _)))
end
end M67


end

section
set_option linter.all false
/-! Plain law of k67: the table as it begins, all its steps, and what stands at its end. -/
namespace M67
open M94
def eqI (j : Nat) (e : Int) : Bool := decide (e = (j : Int))
theorem cI_cons {j : Nat} {e : Int} {l : List Int} : cI (eqI j) (e :: l) = cI (eqI j) l + if e = (j : Int) then 1 else 0 := by
  unfold cI
  by_cases h : e = (j : Int)
  · rw [if_pos h, List.countP_cons_of_pos (by simp [eqI, h])]; omega
  · rw [if_neg h, List.countP_cons_of_neg (by simp [eqI, h])]; omega
theorem sumI_one {f : Nat → Int} {i : Nat} : ∀ {n : Nat}, i < n → (∀ j, j < n → j ≠ i → f j = 0) → sumI f n = f i
  | n + 1, hi, h => by
    show sumI f n + f n = f i
    by_cases e : i = n
    · subst e
      have : sumI f i = sumI (fun _ => 0) i := sumI_congr fun j hj => h j (by omega) (by omega)
      have z : ∀ k, sumI (fun _ => 0) k = 0 := by
        intro k
        induction k with
        | zero => rfl
        | succ k ih => show sumI (fun _ => 0) k + 0 = 0; rw [ih]; rfl
      rw [this, z]; omega
    · rw [sumI_one (n := n) (by omega) fun j hj => h j (by omega), h n (by omega) (Ne.symm e)]; omega
theorem sum_all {w : Nat} : ∀ {l : List Int}, (∀ e ∈ l, 0 ≤ e ∧ e < (w : Int)) → sumI (fun j => cI (eqI j) l) w = l.length
  | [], _ => by
    have z : ∀ k, sumI (fun j => cI (eqI j) []) k = 0 := by
      intro k
      induction k with
      | zero => rfl
      | succ k ih => show sumI _ k + 0 = 0; rw [ih]; rfl
    rw [z]; rfl
  | e :: l, h => by
    have ih := sum_all (l := l) fun e he => h e (List.mem_cons_of_mem _ he)
    obtain ⟨e0, e1⟩ := h e List.mem_cons_self
    have c : sumI (fun j => cI (eqI j) (e :: l)) w = sumI (fun j => cI (eqI j) l + if e = (j : Int) then 1 else 0) w := sumI_congr fun j _ => cI_cons
    rw [c, sumI_add, ih, sumI_one (i := e.toNat) (by omega) fun j hj hne => if_neg (by omega), if_pos (by omega)]
    simp
theorem lsum_cI {w : Nat} {f : Int → Rat} : ∀ {l : List Int}, (∀ e ∈ l, 0 ≤ e ∧ e < (w : Int)) → lsum f l = sumR (fun j => ((cI (eqI j) l : Int) : Rat) * f (j : Int)) w
  | [], _ => by
    rw [sumR_zero fun j _ => by show ((0 : Int) : Rat) * _ = 0; simp]; rfl
  | e :: l, h => by
    have ih := lsum_cI (w := w) (f := f) (l := l) fun e he => h e (List.mem_cons_of_mem _ he)
    obtain ⟨e0, e1⟩ := h e List.mem_cons_self
    have c : sumR (fun j => ((cI (eqI j) (e :: l) : Int) : Rat) * f (j : Int)) w = sumR (fun j => ((cI (eqI j) l : Int) : Rat) * f (j : Int) + if e = (j : Int) then f e else 0) w := sumR_congr fun j _ => by
      rw [cI_cons]
      by_cases q : e = (j : Int)
      · rw [if_pos q, if_pos q, q]; push_cast; grind
      · rw [if_neg q, if_neg q]; push_cast; grind
    rw [c, sumR_add, ← ih, sumR_one (i := e.toNat) (by omega) fun j hj hne => if_neg (by omega), if_pos (by omega)]
    show f e + lsum f l = _
    grind
/-- counts of each entry -/
def cntA (R : Rows) (p e : Nat) : Int := cI (eqI e) (row R p)
def lenD (R : Rows) (p : Nat) : Int := ((row R p).length : Int)
theorem cnt_pos' {j : Nat} {l : List Int} (h : (j : Int) ∈ l) : 0 < cI (eqI j) l := by
  unfold cI
  have := List.countP_pos_iff.mpr ⟨(j : Int), h, show eqI j (j : Int) = true by simp [eqI]⟩
  omega
theorem tab_start {R : Rows} {m : Nat} {rk gd : Nat → Nat} (G : Good R m rk gd) : Tab R.length (R.length + m) rk (cntA R) (lenD R) := by
  refine ⟨fun p hp e he => cI_le.1, fun p hp => sum_all fun e he => by have := G.ents p hp e he; omega, fun p hp => ?_⟩
  obtain ⟨g1, g2⟩ := G.good p hp
  have hy := g2 _ (List.getElem?_eq_getElem g1)
  obtain ⟨y0, y1⟩ := G.ents p hp _ (List.getElem_mem g1)
  refine ⟨((row R p)[gd p]).toNat, by omega, cnt_pos' ?_, ?_⟩
  · rw [Int.toNat_of_nonneg y0]; exact List.getElem_mem g1
  · rcases hy with q | q
    · exact .inl (by omega)
    · exact .inr q
theorem small_start {R : Rows} {m : Nat} {rk gd : Nat → Nat} (G : Good R m rk gd) : Small R.length (R.length + m) (cntA R) (lenD R) (lenD R) 0 := by
  refine ⟨fun p hp => ?_, fun p hp => ?_, fun p hp => ?_⟩
  · have := (G.le4 p hp).2
    show ((row R p).length : Int) ≤ 2 ^ 2 ^ 1
    omega
  · show (0 : Int) ≤ ((row R p).length : Int)
    omega
  · have := (G.le4 p hp).2
    show ((row R p).length : Int) ≤ 2 ^ 2
    omega
theorem rel_start {R : Rows} {m : Nat} {rk gd : Nat → Nat} {t : Int → Rat} {x : Nat → Rat} (G : Good R m rk gd) (S : Sol R t x) : Rel R.length (R.length + m) (cntA R) (lenD R) (fun e => yv R.length x t (e : Int)) := fun p hp => by
  have h1 := S p hp
  rw [lsum_cI (w := R.length + m) fun e he => by have := G.ents p hp e he; omega] at h1
  have e1 : yv R.length x t ((p : Nat) : Int) = x p := by unfold yv; rw [if_pos (by omega), Int.toNat_natCast]
  show (((row R p).length : Int) : Rat) * yv R.length x t ((p : Nat) : Int) = _
  rw [e1]
  have : ((((row R p).length : Nat) : Int) : Rat) = ((row R p).length : Rat) := by push_cast; rfl
  rw [this]
  exact h1
/-- the table after k places are left out -/
def ch (R : Rows) : Nat → (Nat → Nat → Int) × (Nat → Int) × (Nat → Int)
  | 0 => (cntA R, lenD R, lenD R)
  | k + 1 => (outA (ch R k).1 (ch R k).2.1 k, outD (ch R k).1 (ch R k).2.1 k, outL (ch R k).1 (ch R k).2.1 (ch R k).2.2 k)
abbrev chA (R : Rows) (k : Nat) := (ch R k).1
abbrev chD (R : Rows) (k : Nat) := (ch R k).2.1
abbrev chL (R : Rows) (k : Nat) := (ch R k).2.2
theorem ch_tab {R : Rows} {m : Nat} {rk gd : Nat → Nat} (G : Good R m rk gd) : ∀ k, k ≤ R.length → Tab R.length (R.length + m) rk (chA R k) (chD R k) ∧ Small R.length (R.length + m) (chA R k) (chD R k) (chL R k) k ∧ Gone R.length (chA R k) k
  | 0, _ => ⟨tab_start G, small_start G, fun p hp e he => by omega⟩
  | k + 1, hk => by
    obtain ⟨h1, h2, h3⟩ := ch_tab G k (by omega)
    exact ⟨h1.out (by omega) (by omega), h2.out h1 (by omega) (by omega), h3.out (by omega)⟩
theorem ch_rel {R : Rows} {m : Nat} {rk gd : Nat → Nat} {t : Int → Rat} {x : Nat → Rat} (G : Good R m rk gd) (S : Sol R t x) : ∀ k, k ≤ R.length → Rel R.length (R.length + m) (chA R k) (chD R k) (fun e => yv R.length x t (e : Int))
  | 0, _ => rel_start G S
  | k + 1, hk => (ch_rel G S k (by omega)).out (by omega) (by omega)
theorem ch_end {R : Rows} {m h : Nat} {rk gd : Nat → Nat} {x : Nat → Rat} (G : Good R m rk gd) (S : Sol R (tH R.length h) x) (hm : h < m) {p : Nat} (hp : p < R.length) : x p = tabR (chA R R.length) (chD R R.length) p (R.length + h) := by
  obtain ⟨T, _, Z⟩ := ch_tab G R.length (Nat.le_refl _)
  have r := ch_rel G S R.length (Nat.le_refl _) p hp
  have hD := cast_ne (T.pos (by omega) hp)
  rw [sumR_one (i := R.length + h) (by omega) fun j hj hne => ?_] at r
  · have e1 : yv R.length x (tH R.length h) ((R.length + h : Nat) : Int) = 1 := by
      unfold yv tH
      rw [if_neg (by omega), if_pos (by omega)]
    have e2 : yv R.length x (tH R.length h) ((p : Nat) : Int) = x p := by unfold yv; rw [if_pos (by omega), Int.toNat_natCast]
    simp only [e1, e2] at r
    unfold tabR
    have h1 := Rat.mul_inv_cancel _ hD
    grind
  · by_cases q : j < R.length
    · rw [Z p hp j q]; simp
    · have : yv R.length x (tH R.length h) (j : Int) = 0 := by
        unfold yv tH
        rw [if_neg (by omega), if_neg (by omega)]
      simp only [this]; grind
/-- a solution there is -/
theorem gj_all {A0 : Sq} {n : Nat} (g : GJ A0 A0 n 0) : ∀ k, k ≤ n → ∃ A, GJ A0 A n k
  | 0, _ => ⟨_, g⟩
  | k + 1, hk => by
    obtain ⟨A, h⟩ := gj_all g k (by omega)
    obtain ⟨b, b1, b2, b3⟩ := h.pivot (show k < n by omega)
    exact ⟨_, h.step (by omega) b1 b2 b3⟩
theorem sol_ex {R : Rows} {m : Nat} {rk gd : Nat → Nat} (G : Good R m rk gd) (t : Int → Rat) : ∃ x, Sol R t x := by
  obtain ⟨A, h⟩ := gj_all (gj_start (t := t) G) R.length (Nat.le_refl _)
  exact ⟨_, sol_of_eq G h.fin.1⟩
/-- the shares in home h -/
def share (R : Rows) (h p : Nat) : Rat := tabR (chA R R.length) (chD R R.length) p (R.length + h)
theorem share_sol {R : Rows} {m h : Nat} {rk gd : Nat → Nat} (G : Good R m rk gd) (hm : h < m) : Sol R (tH R.length h) (share R h) := by
  obtain ⟨x, S⟩ := sol_ex G (tH R.length h)
  have e : ∀ p, p < R.length → x p = share R h p := fun p hp => ch_end G S hm hp
  intro p hp
  have := S p hp
  rw [e p hp] at this
  rw [this]
  exact lsum_congr fun y hy => yv_congr e y (G.ents p hp y hy).1
theorem share_ht {R : Rows} {m h : Nat} {rk gd : Nat → Nat} (G : Good R m rk gd) (hm : h < m) {p : Nat} (hp : p < R.length) : Ht (share R h p) (2 ^ (R.length + 1) + 1) := by
  obtain ⟨T, S, _⟩ := ch_tab G R.length (Nat.le_refl _)
  exact S.tab T (by omega) hp (by omega)
end M67

end

section
set_option linter.all false
/-! Plain law of k67: a step of the table, row by row; signs. -/
namespace M67
open M94
def mix {α : Type} (g k : Nat) (new old : Nat → α) (p : Nat) : α := if p = g ∨ p < k then new p else old p
section
variable {α : Type} {g k p : Nat} {new old : Nat → α}
theorem mix_g : mix g k new old g = new g := if_pos (.inl rfl)
theorem mix_k (h : k ≠ g) : mix g k new old k = old k := if_neg fun z => z.elim h (Nat.lt_irrefl _)
theorem mix_s : mix g (k + 1) new old k = new k := if_pos (.inr (Nat.lt_succ_self _))
theorem mix_ne (h : p ≠ k) : mix g k new old p = mix g (k + 1) new old p := by
  unfold mix
  by_cases q : p = g ∨ p < k
  · rw [if_pos q, if_pos (by omega)]
  · rw [if_neg q, if_neg (by omega)]
theorem mix_all (h : p < k) : mix g k new old p = new p := if_pos (.inr h)
theorem mix_0 (h : p ≠ g) : mix g 0 new old p = old p := if_neg fun z => z.elim h (Nat.not_lt_zero _)
end
theorem num_div {a d : Int} (hd : 0 < d) : (Rat.divInt a d).num = a / (Int.gcd a d : Int) := by
  rw [← (lp (n := a) (show d ≠ 0 by omega)).1]
  unfold sg
  rw [if_pos hd]
theorem num_ge {a d : Int} (h0 : 0 ≤ a) (hd : 0 < d) : 0 ≤ (Rat.divInt a d).num := by
  rw [num_div hd]
  exact Int.ediv_nonneg h0 (by omega)
theorem num_gt {a d : Int} (h0 : 0 < a) (hd : 0 < d) : 0 < (Rat.divInt a d).num := by
  have h1 := num_ge (a := a) (d := d) (by omega) hd
  rcases Int.lt_or_eq_of_le h1 with q | q
  · exact q
  · exfalso
    rw [num_div hd] at q
    have h2 := Int.ediv_mul_cancel (Int.gcd_dvd_left a d)
    rw [← q] at h2
    omega
theorem inv_num {q : Rat} (h : 0 < q.num) : (q⁻¹).num = (q.den : Int) ∧ ((q⁻¹).den : Int) = q.num := by
  have e := inv_pair q
  have hg : Int.gcd (q.den : Int) q.num = 1 := by
    rw [Int.gcd_comm, Int.gcd_eq_natAbs_gcd_natAbs, Int.natAbs_natCast]
    exact q.reduced
  obtain ⟨e1, e2⟩ := lp (n := (q.den : Int)) (d := q.num) (by omega)
  unfold sg at e1 e2
  rw [if_pos h, hg] at e1 e2
  rw [← e, ← e1, ← e2]
  simp
theorem five {k : Nat} (h : k ≤ 5) : 2 ^ (k + 1) ≤ 64 ∧ lb k ≤ 69 := by
  match k with
  | 0 | 1 | 2 | 3 | 4 | 5 => exact ⟨by decide, by decide⟩
  | k + 6 => omega
section
variable {n w : Nat} {rk : Nat → Nat} {a : Nat → Nat → Int} {D l : Nat → Int} {g p e : Nat}
theorem tab_num (T : Tab n w rk a D) (hnw : n ≤ w) (hp : p < n) (he : e < w) : 0 ≤ (tabR a D p e).num := by
  unfold tabR
  rw [q_div]
  exact num_ge (T.nn p hp e he) (T.pos hnw hp)
theorem by_num (T : Tab n w rk a D) (hnw : n ≤ w) (hg : g < n) : 0 < (1 + -(tabR a D g g)).num := by
  obtain ⟨o0, o1⟩ := T.off hnw hg
  have hD := T.pos hnw hg
  have e1 : 1 + -(tabR a D g g) = ((D g - a g g : Int) : Rat) * (D g : Rat)⁻¹ := by
    unfold tabR
    have : (D g : Rat) * (D g : Rat)⁻¹ = 1 := Rat.mul_inv_cancel _ (cast_ne hD)
    push_cast
    grind
  rw [e1, q_div]
  exact num_gt (by omega) hD
theorem by_ht {k : Nat} (S : Small n w a D l k) (T : Tab n w rk a D) (hnw : n ≤ w) (hg : g < n) (k5 : k ≤ 5) : Ht (1 + -(tabR a D g g))⁻¹ 70 := by
  have h1 := S.tab T hnw hg (show g < w by omega)
  have := (five k5).1
  exact (inv_ht (by_val T hnw hg).1 (add_ht (show Ht 1 1 from ⟨by decide, by decide⟩) (neg_ht h1))).mono (by omega)
end
end M67

end

section
set_option linter.all false
/-! Plain law of k67: worlds in order; what is kept by walks; how it all ends. -/
namespace M67
open M94
theorem sok_sent {R : Rows} {m : Nat} {rk gd : Nat → Nat} {s : WS} {i p : Nat} (G : Good R m rk gd) (ok : SOk R m s) (hp : s.sn[i]? = some (p : Int)) (hpR : p < R.length) : SOk R m (sent R s i p) := by
  obtain ⟨x0, x1⟩ := G.ents p hpR _ (ent_mem ok.hok hpR)
  refine ⟨nxt_ok ok.hok hpR (G.le4 p hpR).1, fun x hx => ?_, ?_, fun j hj => ?_, by show (s.sn.set i _).length ≤ 200; rw [List.length_set]; exact ok.l200⟩
  · rcases M94.set_mem hx with q | q
    · exact ok.xs x q
    · rw [q]; exact ⟨x0, x1⟩
  · show (if _ then _ else _ : List Int).length = m
    split
    · rw [bump, List.length_set]; exact ok.wl
    · exact ok.wl
  · show (if _ then _ else _ : List Int).getD j 0 = ((cnt (s.sn.set i (ent R s.hs p)) (R.length + j) : Nat) : Int)
    rw [cnt_set hp, if_neg (show ¬ ((R.length : Int) + j = (p : Int)) by omega)]
    have w := ok.won j hj
    split
    · rename_i h
      rw [bump_get (by rw [ok.wl]; omega), w]
      by_cases q : j = (ent R s.hs p - R.length).toNat
      · rw [if_pos q, if_pos (by omega)]; omega
      · rw [if_neg q, if_neg (by omega)]; omega
    · rw [w, if_neg (by omega)]; omega
theorem sok_led {R : Rows} {m : Nat} {rk gd : Nat → Nat} {s : WS} {i p : Nat} (G : Good R m rk gd) (ok : SOk R m s) (hp : s.sn[i]? = some (p : Int)) (hpR : p < R.length) : SOk R m (ledTo R s i p) ∧ (R.length : Int) ≤ (play R 10000 s.hs p).2.1 := by
  have hx : XOk R m (p : Int) := ⟨by omega, by have := G.m1; omega⟩
  have ph := play_home G 10000 s.hs p ok.hok hx (by have := (pot_ge (h := s.hs) G p).2; omega)
  obtain ⟨y0, y1⟩ := ph.2.1
  refine ⟨⟨ph.1, fun x hx => ?_, ?_, fun q hq => ?_, by show (s.sn.set i _).length ≤ 200; rw [List.length_set]; exact ok.l200⟩, ph.2.2.1⟩
  · rcases M94.set_mem hx with q | q
    · exact ok.xs x q
    · rw [q]; exact ph.2.1
  · show (bump s.won _).length = m
    rw [bump, List.length_set]; exact ok.wl
  · show (bump s.won _).getD q 0 = ((cnt (s.sn.set i (play R 10000 s.hs p).2.1) (R.length + q) : Nat) : Int)
    have hh := ph.2.2.1
    rw [cnt_set hp, if_neg (show ¬ ((R.length : Int) + q = (p : Int)) by omega), bump_get (by rw [ok.wl]; omega), ok.won q hq]
    by_cases z : q = ((play R 10000 s.hs p).2.1 - R.length).toNat
    · rw [if_pos z, if_pos (by omega)]; omega
    · rw [if_neg z, if_neg (by omega)]; omega
theorem cnt_snoc {xs : List Int} {a x : Int} : cnt (xs ++ [a]) x = cnt xs x + if x = a then 1 else 0 := by
  unfold cnt
  rw [List.count_append]
  have := @cnt_cons a [] x
  unfold cnt at this
  rw [this]; simp
theorem sok_enter {R : Rows} {m : Nat} {rk gd : Nat → Nat} {s : WS} {p : Nat} (G : Good R m rk gd) (ok : SOk R m s) (hpR : p < R.length) (hl : s.sn.length < 200) : SOk R m { s with sn := s.sn ++ [(p : Int)] } := by
  refine ⟨ok.hok, fun x hx => ?_, ok.wl, fun j hj => ?_, by simp; omega⟩
  · rcases List.mem_append.mp hx with q | q
    · exact ok.xs x q
    · rw [List.mem_singleton.mp q]; exact ⟨by omega, by omega⟩
  · show s.won.getD j 0 = ((cnt (s.sn ++ [(p : Int)]) (R.length + j) : Nat) : Int)
    rw [cnt_snoc, if_neg (by omega), ok.won j hj]; rfl
theorem led_kept {R : Rows} {m : Nat} {rk gd : Nat → Nat} {t : Int → Rat} {x : Nat → Rat} {i : Nat} (G : Good R m rk gd) (S : Sol R t x) : ∀ (k : Nat) (h sn : List Int) (y : Int), HandsOk R h → XOk R m y → sn[i]? = some y →
    keptR R t x (play R k h y).1 (sn.set i (play R k h y).2.1) = keptR R t x h sn
  | 0, h, sn, y, ok, hy, hi => by
    have e1 : sn.set i y = sn := by
      obtain ⟨l1, l2⟩ := List.getElem?_eq_some_iff.mp hi
      rw [← l2]; exact List.set_getElem_self l1
    show keptR R t x h (sn.set i y) = _
    rw [e1]
  | k + 1, h, sn, y, ok, hy, hi => by
    by_cases l : y < (R.length : Int)
    · have hxn : y.toNat < R.length := by have := hy.1; omega
      have ex : ((y.toNat : Nat) : Int) = y := Int.toNat_of_nonneg hy.1
      have hi' : sn[i]? = some ((y.toNat : Nat) : Int) := by rw [ex]; exact hi
      rw [play_in l]
      have ih := led_kept G S k (nxt R h y.toNat) (sn.set i (ent R h y.toNat)) (ent R h y.toNat) (nxt_ok ok hxn (G.le4 _ hxn).1) (G.ents _ hxn _ (ent_mem ok hxn)) (List.getElem?_set_self (List.getElem?_eq_some_iff.mp hi).1)
      rw [List.set_set] at ih
      show keptR R t x (play R k (nxt R h y.toNat) (ent R h y.toNat)).1 (sn.set i (play R k (nxt R h y.toNat) (ent R h y.toNat)).2.1) = _
      rw [ih, kept_fire G S ok hxn hi']
    · rw [play_out (by omega)]
      have e1 : sn.set i y = sn := by
        obtain ⟨l1, l2⟩ := List.getElem?_eq_some_iff.mp hi
        rw [← l2]; exact List.set_getElem_self l1
      show keptR R t x h (sn.set i y) = _
      rw [e1]
/-- all are home: their numbers are the wins -/
theorem home_sum {n h : Nat} {x : Nat → Rat} : ∀ {sn : List Int}, (∀ y ∈ sn, (n : Int) ≤ y) → lsum (yv n x (tH n h)) sn = ((cnt sn ((n : Int) + h) : Nat) : Rat)
  | [], _ => by show (0 : Rat) = _; simp [cnt]
  | a :: sn, hh => by
    have ih := home_sum (n := n) (h := h) (x := x) (sn := sn) fun y hy => hh y (List.mem_cons_of_mem _ hy)
    have ha := hh a List.mem_cons_self
    show yv n x (tH n h) a + lsum _ sn = _
    rw [ih, cnt_cons]
    unfold yv tH
    rw [if_neg (by omega)]
    by_cases q : a = (n : Int) + h
    · rw [if_pos q, if_pos q.symm]; push_cast; grind
    · rw [if_neg q, if_neg (Ne.symm q)]; push_cast; grind
theorem kept_home {R : Rows} {m : Nat} {s : WS} {h : Nat} {x : Nat → Rat} (ok : SOk R m s) (hm : h < m) (hh : ∀ y ∈ s.sn, (R.length : Int) ≤ y) : keptR R (tH R.length h) x s.hs s.sn = keptR R (tH R.length h) x s.hs [] + ((s.won.getD h 0 : Int) : Rat) := by
  unfold keptR
  rw [home_sum hh, ok.won h hm]
  have : (((cnt s.sn ((R.length : Int) + h) : Nat) : Int) : Rat) = ((cnt s.sn ((R.length : Int) + h) : Nat) : Rat) := by push_cast; rfl
  rw [this]
  show _ = (_ + 0) + _
  grind
/-- all wins together: all that entered -/
theorem cnt_all {n m : Nat} : ∀ {sn : List Int}, (∀ y ∈ sn, (n : Int) ≤ y ∧ y < (n : Int) + m) → sumI (fun j => ((cnt sn ((n : Int) + (j : Nat)) : Nat) : Int)) m = sn.length
  | [], _ => by
    have z : ∀ k, sumI (fun j => ((cnt [] ((n : Int) + (j : Nat)) : Nat) : Int)) k = 0 := by
      intro k
      induction k with
      | zero => rfl
      | succ k ih => show sumI _ k + _ = 0; rw [ih]; rfl
    rw [z]; rfl
  | a :: sn, hh => by
    have ih := cnt_all (n := n) (m := m) (sn := sn) fun y hy => hh y (List.mem_cons_of_mem _ hy)
    obtain ⟨a0, a1⟩ := hh a List.mem_cons_self
    have e : sumI (fun j => ((cnt (a :: sn) ((n : Int) + (j : Nat)) : Nat) : Int)) m = sumI (fun j => ((cnt sn ((n : Int) + (j : Nat)) : Nat) : Int) + if (n : Int) + (j : Nat) = a then 1 else 0) m := sumI_congr fun j _ => by
      rw [cnt_cons]
      split <;> simp
    rw [e, sumI_add, ih, sumI_one (i := (a - n).toNat) (by omega) fun j hj hne => if_neg (by omega), if_pos (by omega)]
    simp
theorem list_sum : ∀ {l : List Int}, l.sum = sumI (fun j => l.getD j 0) l.length := by
  intro l
  have app : ∀ (f : Nat → Int) (n : Nat) (a : Int), sumI (fun j => if j = 0 then a else f (j - 1)) (n + 1) = a + sumI f n := by
    intro f n a
    induction n with
    | zero => show (0 : Int) + (if (0 : Nat) = 0 then a else f (0 - 1)) = a + 0; simp
    | succ n ih =>
      show sumI _ (n + 1) + (if n + 1 = 0 then a else f (n + 1 - 1)) = a + (sumI f n + f n)
      rw [ih, if_neg (by omega), show n + 1 - 1 = n by omega]; omega
  induction l with
  | nil => rfl
  | cons a l ih =>
    rw [List.sum_cons, ih, List.length_cons, ← app]
    refine sumI_congr fun j _ => ?_
    cases j with
    | zero => rfl
    | succ j => simp
theorem wins_all {R : Rows} {m : Nat} {s : WS} (ok : SOk R m s) (hh : ∀ y ∈ s.sn, (R.length : Int) ≤ y) : s.won.sum = s.sn.length := by
  rw [list_sum, ok.wl, ← cnt_all (n := R.length) (m := m) (sn := s.sn) fun y hy => ⟨hh y hy, (ok.xs y hy).2⟩]
  exact sumI_congr fun j hj => ok.won j hj
theorem share_num {R : Rows} {m h : Nat} {rk gd : Nat → Nat} (G : Good R m rk gd) (hm : h < m) {j : Nat} : j < R.length + m → Ht (yv R.length (share R h) (tH R.length h) (j : Int)) (2 ^ (R.length + 1) + 1) := fun hj => by
  unfold yv
  by_cases q : (j : Int) < (R.length : Int)
  · rw [if_pos q, Int.toNat_natCast]
    exact share_ht G hm (by omega)
  · rw [if_neg q]
    exact tH_ht.mono (Nat.le_add_left 1 _)
end M67

end

section
set_option Elab.async false
set_option linter.all false
set_option maxRecDepth 100000
set_option maxHeartbeats 4000000
/-! Nd: pairs of whole numbers as fractions; lists of them, tables of them. -/
namespace Nd
open PySem PySem.Spec PyProof.Rows L2 M67
theorem cur_sub {H0 H : Hp} {S : List Addr} {L L' : List (Addr × HO)} (C : Cur H0 S H L) (s : L'.Sublist L) : Cur H0 S H L' := C.sub ((s.map _).nodup C.nd) fun p hp => s.mem hp
theorem Cur.pick {H0 H : Hp} {S : List Addr} {L : List (Addr × HO)} (C : Cur H0 S H L) (is : List Nat) (nd : is.Nodup) : Cur H0 S H (is.filterMap fun i => L[i]?) :=
  C.sub (List.pairwise_map.mpr (List.pairwise_filterMap.mpr (nd.imp fun {i j} hij p hp q hq => C.ne i j (o := p.2) (o2 := q.2) hp hq hij))) (fun p hp => by
    obtain ⟨i, _, e⟩ := List.mem_filterMap.mp hp
    exact List.mem_of_getElem? e)
/-- two stretches, one behind the other; the second changes nothing that was there at its start -/
theorem Cur.and {H0 H1 H2 : Hp} {S : List Addr} {L L' : List (Addr × HO)} (C : Cur H0 S H1 L) (D : Cur H1 [] H2 L') : Cur H0 S H2 L' := ⟨D.nd, D.own, C.ret.trans D.ret.nil⟩
/-- what was a tuple is one -/
def Tups (H H' : Hp) : Prop := ∀ a xs, H a = some (.tup xs) → H' a = some (.tup xs)
theorem Tups.refl {H : Hp} : Tups H H := fun _ _ h => h
theorem Tups.trans {H H1 H2 : Hp} (a : Tups H H1) (b : Tups H1 H2) : Tups H H2 := fun x xs h => b x xs (a x xs h)
theorem Ret.tups {S : List Addr} {H H' : Hp} (r : Ret S H H') (hs : ∀ s ∈ S, ∀ xs, H s ≠ some (.tup xs)) : Tups H H' := fun _ _ h => r.tup hs h
theorem Ret.tups0 {H H' : Hp} (r : Ret [] H H') : Tups H H' := r.tups fun _ z => nomatch z
theorem Ret.tupsL {H H' : Hp} {p : Addr} {xs : List V} (r : Ret [p] H H') (h : H p = some (.lst xs)) : Tups H H' := r.tups fun s hs ys e => by rw [List.mem_singleton.mp hs, h] at e; cases e
theorem Tups.mod {H : Hp} {p : Addr} {xs : List V} {o : HO} (h : H p = some (.lst xs)) : Tups H (upd H p o) := fun a ys e => by
  rw [upd_ne (fun z => by rw [z, h] at e; cases e)]; exact e
theorem Tups.new {H : Hp} {p : Addr} {o : HO} (h : H p = none) : Tups H (upd H p o) := fun a ys e => by rw [upd_ne (ne_of_none e h)]; exact e
/-- the pair at a is the fraction q -/
def PrA (K : PySem.W.Frag) (H : Hp) (a : Addr) (q : Rat) : Prop := H a = some (.tup [.int q.num, .int q.den]) ∨ KT K a [.int q.num, .int q.den]
section
variable {K : PySem.W.Frag} {H H' : Hp} {a : Addr} {q : Rat} {Q : VK}
theorem PrA.sq (h : PrA K H a q) : SqT K H a [.int q.num, .int q.den] := h.elim (fun h => SqT.of h) fun h => h.sq
theorem PrA.to (h : PrA K H a q) (t : Tups H H') : PrA K H' a q := h.imp (fun h => t _ _ h) id
theorem PrA.of (h : H a = some (.tup [.int q.num, .int q.den])) : PrA K H a q := .inl h
theorem PrA.mk {n d : Int} (h : H a = some (.tup [.int n, .int d])) (e1 : n = q.num) (e2 : d = q.den) : PrA K H a q := .inl (by rw [h, e1, e2])
theorem PrA.res {r : Rat} (e : H a = some (.tup [.int q.num, .int q.den])) (h : r = q) : PrA K H a r := by rw [h]; exact .inl e
/-- a new pair -/
def NewP (Q : VK) (H : Hp) (q : Rat) : Prop := ∀ t H', Ret [] H H' → H t = none → H' t = some (.tup [.int q.num, .int q.den]) → Q (.ref t) H'
theorem pr_at0 {n d : Int} : atI [V.int n, V.int d] 0 = some (.int n) := rfl
theorem pr_at1 {n d : Int} : atI [V.int n, V.int d] 1 = some (.int d) := rfl
theorem r_num (h : PrA K H a q) (k : Q (.int q.num) H) : rIx K (.ref a) (.int 0) H Q := r_ixT h.sq pr_at0 k
theorem r_den (h : PrA K H a q) (k : Q (.int q.den) H) : rIx K (.ref a) (.int 1) H Q := r_ixT h.sq pr_at1 k
theorem fdiv_exact {n g : Int} (h : g ∣ n) : n.fdiv g = n / g := by
  by_cases hg : g = 0
  · subst hg; simp
  obtain ⟨k, rfl⟩ := h
  rw [Int.mul_fdiv_cancel_left _ hg, Int.mul_ediv_cancel_left _ hg]
theorem sg_dvd {n d : Int} : sg n d ∣ n ∧ sg n d ∣ d := by
  unfold sg
  split
  · exact ⟨Int.gcd_dvd_left n d, Int.gcd_dvd_right n d⟩
  · exact ⟨Int.neg_dvd.mpr (Int.gcd_dvd_left n d), Int.neg_dvd.mpr (Int.gcd_dvd_right n d)⟩
theorem lpF {n d : Int} (h : d ≠ 0) : n.fdiv (sg n d) = (Rat.divInt n d).num ∧ d.fdiv (sg n d) = ((Rat.divInt n d).den : Int) := by
  obtain ⟨h1, h2⟩ := sg_dvd (n := n) (d := d)
  rw [fdiv_exact h1, fdiv_exact h2]
  exact lp h
theorem sg_abs {n d : Int} {b : Nat} (h : d ≠ 0) (hd : d.natAbs < 2 ^ b) : (sg n d).natAbs < 2 ^ b := by
  have h1 : (sg n d).natAbs ≤ d.natAbs := Nat.le_of_dvd (by omega) (Int.natAbs_dvd_natAbs.mpr sg_dvd.2)
  omega
theorem div_ok {n d : Int} (x : Int) (h : d ≠ 0) (hd : d.natAbs < 2 ^ 9000) : CDivB x (sg n d) := ⟨sg_ne h, PySem.Flt.log2_lt_of (by decide) (sg_abs h hd)⟩
theorem pos_of_den {q : Rat} : (0 : Int) < q.den := by have := q.den_nz; omega
theorem mul_ok {x y : Int} {a b : Nat} (h1 : x.natAbs < 2 ^ a) (h2 : y.natAbs < 2 ^ b) (h : a ≤ 4500) (h' : b ≤ 4500) : CMulW x y := by
  refine wide_mul (a := a + 1) (b := b + 1) (Nat.lt_of_lt_of_le h1 (Nat.pow_le_pow_right (by decide) (by omega))) (Nat.lt_of_lt_of_le h2 (Nat.pow_le_pow_right (by decide) (by omega))) (by omega) (by omega) (by omega)
theorem _root_.M67.Ht.n {q : Rat} {b : Nat} (h : Ht q b) : q.num.natAbs < 2 ^ b := h.1
theorem _root_.M67.Ht.d {q : Rat} {b : Nat} (h : Ht q b) : ((q.den : Nat) : Int).natAbs < 2 ^ b := by rw [Int.natAbs_natCast]; exact h.2
theorem big_mul {x y : Int} {a b : Nat} (h1 : x.natAbs < 2 ^ a) (h2 : y.natAbs < 2 ^ b) : (x * y).natAbs < 2 ^ (a + b) := wide_lt h1 h2
theorem pw {x : Int} {a b : Nat} (h : x.natAbs < 2 ^ a) (l : a ≤ b) : x.natAbs < 2 ^ b := Nat.lt_of_lt_of_le h (Nat.pow_le_pow_right (by decide) l)
theorem sub_pair (a b : Rat) : Rat.divInt (a.num * b.den - b.num * a.den) (a.den * b.den) = a + -b := by
  rw [← add_pair, Rat.neg_num, Rat.neg_den]
  congr 1
  rw [Int.neg_mul]; omega
theorem lpG {n d : Int} (h : d ≠ 0) : (if 0 < d then n.fdiv (Int.gcd n d : Int) else (-n).fdiv (Int.gcd n d : Int)) = (Rat.divInt n d).num ∧ (if 0 < d then d.fdiv (Int.gcd n d : Int) else (-d).fdiv (Int.gcd n d : Int)) = ((Rat.divInt n d).den : Int) := by
  have h1 := Int.gcd_dvd_left n d
  have h2 := Int.gcd_dvd_right n d
  obtain ⟨e1, e2⟩ := lp (n := n) h
  rw [← e1, ← e2]
  unfold sg
  by_cases hp : 0 < d
  · simp only [if_pos hp]
    exact ⟨fdiv_exact h1, fdiv_exact h2⟩
  · simp only [if_neg hp]
    rw [fdiv_exact (Int.dvd_neg.mpr h1), fdiv_exact (Int.dvd_neg.mpr h2), Int.neg_ediv_of_dvd h1, Int.neg_ediv_of_dvd h2, Int.ediv_neg, Int.ediv_neg]
    exact ⟨rfl, rfl⟩
theorem gcd_ok {n d : Int} (x : Int) (h : d ≠ 0) (hd : d.natAbs < 2 ^ 9000) : CDivB x (Int.gcd n d : Int) := by
  have h1 := gcd_pos (n := n) h
  refine ⟨by omega, PySem.Flt.log2_lt_of (by decide) ?_⟩
  have h2 : ((Int.gcd n d : Int)).natAbs ≤ d.natAbs := Nat.le_of_dvd (by omega) (Int.natAbs_dvd_natAbs.mpr (Int.gcd_dvd_right n d))
  omega
theorem gcd_step {a b : Int} (hb : 0 < b) : Int.gcd b (a % b) = Int.gcd a b := by
  rw [Int.gcd_comm a b, Int.emod_def, Int.gcd_sub_mul_left_right]
/-! == and != -/
theorem pr_inj {x y : Rat} : ([x.num, (x.den : Int)] = [y.num, (y.den : Int)]) ↔ x = y := by
  constructor
  · intro h
    injection h with h1 h2
    injection h2 with h3 _
    exact Rat.ext h1 (by omega)
  · intro h; rw [h]
theorem r_nePr {b : Addr} {x y : Rat} (h1 : PrA K H a x) (h2 : PrA K H b y) (h : Q (.bl (!decide (x = y))) H) : rNeU K (.ref a) (.ref b) H Q := by
  refine r_neT (ns := [x.num, x.den]) (ms := [y.num, y.den]) h1.sq h2.sq ?_
  rw [decide_eq_decide.mpr (pr_inj (x := x) (y := y))]; exact h
theorem r_eqPr {b : Addr} {x y : Rat} (h1 : PrA K H a x) (h2 : PrA K H b y) (h : Q (.bl (decide (x = y))) H) : rEqU K (.ref a) (.ref b) H Q := by
  refine r_eqT (ns := [x.num, x.den]) (ms := [y.num, y.den]) h1.sq h2.sq ?_
  rw [decide_eq_decide.mpr (pr_inj (x := x) (y := y))]; exact h
/-- the data of a pair -/
def prD (q : Rat) : PyData := .tuple [.int q.num, .int q.den]
theorem PrA.dp (h : PrA K H a q) : Dp K H (.ref a) (prD q) := .tup h.sq (.cons (.int _) (.cons (.int _) .nil))
end
/-! ### lists of pairs -/
/-- ads are the places of the fractions f 0, f 1, .. f (n - 1) -/
def PrL (K : PySem.W.Frag) (H : Hp) (ads : List Addr) (f : Nat → Rat) (n : Nat) : Prop := ads.length = n ∧ ∀ i a, ads[i]? = some a → PrA K H a (f i)
section
variable {K : PySem.W.Frag} {H H' : Hp} {a : Addr} {q : Rat} {Q : VK} {ads : List Addr} {f g : Nat → Rat} {n : Nat}
theorem PrL.to (h : PrL K H ads f n) (t : Tups H H') : PrL K H' ads f n := ⟨h.1, fun i a e => (h.2 i a e).to t⟩
theorem PrL.nil : PrL K H [] f 0 := ⟨rfl, fun i a e => by simp at e⟩
theorem PrL.get (h : PrL K H ads f n) {i : Nat} (hi : i < n) : ∃ a, ads[i]? = some a ∧ PrA K H a (f i) := by
  have : i < ads.length := by rw [h.1]; exact hi
  exact ⟨ads[i], List.getElem?_eq_getElem this, h.2 i _ (List.getElem?_eq_getElem this)⟩
theorem PrL.snoc (h : PrL K H ads f n) (ha : PrA K H a (f n)) : PrL K H (ads ++ [a]) f (n + 1) := by
  refine ⟨by simp [h.1], fun i b e => ?_⟩
  rcases Nat.lt_or_ge i ads.length with l | l
  · rw [List.getElem?_append_left l] at e; exact h.2 i b e
  · rw [List.getElem?_append_right l] at e
    have l2 := (List.getElem?_eq_some_iff.mp e).1
    have : i - ads.length = 0 := by simpa using l2
    rw [this] at e
    have e2 : a = b := by simpa using e
    have e3 : i = n := by rw [← h.1]; omega
    rw [← e2, e3]; exact ha
theorem PrL.set (h : PrL K H ads f n) {i : Nat} (ha : PrA K H a (g i)) (e : ∀ j, j ≠ i → j < n → g j = f j) : PrL K H (ads.set i a) g n := by
  refine ⟨by rw [List.length_set]; exact h.1, fun j b e2 => ?_⟩
  have hj : j < n := by
    have := (List.getElem?_eq_some_iff.mp e2).1
    rw [List.length_set, h.1] at this; exact this
  by_cases q : i = j
  · subst q
    rw [List.getElem?_set_self (by rw [h.1]; exact hj)] at e2
    rw [← Option.some.inj e2]; exact ha
  · rw [List.getElem?_set_ne q] at e2
    rw [e j (Ne.symm q) hj]
    exact h.2 j b e2
theorem PrL.congr (h : PrL K H ads f n) (e : ∀ j, j < n → f j = g j) : PrL K H ads g n := ⟨h.1, fun i a q => by
  have : i < n := by rw [← h.1]; exact (List.getElem?_eq_some_iff.mp q).1
  rw [← e i this]; exact h.2 i a q⟩
theorem PrL.take (h : PrL K H ads f n) {m : Nat} (l : m ≤ n) : PrL K H (ads.take m) f m := ⟨by rw [List.length_take, h.1]; omega, fun i a q => by
  by_cases hi : i < m
  · rw [List.getElem?_take_of_lt hi] at q; exact h.2 i a q
  · have := (List.getElem?_eq_some_iff.mp q).1
    rw [List.length_take] at this; omega⟩
theorem PrL.drop (h : PrL K H ads f n) {m : Nat} (l : m ≤ n) : PrL K H (ads.drop m) (fun i => f (m + i)) (n - m) := ⟨by rw [List.length_drop, h.1], fun i a q => by
  rw [List.getElem?_drop] at q; exact h.2 _ a q⟩
theorem PrL.app {bds : List Addr} {m : Nat} (h : PrL K H ads f n) (h2 : PrL K H bds (fun i => f (n + i)) m) : PrL K H (ads ++ bds) f (n + m) := by
  refine ⟨by rw [List.length_append, h.1, h2.1], fun i b e => ?_⟩
  rcases Nat.lt_or_ge i ads.length with l | l
  · rw [List.getElem?_append_left l] at e; exact h.2 i b e
  · rw [List.getElem?_append_right l] at e
    have this : PrA K H b (f (n + (i - ads.length))) := h2.2 _ b e
    have e2 : n + (i - ads.length) = i := by rw [← h.1]; omega
    rw [e2] at this; exact this
theorem PrL.one (h : PrA K H a (f 0)) : PrL K H [a] f 1 := ⟨rfl, fun i b e => by
  cases i with
  | zero => have : a = b := by simpa using e
            rw [← this]; exact h
  | succ i => simp at e⟩
theorem atR {ads : List Addr} {i : Int} {a : Addr} (h0 : 0 ≤ i) (h : ads[i.toNat]? = some a) : atI (ads.map V.ref) i = some (.ref a) := atI_of h0 (by rw [List.getElem?_map, h]; rfl)
theorem atRn {ads : List Addr} {i : Nat} {a : Addr} (h : ads[i]? = some a) : atI (ads.map V.ref) (i : Int) = some (.ref a) := atI_nat (by rw [List.getElem?_map, h]; rfl)
theorem refOf {ads : List Addr} {i : Nat} {x : V} (h : (ads.map V.ref)[i]? = some x) : ∃ a, ads[i]? = some a ∧ x = .ref a := by
  rw [List.getElem?_map] at h
  cases e : ads[i]? with
  | none => rw [e] at h; cases h
  | some a => rw [e] at h; exact ⟨a, rfl, (Option.some.inj h).symm⟩
theorem len_ref (ads : List Addr) : (ads.map V.ref).length = ads.length := List.length_map ..
theorem set_ref (ads : List Addr) (i : Nat) (a : Addr) : (ads.map V.ref).set i (.ref a) = (ads.set i a).map V.ref := by rw [List.map_set]
theorem app_ref (ads : List Addr) (a : Addr) : ads.map V.ref ++ [V.ref a] = (ads ++ [a]).map V.ref := by rw [List.map_append]; rfl
/-! ### tables: rows, each a list of its own -/
/-- a row: a list at r of the fractions f 0 .. f (m - 1) -/
def RowP (K : PySem.W.Frag) (H : Hp) (r : Addr) (f : Nat → Rat) (m : Nat) : Prop := ∃ ads, H r = some (.lst (ads.map V.ref)) ∧ PrL K H ads f m
/-- rads are the places of the rows A 0, .. A (n - 1), each of m fractions -/
def TabP (K : PySem.W.Frag) (H : Hp) (rads : List Addr) (A : Nat → Nat → Rat) (n m : Nat) : Prop := rads.length = n ∧ ∀ i r, rads[i]? = some r → RowP K H r (A i) m
theorem RowP.to {r : Addr} {S : List Addr} (h : RowP K H r f n) (t : Ret S H H') (hr : r ∉ S) (hs : ∀ s ∈ S, ∀ xs, H s ≠ some (.tup xs)) : RowP K H' r f n := by
  obtain ⟨ads, h1, h2⟩ := h
  exact ⟨ads, t.fr _ _ h1 hr, h2.to (t.tups hs)⟩
theorem RowP.congr {r : Addr} (h : RowP K H r f n) (e : ∀ j, j < n → f j = g j) : RowP K H r g n := by
  obtain ⟨ads, h1, h2⟩ := h
  exact ⟨ads, h1, h2.congr e⟩
variable {rads : List Addr} {A B : Nat → Nat → Rat} {m : Nat} {r : Addr}
theorem TabP.to {S : List Addr} (h : TabP K H rads A n m) (t : Ret S H H') (hr : ∀ r ∈ rads, r ∉ S) (hs : ∀ s ∈ S, ∀ xs, H s ≠ some (.tup xs)) : TabP K H' rads A n m :=
  ⟨h.1, fun i r e => (h.2 i r e).to t (hr r (List.mem_of_getElem? e)) hs⟩
theorem TabP.get (h : TabP K H rads A n m) {i : Nat} (hi : i < n) : ∃ r, rads[i]? = some r ∧ RowP K H r (A i) m := by
  have : i < rads.length := by rw [h.1]; exact hi
  exact ⟨rads[i], List.getElem?_eq_getElem this, h.2 i _ (List.getElem?_eq_getElem this)⟩
theorem TabP.nil : TabP K H [] A 0 m := ⟨rfl, fun i a e => by simp at e⟩
theorem TabP.snoc (h : TabP K H rads A n m) (ha : RowP K H r (A n) m) : TabP K H (rads ++ [r]) A (n + 1) m := by
  refine ⟨by simp [h.1], fun i b e => ?_⟩
  rcases Nat.lt_or_ge i rads.length with l | l
  · rw [List.getElem?_append_left l] at e; exact h.2 i b e
  · rw [List.getElem?_append_right l] at e
    have l2 := (List.getElem?_eq_some_iff.mp e).1
    have : i - rads.length = 0 := by simpa using l2
    rw [this] at e
    have e2 : r = b := by simpa using e
    have e3 : i = n := by rw [← h.1]; omega
    rw [← e2, e3]; exact ha
theorem TabP.set (h : TabP K H rads A n m) {i : Nat} (ha : RowP K H r (B i) m) (e : ∀ p, p ≠ i → p < n → ∀ j, j < m → A p j = B p j) : TabP K H (rads.set i r) B n m := by
  refine ⟨by rw [List.length_set]; exact h.1, fun j b e2 => ?_⟩
  have hj : j < n := by
    have := (List.getElem?_eq_some_iff.mp e2).1
    rw [List.length_set, h.1] at this; exact this
  by_cases q : i = j
  · subst q
    rw [List.getElem?_set_self (by rw [h.1]; exact hj)] at e2
    rw [← Option.some.inj e2]; exact ha
  · rw [List.getElem?_set_ne q] at e2
    exact (h.2 j b e2).congr (e j (Ne.symm q) hj)
theorem TabP.congr (h : TabP K H rads A n m) (e : ∀ p, p < n → ∀ j, j < m → A p j = B p j) : TabP K H rads B n m := ⟨h.1, fun i r q => by
  have : i < n := by rw [← h.1]; exact (List.getElem?_eq_some_iff.mp q).1
  exact (h.2 i r q).congr (e i this)⟩
theorem mem_set {r x : Addr} {i : Nat} (h : x ∈ rads.set i r) : x ∈ rads ∨ x = r := List.mem_or_eq_of_mem_set h
end
end Nd

end

section
set_option Elab.async false
set_option linter.all false
set_option maxRecDepth 100000
set_option maxHeartbeats 4000000
/-! Nd: in and not in, over whole numbers. -/
namespace Nd
open PySem PySem.Spec PyProof.Rows L2
theorem inV_ints {k : Int} : ∀ {ns : List Int}, inV (.int k) (ns.map V.int) = decide (k ∈ ns)
  | [] => rfl
  | n :: ns => by
    have ih := inV_ints (k := k) (ns := ns)
    unfold inV at ih ⊢
    rw [List.map_cons, List.any_cons, ih]
    have e : eqV (.int n) (.int k) = decide (k = n) := by
      show decide (n = k) = decide (k = n)
      exact decide_eq_decide.mpr ⟨Eq.symm, Eq.symm⟩
    rw [e]
    by_cases h1 : k = n <;> by_cases h2 : k ∈ ns <;> simp [h1, h2]
theorem flat_ints : ∀ {ns : List Int}, (ns.map V.int).all flatV = true
  | [] => rfl
  | n :: ns => by
    rw [List.map_cons, List.all_cons, flat_ints (ns := ns)]; rfl
section
variable {K : PySem.W.Frag} {H : Hp} {Q : VK} {p : Addr} {ns : List Int} {k : Int}
theorem r_inL (hs : SqL K H p (ns.map V.int)) (h : Q (.bl (decide (k ∈ ns))) H) : rIn K false (.int k) (.ref p) H Q := ⟨p, _, rfl, .inl hs, rfl, flat_ints, by rw [inV_ints]; exact h⟩
theorem r_notInL (hs : SqL K H p (ns.map V.int)) (h : Q (.bl (!decide (k ∈ ns))) H) : rIn K true (.int k) (.ref p) H Q := ⟨p, _, rfl, .inl hs, rfl, flat_ints, by rw [inV_ints]; exact h⟩
theorem r_any {bs : List Bool} (hs : SqL K H p (bs.map V.bl)) (h : Q (.bl (bs.any id)) H) : rAny K [.ref p] H Q := ⟨p, bs, rfl, hs, h⟩
theorem r_all {bs : List Bool} (hs : SqL K H p (bs.map V.bl)) (h : Q (.bl (bs.all id)) H) : rAll K [.ref p] H Q := ⟨p, bs, rfl, hs, h⟩
end
end Nd

end

section
set_option Elab.async false
set_option linter.all false
set_option maxRecDepth 100000
set_option maxHeartbeats 4000000
/-! Nd: the sum of a tuple. -/
namespace Nd
open PySem PySem.Spec PyProof.Rows L2
def rSumT (K : PySem.W.Frag) : List V → Hp → VK → Prop := fun vs H Q => ∃ (a : Addr) (ns : List Int), vs = [V.ref a] ∧ SqT K H a (ns.map V.int) ∧ Q (.int ns.sum) H
theorem cr_sumT {X : Cx} (hc : X.calm = true) : CallR X (.builtin "sum") (rSumT X.K) := by
  intro pins s σ H vs us Q I r h
  obtain ⟨a, ns, rfl, hs, q⟩ := h
  obtain ⟨its, rv, ht, _⟩ := I.tuple hs
  rw [Vals.ref1 r]
  have hi : IntsAre its ns := rv.ints
  obtain ⟨xs, e⟩ := hi.allInts.items
  have hn : numsOf (intItems xs).toList = ns := by rw [← e]; exact hi.numsOf
  rw [nums_intItems] at hn
  have ht' : s.heap.IsTuple a its.toArray := ht
  rw [e] at ht'
  refine PySem.W.ktm_sumG (I.ok.hd hc) ht' fun h' tk t' hk => ?_
  rw [preSum_eq, List.take_of_length_le (by simp), hn]
  exact ⟨.int _, H, I.kept hk, ⟨_, rfl⟩, q⟩
theorem cr_sumTK (K : PySem.W.Frag) {X : Cx} (hc : X.calm = true) (e : X.K = K := by rfl) : CallR X (.builtin "sum") (rSumT K) := e ▸ cr_sumT hc
theorem r_sumT {K : PySem.W.Frag} {H : Hp} {Q : VK} {a : Addr} {ns : List Int} (hs : SqT K H a (ns.map V.int)) (h : Q (.int ns.sum) H) : rSumT K [.ref a] H Q := ⟨a, ns, rfl, hs, h⟩
end Nd

end

section
set_option Elab.async false
set_option linter.all false
set_option maxRecDepth 100000
set_option maxHeartbeats 4000000
/-! Nd: the text of a pair. -/
namespace Nd
open PySem PySem.Spec PyProof.Rows L2 M67
theorem ht_log {z : Int} {b : Nat} (h : z.natAbs < 2 ^ b) (hb : 0 < b) (l : b ≤ 1920) : z.natAbs.log2 < 1920 := Nat.lt_of_lt_of_le (PySem.Flt.log2_lt_of hb h) l
theorem pr_show {q : Rat} {b : Nat} (h : Ht q b) (hb : 0 < b) (l : b ≤ 1920) : (prD q).showable = true ∧ (prD q).hasDict = false ∧ (prD q).depth ≤ 64 ∧ (prD q).shown.length ≤ sizeLine := by
  have h1 := ht_log h.n hb l
  have h2 := ht_log h.d hb l
  refine ⟨?_, rfl, ?_, ?_⟩
  · show (decide (q.num.natAbs.log2 < 1920) && (decide ((q.den : Int).natAbs.log2 < 1920) && true)) = true
    rw [decide_eq_true h1, decide_eq_true h2]; rfl
  · show max 0 (max 0 0) + 1 ≤ 64
    decide
  · have l1 := int_text_length_le (k := 1920) (by decide) h1
    have l2 := int_text_length_le (k := 1920) (by decide) h2
    show (("(" : Str) ++ ((Str.ofString (toString q.num)) ++ ", " ++ (Str.ofString (toString (q.den : Int)))) ++ (")" : Str)).length ≤ sizeLine
    simp only [strLen_append, PySem.ofString_length]
    have e1 : "(".length = 1 := rfl
    have e2 : ", ".length = 2 := rfl
    have e3 : ")".length = 1 := rfl
    rw [e1, e2, e3, sizeLine_eq]
    omega
theorem r_reprPr {K : PySem.W.Frag} {H : Hp} {Q : VK} {a : Addr} {q : Rat} {b : Nat} (hp : PrA K H a q) (h : Ht q b) (hb : 0 < b) (l : b ≤ 1920) (k : Q (.str (prD q).shown) H) : rReprD K [.ref a] H Q := by
  obtain ⟨s1, s2, s3, s4⟩ := pr_show h hb l
  exact ⟨a, prD q, rfl, hp.dp, s1, s2, s3, s4, k⟩
theorem r_neS {K : PySem.W.Frag} {H : Hp} {Q : VK} {x : Str} (k : Q (.bl false) H) : rNeU K (.str x) (.str x) H Q := r_ne rfl (by rw [decide_eq_true rfl]; exact k)
end Nd

end

section
set_option Elab.async false
set_option linter.all false
set_option maxRecDepth 100000
set_option maxHeartbeats 4000000
namespace K67
open PySem PySem.Spec PyProof.Rows L2 Nd
def topS (i : Nat) : Stmt := PySem.Challenge.pw_nodice_k67_what_steps_keep.main.body.getD i (.Pass ⟨0, 0, 0, 0⟩)
abbrev s_law : Stmt := topS 71
abbrev N_law : List Str := ["_law_script", "_law_steward_here", "_law_turn", "_law_rows_here", "_law_first", "_law_due_here", "_law_lap", "_law_hands", "_law_places", "_law_homes", "_law_table", "_law_world", "_law_home", "_law_entered", "_law_out", "_law_told", "_law_walker", "_law_spot", "_law_place", "_law_row"]
theorem sc_law : FnScope N_law ["_law_script"] (defScope s_law) := ⟨rfl, rfl, rfl, by decide +kernel, rfl, by decide +kernel, by decide +kernel⟩
abbrev s_l_steward : Stmt := topS 61
abbrev N_l_steward : List Str := ["_law_script", "_law_cell"]
theorem sc_l_steward : FnScope N_l_steward ["_law_script"] (defScope s_l_steward) := ⟨rfl, rfl, rfl, by decide +kernel, rfl, by decide +kernel, by decide +kernel⟩
abbrev s_l_ledger : Stmt := topS 62
abbrev N_l_ledger : List Str := ["_law_steward_here", "_law_many", "_law_at", "_law_cell", "_law_mixed", "_law_rest"]
theorem sc_l_ledger : FnScope N_l_ledger ["_law_steward_here", "_law_many"] (defScope s_l_ledger) := ⟨rfl, rfl, rfl, by decide +kernel, rfl, by decide +kernel, by decide +kernel⟩
abbrev s_l_one : Stmt := topS 63
abbrev N_l_one : List Str := ["_law_steward_here", "_law_some"]
theorem sc_l_one : FnScope N_l_one ["_law_steward_here", "_law_some"] (defScope s_l_one) := ⟨rfl, rfl, rfl, by decide +kernel, rfl, by decide +kernel, by decide +kernel⟩
abbrev s_l_rows : Stmt := topS 64
abbrev N_l_rows : List Str := ["_law_steward_here", "_law_places", "_law_homes", "_law_rows_here", "_law_place", "_law_found", "_law_row", "_law_names", "_law_left", "_law_entry"]
theorem sc_l_rows : FnScope N_l_rows ["_law_steward_here", "_law_places", "_law_homes"] (defScope s_l_rows) := ⟨rfl, rfl, rfl, by decide +kernel, rfl, by decide +kernel, by decide +kernel⟩
abbrev s_World_init : Stmt := inClass (topS 51) 0
abbrev N_World_init : List Str := ["self", "board", "hands"]
theorem sc_World_init : FnScope N_World_init ["self", "board", "hands"] (defScope s_World_init) := ⟨rfl, rfl, rfl, by decide +kernel, rfl, by decide +kernel, by decide +kernel⟩
abbrev s_need_board : Stmt := topS 28
abbrev N_need_board : List Str := ["value", "part"]
theorem sc_need_board : FnScope N_need_board ["value", "part"] (defScope s_need_board) := ⟨rfl, rfl, rfl, by decide +kernel, rfl, by decide +kernel, by decide +kernel⟩
abbrev s_need_hands : Stmt := topS 50
abbrev N_need_hands : List Str := ["board", "value", "hand", "row"]
theorem sc_need_hands : FnScope N_need_hands ["board", "value"] (defScope s_need_hands) := ⟨rfl, rfl, rfl, by decide +kernel, rfl, by decide +kernel, by decide +kernel⟩
abbrev s_is_within : Stmt := topS 11
abbrev N_is_within : List Str := ["value", "least", "most"]
theorem sc_is_within : FnScope N_is_within ["value", "least", "most"] (defScope s_is_within) := ⟨rfl, rfl, rfl, by decide +kernel, rfl, by decide +kernel, by decide +kernel⟩
abbrev s_is_integer : Stmt := topS 10
abbrev N_is_integer : List Str := ["value"]
theorem sc_is_integer : FnScope N_is_integer ["value"] (defScope s_is_integer) := ⟨rfl, rfl, rfl, by decide +kernel, rfl, by decide +kernel, by decide +kernel⟩
abbrev s_Board_init : Stmt := inClass (topS 26) 0
abbrev N_Board_init : List Str := ["self", "homes", "rows", "row"]
theorem sc_Board_init : FnScope N_Board_init ["self", "homes", "rows"] (defScope s_Board_init) := ⟨rfl, rfl, rfl, by decide +kernel, rfl, by decide +kernel, by decide +kernel⟩
abbrev s_do_fit : Stmt := topS 25
abbrev N_do_fit : List Str := ["rows", "homes", "most", "row", "entry"]
theorem sc_do_fit : FnScope N_do_fit ["rows", "homes"] (defScope s_do_fit) := ⟨rfl, rfl, rfl, by decide +kernel, rfl, by decide +kernel, by decide +kernel⟩
abbrev s_are_rows : Stmt := topS 24
abbrev N_are_rows : List Str := ["value", "row"]
theorem sc_are_rows : FnScope N_are_rows ["value"] (defScope s_are_rows) := ⟨rfl, rfl, rfl, by decide +kernel, rfl, by decide +kernel, by decide +kernel⟩
abbrev s_l_chances : Stmt := topS 69
abbrev N_l_chances : List Str := ["_law_rows_here", "_law_homes", "_law_places", "_law_row", "_law_gone", "_law_table", "_law_lasting", "_law_by_here", "_law_own", "_law_place", "_law_share", "_law_entry", "_law_mine", "_law_its", "_law_each"]
theorem sc_l_chances : FnScope N_l_chances ["_law_rows_here", "_law_homes"] (defScope s_l_chances) := ⟨rfl, rfl, rfl, by decide +kernel, rfl, by decide +kernel, by decide +kernel⟩
abbrev s_l_short : Stmt := topS 65
abbrev N_l_short : List Str := ["_law_up", "_law_down", "_law_one_here", "_law_other"]
theorem sc_l_short : FnScope N_l_short ["_law_up", "_law_down"] (defScope s_l_short) := ⟨rfl, rfl, rfl, by decide +kernel, rfl, by decide +kernel, by decide +kernel⟩
abbrev s_l_less : Stmt := topS 67
abbrev N_l_less : List Str := ["_law_one_here", "_law_other"]
theorem sc_l_less : FnScope N_l_less ["_law_one_here", "_law_other"] (defScope s_l_less) := ⟨rfl, rfl, rfl, by decide +kernel, rfl, by decide +kernel, by decide +kernel⟩
abbrev s_l_by : Stmt := topS 68
abbrev N_l_by : List Str := ["_law_one_here", "_law_other"]
theorem sc_l_by : FnScope N_l_by ["_law_one_here", "_law_other"] (defScope s_l_by) := ⟨rfl, rfl, rfl, by decide +kernel, rfl, by decide +kernel, by decide +kernel⟩
abbrev s_l_plus : Stmt := topS 66
abbrev N_l_plus : List Str := ["_law_one_here", "_law_other"]
theorem sc_l_plus : FnScope N_l_plus ["_law_one_here", "_law_other"] (defScope s_l_plus) := ⟨rfl, rfl, rfl, by decide +kernel, rfl, by decide +kernel, by decide +kernel⟩
abbrev s_kept : Stmt := topS 59
abbrev N_kept : List Str := ["world", "home", "numbers", "hands", "row", "hand", "entry"]
theorem sc_kept : FnScope N_kept ["world", "home"] (defScope s_kept) := ⟨rfl, rfl, rfl, by decide +kernel, rfl, by decide +kernel, by decide +kernel⟩
abbrev s_need_world : Stmt := topS 52
abbrev N_need_world : List Str := ["value", "part"]
theorem sc_need_world : FnScope N_need_world ["value", "part"] (defScope s_need_world) := ⟨rfl, rfl, rfl, by decide +kernel, rfl, by decide +kernel, by decide +kernel⟩
abbrev s_need_home : Stmt := topS 58
abbrev N_need_home : List Str := ["board", "value"]
theorem sc_need_home : FnScope N_need_home ["board", "value"] (defScope s_need_home) := ⟨rfl, rfl, rfl, by decide +kernel, rfl, by decide +kernel, by decide +kernel⟩
abbrev s_need_number : Stmt := topS 12
abbrev N_need_number : List Str := ["value", "part", "least", "most"]
theorem sc_need_number : FnScope N_need_number ["value", "part", "least", "most"] (defScope s_need_number) := ⟨rfl, rfl, rfl, by decide +kernel, rfl, by decide +kernel, by decide +kernel⟩
abbrev s_need_open : Stmt := topS 57
abbrev N_need_open : List Str := ["board", "part"]
theorem sc_need_open : FnScope N_need_open ["board", "part"] (defScope s_need_open) := ⟨rfl, rfl, rfl, by decide +kernel, rfl, by decide +kernel, by decide +kernel⟩
abbrev s_shut_in : Stmt := topS 29
abbrev N_shut_in : List Str := ["board", "left", "lead", "open_now", "place", "entry"]
theorem sc_shut_in : FnScope N_shut_in ["board"] (defScope s_shut_in) := ⟨rfl, rfl, rfl, by decide +kernel, rfl, by decide +kernel, by decide +kernel⟩
abbrev s_numbers_of : Stmt := topS 54
abbrev N_numbers_of : List Str := ["board", "home"]
theorem sc_numbers_of : FnScope N_numbers_of ["board", "home"] (defScope s_numbers_of) := ⟨rfl, rfl, rfl, by decide +kernel, rfl, by decide +kernel, by decide +kernel⟩
abbrev s_ends_of : Stmt := topS 43
abbrev N_ends_of : List Str := ["board", "home", "each"]
theorem sc_ends_of : FnScope N_ends_of ["board", "home"] (defScope s_ends_of) := ⟨rfl, rfl, rfl, by decide +kernel, rfl, by decide +kernel, by decide +kernel⟩
abbrev s_shares_in : Stmt := topS 46
abbrev N_shares_in : List Str := ["board", "home"]
theorem sc_shares_in : FnScope N_shares_in ["board", "home"] (defScope s_shares_in) := ⟨rfl, rfl, rfl, by decide +kernel, rfl, by decide +kernel, by decide +kernel⟩
abbrev s_numbers_for : Stmt := topS 45
abbrev N_numbers_for : List Str := ["board", "ends", "more", "place"]
theorem sc_numbers_for : FnScope N_numbers_for ["board", "ends", "more"] (defScope s_numbers_for) := ⟨rfl, rfl, rfl, by decide +kernel, rfl, by decide +kernel, by decide +kernel⟩
abbrev s_solved : Stmt := topS 40
abbrev N_solved : List Str := ["rows", "at", "square", "many", "spot", "place", "row"]
theorem sc_solved : FnScope N_solved ["rows"] (defScope s_solved) := ⟨rfl, rfl, rfl, by decide +kernel, rfl, by decide +kernel, by decide +kernel⟩
abbrev s_lessened : Stmt := topS 39
abbrev N_lessened : List Str := ["row", "own", "at", "by", "mine", "its"]
theorem sc_lessened : FnScope N_lessened ["row", "own", "at"] (defScope s_lessened) := ⟨rfl, rfl, rfl, by decide +kernel, rfl, by decide +kernel, by decide +kernel⟩
abbrev s_turned : Stmt := topS 35
abbrev N_turned : List Str := ["one"]
theorem sc_turned : FnScope N_turned ["one"] (defScope s_turned) := ⟨rfl, rfl, rfl, by decide +kernel, rfl, by decide +kernel, by decide +kernel⟩
abbrev s_over : Stmt := topS 38
abbrev N_over : List Str := ["one", "other"]
theorem sc_over : FnScope N_over ["one", "other"] (defScope s_over) := ⟨rfl, rfl, rfl, by decide +kernel, rfl, by decide +kernel, by decide +kernel⟩
abbrev s_times : Stmt := topS 34
abbrev N_times : List Str := ["one", "other"]
theorem sc_times : FnScope N_times ["one", "other"] (defScope s_times) := ⟨rfl, rfl, rfl, by decide +kernel, rfl, by decide +kernel, by decide +kernel⟩
abbrev s_least_pair : Stmt := topS 32
abbrev N_least_pair : List Str := ["up", "down", "common"]
theorem sc_least_pair : FnScope N_least_pair ["up", "down"] (defScope s_least_pair) := ⟨rfl, rfl, rfl, by decide +kernel, rfl, by decide +kernel, by decide +kernel⟩
abbrev s_both : Stmt := topS 33
abbrev N_both : List Str := ["one", "other"]
theorem sc_both : FnScope N_both ["one", "other"] (defScope s_both) := ⟨rfl, rfl, rfl, by decide +kernel, rfl, by decide +kernel, by decide +kernel⟩
abbrev s_equation_of : Stmt := topS 44
abbrev N_equation_of : List Str := ["board", "place", "ends", "more", "row", "found", "entry"]
theorem sc_equation_of : FnScope N_equation_of ["board", "place", "ends", "more"] (defScope s_equation_of) := ⟨rfl, rfl, rfl, by decide +kernel, rfl, by decide +kernel, by decide +kernel⟩
abbrev s_World_hands : Stmt := inClass (topS 51) 1
abbrev N_World_hands : List Str := ["self"]
theorem sc_World_hands : FnScope N_World_hands ["self"] (defScope s_World_hands) := ⟨rfl, rfl, rfl, by decide +kernel, rfl, by decide +kernel, by decide +kernel⟩
abbrev s_all_worths : Stmt := topS 56
abbrev N_all_worths : List Str := ["board", "numbers", "place"]
theorem sc_all_worths : FnScope N_all_worths ["board", "numbers"] (defScope s_all_worths) := ⟨rfl, rfl, rfl, by decide +kernel, rfl, by decide +kernel, by decide +kernel⟩
abbrev s_row_worths : Stmt := topS 55
abbrev N_row_worths : List Str := ["board", "place", "numbers", "found", "entry"]
theorem sc_row_worths : FnScope N_row_worths ["board", "place", "numbers"] (defScope s_row_worths) := ⟨rfl, rfl, rfl, by decide +kernel, rfl, by decide +kernel, by decide +kernel⟩
abbrev s_total_of : Stmt := topS 36
abbrev N_total_of : List Str := ["fractions", "total", "each"]
theorem sc_total_of : FnScope N_total_of ["fractions"] (defScope s_total_of) := ⟨rfl, rfl, rfl, by decide +kernel, rfl, by decide +kernel, by decide +kernel⟩
abbrev s_World_walkers : Stmt := inClass (topS 51) 2
abbrev N_World_walkers : List Str := ["self"]
theorem sc_World_walkers : FnScope N_World_walkers ["self"] (defScope s_World_walkers) := ⟨rfl, rfl, rfl, by decide +kernel, rfl, by decide +kernel, by decide +kernel⟩
abbrev s_l_due : Stmt := topS 70
abbrev N_l_due : List Str := ["_law_rows_here", "_law_table", "_law_home", "_law_world", "_law_found", "_law_entry", "_law_place", "_law_hand", "_law_there"]
theorem sc_l_due : FnScope N_l_due ["_law_rows_here", "_law_table", "_law_home", "_law_world"] (defScope s_l_due) := ⟨rfl, rfl, rfl, by decide +kernel, rfl, by decide +kernel, by decide +kernel⟩
abbrev s_World_play : Stmt := inClass (topS 51) 10
abbrev N_World_play : List Str := ["self", "place", "most", "before"]
theorem sc_World_play : FnScope N_World_play ["self", "place", "most"] (defScope s_World_play) := ⟨rfl, rfl, rfl, by decide +kernel, rfl, by decide +kernel, by decide +kernel⟩
abbrev s_World_copy : Stmt := inClass (topS 51) 5
abbrev N_World_copy : List Str := ["self", "other"]
theorem sc_World_copy : FnScope N_World_copy ["self"] (defScope s_World_copy) := ⟨rfl, rfl, rfl, by decide +kernel, rfl, by decide +kernel, by decide +kernel⟩
abbrev s_World_take : Stmt := inClass (topS 51) 6
abbrev N_World_take : List Str := ["self", "other"]
theorem sc_World_take : FnScope N_World_take ["self", "other"] (defScope s_World_take) := ⟨rfl, rfl, rfl, by decide +kernel, rfl, by decide +kernel, by decide +kernel⟩
abbrev s_World_sent_home : Stmt := inClass (topS 51) 14
abbrev N_World_sent_home : List Str := ["self", "walker", "most", "before", "_", "entry"]
theorem sc_World_sent_home : FnScope N_World_sent_home ["self", "walker", "most", "before"] (defScope s_World_sent_home) := ⟨rfl, rfl, rfl, by decide +kernel, rfl, by decide +kernel, by decide +kernel⟩
abbrev s_World_sent : Stmt := inClass (topS 51) 13
abbrev N_World_sent : List Str := ["self", "walker", "place", "row", "entry"]
theorem sc_World_sent : FnScope N_World_sent ["self", "walker"] (defScope s_World_sent) := ⟨rfl, rfl, rfl, by decide +kernel, rfl, by decide +kernel, by decide +kernel⟩
abbrev s_World_enter : Stmt := inClass (topS 51) 7
abbrev N_World_enter : List Str := ["self", "place"]
theorem sc_World_enter : FnScope N_World_enter ["self", "place"] (defScope s_World_enter) := ⟨rfl, rfl, rfl, by decide +kernel, rfl, by decide +kernel, by decide +kernel⟩
abbrev s_World_advance : Stmt := inClass (topS 51) 8
abbrev N_World_advance : List Str := ["self", "walker"]
theorem sc_World_advance : FnScope N_World_advance ["self", "walker"] (defScope s_World_advance) := ⟨rfl, rfl, rfl, by decide +kernel, rfl, by decide +kernel, by decide +kernel⟩
abbrev s_World_need_out : Stmt := inClass (topS 51) 11
abbrev N_World_need_out : List Str := ["self", "walker"]
theorem sc_World_need_out : FnScope N_World_need_out ["self", "walker"] (defScope s_World_need_out) := ⟨rfl, rfl, rfl, by decide +kernel, rfl, by decide +kernel, by decide +kernel⟩
abbrev s_World_need_away : Stmt := inClass (topS 51) 12
abbrev N_World_need_away : List Str := ["self", "walker"]
theorem sc_World_need_away : FnScope N_World_need_away ["self", "walker"] (defScope s_World_need_away) := ⟨rfl, rfl, rfl, by decide +kernel, rfl, by decide +kernel, by decide +kernel⟩
abbrev s_World_led : Stmt := inClass (topS 51) 9
abbrev N_World_led : List Str := ["self", "walker", "most"]
theorem sc_World_led : FnScope N_World_led ["self", "walker", "most"] (defScope s_World_led) := ⟨rfl, rfl, rfl, by decide +kernel, rfl, by decide +kernel, by decide +kernel⟩
abbrev s_World_wins : Stmt := inClass (topS 51) 3
abbrev N_World_wins : List Str := ["self"]
theorem sc_World_wins : FnScope N_World_wins ["self"] (defScope s_World_wins) := ⟨rfl, rfl, rfl, by decide +kernel, rfl, by decide +kernel, by decide +kernel⟩
structure Adr where
  Board : Addr
  World : Addr
  NOUGHT : Addr
  ONE : Addr
structure Txt (K : PySem.W.Frag) (mg : Str → Option Value) (A : Adr) : Prop where
  c_Board : Cls K A.Board
  g_Board : mg "Board" = some (.ref A.Board)
  n_Board_homes : PySem.W.findIn K (.ref A.Board) "homes" = some none
  n_Board_places : PySem.W.findIn K (.ref A.Board) "places" = some none
  n_Board_rows : PySem.W.findIn K (.ref A.Board) "rows" = some none
  c_World : Cls K A.World
  g_World : mg "World" = some (.ref A.World)
  n_World_board : PySem.W.findIn K (.ref A.World) "board" = some none
  n_World_shown : PySem.W.findIn K (.ref A.World) "shown" = some none
  n_World_standing : PySem.W.findIn K (.ref A.World) "standing" = some none
  n_World_won : PySem.W.findIn K (.ref A.World) "won" = some none
  n_World_steps : PySem.W.findIn K (.ref A.World) "steps" = some none
  f_law : ∃ f fd, Fun K "law" "law" s_law f fd ∧ mg "law" = some (.ref f)
  f_l_steward : ∃ f fd, Fun K "_law_steward" "_law_steward" s_l_steward f fd ∧ mg "_law_steward" = some (.ref f)
  f_l_ledger : ∃ f fd, Fun K "_law_ledger" "_law_ledger" s_l_ledger f fd ∧ mg "_law_ledger" = some (.ref f)
  f_l_one : ∃ f fd, Fun K "_law_one" "_law_one" s_l_one f fd ∧ mg "_law_one" = some (.ref f)
  f_l_rows : ∃ f fd, Fun K "_law_rows" "_law_rows" s_l_rows f fd ∧ mg "_law_rows" = some (.ref f)
  v_World_init : ∃ f fd, Fun K "__init__" "World.__init__" s_World_init f fd ∧ Mk K A.World f ∧ mg "World" = some (.ref A.World)
  f_need_board : ∃ f fd, FunD K "need_board" "need_board" (defArgs s_need_board) (defBody s_need_board) (defScope s_need_board) [.str "board"] [] f fd ∧ mg "need_board" = some (.ref f)
  f_need_hands : ∃ f fd, Fun K "need_hands" "need_hands" s_need_hands f fd ∧ mg "need_hands" = some (.ref f)
  f_is_within : ∃ f fd, Fun K "is_within" "is_within" s_is_within f fd ∧ mg "is_within" = some (.ref f)
  f_is_integer : ∃ f fd, Fun K "is_integer" "is_integer" s_is_integer f fd ∧ mg "is_integer" = some (.ref f)
  v_Board_init : ∃ f fd, Fun K "__init__" "Board.__init__" s_Board_init f fd ∧ Mk K A.Board f ∧ mg "Board" = some (.ref A.Board)
  f_do_fit : ∃ f fd, Fun K "do_fit" "do_fit" s_do_fit f fd ∧ mg "do_fit" = some (.ref f)
  f_are_rows : ∃ f fd, Fun K "are_rows" "are_rows" s_are_rows f fd ∧ mg "are_rows" = some (.ref f)
  f_l_chances : ∃ f fd, Fun K "_law_chances" "_law_chances" s_l_chances f fd ∧ mg "_law_chances" = some (.ref f)
  f_l_short : ∃ f fd, Fun K "_law_short" "_law_short" s_l_short f fd ∧ mg "_law_short" = some (.ref f)
  f_l_less : ∃ f fd, Fun K "_law_less" "_law_less" s_l_less f fd ∧ mg "_law_less" = some (.ref f)
  f_l_by : ∃ f fd, Fun K "_law_by" "_law_by" s_l_by f fd ∧ mg "_law_by" = some (.ref f)
  f_l_plus : ∃ f fd, Fun K "_law_plus" "_law_plus" s_l_plus f fd ∧ mg "_law_plus" = some (.ref f)
  f_kept : ∃ f fd, Fun K "kept" "kept" s_kept f fd ∧ mg "kept" = some (.ref f)
  f_need_world : ∃ f fd, FunD K "need_world" "need_world" (defArgs s_need_world) (defBody s_need_world) (defScope s_need_world) [.str "world"] [] f fd ∧ mg "need_world" = some (.ref f)
  f_need_home : ∃ f fd, Fun K "need_home" "need_home" s_need_home f fd ∧ mg "need_home" = some (.ref f)
  f_need_number : ∃ f fd, Fun K "need_number" "need_number" s_need_number f fd ∧ mg "need_number" = some (.ref f)
  f_need_open : ∃ f fd, FunD K "need_open" "need_open" (defArgs s_need_open) (defBody s_need_open) (defScope s_need_open) [.str "board"] [] f fd ∧ mg "need_open" = some (.ref f)
  f_shut_in : ∃ f fd, Fun K "shut_in" "shut_in" s_shut_in f fd ∧ mg "shut_in" = some (.ref f)
  f_numbers_of : ∃ f fd, Fun K "numbers_of" "numbers_of" s_numbers_of f fd ∧ mg "numbers_of" = some (.ref f)
  f_ends_of : ∃ f fd, Fun K "ends_of" "ends_of" s_ends_of f fd ∧ mg "ends_of" = some (.ref f)
  f_shares_in : ∃ f fd, Fun K "shares_in" "shares_in" s_shares_in f fd ∧ mg "shares_in" = some (.ref f)
  f_numbers_for : ∃ f fd, Fun K "numbers_for" "numbers_for" s_numbers_for f fd ∧ mg "numbers_for" = some (.ref f)
  f_solved : ∃ f fd, Fun K "solved" "solved" s_solved f fd ∧ mg "solved" = some (.ref f)
  f_lessened : ∃ f fd, Fun K "lessened" "lessened" s_lessened f fd ∧ mg "lessened" = some (.ref f)
  f_turned : ∃ f fd, Fun K "turned" "turned" s_turned f fd ∧ mg "turned" = some (.ref f)
  f_over : ∃ f fd, Fun K "over" "over" s_over f fd ∧ mg "over" = some (.ref f)
  f_times : ∃ f fd, Fun K "times" "times" s_times f fd ∧ mg "times" = some (.ref f)
  f_least_pair : ∃ f fd, Fun K "least_pair" "least_pair" s_least_pair f fd ∧ mg "least_pair" = some (.ref f)
  f_both : ∃ f fd, Fun K "both" "both" s_both f fd ∧ mg "both" = some (.ref f)
  f_equation_of : ∃ f fd, Fun K "equation_of" "equation_of" s_equation_of f fd ∧ mg "equation_of" = some (.ref f)
  v_World_hands : ∃ p f fd, Fun K "hands" "World.hands" s_World_hands f fd ∧ PropOf K A.World "hands" p f
  f_all_worths : ∃ f fd, Fun K "all_worths" "all_worths" s_all_worths f fd ∧ mg "all_worths" = some (.ref f)
  f_row_worths : ∃ f fd, Fun K "row_worths" "row_worths" s_row_worths f fd ∧ mg "row_worths" = some (.ref f)
  f_total_of : ∃ f fd, Fun K "total_of" "total_of" s_total_of f fd ∧ mg "total_of" = some (.ref f)
  v_World_walkers : ∃ p f fd, Fun K "walkers" "World.walkers" s_World_walkers f fd ∧ PropOf K A.World "walkers" p f
  f_l_due : ∃ f fd, Fun K "_law_due" "_law_due" s_l_due f fd ∧ mg "_law_due" = some (.ref f)
  v_World_play : ∃ f fd, Fun K "play" "World.play" s_World_play f fd ∧ Meth K A.World "play" f
  v_World_copy : ∃ f fd, Fun K "copy" "World.copy" s_World_copy f fd ∧ Meth K A.World "copy" f
  v_World_take : ∃ f fd, Fun K "take" "World.take" s_World_take f fd ∧ Meth K A.World "take" f
  v_World_sent_home : ∃ f fd, Fun K "sent_home" "World.sent_home" s_World_sent_home f fd ∧ Meth K A.World "sent_home" f
  v_World_sent : ∃ f fd, Fun K "sent" "World.sent" s_World_sent f fd ∧ Meth K A.World "sent" f
  v_World_enter : ∃ f fd, Fun K "enter" "World.enter" s_World_enter f fd ∧ Meth K A.World "enter" f
  v_World_advance : ∃ f fd, Fun K "advance" "World.advance" s_World_advance f fd ∧ Meth K A.World "advance" f
  v_World_need_out : ∃ f fd, Fun K "need_out" "World.need_out" s_World_need_out f fd ∧ Meth K A.World "need_out" f
  v_World_need_away : ∃ f fd, Fun K "need_away" "World.need_away" s_World_need_away f fd ∧ Meth K A.World "need_away" f
  v_World_led : ∃ f fd, Fun K "led" "World.led" s_World_led f fd ∧ Meth K A.World "led" f
  v_World_wins : ∃ p f fd, Fun K "wins" "World.wins" s_World_wins f fd ∧ PropOf K A.World "wins" p f
  b_abs : mg "abs" = none
  b_all : mg "all" = none
  b_any : mg "any" = none
  b_bool : mg "bool" = none
  b_enumerate : mg "enumerate" = none
  b_int : mg "int" = none
  b_isinstance : mg "isinstance" = none
  b_len : mg "len" = none
  b_list : mg "list" = none
  b_range : mg "range" = none
  b_repr : mg "repr" = none
  b_sum : mg "sum" = none
  b_tuple : mg "tuple" = none
  b_zip : mg "zip" = none
  k_MOST_HOMES : ∃ t, mg "MOST_HOMES" = some (.int 9 t)
  k_MOST_PLACES : ∃ t, mg "MOST_PLACES" = some (.int 60 t)
  k_MOST_ROW : ∃ t, mg "MOST_ROW" = some (.int 60 t)
  k_MOST_STEPS : ∃ t, mg "MOST_STEPS" = some (.int 10000 t)
  k_MOST_WALKERS : ∃ t, mg "MOST_WALKERS" = some (.int 200 t)
  k_NOUGHT : mg "NOUGHT" = some (.ref A.NOUGHT) ∧ KT K A.NOUGHT [.int 0, .int 1]
  k_ONE : mg "ONE" = some (.ref A.ONE) ∧ KT K A.ONE [.int 1, .int 1]
  s_Board : C8.InsC K A.Board
  s_World : C8.InsC K A.World
  g_gcd : mg "gcd" = some (.builtin "math.gcd")
theorem txt_mk {K : PySem.W.Frag} {mg : Str → Option Value} {a_Board : Addr} {a_World : Addr} {a_NOUGHT : Addr} {a_ONE : Addr}
    (c_Board : Cls K a_Board)
    (g_Board : mg "Board" = some (.ref a_Board))
    (n_Board_homes : PySem.W.findIn K (.ref a_Board) "homes" = some none)
    (n_Board_places : PySem.W.findIn K (.ref a_Board) "places" = some none)
    (n_Board_rows : PySem.W.findIn K (.ref a_Board) "rows" = some none)
    (c_World : Cls K a_World)
    (g_World : mg "World" = some (.ref a_World))
    (n_World_board : PySem.W.findIn K (.ref a_World) "board" = some none)
    (n_World_shown : PySem.W.findIn K (.ref a_World) "shown" = some none)
    (n_World_standing : PySem.W.findIn K (.ref a_World) "standing" = some none)
    (n_World_won : PySem.W.findIn K (.ref a_World) "won" = some none)
    (n_World_steps : PySem.W.findIn K (.ref a_World) "steps" = some none)
    (f_law : ∃ f fd, Fun K "law" "law" s_law f fd ∧ mg "law" = some (.ref f))
    (f_l_steward : ∃ f fd, Fun K "_law_steward" "_law_steward" s_l_steward f fd ∧ mg "_law_steward" = some (.ref f))
    (f_l_ledger : ∃ f fd, Fun K "_law_ledger" "_law_ledger" s_l_ledger f fd ∧ mg "_law_ledger" = some (.ref f))
    (f_l_one : ∃ f fd, Fun K "_law_one" "_law_one" s_l_one f fd ∧ mg "_law_one" = some (.ref f))
    (f_l_rows : ∃ f fd, Fun K "_law_rows" "_law_rows" s_l_rows f fd ∧ mg "_law_rows" = some (.ref f))
    (v_World_init : ∃ f fd, Fun K "__init__" "World.__init__" s_World_init f fd ∧ Mk K a_World f ∧ mg "World" = some (.ref a_World))
    (f_need_board : ∃ f fd, FunD K "need_board" "need_board" (defArgs s_need_board) (defBody s_need_board) (defScope s_need_board) [.str "board"] [] f fd ∧ mg "need_board" = some (.ref f))
    (f_need_hands : ∃ f fd, Fun K "need_hands" "need_hands" s_need_hands f fd ∧ mg "need_hands" = some (.ref f))
    (f_is_within : ∃ f fd, Fun K "is_within" "is_within" s_is_within f fd ∧ mg "is_within" = some (.ref f))
    (f_is_integer : ∃ f fd, Fun K "is_integer" "is_integer" s_is_integer f fd ∧ mg "is_integer" = some (.ref f))
    (v_Board_init : ∃ f fd, Fun K "__init__" "Board.__init__" s_Board_init f fd ∧ Mk K a_Board f ∧ mg "Board" = some (.ref a_Board))
    (f_do_fit : ∃ f fd, Fun K "do_fit" "do_fit" s_do_fit f fd ∧ mg "do_fit" = some (.ref f))
    (f_are_rows : ∃ f fd, Fun K "are_rows" "are_rows" s_are_rows f fd ∧ mg "are_rows" = some (.ref f))
    (f_l_chances : ∃ f fd, Fun K "_law_chances" "_law_chances" s_l_chances f fd ∧ mg "_law_chances" = some (.ref f))
    (f_l_short : ∃ f fd, Fun K "_law_short" "_law_short" s_l_short f fd ∧ mg "_law_short" = some (.ref f))
    (f_l_less : ∃ f fd, Fun K "_law_less" "_law_less" s_l_less f fd ∧ mg "_law_less" = some (.ref f))
    (f_l_by : ∃ f fd, Fun K "_law_by" "_law_by" s_l_by f fd ∧ mg "_law_by" = some (.ref f))
    (f_l_plus : ∃ f fd, Fun K "_law_plus" "_law_plus" s_l_plus f fd ∧ mg "_law_plus" = some (.ref f))
    (f_kept : ∃ f fd, Fun K "kept" "kept" s_kept f fd ∧ mg "kept" = some (.ref f))
    (f_need_world : ∃ f fd, FunD K "need_world" "need_world" (defArgs s_need_world) (defBody s_need_world) (defScope s_need_world) [.str "world"] [] f fd ∧ mg "need_world" = some (.ref f))
    (f_need_home : ∃ f fd, Fun K "need_home" "need_home" s_need_home f fd ∧ mg "need_home" = some (.ref f))
    (f_need_number : ∃ f fd, Fun K "need_number" "need_number" s_need_number f fd ∧ mg "need_number" = some (.ref f))
    (f_need_open : ∃ f fd, FunD K "need_open" "need_open" (defArgs s_need_open) (defBody s_need_open) (defScope s_need_open) [.str "board"] [] f fd ∧ mg "need_open" = some (.ref f))
    (f_shut_in : ∃ f fd, Fun K "shut_in" "shut_in" s_shut_in f fd ∧ mg "shut_in" = some (.ref f))
    (f_numbers_of : ∃ f fd, Fun K "numbers_of" "numbers_of" s_numbers_of f fd ∧ mg "numbers_of" = some (.ref f))
    (f_ends_of : ∃ f fd, Fun K "ends_of" "ends_of" s_ends_of f fd ∧ mg "ends_of" = some (.ref f))
    (f_shares_in : ∃ f fd, Fun K "shares_in" "shares_in" s_shares_in f fd ∧ mg "shares_in" = some (.ref f))
    (f_numbers_for : ∃ f fd, Fun K "numbers_for" "numbers_for" s_numbers_for f fd ∧ mg "numbers_for" = some (.ref f))
    (f_solved : ∃ f fd, Fun K "solved" "solved" s_solved f fd ∧ mg "solved" = some (.ref f))
    (f_lessened : ∃ f fd, Fun K "lessened" "lessened" s_lessened f fd ∧ mg "lessened" = some (.ref f))
    (f_turned : ∃ f fd, Fun K "turned" "turned" s_turned f fd ∧ mg "turned" = some (.ref f))
    (f_over : ∃ f fd, Fun K "over" "over" s_over f fd ∧ mg "over" = some (.ref f))
    (f_times : ∃ f fd, Fun K "times" "times" s_times f fd ∧ mg "times" = some (.ref f))
    (f_least_pair : ∃ f fd, Fun K "least_pair" "least_pair" s_least_pair f fd ∧ mg "least_pair" = some (.ref f))
    (f_both : ∃ f fd, Fun K "both" "both" s_both f fd ∧ mg "both" = some (.ref f))
    (f_equation_of : ∃ f fd, Fun K "equation_of" "equation_of" s_equation_of f fd ∧ mg "equation_of" = some (.ref f))
    (v_World_hands : ∃ p f fd, Fun K "hands" "World.hands" s_World_hands f fd ∧ PropOf K a_World "hands" p f)
    (f_all_worths : ∃ f fd, Fun K "all_worths" "all_worths" s_all_worths f fd ∧ mg "all_worths" = some (.ref f))
    (f_row_worths : ∃ f fd, Fun K "row_worths" "row_worths" s_row_worths f fd ∧ mg "row_worths" = some (.ref f))
    (f_total_of : ∃ f fd, Fun K "total_of" "total_of" s_total_of f fd ∧ mg "total_of" = some (.ref f))
    (v_World_walkers : ∃ p f fd, Fun K "walkers" "World.walkers" s_World_walkers f fd ∧ PropOf K a_World "walkers" p f)
    (f_l_due : ∃ f fd, Fun K "_law_due" "_law_due" s_l_due f fd ∧ mg "_law_due" = some (.ref f))
    (v_World_play : ∃ f fd, Fun K "play" "World.play" s_World_play f fd ∧ Meth K a_World "play" f)
    (v_World_copy : ∃ f fd, Fun K "copy" "World.copy" s_World_copy f fd ∧ Meth K a_World "copy" f)
    (v_World_take : ∃ f fd, Fun K "take" "World.take" s_World_take f fd ∧ Meth K a_World "take" f)
    (v_World_sent_home : ∃ f fd, Fun K "sent_home" "World.sent_home" s_World_sent_home f fd ∧ Meth K a_World "sent_home" f)
    (v_World_sent : ∃ f fd, Fun K "sent" "World.sent" s_World_sent f fd ∧ Meth K a_World "sent" f)
    (v_World_enter : ∃ f fd, Fun K "enter" "World.enter" s_World_enter f fd ∧ Meth K a_World "enter" f)
    (v_World_advance : ∃ f fd, Fun K "advance" "World.advance" s_World_advance f fd ∧ Meth K a_World "advance" f)
    (v_World_need_out : ∃ f fd, Fun K "need_out" "World.need_out" s_World_need_out f fd ∧ Meth K a_World "need_out" f)
    (v_World_need_away : ∃ f fd, Fun K "need_away" "World.need_away" s_World_need_away f fd ∧ Meth K a_World "need_away" f)
    (v_World_led : ∃ f fd, Fun K "led" "World.led" s_World_led f fd ∧ Meth K a_World "led" f)
    (v_World_wins : ∃ p f fd, Fun K "wins" "World.wins" s_World_wins f fd ∧ PropOf K a_World "wins" p f)
    (b_abs : mg "abs" = none)
    (b_all : mg "all" = none)
    (b_any : mg "any" = none)
    (b_bool : mg "bool" = none)
    (b_enumerate : mg "enumerate" = none)
    (b_int : mg "int" = none)
    (b_isinstance : mg "isinstance" = none)
    (b_len : mg "len" = none)
    (b_list : mg "list" = none)
    (b_range : mg "range" = none)
    (b_repr : mg "repr" = none)
    (b_sum : mg "sum" = none)
    (b_tuple : mg "tuple" = none)
    (b_zip : mg "zip" = none)
    (k_MOST_HOMES : ∃ t, mg "MOST_HOMES" = some (.int 9 t))
    (k_MOST_PLACES : ∃ t, mg "MOST_PLACES" = some (.int 60 t))
    (k_MOST_ROW : ∃ t, mg "MOST_ROW" = some (.int 60 t))
    (k_MOST_STEPS : ∃ t, mg "MOST_STEPS" = some (.int 10000 t))
    (k_MOST_WALKERS : ∃ t, mg "MOST_WALKERS" = some (.int 200 t))
    (k_NOUGHT : mg "NOUGHT" = some (.ref a_NOUGHT) ∧ KT K a_NOUGHT [.int 0, .int 1])
    (k_ONE : mg "ONE" = some (.ref a_ONE) ∧ KT K a_ONE [.int 1, .int 1])
    (s_Board : C8.InsC K a_Board)
    (s_World : C8.InsC K a_World)
    (g_gcd : mg "gcd" = some (.builtin "math.gcd")) :
    Txt K mg ⟨a_Board, a_World, a_NOUGHT, a_ONE⟩ := ⟨c_Board, g_Board, n_Board_homes, n_Board_places, n_Board_rows, c_World, g_World, n_World_board, n_World_shown, n_World_standing, n_World_won, n_World_steps, f_law, f_l_steward, f_l_ledger, f_l_one, f_l_rows, v_World_init, f_need_board, f_need_hands, f_is_within, f_is_integer, v_Board_init, f_do_fit, f_are_rows, f_l_chances, f_l_short, f_l_less, f_l_by, f_l_plus, f_kept, f_need_world, f_need_home, f_need_number, f_need_open, f_shut_in, f_numbers_of, f_ends_of, f_shares_in, f_numbers_for, f_solved, f_lessened, f_turned, f_over, f_times, f_least_pair, f_both, f_equation_of, v_World_hands, f_all_worths, f_row_worths, f_total_of, v_World_walkers, f_l_due, v_World_play, v_World_copy, v_World_take, v_World_sent_home, v_World_sent, v_World_enter, v_World_advance, v_World_need_out, v_World_need_away, v_World_led, v_World_wins, b_abs, b_all, b_any, b_bool, b_enumerate, b_int, b_isinstance, b_len, b_list, b_range, b_repr, b_sum, b_tuple, b_zip, k_MOST_HOMES, k_MOST_PLACES, k_MOST_ROW, k_MOST_STEPS, k_MOST_WALKERS, k_NOUGHT, k_ONE, s_Board, s_World, g_gcd⟩
section
variable {X : Cx} {A : Adr}
theorem pe_K_MOST_HOMES (T : Txt X.K X.mg A) {pos : Pos} (hg : Gl X "MOST_HOMES" := by rfl) : PE X (.Name "MOST_HOMES" pos) (tC (.int 9)) := by
  obtain ⟨t, h⟩ := T.k_MOST_HOMES
  exact pe_glob hg h ⟨t, rfl⟩
theorem pe_K_MOST_PLACES (T : Txt X.K X.mg A) {pos : Pos} (hg : Gl X "MOST_PLACES" := by rfl) : PE X (.Name "MOST_PLACES" pos) (tC (.int 60)) := by
  obtain ⟨t, h⟩ := T.k_MOST_PLACES
  exact pe_glob hg h ⟨t, rfl⟩
theorem pe_K_MOST_ROW (T : Txt X.K X.mg A) {pos : Pos} (hg : Gl X "MOST_ROW" := by rfl) : PE X (.Name "MOST_ROW" pos) (tC (.int 60)) := by
  obtain ⟨t, h⟩ := T.k_MOST_ROW
  exact pe_glob hg h ⟨t, rfl⟩
theorem pe_K_MOST_STEPS (T : Txt X.K X.mg A) {pos : Pos} (hg : Gl X "MOST_STEPS" := by rfl) : PE X (.Name "MOST_STEPS" pos) (tC (.int 10000)) := by
  obtain ⟨t, h⟩ := T.k_MOST_STEPS
  exact pe_glob hg h ⟨t, rfl⟩
theorem pe_K_MOST_WALKERS (T : Txt X.K X.mg A) {pos : Pos} (hg : Gl X "MOST_WALKERS" := by rfl) : PE X (.Name "MOST_WALKERS" pos) (tC (.int 200)) := by
  obtain ⟨t, h⟩ := T.k_MOST_WALKERS
  exact pe_glob hg h ⟨t, rfl⟩
theorem pe_K_NOUGHT (T : Txt X.K X.mg A) {pos : Pos} (hg : Gl X "NOUGHT" := by rfl) : PE X (.Name "NOUGHT" pos) (tC (.ref A.NOUGHT)) := pe_glob hg T.k_NOUGHT.1 rfl
theorem pe_K_ONE (T : Txt X.K X.mg A) {pos : Pos} (hg : Gl X "ONE" := by rfl) : PE X (.Name "ONE" pos) (tC (.ref A.ONE)) := pe_glob hg T.k_ONE.1 rfl
end
end K67

end

section
set_option Elab.async false
set_option linter.all false
set_option maxRecDepth 100000
set_option maxHeartbeats 1000000
namespace K67
open PySem PySem.Spec PyProof.Rows L2 Nd
set_option hygiene false
local macro_rules | `(tactic| walk_at "hg") => `(tactic| first | assumption | exact C.get 0 rfl | exact C.get 1 rfl | exact C.get 2 rfl | exact C.get 3 rfl | exact C.get 4 rfl | exact C.get 5 rfl | exact C.get 6 rfl | exact C.get 7 rfl | exact C.get 8 rfl | exact C.get 9 rfl)
local macro_rules | `(tactic| walk_at "rd1") => `(tactic| first
  | with_reducible refine u_seq ?_ | with_reducible refine u_asg ?_ | ((with_reducible refine' u_var ?q7hv ?_); (case q7hv => exact rfl)) | with_reducible refine u_c ?_ | with_reducible refine u_op ?_ | with_reducible refine u_if ?_ | with_reducible refine u_ret ?_
  | with_reducible refine u_test ?_ | with_reducible refine u_tB ?_ | with_reducible refine u_and ?_ | with_reducible refine u_or ?_ | with_reducible refine u_not ?_ | with_reducible refine u_call ?_ | with_reducible refine u_cb ?_ | with_reducible refine u_cons ?_ | with_reducible refine u_nil ?_
  | with_reducible refine u_gname ?_ | with_reducible refine u_gcons ?_ | with_reducible refine u_gnil ?_ | with_reducible refine u_gsub ?_ | with_reducible refine u_lst ?_ | with_reducible refine u_tup ?_ | with_reducible refine u_un ?_ | with_reducible refine u_ifE ?_
  | with_reducible refine u_drop ?_ | with_reducible refine u_next ?_ | with_reducible refine u_retN ?_ | with_reducible refine u_tf ?_ | with_reducible refine u_fld ?_ | with_reducible refine u_gfld ?_ | with_reducible refine u_par ?_ | with_reducible refine u_par3 ?_ | with_reducible refine u_meth ?_ | with_reducible refine u_prop ?_ | with_reducible refine u_make ?_
  | with_reducible refine u_bm ?_ | with_reducible refine u_bm0 ?_ | with_reducible refine u_sl ?_ | with_reducible refine u_noPart ?_ | with_reducible refine u_part ?_ | with_reducible refine u_chain ?_ | with_reducible refine u_andV ?_ | with_reducible refine u_orV ?_ | with_reducible refine u_notV ?_
  | with_reducible refine u_listRg ?_ | with_reducible refine u_rg1 ?_ | with_reducible refine u_lc2 ?_ | with_reducible refine u_enum ?_ | with_reducible refine u_zip ?_ | with_reducible refine u_for ?_ | with_reducible refine u_lc ?_ | with_reducible refine u_rng1 ?_ | with_reducible refine u_rng2 ?_ | with_reducible refine u_yes ?_ | with_reducible refine u_brk ?_ | with_reducible refine u_cont ?_
  | with_reducible refine r_add ?_ | with_reducible refine r_sub ?_ | with_reducible refine r_lt ?_ | with_reducible refine r_le ?_ | with_reducible refine r_gt ?_ | with_reducible refine r_ge ?_ | with_reducible refine r_eqI ?_ | with_reducible refine r_neI ?_ | with_reducible refine r_neg ?_ | with_reducible refine r_int ?_ | with_reducible refine r_intB ?_ | with_reducible refine r_abs ?_ | with_reducible refine r_isNi ?_ | with_reducible refine r_isNn ?_ | with_reducible refine r_isNr ?_ | with_reducible refine r_isNs ?_ | with_reducible refine r_notN ?_
  | ((with_reducible refine' r_ixL ?q7hs ?q7ha ?_); (case q7hs => exact SqL.of (by walk_at "hg")); (case q7ha => first | exact rfl | exact atI_nat (by assumption)))
  | ((with_reducible refine' r_ixT ?q7hs ?q7ha ?_); (case q7hs => exact SqT.of (by walk_at "hg")); (case q7ha => first | exact rfl | exact atI_nat (by assumption)))
  | ((with_reducible refine' r_len ?q7hs ?_); (case q7hs => exact SqL.of (by walk_at "hg")))
  | ((with_reducible refine' r_lenT ?q7hs ?_); (case q7hs => exact SqT.of (by walk_at "hg")))
  | ((with_reducible refine' r_mod ?q7c ?_); (case q7c => first | decide | omega)) | ((with_reducible refine' r_div ?q7c ?_); (case q7c => first | (constructor <;> decide) | (constructor <;> omega)))
  | ((with_reducible refine' r_mul ?q7c ?_); (case q7c => first | exact .inl ⟨by omega, by omega⟩ | exact .inr ⟨by omega, by omega⟩))
  | ((with_reducible refine' r_pow ?q7c ?_); (case q7c => exact ⟨by omega, by omega, by omega⟩))
  | with_reducible refine b_nT ?_ | with_reducible refine b_nF ?_ | with_reducible refine iteF ?_ | with_reducible refine iteT ?_
  | with_reducible refine k_blA ?_ | with_reducible refine k_int ?_ | with_reducible refine k_two ?_ | with_reducible refine k_three ?_
  | ((with_reducible refine' k_size ?q7hn ?_); (case q7hn => exact Nat.le_of_ble_eq_true rfl))
  | ((with_reducible refine' k_fld ?q7ha ?q7c ?q7n ?q7hl ?_); (case q7ha => walk_at "hg"); (case q7c => walk_at "cls"); (case q7n => walk_at "att"); (case q7hl => exact rfl))
  | ((with_reducible refine' k_put ?q7ha ?q7c ?q7n ?q7hl ?_); (case q7ha => walk_at "hg"); (case q7c => walk_at "cls"); (case q7n => walk_at "att"); (case q7hl => first | decide | exact Nat.lt_of_lt_of_le (Nat.lt_succ_self _) (Nat.le_of_ble_eq_true rfl)))
  | ((with_reducible refine' k_meth ?q7ha ?q7hl ?_); (case q7ha => walk_at "hg"); (case q7hl => exact rfl))
  | ((with_reducible refine' k_prop ?q7ha ?_); (case q7ha => walk_at "hg")))
local macro_rules | `(tactic| walk_at "rd") => `(tactic| repeat walk_at "rd1")
local macro_rules | `(tactic| walk_at "cls") => `(tactic| first | exact T.c_Board | exact T.c_World)
local macro_rules | `(tactic| walk_at "att") => `(tactic| first | exact T.n_Board_homes | exact T.n_Board_places | exact T.n_Board_rows | exact T.n_World_board | exact T.n_World_shown | exact T.n_World_standing | exact T.n_World_won | exact T.n_World_steps)

theorem pow_ok {x a : Int} (h0 : 0 ≤ x) (h1 : x < 2147483648) (h2 : 0 ≤ a) (h3 : a < 4194304) : CPow (x * (2 * a + 5573) + 63629 * a * a + 41117) 3 := by
  have e1 : x * (2 * a + 5573) ≤ 2147483648 * 8394247 := Int.mul_le_mul (by omega) (by omega) (by omega) (by omega)
  have e2 : 0 ≤ x * (2 * a + 5573) := Int.mul_nonneg h0 (by omega)
  have e3 : 63629 * a * a ≤ (63629 * 4194304) * 4194304 := Int.mul_le_mul (by omega) (by omega) (by omega) (by omega)
  have e4 : 0 ≤ 63629 * a * a := Int.mul_nonneg (by omega) (by omega)
  exact ⟨by omega, by omega, by omega⟩
/-- a draw: some number below m; the counter grows by one at most -/
def sp_l_ledger (K : PySem.W.Frag) (A : Adr) : Sp := fun vs H Q E => ∃ (b : Addr) (m : Int), vs = [.ref b, .int m] ∧ ∃ (c : Addr) (cells : List Int) (at_ lf : Int), H b = some (.lst [.ref c, .int at_, .int lf]) ∧ H c = some (.lst (cells.map V.int)) ∧ b ≠ c ∧
  cells.length ≤ 60 ∧ 0 ≤ at_ ∧ at_ < 4194304 ∧ 0 ≤ lf ∧ 1 ≤ m ∧ m < 1000000 ∧ ∀ d at' lf' H', 0 ≤ d → d < m → at_ ≤ at' → at' ≤ at_ + 1 → 0 ≤ lf' → Ret [b] H H' → H' b = some (.lst [.ref c, .int at', .int lf']) → Q (.int d) H'
section
variable {P : Program} {w : World} {K : PySem.W.Frag} {mg : Str → Option Value} {base : Heap} {A : Adr}
theorem ok_l_ledger (T : Txt K mg A)  : Gd P w K mg base CX0 1 "_law_ledger" ["_law_steward_here", "_law_many"] [] (sp_l_ledger K A) := by
  obtain ⟨f, fd, F, hm⟩ := T.f_l_ledger
  refine ⟨⟨f, fd, [], ?_, hm, F.kp, F.binds (ps := ["_law_steward_here", "_law_many"]) (fun _ _ _ _ _ _ us hl => match us, hl with | [_, _], _ => rfl), .nil⟩⟩
  refine F.ok sc_l_ledger (fun vs H Q E h => by first | (obtain ⟨rfl, _⟩ := h; rfl) | (obtain ⟨_, rfl, _⟩ := h; rfl) | (obtain ⟨_, _, rfl, _⟩ := h; rfl) | (obtain ⟨_, _, _, rfl, _⟩ := h; rfl) | (obtain ⟨_, _, _, _, rfl, _⟩ := h; rfl) | (obtain ⟨_, _, _, _, _, rfl, _⟩ := h; rfl) | (obtain ⟨_, _, _, _, _, _, rfl, _⟩ := h; rfl) | (obtain ⟨_, _, _, _, _, _, _, rfl, _⟩ := h; rfl)) (fun cdv A' outer s H vs Q E hr h => ⟨_, (pss_cons (ps_if (pt_cmpR op_gtI (pe_ix (ix_seqK K) (pv 0) pe_int (fun _ _ => rfl)) pe_int (nomark _)) (pss_cons (ps_set (i := 5) sc_l_ledger.nd rfl (.inl rfl) (pe_callTy call_intU (by rfl) T.b_int (by decide +kernel) (pa_cons (pe_ix (ix_seqK K) (pv 0) pe_int (fun _ _ => rfl)) pa_nil)))
      (pss_cons (ps_asg (pe_op op_divI (pv 5) (pv 1)) (pg_sub (pv 0) pe_int set_list))
      (pss_one (ps_ret (pe_op op_modI (pe_callTy call_intU (by rfl) T.b_int (by decide +kernel) (pa_cons (pv 5) pa_nil)) (pv 1)))))) pss_nil)
      (pss_cons (ps_set (i := 2) sc_l_ledger.nd rfl (.inl rfl) (pe_ix (ix_seqK K) (pv 0) pe_int (fun _ _ => rfl)))
      (pss_cons (ps_asg (pe_op op_addU (pv 2) pe_int) (pg_sub (pv 0) pe_int set_list))
      (pss_cons (ps_set (i := 3) sc_l_ledger.nd rfl (.inl rfl) (pe_op op_addU (pe_op op_mulU pe_int (pv 2)) pe_int))
      (pss_cons (ps_if (pt_cmpR (op_neK K hr.units) (pe_ix (ix_seqK K) (pv 0) pe_int (fun _ _ => rfl)) (pe_lst pa_nil) (nomark _)) (pss_one (ps_set (i := 3) sc_l_ledger.nd rfl (.inl rfl) (pe_ix (ix_seqK K) (pe_ix (ix_seqK K) (pv 0) pe_int (fun _ _ => rfl)) (pe_op op_modI (pe_callTy call_intU (by rfl) T.b_int (by decide +kernel) (pa_cons (pv 2) pa_nil)) (pe_callB (call_lenK K) (by rfl) T.b_len PySem.boot_len (pa_cons (pe_ix (ix_seqK K) (pv 0) pe_int (fun _ _ => rfl)) pa_nil))) (fun _ _ => rfl)))) pss_nil)
      (pss_cons (ps_if (PW.pt (pw_and (pt_cmpR op_ltI (pv 2) (pe_callB (call_lenK K) (by rfl) T.b_len PySem.boot_len (pa_cons (pe_ix (ix_seqK K) (pv 0) pe_int (fun _ _ => rfl)) pa_nil)) (nomark _)) (pw_and1 (pt_cmpR op_geI (pe_callB call_absU (by rfl) T.b_abs (by decide +kernel) (pa_cons (pv 3) pa_nil)) (pe_op op_powI pe_int pe_int) (nomark _))))) (pss_cons (ps_set (i := 5) sc_l_ledger.nd rfl (.inl rfl) (pe_op op_addU (pe_op op_mulU pe_int (pe_op op_subI (pe_callB call_absU (by rfl) T.b_abs (by decide +kernel) (pa_cons (pv 3) pa_nil)) (pe_op op_powI pe_int pe_int))) (pe_callTy call_intU (by rfl) T.b_int (by decide +kernel) (pa_cons (pe_cmpR op_ltI (pv 3) pe_int (nomark _)) pa_nil))))
      (pss_cons (ps_asg (pe_op op_divI (pv 5) (pv 1)) (pg_sub (pv 0) pe_int set_list))
      (pss_one (ps_ret (pe_op op_modI (pe_callTy call_intU (by rfl) T.b_int (by decide +kernel) (pa_cons (pv 5) pa_nil)) (pv 1)))))) pss_nil)
      (pss_cons (ps_set (i := 4) sc_l_ledger.nd rfl (.inl rfl) (pe_op op_modI (pe_callTy call_intU (by rfl) T.b_int (by decide +kernel) (pa_cons (pe_op op_powI (pe_op op_addU (pe_op op_addU (pe_op op_modI (pe_callTy call_intU (by rfl) T.b_int (by decide +kernel) (pa_cons (pv 3) pa_nil)) pe_int) (pe_op op_mulU pe_int (pv 2))) pe_int) pe_int) pa_nil)) pe_int))
      (pss_cons (ps_set (i := 4) sc_l_ledger.nd rfl (.inl rfl) (pe_op op_modI (pe_callTy call_intU (by rfl) T.b_int (by decide +kernel) (pa_cons (pe_op op_powI (pe_op op_addU (pe_op op_addU (pe_op op_mulU (pv 4) (pe_op op_addU (pe_op op_mulU pe_int (pv 2)) pe_int)) (pe_op op_mulU (pe_op op_mulU pe_int (pv 2)) (pv 2))) pe_int) pe_int) pa_nil)) pe_int))
      (pss_one (ps_ret (pe_op op_modI (pe_callTy call_intU (by rfl) T.b_int (by decide +kernel) (pa_cons (pe_op op_divI (pv 4) pe_int) pa_nil)) (pv 1)))))))))))), ?_⟩)
  obtain ⟨b, m, rfl, c, cells, at_, lf, hb, hc, hbc, hcl, ha0, ha1, hl0, hm1, hm2, k⟩ := h
  have C : Cur H [b] H [(b, .lst [.ref c, .int at_, .int lf]), (c, .lst (cells.map V.int))] := Cur.start (by simp [hbc]) (by simp [hb, hc])
  walk_at "rd"
  refine b_dec (fun h0 => ?_) (fun h0 => ?_)
  · walk_at "rd"
    refine r_setL (C.get 0 rfl) rfl ?_
    refine mod_c C 0 rfl (.inl (by simp)) fun H C => ?_
    walk_at "rd"
    have hq : (0 : Int) ≤ lf.fdiv m := by rw [Int.fdiv_eq_ediv_of_nonneg _ (by omega)]; exact Int.ediv_nonneg hl0 (by omega)
    exact k _ _ _ _ (Int.emod_nonneg _ (by omega)) (Int.emod_lt_of_pos _ (by omega)) (Int.le_refl _) (by omega) hq C.ret (C.get 0 rfl)
  · walk_at "rd"
    refine r_setL (C.get 0 rfl) rfl ?_
    refine mod_c C 0 rfl (.inl (by simp)) fun H C => ?_
    walk_at "rd"
    refine new_c C fun l0 H l00 C => ?_
    refine r_neL (ns := cells) (ms := []) (SqL.of (C.get 2 rfl)) (SqL.of (C.get 0 rfl)) ?_
    walk_at "rd"
    refine b_ndec (fun hne => ?_) (fun hne => ?_)
    · walk_at "rd"
      have hn0 : cells.length ≠ 0 := fun e => hne (List.eq_nil_of_length_eq_zero e)
      refine r_mod (by rw [len_map]; omega) ?_
      have hi0 : (0 : Int) ≤ at_ % ((cells.map V.int).length : Int) := Int.emod_nonneg _ (by rw [len_map]; omega)
      have hi1 : at_ % ((cells.map V.int).length : Int) < (cells.length : Int) := by rw [len_map]; exact Int.emod_lt_of_pos _ (by omega)
      refine r_ixL (SqL.of (C.get 2 rfl)) (atI_int hi0 hi1) ?_
      generalize cells[(at_ % ((cells.map V.int).length : Int)).toNat]'(by omega) = cell
      walk_at "rd"
      refine b_dec (fun h1 => ?_) (fun h1 => ?_)
      · walk_at "rd"
        refine b_dec (fun h2 => ?_) (fun h2 => ?_)
        · walk_at "rd"
          refine r_setL (C.get 1 rfl) rfl ?_
          refine mod_c C 1 rfl (.inl (by simp)) fun H C => ?_
          walk_at "rd"
          have hl : (0 : Int) ≤ 2 * ((if cell < 0 then -cell else cell) - 10 ^ (18 : Int).toNat) + (if decide (cell < 0) = true then 1 else 0) := by
            have : (10 : Int) ^ (18 : Int).toNat ≤ (if cell < 0 then -cell else cell) := h2
            split <;> omega
          refine k _ _ _ _ (Int.emod_nonneg _ (by omega)) (Int.emod_lt_of_pos _ (by omega)) (by omega) (Int.le_refl _) ?_ C.ret (C.get 1 rfl)
          rw [Int.fdiv_eq_ediv_of_nonneg _ (by omega)]
          exact Int.ediv_nonneg hl (by omega)
        · walk_at "rd"
          generalize hx : (cell % 2147483549 + 41117 * at_ + 8893) ^ (5 : Int).toNat % 2147483587 = x
          have x0 : 0 ≤ x := by rw [← hx]; exact Int.emod_nonneg _ (by omega)
          have x1 : x < 2147483648 := by rw [← hx]; exact Int.lt_trans (Int.emod_lt_of_pos _ (by omega)) (by omega)
          refine r_pow (pow_ok x0 x1 ha0 ha1) ?_
          walk_at "rd"
          exact k _ _ _ _ (Int.emod_nonneg _ (by omega)) (Int.emod_lt_of_pos _ (by omega)) (by omega) (Int.le_refl _) hl0 C.ret (C.get 1 rfl)
      · walk_at "rd"
        generalize hx : (cell % 2147483549 + 41117 * at_ + 8893) ^ (5 : Int).toNat % 2147483587 = x
        have x0 : 0 ≤ x := by rw [← hx]; exact Int.emod_nonneg _ (by omega)
        have x1 : x < 2147483648 := by rw [← hx]; exact Int.lt_trans (Int.emod_lt_of_pos _ (by omega)) (by omega)
        refine r_pow (pow_ok x0 x1 ha0 ha1) ?_
        walk_at "rd"
        exact k _ _ _ _ (Int.emod_nonneg _ (by omega)) (Int.emod_lt_of_pos _ (by omega)) (by omega) (Int.le_refl _) hl0 C.ret (C.get 1 rfl)
    · walk_at "rd"
      generalize 63629 * at_ + 8893 = cell
      refine b_dec (fun h1 => ?_) (fun h1 => ?_)
      · walk_at "rd"
        refine b_dec (fun h2 => ?_) (fun h2 => ?_)
        · walk_at "rd"
          refine r_setL (C.get 1 rfl) rfl ?_
          refine mod_c C 1 rfl (.inl (by simp)) fun H C => ?_
          walk_at "rd"
          have hl : (0 : Int) ≤ 2 * ((if cell < 0 then -cell else cell) - 10 ^ (18 : Int).toNat) + (if decide (cell < 0) = true then 1 else 0) := by
            have : (10 : Int) ^ (18 : Int).toNat ≤ (if cell < 0 then -cell else cell) := h2
            split <;> omega
          refine k _ _ _ _ (Int.emod_nonneg _ (by omega)) (Int.emod_lt_of_pos _ (by omega)) (by omega) (Int.le_refl _) ?_ C.ret (C.get 1 rfl)
          rw [Int.fdiv_eq_ediv_of_nonneg _ (by omega)]
          exact Int.ediv_nonneg hl (by omega)
        · walk_at "rd"
          generalize hx : (cell % 2147483549 + 41117 * at_ + 8893) ^ (5 : Int).toNat % 2147483587 = x
          have x0 : 0 ≤ x := by rw [← hx]; exact Int.emod_nonneg _ (by omega)
          have x1 : x < 2147483648 := by rw [← hx]; exact Int.lt_trans (Int.emod_lt_of_pos _ (by omega)) (by omega)
          refine r_pow (pow_ok x0 x1 ha0 ha1) ?_
          walk_at "rd"
          exact k _ _ _ _ (Int.emod_nonneg _ (by omega)) (Int.emod_lt_of_pos _ (by omega)) (by omega) (Int.le_refl _) hl0 C.ret (C.get 1 rfl)
      · walk_at "rd"
        generalize hx : (cell % 2147483549 + 41117 * at_ + 8893) ^ (5 : Int).toNat % 2147483587 = x
        have x0 : 0 ≤ x := by rw [← hx]; exact Int.emod_nonneg _ (by omega)
        have x1 : x < 2147483648 := by rw [← hx]; exact Int.lt_trans (Int.emod_lt_of_pos _ (by omega)) (by omega)
        refine r_pow (pow_ok x0 x1 ha0 ha1) ?_
        walk_at "rd"
        exact k _ _ _ _ (Int.emod_nonneg _ (by omega)) (Int.emod_lt_of_pos _ (by omega)) (by omega) (Int.le_refl _) hl0 C.ret (C.get 1 rfl)
end
end K67

end

section
set_option Elab.async false
set_option linter.all false
set_option maxRecDepth 100000
set_option maxHeartbeats 1000000
namespace K67
open PySem PySem.Spec PyProof.Rows L2 Nd
set_option hygiene false
local macro_rules | `(tactic| walk_at "hg") => `(tactic| first | assumption | exact C.get 0 rfl | exact C.get 1 rfl | exact C.get 2 rfl | exact C.get 3 rfl | exact C.get 4 rfl | exact C.get 5 rfl | exact C.get 6 rfl | exact C.get 7 rfl | exact C.get 8 rfl | exact C.get 9 rfl)
local macro_rules | `(tactic| walk_at "rd1") => `(tactic| first
  | with_reducible refine u_seq ?_ | with_reducible refine u_asg ?_ | ((with_reducible refine' u_var ?q7hv ?_); (case q7hv => exact rfl)) | with_reducible refine u_c ?_ | with_reducible refine u_op ?_ | with_reducible refine u_if ?_ | with_reducible refine u_ret ?_
  | with_reducible refine u_test ?_ | with_reducible refine u_tB ?_ | with_reducible refine u_and ?_ | with_reducible refine u_or ?_ | with_reducible refine u_not ?_ | with_reducible refine u_call ?_ | with_reducible refine u_cb ?_ | with_reducible refine u_cons ?_ | with_reducible refine u_nil ?_
  | with_reducible refine u_gname ?_ | with_reducible refine u_gcons ?_ | with_reducible refine u_gnil ?_ | with_reducible refine u_gsub ?_ | with_reducible refine u_lst ?_ | with_reducible refine u_tup ?_ | with_reducible refine u_un ?_ | with_reducible refine u_ifE ?_
  | with_reducible refine u_drop ?_ | with_reducible refine u_next ?_ | with_reducible refine u_retN ?_ | with_reducible refine u_tf ?_ | with_reducible refine u_fld ?_ | with_reducible refine u_gfld ?_ | with_reducible refine u_par ?_ | with_reducible refine u_par3 ?_ | with_reducible refine u_meth ?_ | with_reducible refine u_prop ?_ | with_reducible refine u_make ?_
  | with_reducible refine u_bm ?_ | with_reducible refine u_bm0 ?_ | with_reducible refine u_sl ?_ | with_reducible refine u_noPart ?_ | with_reducible refine u_part ?_ | with_reducible refine u_chain ?_ | with_reducible refine u_andV ?_ | with_reducible refine u_orV ?_ | with_reducible refine u_notV ?_
  | with_reducible refine u_listRg ?_ | with_reducible refine u_rg1 ?_ | with_reducible refine u_lc2 ?_ | with_reducible refine u_enum ?_ | with_reducible refine u_zip ?_ | with_reducible refine u_for ?_ | with_reducible refine u_lc ?_ | with_reducible refine u_rng1 ?_ | with_reducible refine u_rng2 ?_ | with_reducible refine u_yes ?_ | with_reducible refine u_brk ?_ | with_reducible refine u_cont ?_
  | with_reducible refine r_add ?_ | with_reducible refine r_sub ?_ | with_reducible refine r_lt ?_ | with_reducible refine r_le ?_ | with_reducible refine r_gt ?_ | with_reducible refine r_ge ?_ | with_reducible refine r_eqI ?_ | with_reducible refine r_neI ?_ | with_reducible refine r_neg ?_ | with_reducible refine r_int ?_ | with_reducible refine r_intB ?_ | with_reducible refine r_abs ?_ | with_reducible refine r_isNi ?_ | with_reducible refine r_isNn ?_ | with_reducible refine r_isNr ?_ | with_reducible refine r_isNs ?_ | with_reducible refine r_notN ?_
  | ((with_reducible refine' r_ixL ?q7hs ?q7ha ?_); (case q7hs => exact SqL.of (by walk_at "hg")); (case q7ha => first | exact rfl | exact atI_nat (by assumption)))
  | ((with_reducible refine' r_ixT ?q7hs ?q7ha ?_); (case q7hs => exact SqT.of (by walk_at "hg")); (case q7ha => first | exact rfl | exact atI_nat (by assumption)))
  | ((with_reducible refine' r_len ?q7hs ?_); (case q7hs => exact SqL.of (by walk_at "hg")))
  | ((with_reducible refine' r_lenT ?q7hs ?_); (case q7hs => exact SqT.of (by walk_at "hg")))
  | ((with_reducible refine' r_mod ?q7c ?_); (case q7c => first | decide | omega)) | ((with_reducible refine' r_div ?q7c ?_); (case q7c => first | (constructor <;> decide) | (constructor <;> omega)))
  | ((with_reducible refine' r_mul ?q7c ?_); (case q7c => first | exact .inl ⟨by omega, by omega⟩ | exact .inr ⟨by omega, by omega⟩))
  | ((with_reducible refine' r_pow ?q7c ?_); (case q7c => exact ⟨by omega, by omega, by omega⟩))
  | with_reducible refine b_nT ?_ | with_reducible refine b_nF ?_ | with_reducible refine iteF ?_ | with_reducible refine iteT ?_
  | with_reducible refine k_blA ?_ | with_reducible refine k_int ?_ | with_reducible refine k_two ?_ | with_reducible refine k_three ?_
  | ((with_reducible refine' k_size ?q7hn ?_); (case q7hn => exact Nat.le_of_ble_eq_true rfl))
  | ((with_reducible refine' k_fld ?q7ha ?q7c ?q7n ?q7hl ?_); (case q7ha => walk_at "hg"); (case q7c => walk_at "cls"); (case q7n => walk_at "att"); (case q7hl => exact rfl))
  | ((with_reducible refine' k_put ?q7ha ?q7c ?q7n ?q7hl ?_); (case q7ha => walk_at "hg"); (case q7c => walk_at "cls"); (case q7n => walk_at "att"); (case q7hl => first | decide | exact Nat.lt_of_lt_of_le (Nat.lt_succ_self _) (Nat.le_of_ble_eq_true rfl)))
  | ((with_reducible refine' k_meth ?q7ha ?q7hl ?_); (case q7ha => walk_at "hg"); (case q7hl => exact rfl))
  | ((with_reducible refine' k_prop ?q7ha ?_); (case q7ha => walk_at "hg")))
local macro_rules | `(tactic| walk_at "rd") => `(tactic| repeat walk_at "rd1")
local macro_rules | `(tactic| walk_at "cls") => `(tactic| first | exact T.c_Board | exact T.c_World)
local macro_rules | `(tactic| walk_at "att") => `(tactic| first | exact T.n_Board_homes | exact T.n_Board_places | exact T.n_Board_rows | exact T.n_World_board | exact T.n_World_shown | exact T.n_World_standing | exact T.n_World_won | exact T.n_World_steps)

def sp_is_integer (K : PySem.W.Frag) (A : Adr) : Sp := fun vs H Q E => ∃ i : Int, vs = [.int i] ∧ Q (.bl true) H
def sp_is_within (K : PySem.W.Frag) (A : Adr) : Sp := fun vs H Q E => ∃ i lo hi : Int, vs = [.int i, .int lo, .int hi] ∧ Q (.bl (decide (lo ≤ i) && decide (i ≤ hi))) H
def sp_need_number (K : PySem.W.Frag) (A : Adr) : Sp := fun vs H Q E => ∃ (i : Int) (s : Str) (lo hi : Int), vs = [.int i, .str s, .int lo, .int hi] ∧ lo ≤ i ∧ i ≤ hi ∧ Q .non H
/-- one of a list's -/
def sp_l_one (K : PySem.W.Frag) (A : Adr) : Sp := fun vs H Q E => ∃ (b l : Addr), vs = [.ref b, .ref l] ∧ ∃ (c : Addr) (cells : List Int) (at_ lf : Int) (ys : List Int), H b = some (.lst [.ref c, .int at_, .int lf]) ∧ H c = some (.lst (cells.map V.int)) ∧ b ≠ c ∧ H l = some (.lst (ys.map V.int)) ∧ b ≠ l ∧
  cells.length ≤ 60 ∧ 0 ≤ at_ ∧ at_ < 4194304 ∧ 0 ≤ lf ∧ 1 ≤ ys.length ∧ ys.length ≤ 1000 ∧ ∀ d at' lf' H', d ∈ ys → at_ ≤ at' → at' ≤ at_ + 1 → 0 ≤ lf' → Ret [b] H H' → H' b = some (.lst [.ref c, .int at', .int lf']) → Q (.int d) H'
def sp_l_steward (K : PySem.W.Frag) (A : Adr) : Sp := fun vs H Q E => ∃ (a : Addr), vs = [.ref a] ∧ ∃ ns : List Int, SqL K H a (ns.map V.int) ∧ ns.length ≤ 63 ∧
  ∀ (b c : Addr) (cells : List Int) (H' : Hp), Ret [] H H' → H b = none → H c = none → b ≠ c → H' b = some (.lst [.ref c, .int 0, .int 0]) → H' c = some (.lst (cells.map V.int)) → cells.length ≤ 60 → Q (.ref b) H'
section
variable {P : Program} {w : World} {K : PySem.W.Frag} {mg : Str → Option Value} {base : Heap} {A : Adr}
theorem ok_is_integer (T : Txt K mg A)  : Gd P w K mg base CX0 1 "is_integer" ["value"] [] (sp_is_integer K A) := by
  obtain ⟨f, fd, F, hm⟩ := T.f_is_integer
  refine ⟨⟨f, fd, [], ?_, hm, F.kp, F.binds (ps := ["value"]) (fun _ _ _ _ _ _ us hl => match us, hl with | [_], _ => rfl), .nil⟩⟩
  refine F.ok sc_is_integer (fun vs H Q E h => by first | (obtain ⟨rfl, _⟩ := h; rfl) | (obtain ⟨_, rfl, _⟩ := h; rfl) | (obtain ⟨_, _, rfl, _⟩ := h; rfl) | (obtain ⟨_, _, _, rfl, _⟩ := h; rfl) | (obtain ⟨_, _, _, _, rfl, _⟩ := h; rfl) | (obtain ⟨_, _, _, _, _, rfl, _⟩ := h; rfl) | (obtain ⟨_, _, _, _, _, _, rfl, _⟩ := h; rfl) | (obtain ⟨_, _, _, _, _, _, _, rfl, _⟩ := h; rfl)) (fun cdv A' outer s H vs Q E hr h => ⟨_, (pss_one (ps_ret (pe_and (pe_callB (call_isi1K K) (by rfl) T.b_isinstance (by decide +kernel) (pa_cons (pv 0) (pa_cons (pe_bltn (v := .ty "int") (by rfl) T.b_int (by decide +kernel) rfl) pa_nil))) (pe_one (pe_not (pe_callB (call_isi1K K) (by rfl) T.b_isinstance (by decide +kernel) (pa_cons (pv 0) (pa_cons (pe_bltn (v := .ty "bool") (by rfl) T.b_bool (by decide +kernel) rfl) pa_nil)))))))), ?_⟩)
  obtain ⟨i, rfl, k⟩ := h
  walk_at "rd"
  refine q_isInt ?_
  walk_at "rd"
  refine q_isBool ?_
  walk_at "rd"
  exact k
theorem ok_is_within (T : Txt K mg A) (G_is_integer : Gd P w K mg base CX0 1 "is_integer" ["value"] [] (sp_is_integer K A)) : Gd P w K mg base CX0 2 "is_within" ["value", "least", "most"] [] (sp_is_within K A) := by
  obtain ⟨f, fd, F, hm⟩ := T.f_is_within
  refine ⟨⟨f, fd, [], ?_, hm, F.kp, F.binds (ps := ["value", "least", "most"]) (fun _ _ _ _ _ _ us hl => match us, hl with | [_, _, _], _ => rfl), .nil⟩⟩
  refine F.ok sc_is_within (fun vs H Q E h => by first | (obtain ⟨rfl, _⟩ := h; rfl) | (obtain ⟨_, rfl, _⟩ := h; rfl) | (obtain ⟨_, _, rfl, _⟩ := h; rfl) | (obtain ⟨_, _, _, rfl, _⟩ := h; rfl) | (obtain ⟨_, _, _, _, rfl, _⟩ := h; rfl) | (obtain ⟨_, _, _, _, _, rfl, _⟩ := h; rfl) | (obtain ⟨_, _, _, _, _, _, rfl, _⟩ := h; rfl) | (obtain ⟨_, _, _, _, _, _, _, rfl, _⟩ := h; rfl)) (fun cdv A' outer s H vs Q E hr h => ⟨_, (pss_cons (ps_if (pt_not (pt_val (pe_callG G_is_integer (hr.mono (by decide)) (by rfl) pass0 (pa_cons (pv 0) pa_nil)))) (pss_one (ps_ret pe_bl)) pss_nil)
      (pss_one (ps_ret (pe_and (pe_or (pe_cmpR op_isNU (pv 1) pe_non (nomark _)) (pe_one (pe_cmpR op_leI (pv 1) (pv 0) (nomark _)))) (pe_one (pe_or (pe_cmpR op_isNU (pv 2) pe_non (nomark _)) (pe_one (pe_cmpR op_leI (pv 0) (pv 2) (nomark _))))))))), ?_⟩)
  obtain ⟨i, lo, hi, rfl, k⟩ := h
  walk_at "rd"
  refine ⟨i, rfl, ?_⟩
  walk_at "rd"
  by_cases h1 : lo ≤ i
  · rw [decide_eq_true h1] at k ⊢
    walk_at "rd"
    exact k
  · rw [decide_eq_false h1] at k ⊢
    walk_at "rd"
    exact k
theorem ok_need_number (T : Txt K mg A) (G_is_within : Gd P w K mg base CX0 2 "is_within" ["value", "least", "most"] [] (sp_is_within K A)) : Gd P w K mg base CX0 3 "need_number" ["value", "part", "least", "most"] [] (sp_need_number K A) := by
  obtain ⟨f, fd, F, hm⟩ := T.f_need_number
  refine ⟨⟨f, fd, [], ?_, hm, F.kp, F.binds (ps := ["value", "part", "least", "most"]) (fun _ _ _ _ _ _ us hl => match us, hl with | [_, _, _, _], _ => rfl), .nil⟩⟩
  refine F.ok sc_need_number (fun vs H Q E h => by first | (obtain ⟨rfl, _⟩ := h; rfl) | (obtain ⟨_, rfl, _⟩ := h; rfl) | (obtain ⟨_, _, rfl, _⟩ := h; rfl) | (obtain ⟨_, _, _, rfl, _⟩ := h; rfl) | (obtain ⟨_, _, _, _, rfl, _⟩ := h; rfl) | (obtain ⟨_, _, _, _, _, rfl, _⟩ := h; rfl) | (obtain ⟨_, _, _, _, _, _, rfl, _⟩ := h; rfl) | (obtain ⟨_, _, _, _, _, _, _, rfl, _⟩ := h; rfl)) (fun cdv A' outer s H vs Q E hr h => ⟨_, (pss_one (ps_if (pt_not (pt_val (pe_callG G_is_within (hr.mono (by decide)) (by rfl) pass0 (pa_cons (pv 0) (pa_cons (pv 2) (pa_cons (pv 3) pa_nil)))))) (pss_one ps_never) pss_nil)), ?_⟩)
  obtain ⟨i, s, lo, hi, rfl, h1, h2, k⟩ := h
  walk_at "rd"
  refine ⟨i, lo, hi, rfl, ?_⟩
  walk_at "rd"
  refine b_f (by simp [h1, h2]) ?_
  walk_at "rd"
  exact k
/-- a draw, out of what is held: the bailiff at place i, its cells at place j -/
theorem use_crook {H0 H : Hp} {S : List Addr} {L : List (Addr × HO)} {b c : Addr} {cells : List Int} {at_ lf m : Int} {Q : VK} {E : XK} (C : Cur H0 S H L) (i j : Nat) (hi : L[i]? = some (b, .lst [.ref c, .int at_, .int lf])) (hj : L[j]? = some (c, .lst (cells.map V.int))) (hij : i ≠ j)
    (mb : b ∈ S ∨ H0 b = none) (hcl : cells.length ≤ 60) (h0 : 0 ≤ at_) (h1 : at_ < 4194304) (hl : 0 ≤ lf) (m1 : 1 ≤ m) (m2 : m < 1000000)
    (k : ∀ d at' lf' H', 0 ≤ d → d < m → at_ ≤ at' → at' ≤ at_ + 1 → 0 ≤ lf' → Cur H0 S H' (L.set i (b, .lst [.ref c, .int at', .int lf'])) → Q (.int d) H') : sp_l_ledger K A [.ref b, .int m] H Q E :=
  ⟨b, m, rfl, c, cells, at_, lf, C.get i hi, C.get j hj, C.ne i j hi hj hij, hcl, h0, h1, hl, m1, m2, fun d at' lf' H' a1 a2 a3 a4 a5 r e => k d at' lf' H' a1 a2 a3 a4 a5 (C.call1 i hi mb r e)⟩
theorem ok_l_one (T : Txt K mg A) (G_l_ledger : Gd P w K mg base CX0 1 "_law_ledger" ["_law_steward_here", "_law_many"] [] (sp_l_ledger K A)) : Gd P w K mg base CX0 2 "_law_one" ["_law_steward_here", "_law_some"] [] (sp_l_one K A) := by
  obtain ⟨f, fd, F, hm⟩ := T.f_l_one
  refine ⟨⟨f, fd, [], ?_, hm, F.kp, F.binds (ps := ["_law_steward_here", "_law_some"]) (fun _ _ _ _ _ _ us hl => match us, hl with | [_, _], _ => rfl), .nil⟩⟩
  refine F.ok sc_l_one (fun vs H Q E h => by first | (obtain ⟨rfl, _⟩ := h; rfl) | (obtain ⟨_, rfl, _⟩ := h; rfl) | (obtain ⟨_, _, rfl, _⟩ := h; rfl) | (obtain ⟨_, _, _, rfl, _⟩ := h; rfl) | (obtain ⟨_, _, _, _, rfl, _⟩ := h; rfl) | (obtain ⟨_, _, _, _, _, rfl, _⟩ := h; rfl) | (obtain ⟨_, _, _, _, _, _, rfl, _⟩ := h; rfl) | (obtain ⟨_, _, _, _, _, _, _, rfl, _⟩ := h; rfl)) (fun cdv A' outer s H vs Q E hr h => ⟨_, (pss_one (ps_ret (pe_ix (ix_seqK K) (pv 1) (pe_callG G_l_ledger (hr.mono (by decide)) (by rfl) pass0 (pa_cons (pv 0) (pa_cons (pe_callB (call_lenK K) (by rfl) T.b_len PySem.boot_len (pa_cons (pv 1) pa_nil)) pa_nil))) (fun _ _ => rfl)))), ?_⟩)
  obtain ⟨b, l, rfl, c, cells, at_, lf, ys, hb, hc, hbc, hl, hbl, hcl, ha0, ha1, hl0, hn1, hn2, k⟩ := h
  walk_at "rd"
  refine ⟨b, _, rfl, c, cells, at_, lf, hb, hc, hbc, hcl, ha0, ha1, hl0, by rw [len_map]; omega, by rw [len_map]; omega, fun d at' lf' H' d0 d1 a1 a2 a3 r e => ?_⟩
  rw [len_map] at d1
  have hl' : H' l = some (.lst (ys.map V.int)) := r.fr _ _ hl (by simpa using Ne.symm hbl)
  refine r_ixL (SqL.of hl') (atI_int d0 d1) ?_
  exact k _ _ _ _ (List.getElem_mem _) a1 a2 a3 r e
theorem ok_l_steward (T : Txt K mg A)  : Gd P w K mg base CX0 1 "_law_steward" ["_law_script"] [] (sp_l_steward K A) := by
  obtain ⟨f, fd, F, hm⟩ := T.f_l_steward
  refine ⟨⟨f, fd, [], ?_, hm, F.kp, F.binds (ps := ["_law_script"]) (fun _ _ _ _ _ _ us hl => match us, hl with | [_], _ => rfl), .nil⟩⟩
  refine F.ok sc_l_steward (fun vs H Q E h => by first | (obtain ⟨rfl, _⟩ := h; rfl) | (obtain ⟨_, rfl, _⟩ := h; rfl) | (obtain ⟨_, _, rfl, _⟩ := h; rfl) | (obtain ⟨_, _, _, rfl, _⟩ := h; rfl) | (obtain ⟨_, _, _, _, rfl, _⟩ := h; rfl) | (obtain ⟨_, _, _, _, _, rfl, _⟩ := h; rfl) | (obtain ⟨_, _, _, _, _, _, rfl, _⟩ := h; rfl) | (obtain ⟨_, _, _, _, _, _, _, rfl, _⟩ := h; rfl)) (fun cdv A' outer s H vs Q E hr h => ⟨_, (pss_one (ps_ret (pe_lst (pa_cons (pe_lc (own := [("_law_cell", 1)]) rfl sc_l_steward.nd (pi_seqK K (pe_slice (sl_listK K) (pv 0) po_none (po_some pe_int))) (blkOk_by (N := N_l_steward) (sc := defScope s_l_steward) (own := [("_law_cell", 1)]) (by decide +kernel)) (fun _ _ _ _ _ => (pg_name (i := 1) sc_l_steward.nd rfl (by first | exact .inl rfl | exact .inr rfl))) (fun _ _ _ _ _ => pts_nil) (fun _ _ _ _ _ => (pe_callTy call_intU (by rfl) T.b_int (by decide +kernel) (pa_cons (pv 1) pa_nil)))) (pa_cons pe_int (pa_cons pe_int pa_nil)))))), ?_⟩)
  obtain ⟨a, rfl, ns, hS, hn, k⟩ := h
  have C : Cur H [] H [] := Cur.start (by simp) (by simp)
  walk_at "rd"
  refine u_sseqL ?_
  walk_at "rd"
  refine r_slL hS ?_
  refine new_c C fun l1 H1 l10 C => ?_
  refine k_seqL (SqL.of (C.get 0 rfl)) ?_
  rw [cut_to (by decide), ← List.map_take] at C
  generalize hcs : ns.take (60 : Int).toNat = cs at C
  have hcl : cs.length ≤ 60 := by rw [← hcs, List.length_take]; exact Nat.min_le_left _ _
  refine lc_l (xs := cs.map V.int) C (fun D i H' => Cur H [] H' [(D, .lst ((cs.take i).map V.int)), (l1, .lst (cs.map V.int))]) (fun D H1 D0 C => C) (fun D i H hi C => SqL.of (C.get 1 rfl)) (fun D i x H' D0 hx C => ?_) (fun D H' D0 C => ?_)
  · obtain ⟨n, hn1, rfl⟩ := int_of hx
    walk_at "rd"
    refine ⟨rfl, ?_⟩
    walk_at "rd"
    refine k_acc (C.get 0 rfl) (by rw [len_map, List.length_take]; omega) ?_
    refine mod_c C 0 rfl (.inr D0) fun H C => ?_
    rw [take_one hn1, List.map_append]
    exact C
  · rw [len_map, List.take_length] at C
    walk_at "rd"
    refine new_c C fun b H1 b0 C => ?_
    exact k b D cs H1 C.ret b0 D0 (C.ne 0 1 rfl rfl (by decide)) (C.get 0 rfl) (C.get 1 rfl) hcl
end
end K67

end

section
set_option Elab.async false
set_option linter.all false
set_option maxRecDepth 100000
set_option maxHeartbeats 1000000
namespace K67
open PySem PySem.Spec PyProof.Rows L2 Nd M94
set_option hygiene false
local macro_rules | `(tactic| walk_at "hg") => `(tactic| first | assumption | exact C.get 0 rfl | exact C.get 1 rfl | exact C.get 2 rfl | exact C.get 3 rfl | exact C.get 4 rfl | exact C.get 5 rfl | exact C.get 6 rfl | exact C.get 7 rfl | exact C.get 8 rfl | exact C.get 9 rfl)
local macro_rules | `(tactic| walk_at "rd1") => `(tactic| first
  | with_reducible refine u_seq ?_ | with_reducible refine u_asg ?_ | ((with_reducible refine' u_var ?q7hv ?_); (case q7hv => exact rfl)) | with_reducible refine u_c ?_ | with_reducible refine u_op ?_ | with_reducible refine u_if ?_ | with_reducible refine u_ret ?_
  | with_reducible refine u_test ?_ | with_reducible refine u_tB ?_ | with_reducible refine u_and ?_ | with_reducible refine u_or ?_ | with_reducible refine u_not ?_ | with_reducible refine u_call ?_ | with_reducible refine u_cb ?_ | with_reducible refine u_cons ?_ | with_reducible refine u_nil ?_
  | with_reducible refine u_gname ?_ | with_reducible refine u_gcons ?_ | with_reducible refine u_gnil ?_ | with_reducible refine u_gsub ?_ | with_reducible refine u_lst ?_ | with_reducible refine u_tup ?_ | with_reducible refine u_un ?_ | with_reducible refine u_ifE ?_
  | with_reducible refine u_drop ?_ | with_reducible refine u_next ?_ | with_reducible refine u_retN ?_ | with_reducible refine u_tf ?_ | with_reducible refine u_fld ?_ | with_reducible refine u_gfld ?_ | with_reducible refine u_par ?_ | with_reducible refine u_par3 ?_ | with_reducible refine u_meth ?_ | with_reducible refine u_prop ?_ | with_reducible refine u_make ?_
  | with_reducible refine u_bm ?_ | with_reducible refine u_bm0 ?_ | with_reducible refine u_sl ?_ | with_reducible refine u_noPart ?_ | with_reducible refine u_part ?_ | with_reducible refine u_chain ?_ | with_reducible refine u_andV ?_ | with_reducible refine u_orV ?_ | with_reducible refine u_notV ?_
  | with_reducible refine u_listRg ?_ | with_reducible refine u_rg1 ?_ | with_reducible refine u_lc2 ?_ | with_reducible refine u_enum ?_ | with_reducible refine u_zip ?_ | with_reducible refine u_for ?_ | with_reducible refine u_lc ?_ | with_reducible refine u_rng1 ?_ | with_reducible refine u_rng2 ?_ | with_reducible refine u_yes ?_ | with_reducible refine u_brk ?_ | with_reducible refine u_cont ?_
  | with_reducible refine r_add ?_ | with_reducible refine r_sub ?_ | with_reducible refine r_lt ?_ | with_reducible refine r_le ?_ | with_reducible refine r_gt ?_ | with_reducible refine r_ge ?_ | with_reducible refine r_eqI ?_ | with_reducible refine r_neI ?_ | with_reducible refine r_neg ?_ | with_reducible refine r_int ?_ | with_reducible refine r_intB ?_ | with_reducible refine r_abs ?_ | with_reducible refine r_isNi ?_ | with_reducible refine r_isNn ?_ | with_reducible refine r_isNr ?_ | with_reducible refine r_isNs ?_ | with_reducible refine r_notN ?_
  | ((with_reducible refine' r_ixL ?q7hs ?q7ha ?_); (case q7hs => exact SqL.of (by walk_at "hg")); (case q7ha => first | exact rfl | exact atI_nat (by assumption)))
  | ((with_reducible refine' r_ixT ?q7hs ?q7ha ?_); (case q7hs => exact SqT.of (by walk_at "hg")); (case q7ha => first | exact rfl | exact atI_nat (by assumption)))
  | ((with_reducible refine' r_len ?q7hs ?_); (case q7hs => exact SqL.of (by walk_at "hg")))
  | ((with_reducible refine' r_lenT ?q7hs ?_); (case q7hs => exact SqT.of (by walk_at "hg")))
  | ((with_reducible refine' r_mod ?q7c ?_); (case q7c => first | decide | omega)) | ((with_reducible refine' r_div ?q7c ?_); (case q7c => first | (constructor <;> decide) | (constructor <;> omega)))
  | ((with_reducible refine' r_mul ?q7c ?_); (case q7c => first | exact .inl ⟨by omega, by omega⟩ | exact .inr ⟨by omega, by omega⟩))
  | ((with_reducible refine' r_pow ?q7c ?_); (case q7c => exact ⟨by omega, by omega, by omega⟩))
  | with_reducible refine b_nT ?_ | with_reducible refine b_nF ?_ | with_reducible refine iteF ?_ | with_reducible refine iteT ?_
  | with_reducible refine k_blA ?_ | with_reducible refine k_int ?_ | with_reducible refine k_two ?_ | with_reducible refine k_three ?_
  | ((with_reducible refine' k_size ?q7hn ?_); (case q7hn => exact Nat.le_of_ble_eq_true rfl))
  | ((with_reducible refine' k_fld ?q7ha ?q7c ?q7n ?q7hl ?_); (case q7ha => walk_at "hg"); (case q7c => walk_at "cls"); (case q7n => walk_at "att"); (case q7hl => exact rfl))
  | ((with_reducible refine' k_put ?q7ha ?q7c ?q7n ?q7hl ?_); (case q7ha => walk_at "hg"); (case q7c => walk_at "cls"); (case q7n => walk_at "att"); (case q7hl => first | decide | exact Nat.lt_of_lt_of_le (Nat.lt_succ_self _) (Nat.le_of_ble_eq_true rfl)))
  | ((with_reducible refine' k_meth ?q7ha ?q7hl ?_); (case q7ha => walk_at "hg"); (case q7hl => exact rfl))
  | ((with_reducible refine' k_prop ?q7ha ?_); (case q7ha => walk_at "hg")))
local macro_rules | `(tactic| walk_at "rd") => `(tactic| repeat walk_at "rd1")
local macro_rules | `(tactic| walk_at "cls") => `(tactic| first | exact T.c_Board | exact T.c_World)
local macro_rules | `(tactic| walk_at "att") => `(tactic| first | exact T.n_Board_homes | exact T.n_Board_places | exact T.n_Board_rows | exact T.n_World_board | exact T.n_World_shown | exact T.n_World_standing | exact T.n_World_won | exact T.n_World_steps)

/-- rows as lists at ads -/
def RowsAt (H : Hp) (ads : List Addr) (R : Rows) : Prop := ads.length = R.length ∧ ∀ i a, ads[i]? = some a → H a = some (.lst ((row R i).map V.int))
theorem RowsAt.to {H H' : Hp} {S : List Addr} {ads : List Addr} {R : Rows} (h : RowsAt H ads R) (r : Ret S H H') (n : ∀ a ∈ ads, a ∉ S) : RowsAt H' ads R :=
  ⟨h.1, fun i a e => r.fr _ _ (h.2 i a e) (n a (List.mem_of_getElem? e))⟩
def LenOk (R : Rows) : Prop := ∀ p, p < R.length → 1 ≤ (row R p).length ∧ (row R p).length ≤ 1000
theorem refs_at {ads : List Addr} {i : Int} {a : Addr} (h0 : 0 ≤ i) (h : ads[i.toNat]? = some a) : atI (ads.map V.ref) i = some (.ref a) := atI_of h0 (by rw [List.getElem?_map, h]; rfl)
def sp_l_sent (K : PySem.W.Frag) (A : Adr) : Sp := fun vs H Q E => ∃ (r h : Addr) (p : Int), vs = [.ref r, .ref h, .int p] ∧ ∃ (ads : List Addr) (R : Rows) (hs : List Int), H r = some (.lst (ads.map V.ref)) ∧ RowsAt H ads R ∧ H h = some (.lst (hs.map V.int)) ∧ h ≠ r ∧ h ∉ ads ∧
  0 ≤ p ∧ p.toNat < R.length ∧ HandsOk R hs ∧ LenOk R ∧ ∀ H', Ret [h] H H' → H' h = some (.lst ((nxt R hs p.toNat).map V.int)) → Q (.int (ent R hs p.toNat)) H'
def sp_l_played (K : PySem.W.Frag) (A : Adr) : Sp := fun vs H Q E => ∃ (r h : Addr) (x : Int), vs = [.ref r, .ref h, .int x, .int 10000] ∧ ∃ (ads : List Addr) (R : Rows) (hs : List Int) (m : Nat) (rk gd : Nat → Nat), H r = some (.lst (ads.map V.ref)) ∧ RowsAt H ads R ∧ H h = some (.lst (hs.map V.int)) ∧ h ≠ r ∧ h ∉ ads ∧
  XOk R m x ∧ HandsOk R hs ∧ Good R m rk gd ∧ ∀ t H', Ret [h] H H' → H t = none → H' t = some (.tup [.int (play R 10000 hs x).2.1, .int (play R 10000 hs x).2.2]) → H' h = some (.lst ((play R 10000 hs x).1.map V.int)) → Q (.ref t) H'
theorem getD_get {l : List Int} {i : Nat} (h : i < l.length) : l[i] = l.getD i 0 := by rw [List.getD_eq_getElem?_getD, List.getElem?_eq_getElem h]; rfl
theorem lenOk_of {R : Rows} {m : Nat} {rk gd : Nat → Nat} (G : Good R m rk gd) : LenOk R := fun p hp => ⟨(G.le4 p hp).1, by have := (G.le4 p hp).2; omega⟩
section
variable {P : Program} {w : World} {K : PySem.W.Frag} {mg : Str → Option Value} {base : Heap} {A : Adr}
end
end K67

end

section
set_option Elab.async false
set_option linter.all false
set_option maxRecDepth 100000
set_option maxHeartbeats 1000000
namespace K67
open PySem PySem.Spec PyProof.Rows L2 Nd M94
set_option hygiene false
local macro_rules | `(tactic| walk_at "hg") => `(tactic| first | assumption | exact C.get 0 rfl | exact C.get 1 rfl | exact C.get 2 rfl | exact C.get 3 rfl | exact C.get 4 rfl | exact C.get 5 rfl | exact C.get 6 rfl | exact C.get 7 rfl | exact C.get 8 rfl | exact C.get 9 rfl)
local macro_rules | `(tactic| walk_at "rd1") => `(tactic| first
  | with_reducible refine u_seq ?_ | with_reducible refine u_asg ?_ | ((with_reducible refine' u_var ?q7hv ?_); (case q7hv => exact rfl)) | with_reducible refine u_c ?_ | with_reducible refine u_op ?_ | with_reducible refine u_if ?_ | with_reducible refine u_ret ?_
  | with_reducible refine u_test ?_ | with_reducible refine u_tB ?_ | with_reducible refine u_and ?_ | with_reducible refine u_or ?_ | with_reducible refine u_not ?_ | with_reducible refine u_call ?_ | with_reducible refine u_cb ?_ | with_reducible refine u_cons ?_ | with_reducible refine u_nil ?_
  | with_reducible refine u_gname ?_ | with_reducible refine u_gcons ?_ | with_reducible refine u_gnil ?_ | with_reducible refine u_gsub ?_ | with_reducible refine u_lst ?_ | with_reducible refine u_tup ?_ | with_reducible refine u_un ?_ | with_reducible refine u_ifE ?_
  | with_reducible refine u_drop ?_ | with_reducible refine u_next ?_ | with_reducible refine u_retN ?_ | with_reducible refine u_tf ?_ | with_reducible refine u_fld ?_ | with_reducible refine u_gfld ?_ | with_reducible refine u_par ?_ | with_reducible refine u_par3 ?_ | with_reducible refine u_meth ?_ | with_reducible refine u_prop ?_ | with_reducible refine u_make ?_
  | with_reducible refine u_bm ?_ | with_reducible refine u_bm0 ?_ | with_reducible refine u_sl ?_ | with_reducible refine u_noPart ?_ | with_reducible refine u_part ?_ | with_reducible refine u_chain ?_ | with_reducible refine u_andV ?_ | with_reducible refine u_orV ?_ | with_reducible refine u_notV ?_
  | with_reducible refine u_listRg ?_ | with_reducible refine u_rg1 ?_ | with_reducible refine u_lc2 ?_ | with_reducible refine u_enum ?_ | with_reducible refine u_zip ?_ | with_reducible refine u_for ?_ | with_reducible refine u_lc ?_ | with_reducible refine u_rng1 ?_ | with_reducible refine u_rng2 ?_ | with_reducible refine u_yes ?_ | with_reducible refine u_brk ?_ | with_reducible refine u_cont ?_
  | with_reducible refine r_add ?_ | with_reducible refine r_sub ?_ | with_reducible refine r_lt ?_ | with_reducible refine r_le ?_ | with_reducible refine r_gt ?_ | with_reducible refine r_ge ?_ | with_reducible refine r_eqI ?_ | with_reducible refine r_neI ?_ | with_reducible refine r_neg ?_ | with_reducible refine r_int ?_ | with_reducible refine r_intB ?_ | with_reducible refine r_abs ?_ | with_reducible refine r_isNi ?_ | with_reducible refine r_isNn ?_ | with_reducible refine r_isNr ?_ | with_reducible refine r_isNs ?_ | with_reducible refine r_notN ?_
  | ((with_reducible refine' r_ixL ?q7hs ?q7ha ?_); (case q7hs => exact SqL.of (by walk_at "hg")); (case q7ha => first | exact rfl | exact atI_nat (by assumption)))
  | ((with_reducible refine' r_ixT ?q7hs ?q7ha ?_); (case q7hs => exact SqT.of (by walk_at "hg")); (case q7ha => first | exact rfl | exact atI_nat (by assumption)))
  | ((with_reducible refine' r_len ?q7hs ?_); (case q7hs => exact SqL.of (by walk_at "hg")))
  | ((with_reducible refine' r_lenT ?q7hs ?_); (case q7hs => exact SqT.of (by walk_at "hg")))
  | ((with_reducible refine' r_mod ?q7c ?_); (case q7c => first | decide | omega)) | ((with_reducible refine' r_div ?q7c ?_); (case q7c => first | (constructor <;> decide) | (constructor <;> omega)))
  | ((with_reducible refine' r_mul ?q7c ?_); (case q7c => first | exact .inl ⟨by omega, by omega⟩ | exact .inr ⟨by omega, by omega⟩))
  | ((with_reducible refine' r_pow ?q7c ?_); (case q7c => exact ⟨by omega, by omega, by omega⟩))
  | with_reducible refine b_nT ?_ | with_reducible refine b_nF ?_ | with_reducible refine iteF ?_ | with_reducible refine iteT ?_
  | with_reducible refine k_blA ?_ | with_reducible refine k_int ?_ | with_reducible refine k_two ?_ | with_reducible refine k_three ?_
  | ((with_reducible refine' k_size ?q7hn ?_); (case q7hn => exact Nat.le_of_ble_eq_true rfl))
  | ((with_reducible refine' k_fld ?q7ha ?q7c ?q7n ?q7hl ?_); (case q7ha => walk_at "hg"); (case q7c => walk_at "cls"); (case q7n => walk_at "att"); (case q7hl => exact rfl))
  | ((with_reducible refine' k_put ?q7ha ?q7c ?q7n ?q7hl ?_); (case q7ha => walk_at "hg"); (case q7c => walk_at "cls"); (case q7n => walk_at "att"); (case q7hl => first | decide | exact Nat.lt_of_lt_of_le (Nat.lt_succ_self _) (Nat.le_of_ble_eq_true rfl)))
  | ((with_reducible refine' k_meth ?q7ha ?q7hl ?_); (case q7ha => walk_at "hg"); (case q7hl => exact rfl))
  | ((with_reducible refine' k_prop ?q7ha ?_); (case q7ha => walk_at "hg")))
local macro_rules | `(tactic| walk_at "rd") => `(tactic| repeat walk_at "rd1")
local macro_rules | `(tactic| walk_at "cls") => `(tactic| first | exact T.c_Board | exact T.c_World)
local macro_rules | `(tactic| walk_at "att") => `(tactic| first | exact T.n_Board_homes | exact T.n_Board_places | exact T.n_Board_rows | exact T.n_World_board | exact T.n_World_shown | exact T.n_World_standing | exact T.n_World_won | exact T.n_World_steps)

/-- what is held: all apart, all there -/
def Has (H : Hp) (L : List (Addr × HO)) : Prop := (L.map (·.1)).Nodup ∧ ∀ p ∈ L, H p.1 = some p.2
theorem Has.cur {H : Hp} {L : List (Addr × HO)} {S : List Addr} (h : Has H L) : Cur H S H L := ⟨h.1, h.2, .refl⟩
structure WA where
  w : Addr
  dx : Addr
  sh : Addr
  st : Addr
  wo : Addr
  B : Addr
  dB : Addr
  t : Addr
abbrev wObj (A : Adr) (a : WA) (k : Int) : HO := .ins A.World a.dx [("board", .ref a.B), ("shown", .ref a.sh), ("standing", .ref a.st), ("won", .ref a.wo), ("steps", .int k)]
abbrev bObj (A : Adr) (a : WA) (R : Rows) (m : Nat) : HO := .ins A.Board a.dB [("homes", .int m), ("places", .int R.length), ("rows", .ref a.t)]
abbrev wL (A : Adr) (a : WA) (s : WS) : List (Addr × HO) := [(a.w, wObj A a s.k), (a.sh, .lst (s.hs.map V.int)), (a.st, .lst (s.sn.map V.int)), (a.wo, .lst (s.won.map V.int))]
abbrev bL (A : Adr) (a : WA) (R : Rows) (m : Nat) (ads : List Addr) : List (Addr × HO) := [(a.B, bObj A a R m), (a.t, .tup (ads.map V.ref))]
abbrev wS (a : WA) : List Addr := [a.w, a.sh, a.st, a.wo]
def TRows (H : Hp) (ads : List Addr) (R : Rows) : Prop := ads.length = R.length ∧ ∀ i a, ads[i]? = some a → H a = some (.tup ((row R i).map V.int))
theorem TRows.to {H H' : Hp} {S : List Addr} {ads : List Addr} {R : Rows} (h : TRows H ads R) (r : Ret S H H') (n : ∀ s ∈ S, ∀ xs, H s ≠ some (.tup xs)) : TRows H' ads R := ⟨h.1, fun i a e => r.tup n (h.2 i a e)⟩
theorem notTup {A : Adr} {a : WA} {s : WS} {L : List (Addr × HO)} {H : Hp} (h : Has H (wL A a s ++ L)) : ∀ x ∈ wS a, ∀ xs, H x ≠ some (.tup xs) := fun x hx xs e => by
  have h1 := h.2 (a.w, wObj A a s.k) (by simp)
  have h2 := h.2 (a.sh, .lst (s.hs.map V.int)) (by simp)
  have h3 := h.2 (a.st, .lst (s.sn.map V.int)) (by simp)
  have h4 := h.2 (a.wo, .lst (s.won.map V.int)) (by simp)
  simp only [wS, List.mem_cons, List.not_mem_nil, or_false] at hx
  rcases hx with rfl | rfl | rfl | rfl
  · rw [h1] at e; cases e
  · rw [h2] at e; cases e
  · rw [h3] at e; cases e
  · rw [h4] at e; cases e
/-- a world that is in order -/
structure WOk (R : Rows) (m : Nat) (s : WS) : Prop where
  hok : HandsOk R s.hs
  len : LenOk R
  ents : ∀ p, p < R.length → ∀ x ∈ row R p, XOk R m x
  wl : s.won.length = m
  sn : s.sn.length ≤ 200
  n1 : R.length ≤ 60
def sp_World_sent (K : PySem.W.Frag) (A : Adr) : Sp := fun vs H Q E => ∃ (w : Addr) (i : Int), vs = [.ref w, .int i] ∧ ∃ (a : WA) (s : WS) (R : Rows) (m : Nat) (ads : List Addr) (p : Nat), w = a.w ∧ Has H (wL A a s ++ bL A a R m ads) ∧ TRows H ads R ∧ WOk R m s ∧ 0 ≤ i ∧ s.sn[i.toNat]? = some (p : Int) ∧ p < R.length ∧
  ∀ H', Ret (wS a) H H' → (∀ q ∈ wL A a (sent R s i.toNat p), H' q.1 = some q.2) → Q (.int (ent R s.hs p)) H'
section
variable {P : Program} {w : World} {K : PySem.W.Frag} {mg : Str → Option Value} {base : Heap} {A : Adr}
theorem ok_World_sent (T : Txt K mg A)  : Gv P w K mg base CX0 1 A.World "sent" ["self", "walker"] [] (sp_World_sent K A) := by
  obtain ⟨f, fd, F, hm⟩ := T.v_World_sent
  refine ⟨⟨f, fd, [], ?_, hm, F.binds (ps := ["self", "walker"]) (fun _ _ _ _ _ _ us hl => match us, hl with | [_, _], _ => rfl), .nil⟩⟩
  refine F.ok sc_World_sent (fun vs H Q E h => by first | (obtain ⟨rfl, _⟩ := h; rfl) | (obtain ⟨_, rfl, _⟩ := h; rfl) | (obtain ⟨_, _, rfl, _⟩ := h; rfl) | (obtain ⟨_, _, _, rfl, _⟩ := h; rfl) | (obtain ⟨_, _, _, _, rfl, _⟩ := h; rfl) | (obtain ⟨_, _, _, _, _, rfl, _⟩ := h; rfl) | (obtain ⟨_, _, _, _, _, _, rfl, _⟩ := h; rfl) | (obtain ⟨_, _, _, _, _, _, _, rfl, _⟩ := h; rfl)) (fun cdv A' outer s H vs Q E hr h => ⟨_, (pss_cons (ps_set (i := 2) sc_World_sent.nd rfl (.inl rfl) (pe_ix (ix_seqK K) (pe_fldK K (pv 0) rfl) (pv 1) (fun _ _ => rfl)))
      (pss_cons (ps_set (i := 3) sc_World_sent.nd rfl (.inl rfl) (pe_ix (ix_seqK K) (pe_fldK K (pe_fldK K (pv 0) rfl) rfl) (pv 2) (fun _ _ => rfl)))
      (pss_cons (ps_set (i := 4) sc_World_sent.nd rfl (.inl rfl) (pe_ix (ix_seqK K) (pv 3) (pe_ix (ix_seqK K) (pe_fldK K (pv 0) rfl) (pv 2) (fun _ _ => rfl)) (fun _ _ => rfl)))
      (pss_cons (ps_asg (pe_op op_modI (pe_op op_addU (pe_ix (ix_seqK K) (pe_fldK K (pv 0) rfl) (pv 2) (fun _ _ => rfl)) pe_int) (pe_callB (call_lenK K) (by rfl) T.b_len PySem.boot_len (pa_cons (pv 3) pa_nil))) (pg_sub (pe_fldK K (pv 0) rfl) (pv 2) set_list))
      (pss_cons (ps_asg (pv 4) (pg_sub (pe_fldK K (pv 0) rfl) (pv 1) set_list))
      (pss_cons (ps_fldK K (pv 0) (pe_op op_addU (pe_fldK K (pv 0) rfl) pe_int) rfl)
      (pss_cons (ps_if (pt_cmpR op_geI (pv 4) (pe_fldK K (pe_fldK K (pv 0) rfl) rfl) (nomark _)) (pss_one (ps_asg (pe_op op_addU (pe_ix (ix_seqK K) (pe_fldK K (pv 0) rfl) (pe_op op_subI (pv 4) (pe_fldK K (pe_fldK K (pv 0) rfl) rfl)) (fun _ _ => rfl)) pe_int) (pg_sub (pe_fldK K (pv 0) rfl) (pe_op op_subI (pv 4) (pe_fldK K (pe_fldK K (pv 0) rfl) rfl)) set_list))) pss_nil)
      (pss_one (ps_ret (pv 4)))))))))), ?_⟩)
  obtain ⟨w, i, rfl, a, s, R, m, ads, p, rfl, hW, hT, ok, i0, hp, hpR, k⟩ := h
  have C : Cur H (wS a) H (wL A a s ++ bL A a R m ads) := hW.cur
  have hil : i < (s.sn.length : Int) := by
    rcases Nat.lt_or_ge i.toNat s.sn.length with g | g
    · omega
    · rw [List.getElem?_eq_none g] at hp; cases hp
  obtain ⟨h0, h1⟩ := ok.hok.2 p hpR
  have hpl : (p : Int) < (s.hs.length : Int) := by rw [ok.hok.1]; omega
  obtain ⟨ar, har⟩ : ∃ x, ads[p]? = some x := ⟨_, List.getElem?_eq_getElem (by rw [hT.1]; exact hpR)⟩
  have harr := hT.2 _ _ har
  have hkT : ∀ {H' : Hp}, Ret (wS a) H H' → H' ar = some (.tup ((row R p).map V.int)) := fun r => r.tup (notTup hW) harr
  have hei := atI_int (ns := s.hs) (i := (p : Int)) (by omega) hpl
  have hgd : s.hs[((p : Int)).toNat]'(by omega) = s.hs.getD p 0 := getD_get (i := p) (by omega)
  rw [hgd] at hei
  have hen := atI_int (ns := row R p) (i := s.hs.getD p 0) h0 h1
  have hen' : (row R p)[(s.hs.getD p 0).toNat]'(by omega) = ent R s.hs p := getD_get (by omega)
  rw [hen'] at hen
  have hent := ent_mem ok.hok hpR
  obtain ⟨x0, x1⟩ := ok.ents p hpR _ hent
  walk_at "rd"
  refine r_ixL (SqL.of (C.get 2 rfl)) (atI_of i0 (by rw [List.getElem?_map, hp]; rfl)) ?_
  walk_at "rd"
  refine r_ixT (SqT.of (C.get 5 rfl)) (refs_at (by omega) har) ?_
  walk_at "rd"
  refine r_ixL (SqL.of (C.get 1 rfl)) hei ?_
  refine r_ixT (SqT.of harr) hen ?_
  walk_at "rd"
  refine r_ixL (SqL.of (C.get 1 rfl)) hei ?_
  walk_at "rd"
  have hl := (ok.len p hpR).1
  refine r_mod (by rw [len_map]; omega) ?_
  walk_at "rd"
  refine r_setL (C.get 1 rfl) (ixN_of (by omega) (by rw [len_map]; exact hpl)) ?_
  refine mod_c C 1 rfl (.inl (by simp)) fun H1 C => ?_
  walk_at "rd"
  refine r_setL (C.get 2 rfl) (ixN_of i0 (by rw [len_map]; exact hil)) ?_
  refine mod_c C 2 rfl (.inl (by simp)) fun H2 C => ?_
  walk_at "rd"
  refine mod_c C 0 rfl (.inl (by simp)) fun H3 C => ?_
  walk_at "rd"
  have e1 : ((s.hs.map V.int).set ((p : Int)).toNat (V.int ((s.hs.getD p 0 + 1) % ((((row R p).map V.int).length : Nat) : Int)))) = (nxt R s.hs p).map V.int := by
    rw [len_map, ← List.map_set]; rfl
  have e2 : ((s.sn.map V.int).set i.toNat (V.int (ent R s.hs p))) = (s.sn.set i.toNat (ent R s.hs p)).map V.int := by rw [← List.map_set]
  rw [e1, e2] at C
  refine b_dec (fun hge => ?_) (fun hlt => ?_)
  · have j0 : 0 ≤ ent R s.hs p - (R.length : Int) := by omega
    have j1 : ent R s.hs p - (R.length : Int) < (s.won.length : Int) := by rw [ok.wl]; omega
    have hw := atI_int (ns := s.won) j0 j1
    rw [getD_get (l := s.won) (i := (ent R s.hs p - (R.length : Int)).toNat) (by omega)] at hw
    walk_at "rd"
    refine r_ixL (SqL.of (C.get 3 rfl)) hw ?_
    walk_at "rd"
    refine r_setL (C.get 3 rfl) (ixN_of j0 (by rw [len_map]; exact j1)) ?_
    refine mod_c C 3 rfl (.inl (by simp)) fun H4 C => ?_
    walk_at "rd"
    refine k H4 C.ret ?_
    have e3 : ((s.won.map V.int).set (ent R s.hs p - (R.length : Int)).toNat (V.int (s.won.getD (ent R s.hs p - (R.length : Int)).toNat 0 + 1))) = (M94.bump s.won (ent R s.hs p - (R.length : Int)).toNat).map V.int := by rw [← List.map_set]; rfl
    rw [e3] at C
    intro q hq
    refine C.own q ?_
    have hs' : (sent R s i.toNat p).won = M94.bump s.won (ent R s.hs p - (R.length : Int)).toNat := if_pos hge
    simp only [wL, List.mem_cons, List.not_mem_nil, or_false] at hq
    rw [hs'] at hq
    rcases hq with rfl | rfl | rfl | rfl
    · exact List.mem_of_getElem? (i := 0) rfl
    · exact List.mem_of_getElem? (i := 1) rfl
    · exact List.mem_of_getElem? (i := 2) rfl
    · exact List.mem_of_getElem? (i := 3) rfl
  · walk_at "rd"
    refine k H3 C.ret ?_
    intro q hq
    refine C.own q ?_
    have hs' : (sent R s i.toNat p).won = s.won := if_neg hlt
    simp only [wL, List.mem_cons, List.not_mem_nil, or_false] at hq
    rw [hs'] at hq
    rcases hq with rfl | rfl | rfl | rfl
    · exact List.mem_of_getElem? (i := 0) rfl
    · exact List.mem_of_getElem? (i := 1) rfl
    · exact List.mem_of_getElem? (i := 2) rfl
    · exact List.mem_of_getElem? (i := 3) rfl
end
end K67

end

section
set_option Elab.async false
set_option linter.all false
set_option maxRecDepth 100000
set_option maxHeartbeats 1000000
namespace K67
open PySem PySem.Spec PyProof.Rows L2 Nd M94
set_option hygiene false
local macro_rules | `(tactic| walk_at "hg") => `(tactic| first | assumption | exact C.get 0 rfl | exact C.get 1 rfl | exact C.get 2 rfl | exact C.get 3 rfl | exact C.get 4 rfl | exact C.get 5 rfl | exact C.get 6 rfl | exact C.get 7 rfl | exact C.get 8 rfl | exact C.get 9 rfl)
local macro_rules | `(tactic| walk_at "rd1") => `(tactic| first
  | with_reducible refine u_seq ?_ | with_reducible refine u_asg ?_ | ((with_reducible refine' u_var ?q7hv ?_); (case q7hv => exact rfl)) | with_reducible refine u_c ?_ | with_reducible refine u_op ?_ | with_reducible refine u_if ?_ | with_reducible refine u_ret ?_
  | with_reducible refine u_test ?_ | with_reducible refine u_tB ?_ | with_reducible refine u_and ?_ | with_reducible refine u_or ?_ | with_reducible refine u_not ?_ | with_reducible refine u_call ?_ | with_reducible refine u_cb ?_ | with_reducible refine u_cons ?_ | with_reducible refine u_nil ?_
  | with_reducible refine u_gname ?_ | with_reducible refine u_gcons ?_ | with_reducible refine u_gnil ?_ | with_reducible refine u_gsub ?_ | with_reducible refine u_lst ?_ | with_reducible refine u_tup ?_ | with_reducible refine u_un ?_ | with_reducible refine u_ifE ?_
  | with_reducible refine u_drop ?_ | with_reducible refine u_next ?_ | with_reducible refine u_retN ?_ | with_reducible refine u_tf ?_ | with_reducible refine u_fld ?_ | with_reducible refine u_gfld ?_ | with_reducible refine u_par ?_ | with_reducible refine u_par3 ?_ | with_reducible refine u_meth ?_ | with_reducible refine u_prop ?_ | with_reducible refine u_make ?_
  | with_reducible refine u_bm ?_ | with_reducible refine u_bm0 ?_ | with_reducible refine u_sl ?_ | with_reducible refine u_noPart ?_ | with_reducible refine u_part ?_ | with_reducible refine u_chain ?_ | with_reducible refine u_andV ?_ | with_reducible refine u_orV ?_ | with_reducible refine u_notV ?_
  | with_reducible refine u_listRg ?_ | with_reducible refine u_rg1 ?_ | with_reducible refine u_lc2 ?_ | with_reducible refine u_enum ?_ | with_reducible refine u_zip ?_ | with_reducible refine u_for ?_ | with_reducible refine u_lc ?_ | with_reducible refine u_rng1 ?_ | with_reducible refine u_rng2 ?_ | with_reducible refine u_yes ?_ | with_reducible refine u_brk ?_ | with_reducible refine u_cont ?_
  | with_reducible refine r_add ?_ | with_reducible refine r_sub ?_ | with_reducible refine r_lt ?_ | with_reducible refine r_le ?_ | with_reducible refine r_gt ?_ | with_reducible refine r_ge ?_ | with_reducible refine r_eqI ?_ | with_reducible refine r_neI ?_ | with_reducible refine r_neg ?_ | with_reducible refine r_int ?_ | with_reducible refine r_intB ?_ | with_reducible refine r_abs ?_ | with_reducible refine r_isNi ?_ | with_reducible refine r_isNn ?_ | with_reducible refine r_isNr ?_ | with_reducible refine r_isNs ?_ | with_reducible refine r_notN ?_
  | ((with_reducible refine' r_ixL ?q7hs ?q7ha ?_); (case q7hs => exact SqL.of (by walk_at "hg")); (case q7ha => first | exact rfl | exact atI_nat (by assumption)))
  | ((with_reducible refine' r_ixT ?q7hs ?q7ha ?_); (case q7hs => exact SqT.of (by walk_at "hg")); (case q7ha => first | exact rfl | exact atI_nat (by assumption)))
  | ((with_reducible refine' r_len ?q7hs ?_); (case q7hs => exact SqL.of (by walk_at "hg")))
  | ((with_reducible refine' r_lenT ?q7hs ?_); (case q7hs => exact SqT.of (by walk_at "hg")))
  | ((with_reducible refine' r_mod ?q7c ?_); (case q7c => first | decide | omega)) | ((with_reducible refine' r_div ?q7c ?_); (case q7c => first | (constructor <;> decide) | (constructor <;> omega)))
  | ((with_reducible refine' r_mul ?q7c ?_); (case q7c => first | exact .inl ⟨by omega, by omega⟩ | exact .inr ⟨by omega, by omega⟩))
  | ((with_reducible refine' r_pow ?q7c ?_); (case q7c => exact ⟨by omega, by omega, by omega⟩))
  | with_reducible refine b_nT ?_ | with_reducible refine b_nF ?_ | with_reducible refine iteF ?_ | with_reducible refine iteT ?_
  | with_reducible refine k_blA ?_ | with_reducible refine k_int ?_ | with_reducible refine k_two ?_ | with_reducible refine k_three ?_
  | ((with_reducible refine' k_size ?q7hn ?_); (case q7hn => exact Nat.le_of_ble_eq_true rfl))
  | ((with_reducible refine' k_fld ?q7ha ?q7c ?q7n ?q7hl ?_); (case q7ha => walk_at "hg"); (case q7c => walk_at "cls"); (case q7n => walk_at "att"); (case q7hl => exact rfl))
  | ((with_reducible refine' k_put ?q7ha ?q7c ?q7n ?q7hl ?_); (case q7ha => walk_at "hg"); (case q7c => walk_at "cls"); (case q7n => walk_at "att"); (case q7hl => first | decide | exact Nat.lt_of_lt_of_le (Nat.lt_succ_self _) (Nat.le_of_ble_eq_true rfl)))
  | ((with_reducible refine' k_meth ?q7ha ?q7hl ?_); (case q7ha => walk_at "hg"); (case q7hl => exact rfl))
  | ((with_reducible refine' k_prop ?q7ha ?_); (case q7ha => walk_at "hg")))
local macro_rules | `(tactic| walk_at "rd") => `(tactic| repeat walk_at "rd1")
local macro_rules | `(tactic| walk_at "cls") => `(tactic| first | exact T.c_Board | exact T.c_World)
local macro_rules | `(tactic| walk_at "att") => `(tactic| first | exact T.n_Board_homes | exact T.n_Board_places | exact T.n_Board_rows | exact T.n_World_board | exact T.n_World_shown | exact T.n_World_standing | exact T.n_World_won | exact T.n_World_steps)

theorem Has.left {H : Hp} {L1 L2 : List (Addr × HO)} (h : Has H (L1 ++ L2)) : Has H L1 := ⟨by have := h.1; rw [List.map_append] at this; exact (List.nodup_append.mp this).1, fun p hp => h.2 p (List.mem_append_left _ hp)⟩
def spProp (A : Adr) (get : WS → List Int) : Sp := fun vs H Q E => ∃ w : Addr, vs = [.ref w] ∧ ∃ (a : WA) (s : WS), w = a.w ∧ Has H (wL A a s) ∧ ∀ t H', Ret [] H H' → H t = none → H' t = some (.tup ((get s).map V.int)) → Q (.ref t) H'
def sp_World_hands (K : PySem.W.Frag) (A : Adr) : Sp := spProp A (·.hs)
def sp_World_walkers (K : PySem.W.Frag) (A : Adr) : Sp := spProp A (·.sn)
def sp_World_wins (K : PySem.W.Frag) (A : Adr) : Sp := spProp A (·.won)
def sp_World_need_out (K : PySem.W.Frag) (A : Adr) : Sp := fun vs H Q E => ∃ (w : Addr) (i : Int), vs = [.ref w, .int i] ∧ ∃ (a : WA) (s : WS), w = a.w ∧ Has H (wL A a s) ∧ 0 ≤ i ∧ i < s.sn.length ∧ Q .non H
def sp_World_need_away (K : PySem.W.Frag) (A : Adr) : Sp := fun vs H Q E => ∃ (w : Addr) (i : Int), vs = [.ref w, .int i] ∧ ∃ (a : WA) (s : WS) (R : Rows) (m : Nat) (ads : List Addr) (p : Nat), w = a.w ∧ Has H (wL A a s ++ bL A a R m ads) ∧ 0 ≤ i ∧ s.sn[i.toNat]? = some (p : Int) ∧ p < R.length ∧ Q .non H
def sp_World_advance (K : PySem.W.Frag) (A : Adr) : Sp := sp_World_sent K A
def sp_World_sent_home (K : PySem.W.Frag) (A : Adr) : Sp := fun vs H Q E => ∃ (w q : Addr) (i : Int), vs = [.ref w, .int i, .int 10000, .ref q] ∧ ∃ (a : WA) (s : WS) (R : Rows) (m : Nat) (rk gd : Nat → Nat) (ads : List Addr) (p : Nat), w = a.w ∧ Has H (wL A a s ++ bL A a R m ads) ∧ TRows H ads R ∧ WOk R m s ∧ Good R m rk gd ∧ 0 ≤ i ∧ s.sn[i.toNat]? = some (p : Int) ∧ p < R.length ∧
  ∀ (v : Int) H', Ret (wS a) H H' → (∀ q ∈ wL A a (ledTo R s i.toNat p), H' q.1 = some q.2) → Q (.int v) H'
def sp_World_take (K : PySem.W.Frag) (A : Adr) : Sp := fun vs H Q E => ∃ (w2 w : Addr), vs = [.ref w2, .ref w] ∧ ∃ (a : WA) (s : WS) (dx2 : Addr) (v0 v1 v2 v3 v4 : V), w = a.w ∧ Has H (wL A a s) ∧ H w2 = some (.ins A.World dx2 [("board", v0), ("shown", v1), ("standing", v2), ("won", v3), ("steps", v4)]) ∧ w2 ≠ a.w ∧ ∀ H', Ret [w2] H H' → Q .non H'
theorem len_of {xs : List Int} {i : Int} {x : Int} (i0 : 0 ≤ i) (h : xs[i.toNat]? = some x) : i < (xs.length : Int) := by
  rcases Nat.lt_or_ge i.toNat xs.length with g | g
  · omega
  · rw [List.getElem?_eq_none g] at h; cases h
theorem own_after {A : Adr} {a : WA} {s s' : WS} {R : Rows} {m : Nat} {ads : List Addr} {H0 H H' : Hp} {S : List Addr} {L : List (Addr × HO)} (C : Cur H0 S H (wL A a s ++ L)) (hm : ∀ x ∈ wS a, x ∈ S ∨ H0 x = none) (r : Ret (wS a) H H') (h : ∀ q ∈ wL A a s', H' q.1 = some q.2) : Cur H0 S H' (wL A a s' ++ L) :=
  callApp C r hm rfl h
theorem has_of {H0 H : Hp} {S : List Addr} {L : List (Addr × HO)} (C : Cur H0 S H L) : Has H L := ⟨C.nd, C.own⟩
theorem sent_ok {R : Rows} {m : Nat} {s : WS} {i p : Nat} (ok : WOk R m s) (hp : p < R.length) : WOk R m (sent R s i p) where
  hok := nxt_ok ok.hok hp (ok.len p hp).1
  len := ok.len
  ents := ok.ents
  wl := by unfold sent; split <;> simp [M94.bump, ok.wl]
  sn := by unfold sent; simp [ok.sn]
  n1 := ok.n1
section
variable {P : Program} {w : World} {K : PySem.W.Frag} {mg : Str → Option Value} {base : Heap} {A : Adr}
theorem ok_World_hands (T : Txt K mg A)  : Gp P w K mg base CX0 1 A.World "hands" ["self"] (sp_World_hands K A) := by
  obtain ⟨p, f, fd, F, hm⟩ := T.v_World_hands
  refine ⟨⟨p, f, fd, ?_, hm, F.binds (ps := ["self"]) (fun _ _ _ _ _ _ us hl => match us, hl with | [_], _ => rfl)⟩⟩
  refine F.ok sc_World_hands (fun vs H Q E h => by first | (obtain ⟨rfl, _⟩ := h; rfl) | (obtain ⟨_, rfl, _⟩ := h; rfl) | (obtain ⟨_, _, rfl, _⟩ := h; rfl) | (obtain ⟨_, _, _, rfl, _⟩ := h; rfl) | (obtain ⟨_, _, _, _, rfl, _⟩ := h; rfl) | (obtain ⟨_, _, _, _, _, rfl, _⟩ := h; rfl) | (obtain ⟨_, _, _, _, _, _, rfl, _⟩ := h; rfl) | (obtain ⟨_, _, _, _, _, _, _, rfl, _⟩ := h; rfl)) (fun cdv A' outer s H vs Q E hr h => ⟨_, (pss_one (ps_ret (pe_callTy (call_tupleK K) (by rfl) T.b_tuple (by decide +kernel) (pa_cons (pe_fldK K (pv 0) rfl) pa_nil)))), ?_⟩)
  obtain ⟨w, rfl, a, s, rfl, hW, k⟩ := h
  have C : Cur H [] H (wL A a s) := hW.cur
  walk_at "rd"
  refine r_tupL (SqL.of (C.get 1 rfl)) (new_c C fun t H1 t0 C => k t H1 C.ret t0 (C.get 0 rfl))
theorem ok_World_walkers (T : Txt K mg A)  : Gp P w K mg base CX0 1 A.World "walkers" ["self"] (sp_World_walkers K A) := by
  obtain ⟨p, f, fd, F, hm⟩ := T.v_World_walkers
  refine ⟨⟨p, f, fd, ?_, hm, F.binds (ps := ["self"]) (fun _ _ _ _ _ _ us hl => match us, hl with | [_], _ => rfl)⟩⟩
  refine F.ok sc_World_walkers (fun vs H Q E h => by first | (obtain ⟨rfl, _⟩ := h; rfl) | (obtain ⟨_, rfl, _⟩ := h; rfl) | (obtain ⟨_, _, rfl, _⟩ := h; rfl) | (obtain ⟨_, _, _, rfl, _⟩ := h; rfl) | (obtain ⟨_, _, _, _, rfl, _⟩ := h; rfl) | (obtain ⟨_, _, _, _, _, rfl, _⟩ := h; rfl) | (obtain ⟨_, _, _, _, _, _, rfl, _⟩ := h; rfl) | (obtain ⟨_, _, _, _, _, _, _, rfl, _⟩ := h; rfl)) (fun cdv A' outer s H vs Q E hr h => ⟨_, (pss_one (ps_ret (pe_callTy (call_tupleK K) (by rfl) T.b_tuple (by decide +kernel) (pa_cons (pe_fldK K (pv 0) rfl) pa_nil)))), ?_⟩)
  obtain ⟨w, rfl, a, s, rfl, hW, k⟩ := h
  have C : Cur H [] H (wL A a s) := hW.cur
  walk_at "rd"
  refine r_tupL (SqL.of (C.get 2 rfl)) (new_c C fun t H1 t0 C => k t H1 C.ret t0 (C.get 0 rfl))
theorem ok_World_wins (T : Txt K mg A)  : Gp P w K mg base CX0 1 A.World "wins" ["self"] (sp_World_wins K A) := by
  obtain ⟨p, f, fd, F, hm⟩ := T.v_World_wins
  refine ⟨⟨p, f, fd, ?_, hm, F.binds (ps := ["self"]) (fun _ _ _ _ _ _ us hl => match us, hl with | [_], _ => rfl)⟩⟩
  refine F.ok sc_World_wins (fun vs H Q E h => by first | (obtain ⟨rfl, _⟩ := h; rfl) | (obtain ⟨_, rfl, _⟩ := h; rfl) | (obtain ⟨_, _, rfl, _⟩ := h; rfl) | (obtain ⟨_, _, _, rfl, _⟩ := h; rfl) | (obtain ⟨_, _, _, _, rfl, _⟩ := h; rfl) | (obtain ⟨_, _, _, _, _, rfl, _⟩ := h; rfl) | (obtain ⟨_, _, _, _, _, _, rfl, _⟩ := h; rfl) | (obtain ⟨_, _, _, _, _, _, _, rfl, _⟩ := h; rfl)) (fun cdv A' outer s H vs Q E hr h => ⟨_, (pss_one (ps_ret (pe_callTy (call_tupleK K) (by rfl) T.b_tuple (by decide +kernel) (pa_cons (pe_fldK K (pv 0) rfl) pa_nil)))), ?_⟩)
  obtain ⟨w, rfl, a, s, rfl, hW, k⟩ := h
  have C : Cur H [] H (wL A a s) := hW.cur
  walk_at "rd"
  refine r_tupL (SqL.of (C.get 3 rfl)) (new_c C fun t H1 t0 C => k t H1 C.ret t0 (C.get 0 rfl))
theorem ok_World_need_out (T : Txt K mg A) (G_need_number : Gd P w K mg base CX0 3 "need_number" ["value", "part", "least", "most"] [] (sp_need_number K A)) : Gv P w K mg base CX0 4 A.World "need_out" ["self", "walker"] [] (sp_World_need_out K A) := by
  obtain ⟨f, fd, F, hm⟩ := T.v_World_need_out
  refine ⟨⟨f, fd, [], ?_, hm, F.binds (ps := ["self", "walker"]) (fun _ _ _ _ _ _ us hl => match us, hl with | [_, _], _ => rfl), .nil⟩⟩
  refine F.ok sc_World_need_out (fun vs H Q E h => by first | (obtain ⟨rfl, _⟩ := h; rfl) | (obtain ⟨_, rfl, _⟩ := h; rfl) | (obtain ⟨_, _, rfl, _⟩ := h; rfl) | (obtain ⟨_, _, _, rfl, _⟩ := h; rfl) | (obtain ⟨_, _, _, _, rfl, _⟩ := h; rfl) | (obtain ⟨_, _, _, _, _, rfl, _⟩ := h; rfl) | (obtain ⟨_, _, _, _, _, _, rfl, _⟩ := h; rfl) | (obtain ⟨_, _, _, _, _, _, _, rfl, _⟩ := h; rfl)) (fun cdv A' outer s H vs Q E hr h => ⟨_, (pss_one (ps_expr (pe_callG G_need_number (hr.mono (by decide)) (by rfl) pass0 (pa_cons (pv 1) (pa_cons pe_str (pa_cons pe_int (pa_cons (pe_op op_subI (pe_callB (call_lenK K) (by rfl) T.b_len PySem.boot_len (pa_cons (pe_fldK K (pv 0) rfl) pa_nil)) pe_int) pa_nil))))))), ?_⟩)
  obtain ⟨w, i, rfl, a, s, rfl, hW, i0, i1, k⟩ := h
  have C : Cur H [] H (wL A a s) := hW.cur
  walk_at "rd"
  refine ⟨i, _, 0, _, rfl, i0, by rw [len_map]; omega, ?_⟩
  walk_at "rd"
  exact k
theorem ok_World_need_away (T : Txt K mg A)  : Gv P w K mg base CX0 1 A.World "need_away" ["self", "walker"] [] (sp_World_need_away K A) := by
  obtain ⟨f, fd, F, hm⟩ := T.v_World_need_away
  refine ⟨⟨f, fd, [], ?_, hm, F.binds (ps := ["self", "walker"]) (fun _ _ _ _ _ _ us hl => match us, hl with | [_, _], _ => rfl), .nil⟩⟩
  refine F.ok sc_World_need_away (fun vs H Q E h => by first | (obtain ⟨rfl, _⟩ := h; rfl) | (obtain ⟨_, rfl, _⟩ := h; rfl) | (obtain ⟨_, _, rfl, _⟩ := h; rfl) | (obtain ⟨_, _, _, rfl, _⟩ := h; rfl) | (obtain ⟨_, _, _, _, rfl, _⟩ := h; rfl) | (obtain ⟨_, _, _, _, _, rfl, _⟩ := h; rfl) | (obtain ⟨_, _, _, _, _, _, rfl, _⟩ := h; rfl) | (obtain ⟨_, _, _, _, _, _, _, rfl, _⟩ := h; rfl)) (fun cdv A' outer s H vs Q E hr h => ⟨_, (pss_one (ps_if (pt_cmpR op_geI (pe_ix (ix_seqK K) (pe_fldK K (pv 0) rfl) (pv 1) (fun _ _ => rfl)) (pe_fldK K (pe_fldK K (pv 0) rfl) rfl) (nomark _)) (pss_one ps_never) pss_nil)), ?_⟩)
  obtain ⟨w, i, rfl, a, s, R, m, ads, p, rfl, hW, i0, hp, hpR, k⟩ := h
  have C : Cur H [] H (wL A a s ++ bL A a R m ads) := hW.cur
  walk_at "rd"
  refine r_ixL (SqL.of (C.get 2 rfl)) (atI_of i0 (by rw [List.getElem?_map, hp]; rfl)) ?_
  walk_at "rd"
  refine b_df (by omega) ?_
  walk_at "rd"
  exact k
theorem ok_World_advance (T : Txt K mg A) (G_World_need_out : Gv P w K mg base CX0 4 A.World "need_out" ["self", "walker"] [] (sp_World_need_out K A)) (G_World_need_away : Gv P w K mg base CX0 1 A.World "need_away" ["self", "walker"] [] (sp_World_need_away K A)) (G_World_sent : Gv P w K mg base CX0 1 A.World "sent" ["self", "walker"] [] (sp_World_sent K A)) : Gv P w K mg base CX0 5 A.World "advance" ["self", "walker"] [] (sp_World_advance K A) := by
  obtain ⟨f, fd, F, hm⟩ := T.v_World_advance
  refine ⟨⟨f, fd, [], ?_, hm, F.binds (ps := ["self", "walker"]) (fun _ _ _ _ _ _ us hl => match us, hl with | [_, _], _ => rfl), .nil⟩⟩
  refine F.ok sc_World_advance (fun vs H Q E h => by first | (obtain ⟨rfl, _⟩ := h; rfl) | (obtain ⟨_, rfl, _⟩ := h; rfl) | (obtain ⟨_, _, rfl, _⟩ := h; rfl) | (obtain ⟨_, _, _, rfl, _⟩ := h; rfl) | (obtain ⟨_, _, _, _, rfl, _⟩ := h; rfl) | (obtain ⟨_, _, _, _, _, rfl, _⟩ := h; rfl) | (obtain ⟨_, _, _, _, _, _, rfl, _⟩ := h; rfl) | (obtain ⟨_, _, _, _, _, _, _, rfl, _⟩ := h; rfl)) (fun cdv A' outer s H vs Q E hr h => ⟨_, (pss_cons (ps_expr (pe_methG G_World_need_out T.c_World (hr.mono (by decide)) pass0 (pv 0) (pa_cons (pv 1) pa_nil)))
      (pss_cons (ps_expr (pe_methG G_World_need_away T.c_World (hr.mono (by decide)) pass0 (pv 0) (pa_cons (pv 1) pa_nil)))
      (pss_one (ps_ret (pe_methG G_World_sent T.c_World (hr.mono (by decide)) pass0 (pv 0) (pa_cons (pv 1) pa_nil)))))), ?_⟩)
  obtain ⟨w, i, rfl, a, s, R, m, ads, p, rfl, hW, hT, ok, i0, hp, hpR, k⟩ := h
  have C : Cur H [] H (wL A a s ++ bL A a R m ads) := hW.cur
  walk_at "rd"
  refine ⟨a.w, i, rfl, a, s, rfl, hW.left, i0, len_of i0 hp, ?_⟩
  walk_at "rd"
  refine ⟨a.w, i, rfl, a, s, R, m, ads, p, rfl, hW, i0, hp, hpR, ?_⟩
  walk_at "rd"
  exact ⟨a.w, i, rfl, a, s, R, m, ads, p, rfl, hW, hT, ok, i0, hp, hpR, k⟩
theorem ok_World_sent_home (T : Txt K mg A) (G_World_sent : Gv P w K mg base CX0 1 A.World "sent" ["self", "walker"] [] (sp_World_sent K A)) (G_World_take : Gv P w K mg base CX0 1 A.World "take" ["self", "other"] [] (sp_World_take K A)) : Gv P w K mg base CX0 2 A.World "sent_home" ["self", "walker", "most", "before"] [] (sp_World_sent_home K A) := by
  obtain ⟨f, fd, F, hm⟩ := T.v_World_sent_home
  refine ⟨⟨f, fd, [], ?_, hm, F.binds (ps := ["self", "walker", "most", "before"]) (fun _ _ _ _ _ _ us hl => match us, hl with | [_, _, _, _], _ => rfl), .nil⟩⟩
  refine F.ok sc_World_sent_home (fun vs H Q E h => by first | (obtain ⟨rfl, _⟩ := h; rfl) | (obtain ⟨_, rfl, _⟩ := h; rfl) | (obtain ⟨_, _, rfl, _⟩ := h; rfl) | (obtain ⟨_, _, _, rfl, _⟩ := h; rfl) | (obtain ⟨_, _, _, _, rfl, _⟩ := h; rfl) | (obtain ⟨_, _, _, _, _, rfl, _⟩ := h; rfl) | (obtain ⟨_, _, _, _, _, _, rfl, _⟩ := h; rfl) | (obtain ⟨_, _, _, _, _, _, _, rfl, _⟩ := h; rfl)) (fun cdv A' outer s H vs Q E hr h => ⟨_, (pss_cons (ps_for PassesOwn.never rfl (pi_range1 (by rfl) T.b_range (pa_cons (pv 2) pa_nil)) (pg_name (i := 4) sc_World_sent_home.nd rfl (.inl rfl)) (pss_cons (ps_set (i := 5) sc_World_sent_home.nd rfl (.inl rfl) (pe_methG G_World_sent T.c_World (hr.mono (by decide)) pass0 (pv 0) (pa_cons (pv 1) pa_nil)))
      (pss_one (ps_if (pt_cmpR op_geI (pv 5) (pe_fldK K (pe_fldK K (pv 0) rfl) rfl) (nomark _)) (pss_one (ps_ret (pe_op op_subI (pv 5) (pe_fldK K (pe_fldK K (pv 0) rfl) rfl)))) pss_nil))))
      (pss_cons (ps_expr (pe_methG G_World_take T.c_World (hr.mono (by decide)) pass0 (pv 0) (pa_cons (pv 3) pa_nil)))
      (pss_one ps_never))), ?_⟩)
  obtain ⟨w, q, i, rfl, a, s, R, m, rk, gd, ads, p, rfl, hW, hT, ok, G, i0, hp, hpR, k⟩ := h
  have C : Cur H (wS a) H (wL A a s ++ bL A a R m ads) := hW.cur
  have hil := len_of i0 hp
  have ph := play_home G 10000 s.hs p ok.hok ⟨by omega, by omega⟩ (by have := (pot_ge (h := s.hs) G p).2; omega)
  walk_at "rd"
  refine k_rng1 (j := 10000) (by decide) (by decide) ?_
  refine for_r (fun t σ H' => ∃ (hs' : List Int) (x : Nat) (s' : WS) (o1 o2 : Option V), σ = [some (.ref a.w), some (.int i), some (.int 10000), some (.ref q), o1, o2] ∧ s' = ⟨hs', s.sn.set i.toNat (x : Int), s.won, s.k + t⟩ ∧ x < R.length ∧ Cur H (wS a) H' (wL A a s' ++ bL A a R m ads) ∧ HandsOk R hs' ∧
    (play R 10000 s.hs p).1 = (play R (10000 - t) hs' x).1 ∧ (play R 10000 s.hs p).2.1 = (play R (10000 - t) hs' x).2.1 ∧ (play R 10000 s.hs p).2.2 = (play R (10000 - t) hs' x).2.2 + t) ?_ ?_ ?_
  · refine ⟨s.hs, p, _, none, none, rfl, rfl, hpR, ?_, ok.hok, rfl, rfl, rfl⟩
    have e1 : s.sn.set i.toNat (p : Int) = s.sn := by
      obtain ⟨l1, l2⟩ := List.getElem?_eq_some_iff.mp hp
      rw [← l2]; exact List.set_getElem_self l1
    rw [e1, show s.k + ((0 : Nat) : Int) = s.k by omega]
    exact C
  · rintro t σ H' ht ⟨hs', x, s', o1, o2, rfl, rfl, hx, C, hok, e1, e2, e3⟩
    have hT' := hT.to C.ret (notTup hW)
    have ok' : WOk R m ⟨hs', s.sn.set i.toNat (x : Int), s.won, s.k + t⟩ := ⟨hok, ok.len, ok.ents, ok.wl, by rw [List.length_set]; exact ok.sn, ok.n1⟩
    have hxi : (s.sn.set i.toNat (x : Int))[i.toNat]? = some (x : Int) := List.getElem?_set_self (by omega)
    rw [show 10000 - t = (10000 - (t + 1)) + 1 by omega, play_in (show (x : Int) < (R.length : Int) by omega), Int.toNat_natCast] at e1 e2 e3
    walk_at "rd"
    refine ⟨a.w, i, rfl, a, _, R, m, ads, x, rfl, (has_of C), hT', ok', i0, hxi, hx, fun H2 r2 h2 => ?_⟩
    have C := own_after (R := R) (m := m) (ads := ads) C (fun x hx => .inl hx) r2 h2
    have hsn : (sent R ⟨hs', s.sn.set i.toNat (x : Int), s.won, s.k + t⟩ i.toNat x).sn = s.sn.set i.toNat (ent R hs' x) := by simp [sent]
    obtain ⟨y0, y1⟩ := ok.ents x hx _ (ent_mem hok hx)
    walk_at "rd"
    refine b_dec (fun hge => ?_) (fun hlt => ?_)
    · have po : play R (10000 - (t + 1)) (nxt R hs' x) (ent R hs' x) = (nxt R hs' x, ent R hs' x, 0) := play_out hge
      rw [po] at e1 e2 e3
      walk_at "rd"
      refine k _ H2 C.ret ?_
      have es : ledTo R s i.toNat p = sent R ⟨hs', s.sn.set i.toNat (x : Int), s.won, s.k + t⟩ i.toNat x := by
        unfold ledTo sent
        rw [if_pos hge, e1, e2, e3, List.set_set]
        show WS.mk _ _ _ _ = WS.mk _ _ _ _
        congr 1
        show s.k + ((0 + 1 + t : Nat) : Int) = s.k + t + 1
        omega
      rw [es]
      exact fun q hq => C.own q (List.mem_append_left _ hq)
    · have hlt' : ¬ ((R.length : Int) ≤ ent R hs' x) := hlt
      walk_at "rd"
      have es : sent R ⟨hs', s.sn.set i.toNat (x : Int), s.won, s.k + t⟩ i.toNat x = ⟨nxt R hs' x, s.sn.set i.toNat (((ent R hs' x).toNat : Nat) : Int), s.won, s.k + ((t + 1 : Nat) : Int)⟩ := by
        unfold sent
        rw [if_neg (by omega), List.set_set, Int.toNat_of_nonneg y0]
        show WS.mk _ _ _ _ = WS.mk _ _ _ _
        congr 1
        show s.k + t + 1 = _
        omega
      rw [es] at C
      refine ⟨nxt R hs' x, (ent R hs' x).toNat, _, _, _, rfl, rfl, by omega, C, nxt_ok hok hx (ok.len x hx).1, ?_, ?_, ?_⟩
      · rw [Int.toNat_of_nonneg y0]; exact e1
      · rw [Int.toNat_of_nonneg y0]; exact e2
      · rw [Int.toNat_of_nonneg y0, e3]; show _ + 1 + t = _; omega
  · rintro σ H' ⟨hs', x, s', o1, o2, rfl, rfl, hx, C, hok, e1, e2, e3⟩
    exfalso
    have h1 := ph.2.2.1
    rw [e2] at h1
    have h2 : (R.length : Int) ≤ (x : Int) := h1
    omega
end
end K67

end

section
set_option Elab.async false
set_option linter.all false
set_option maxRecDepth 100000
set_option maxHeartbeats 1000000
namespace K67
open PySem PySem.Spec PyProof.Rows L2 Nd M94
set_option hygiene false
local macro_rules | `(tactic| walk_at "hg") => `(tactic| first | assumption | exact C.get 0 rfl | exact C.get 1 rfl | exact C.get 2 rfl | exact C.get 3 rfl | exact C.get 4 rfl | exact C.get 5 rfl | exact C.get 6 rfl | exact C.get 7 rfl | exact C.get 8 rfl | exact C.get 9 rfl)
local macro_rules | `(tactic| walk_at "rd1") => `(tactic| first
  | with_reducible refine u_seq ?_ | with_reducible refine u_asg ?_ | ((with_reducible refine' u_var ?q7hv ?_); (case q7hv => exact rfl)) | with_reducible refine u_c ?_ | with_reducible refine u_op ?_ | with_reducible refine u_if ?_ | with_reducible refine u_ret ?_
  | with_reducible refine u_test ?_ | with_reducible refine u_tB ?_ | with_reducible refine u_and ?_ | with_reducible refine u_or ?_ | with_reducible refine u_not ?_ | with_reducible refine u_call ?_ | with_reducible refine u_cb ?_ | with_reducible refine u_cons ?_ | with_reducible refine u_nil ?_
  | with_reducible refine u_gname ?_ | with_reducible refine u_gcons ?_ | with_reducible refine u_gnil ?_ | with_reducible refine u_gsub ?_ | with_reducible refine u_lst ?_ | with_reducible refine u_tup ?_ | with_reducible refine u_un ?_ | with_reducible refine u_ifE ?_
  | with_reducible refine u_drop ?_ | with_reducible refine u_next ?_ | with_reducible refine u_retN ?_ | with_reducible refine u_tf ?_ | with_reducible refine u_fld ?_ | with_reducible refine u_gfld ?_ | with_reducible refine u_par ?_ | with_reducible refine u_par3 ?_ | with_reducible refine u_meth ?_ | with_reducible refine u_prop ?_ | with_reducible refine u_make ?_
  | with_reducible refine u_bm ?_ | with_reducible refine u_bm0 ?_ | with_reducible refine u_sl ?_ | with_reducible refine u_noPart ?_ | with_reducible refine u_part ?_ | with_reducible refine u_chain ?_ | with_reducible refine u_andV ?_ | with_reducible refine u_orV ?_ | with_reducible refine u_notV ?_
  | with_reducible refine u_listRg ?_ | with_reducible refine u_rg1 ?_ | with_reducible refine u_lc2 ?_ | with_reducible refine u_enum ?_ | with_reducible refine u_zip ?_ | with_reducible refine u_for ?_ | with_reducible refine u_lc ?_ | with_reducible refine u_rng1 ?_ | with_reducible refine u_rng2 ?_ | with_reducible refine u_yes ?_ | with_reducible refine u_brk ?_ | with_reducible refine u_cont ?_
  | with_reducible refine r_add ?_ | with_reducible refine r_sub ?_ | with_reducible refine r_lt ?_ | with_reducible refine r_le ?_ | with_reducible refine r_gt ?_ | with_reducible refine r_ge ?_ | with_reducible refine r_eqI ?_ | with_reducible refine r_neI ?_ | with_reducible refine r_neg ?_ | with_reducible refine r_int ?_ | with_reducible refine r_intB ?_ | with_reducible refine r_abs ?_ | with_reducible refine r_isNi ?_ | with_reducible refine r_isNn ?_ | with_reducible refine r_isNr ?_ | with_reducible refine r_isNs ?_ | with_reducible refine r_notN ?_
  | ((with_reducible refine' r_ixL ?q7hs ?q7ha ?_); (case q7hs => exact SqL.of (by walk_at "hg")); (case q7ha => first | exact rfl | exact atI_nat (by assumption)))
  | ((with_reducible refine' r_ixT ?q7hs ?q7ha ?_); (case q7hs => exact SqT.of (by walk_at "hg")); (case q7ha => first | exact rfl | exact atI_nat (by assumption)))
  | ((with_reducible refine' r_len ?q7hs ?_); (case q7hs => exact SqL.of (by walk_at "hg")))
  | ((with_reducible refine' r_lenT ?q7hs ?_); (case q7hs => exact SqT.of (by walk_at "hg")))
  | ((with_reducible refine' r_mod ?q7c ?_); (case q7c => first | decide | omega)) | ((with_reducible refine' r_div ?q7c ?_); (case q7c => first | (constructor <;> decide) | (constructor <;> omega)))
  | ((with_reducible refine' r_mul ?q7c ?_); (case q7c => first | exact .inl ⟨by omega, by omega⟩ | exact .inr ⟨by omega, by omega⟩))
  | ((with_reducible refine' r_pow ?q7c ?_); (case q7c => exact ⟨by omega, by omega, by omega⟩))
  | with_reducible refine b_nT ?_ | with_reducible refine b_nF ?_ | with_reducible refine iteF ?_ | with_reducible refine iteT ?_
  | with_reducible refine k_blA ?_ | with_reducible refine k_int ?_ | with_reducible refine k_two ?_ | with_reducible refine k_three ?_
  | ((with_reducible refine' k_size ?q7hn ?_); (case q7hn => exact Nat.le_of_ble_eq_true rfl))
  | ((with_reducible refine' k_fld ?q7ha ?q7c ?q7n ?q7hl ?_); (case q7ha => walk_at "hg"); (case q7c => walk_at "cls"); (case q7n => walk_at "att"); (case q7hl => exact rfl))
  | ((with_reducible refine' k_put ?q7ha ?q7c ?q7n ?q7hl ?_); (case q7ha => walk_at "hg"); (case q7c => walk_at "cls"); (case q7n => walk_at "att"); (case q7hl => first | decide | exact Nat.lt_of_lt_of_le (Nat.lt_succ_self _) (Nat.le_of_ble_eq_true rfl)))
  | ((with_reducible refine' k_meth ?q7ha ?q7hl ?_); (case q7ha => walk_at "hg"); (case q7hl => exact rfl))
  | ((with_reducible refine' k_prop ?q7ha ?_); (case q7ha => walk_at "hg")))
local macro_rules | `(tactic| walk_at "rd") => `(tactic| repeat walk_at "rd1")
local macro_rules | `(tactic| walk_at "cls") => `(tactic| first | exact T.c_Board | exact T.c_World)
local macro_rules | `(tactic| walk_at "att") => `(tactic| first | exact T.n_Board_homes | exact T.n_Board_places | exact T.n_Board_rows | exact T.n_World_board | exact T.n_World_shown | exact T.n_World_standing | exact T.n_World_won | exact T.n_World_steps)

def sp_need_board (K : PySem.W.Frag) (A : Adr) : Sp := fun vs H Q E => ∃ (b : Addr) (s : Str), vs = [.ref b, .str s] ∧ ∃ dB fs, H b = some (.ins A.Board dB fs) ∧ Q .non H
def sp_need_hands (K : PySem.W.Frag) (A : Adr) : Sp := fun vs H Q E => ∃ (b h : Addr), vs = [.ref b, .ref h] ∧ ∃ (a : WA) (R : Rows) (m : Nat) (ads : List Addr) (hs : List Int) (kd : Bool), b = a.B ∧ Has H ((h, sqO kd (hs.map V.int)) :: bL A a R m ads) ∧ TRows H ads R ∧ HandsOk R hs ∧ LenOk R ∧ R.length ≤ 60 ∧
  ∀ l H', Ret [] H H' → H l = none → H' l = some (.lst (hs.map V.int)) → Q (.ref l) H'
def sp_World_init (K : PySem.W.Frag) (A : Adr) : Sp := fun vs H Q E => ∃ (x b h : Addr), vs = [.ref x, .ref b, .ref h] ∧ ∃ (a : WA) (R : Rows) (m : Nat) (ads : List Addr) (hs : List Int) (kd : Bool), x = a.w ∧ b = a.B ∧ Has H ((a.w, .ins A.World a.dx []) :: (h, sqO kd (hs.map V.int)) :: bL A a R m ads) ∧ TRows H ads R ∧ HandsOk R hs ∧ LenOk R ∧ R.length ≤ 60 ∧ m ≤ 1000 ∧
  ∀ (sh st wo : Addr) H', Ret [a.w] H H' → H sh = none → H st = none → H wo = none → Has H' (wL A { a with sh := sh, st := st, wo := wo } ⟨hs, [], List.replicate m 0, 0⟩) → Q .non H'
theorem rep_zero (m : Nat) : (List.replicate m [V.int 0]).flatten = (List.replicate m (0 : Int)).map V.int := by
  induction m with
  | zero => rfl
  | succ m ih => rw [List.replicate_succ, List.replicate_succ, List.flatten_cons, ih]; rfl
section
variable {P : Program} {w : World} {K : PySem.W.Frag} {mg : Str → Option Value} {base : Heap} {A : Adr}
theorem ok_World_take (T : Txt K mg A)  : Gv P w K mg base CX0 1 A.World "take" ["self", "other"] [] (sp_World_take K A) := by
  obtain ⟨f, fd, F, hm⟩ := T.v_World_take
  refine ⟨⟨f, fd, [], ?_, hm, F.binds (ps := ["self", "other"]) (fun _ _ _ _ _ _ us hl => match us, hl with | [_, _], _ => rfl), .nil⟩⟩
  refine F.ok sc_World_take (fun vs H Q E h => by first | (obtain ⟨rfl, _⟩ := h; rfl) | (obtain ⟨_, rfl, _⟩ := h; rfl) | (obtain ⟨_, _, rfl, _⟩ := h; rfl) | (obtain ⟨_, _, _, rfl, _⟩ := h; rfl) | (obtain ⟨_, _, _, _, rfl, _⟩ := h; rfl) | (obtain ⟨_, _, _, _, _, rfl, _⟩ := h; rfl) | (obtain ⟨_, _, _, _, _, _, rfl, _⟩ := h; rfl) | (obtain ⟨_, _, _, _, _, _, _, rfl, _⟩ := h; rfl)) (fun cdv A' outer s H vs Q E hr h => ⟨_, (pss_cons (ps_asg (pe_tup (pa_cons (pe_callTy (call_listK K) (by rfl) T.b_list (by decide +kernel) (pa_cons (pe_fldK K (pv 1) rfl) pa_nil)) (pa_cons (pe_callTy (call_listK K) (by rfl) T.b_list (by decide +kernel) (pa_cons (pe_fldK K (pv 1) rfl) pa_nil)) (pa_cons (pe_callTy (call_listK K) (by rfl) T.b_list (by decide +kernel) (pa_cons (pe_fldK K (pv 1) rfl) pa_nil)) pa_nil)))) (pg_tupK K (n := 3) rfl (pgs_cons (pg_fldK K (pv 0)) (pgs_cons (pg_fldK K (pv 0)) (pgs_cons (pg_fldK K (pv 0)) pgs_nil)))))
      (pss_one (ps_fldK K (pv 0) (pe_fldK K (pv 1) rfl) rfl))), ?_⟩)
  obtain ⟨w2, w, rfl, a, s, dx2, v0, v1, v2, v3, v4, rfl, hW, h2, hne, k⟩ := h
  have hn2 : w2 ∉ (wL A a s).map (·.1) := fun z => by
    simp only [wL, List.map_cons, List.map_nil, List.mem_cons, List.not_mem_nil, or_false] at z
    have g1 := hW.2 (a.sh, _) (List.mem_of_getElem? (i := 1) rfl)
    have g2 := hW.2 (a.st, _) (List.mem_of_getElem? (i := 2) rfl)
    have g3 := hW.2 (a.wo, _) (List.mem_of_getElem? (i := 3) rfl)
    rcases z with z | z | z | z
    · exact hne z
    · rw [z, g1] at h2; cases h2
    · rw [z, g2] at h2; cases h2
    · rw [z, g3] at h2; cases h2
  have C : Cur H [w2] H ((w2, .ins A.World dx2 [("board", v0), ("shown", v1), ("standing", v2), ("won", v3), ("steps", v4)]) :: wL A a s) := ⟨List.nodup_cons.mpr ⟨hn2, hW.1⟩, fun p hp => (List.mem_cons.mp hp).elim (fun e => e ▸ h2) (hW.2 p), .refl⟩
  walk_at "rd"
  refine r_listL (SqL.of (C.get 2 rfl)) (new_c C fun l1 H1 l10 C => ?_)
  walk_at "rd"
  refine r_listL (SqL.of (C.get 4 rfl)) (new_c C fun l2 H2 l20 C => ?_)
  walk_at "rd"
  refine r_listL (SqL.of (C.get 6 rfl)) (new_c C fun l3 H3 l30 C => ?_)
  walk_at "rd"
  refine new_c C fun t H4 t0 C => ?_
  refine u_gtup (SqT.of (C.get 0 rfl)) rfl ?_
  walk_at "rd"
  refine mod_c C 4 rfl (.inl (by simp)) fun H5 C => ?_
  walk_at "rd"
  refine mod_c C 4 rfl (.inl (by simp)) fun H6 C => ?_
  walk_at "rd"
  refine mod_c C 4 rfl (.inl (by simp)) fun H7 C => ?_
  walk_at "rd"
  refine mod_c C 4 rfl (.inl (by simp)) fun H8 C => ?_
  exact k H8 C.ret
theorem ok_need_board (T : Txt K mg A)  : Gd P w K mg base CX0 1 "need_board" ["value", "part"] [.str "board"] (sp_need_board K A) := by
  obtain ⟨f, fd, F, hm⟩ := T.f_need_board
  obtain ⟨ds, hv, hb⟩ := F.binds1 (ps := ["value", "part"]) 1 0 (by simp) rfl (fun _ _ _ _ _ _ _ us its l1 l2 => match us, its, l1, l2 with | [_], [_], _, _ => ⟨_, rfl, rfl⟩)
  refine ⟨⟨f, fd, ds, ?_, hm, F.kp, hb, hv⟩⟩
  refine FunD.ok F sc_need_board (fun vs H Q E h => by first | (obtain ⟨rfl, _⟩ := h; rfl) | (obtain ⟨_, rfl, _⟩ := h; rfl) | (obtain ⟨_, _, rfl, _⟩ := h; rfl) | (obtain ⟨_, _, _, rfl, _⟩ := h; rfl) | (obtain ⟨_, _, _, _, rfl, _⟩ := h; rfl) | (obtain ⟨_, _, _, _, _, rfl, _⟩ := h; rfl) | (obtain ⟨_, _, _, _, _, _, rfl, _⟩ := h; rfl) | (obtain ⟨_, _, _, _, _, _, _, rfl, _⟩ := h; rfl)) (fun cdv A' outer s H vs Q E hr h => ⟨_, PSs.nox (X := cxOf CX0 P w K mg base N_need_board "need_board" (defScope s_need_board) f cdv A' outer s H E) (pss_one (ps_if (pt_not (pt_val (pe_callB (C8.call_isC T.s_Board) (by rfl) T.b_isinstance (by decide +kernel) (pa_cons (pv 0) (pa_cons (pe_glob (v := .ref A.Board) (by rfl) T.g_Board rfl) pa_nil))))) (pss_one ps_never) pss_nil)), ?_⟩)
  obtain ⟨b, s, rfl, dB, fs, hb, k⟩ := h
  walk_at "rd"
  refine ⟨b, dB, fs, rfl, hb, ?_⟩
  walk_at "rd"
  exact k
theorem ok_need_hands (T : Txt K mg A) (G_is_within : Gd P w K mg base CX0 2 "is_within" ["value", "least", "most"] [] (sp_is_within K A)) : Gd P w K mg base CX0 3 "need_hands" ["board", "value"] [] (sp_need_hands K A) := by
  obtain ⟨f, fd, F, hm⟩ := T.f_need_hands
  refine ⟨⟨f, fd, [], ?_, hm, F.kp, F.binds (ps := ["board", "value"]) (fun _ _ _ _ _ _ us hl => match us, hl with | [_, _], _ => rfl), .nil⟩⟩
  refine F.ok sc_need_hands (fun vs H Q E h => by first | (obtain ⟨rfl, _⟩ := h; rfl) | (obtain ⟨_, rfl, _⟩ := h; rfl) | (obtain ⟨_, _, rfl, _⟩ := h; rfl) | (obtain ⟨_, _, _, rfl, _⟩ := h; rfl) | (obtain ⟨_, _, _, _, rfl, _⟩ := h; rfl) | (obtain ⟨_, _, _, _, _, rfl, _⟩ := h; rfl) | (obtain ⟨_, _, _, _, _, _, rfl, _⟩ := h; rfl) | (obtain ⟨_, _, _, _, _, _, _, rfl, _⟩ := h; rfl)) (fun cdv A' outer s H vs Q E hr h => ⟨_, (pss_cons (ps_if (PW.pt (pw_or (pt_not (pt_val (pe_callB (call_isiTK K) (by rfl) T.b_isinstance (by decide +kernel) (pa_cons (pv 1) (pa_cons (pe_tup (pa_cons (pe_bltn (v := .ty "list") (by rfl) T.b_list (by decide +kernel) rfl) (pa_cons (pe_bltn (v := .ty "tuple") (by rfl) T.b_tuple (by decide +kernel) rfl) pa_nil))) pa_nil))))) (pw_or1 (pt_cmpR (op_neK K hr.units) (pe_callB (call_lenK K) (by rfl) T.b_len PySem.boot_len (pa_cons (pv 1) pa_nil)) (pe_fldK K (pv 0) rfl) (nomark _))))) (pss_one ps_never) pss_nil)
      (pss_cons (ps_if (pt_not (pt_val (pe_callB (call_allK K rfl) (by rfl) T.b_all (by decide +kernel) (pa_cons (pe_lc (own := [("hand", 2), ("row", 3)]) rfl sc_need_hands.nd (pi_zipUK K true (by rfl) T.b_zip (pa_cons (pv 1) (pa_cons (pe_fldK K (pv 0) rfl) pa_nil))) (blkOk_by (N := N_need_hands) (sc := defScope s_need_hands) (own := [("hand", 2), ("row", 3)]) (by decide +kernel)) (fun _ _ _ _ _ => (pg_tupK K (n := 2) rfl (pgs_cons (pg_name (i := 2) sc_need_hands.nd rfl (by first | exact .inl rfl | exact .inr rfl)) (pgs_cons (pg_name (i := 3) sc_need_hands.nd rfl (by first | exact .inl rfl | exact .inr rfl)) pgs_nil)))) (fun _ _ _ _ _ => pts_nil) (fun _ _ _ _ _ => (pe_callG G_is_within (hr.mono (by decide)) (by rfl) pass0 (pa_cons (pv 2) (pa_cons pe_int (pa_cons (pe_op op_subI (pe_callB (call_lenK K) (by rfl) T.b_len PySem.boot_len (pa_cons (pv 3) pa_nil)) pe_int) pa_nil)))))) pa_nil)))) (pss_one ps_never) pss_nil)
      (pss_one (ps_ret (pe_callTy (call_listK K) (by rfl) T.b_list (by decide +kernel) (pa_cons (pv 1) pa_nil)))))), ?_⟩)
  obtain ⟨b, h, rfl, a, R, m, ads, hs, kd, rfl, hW, hT, ok, lk, n1, k⟩ := h
  have hl : hs.length = R.length := ok.1
  cases kd with
  | false =>
    have C : Cur H [] H ((h, .lst (hs.map V.int)) :: bL A a R m ads) := hW.cur
    walk_at "rd"
    refine new_c C fun t1 H1 t10 C => ?_
    walk_at "rd"
    refine q_isSeqL (C.get 0 rfl) (C.get 1 rfl) ?_
    walk_at "rd"
    refine b_f (by simp [hl]) ?_
    walk_at "rd"
    refine u_zipUL ?_
    walk_at "rd"
    refine k_zip (xs := hs.map V.int) (ys := ads.map V.ref) (SqL.of (C.get 1 rfl)) (SqT.of (C.get 3 rfl)) ?_
    refine lc_z (k1 := false) (k2 := true) (xs := hs.map V.int) (ys := ads.map V.ref) (by rw [List.length_map, List.length_map, hT.1, hl]) C (fun D i H' => Cur H [] H' [(D, .lst ((List.replicate i true).map V.bl)), (h, .lst (hs.map V.int)), (a.t, .tup (ads.map V.ref))])
      (fun D H1 D0 C => C.sub (by have := C.nd; simp only [List.map_cons, List.map_nil, List.nodup_cons, List.mem_cons, List.not_mem_nil, or_false, not_or] at this ⊢; simp [this]) (by simp))
      (fun D i H' hi C => ⟨SqL.of (C.get 1 rfl), SqT.of (C.get 2 rfl)⟩) (fun D i x y H' D0 hx hy C => ?_) (fun D H' D0 C => ?_)
    · obtain ⟨n, hn, rfl⟩ := int_of hx
      have hin : i < hs.length := (List.getElem?_eq_some_iff.mp hn).1
      obtain ⟨ar, har, rfl⟩ : ∃ ar, ads[i]? = some ar ∧ y = .ref ar := by
        rw [List.getElem?_map] at hy
        cases e : ads[i]? with
        | none => rw [e] at hy; cases hy
        | some ar => rw [e] at hy; exact ⟨ar, rfl, (Option.some.inj hy).symm⟩
      obtain ⟨b0, b1⟩ := ok.2 i (by omega)
      have hgd : hs.getD i 0 = n := by rw [List.getD_eq_getElem?_getD, hn]; rfl
      rw [hgd] at b0 b1
      refine new_c C fun t H2 t0 C => ?_
      have harr := C.ret.tup (fun s hs => nomatch hs) (hT.2 _ _ har)
      refine u_gtup (SqT.of (C.get 0 rfl)) rfl ?_
      walk_at "rd"
      refine ⟨rfl, ?_⟩
      walk_at "rd"
      refine ⟨n, 0, _, rfl, ?_⟩
      rw [show (decide ((0 : Int) ≤ n) && decide (n ≤ (((row R i).map V.int).length : Int) - 1)) = true by rw [len_map]; simp [b0]; omega]
      refine k_acc (C.get 1 rfl) (by rw [List.length_map, List.length_replicate]; omega) ?_
      refine mod_c C 1 rfl (.inr D0) fun H3 C => ?_
      have e : (List.replicate i true).map V.bl ++ [V.bl true] = (List.replicate (i + 1) true).map V.bl := by rw [List.replicate_succ', List.map_append]; rfl
      have C' := C.drop
      have C'' : Cur H [] H3 [(D, .lst ((List.replicate i true).map V.bl ++ [V.bl true])), (h, .lst (hs.map V.int)), (a.t, .tup (ads.map V.ref))] := C'
      rw [e] at C''
      exact C''
    · walk_at "rd"
      refine ⟨D, _, rfl, SqL.of (C.get 0 rfl), ?_⟩
      rw [show (List.replicate (hs.map V.int).length true).all id = true by simp]
      walk_at "rd"
      refine r_listL (SqL.of (C.get 1 rfl)) (new_c C fun l H1 l0 C => k l H1 C.ret l0 (C.get 0 rfl))
  | true =>
    have C : Cur H [] H ((h, .tup (hs.map V.int)) :: bL A a R m ads) := hW.cur
    walk_at "rd"
    refine new_c C fun t1 H1 t10 C => ?_
    walk_at "rd"
    refine q_isSeqT (C.get 0 rfl) (C.get 1 rfl) ?_
    walk_at "rd"
    refine b_f (by simp [hl]) ?_
    walk_at "rd"
    refine u_zipUT ?_
    walk_at "rd"
    refine k_zip (xs := hs.map V.int) (ys := ads.map V.ref) (SqT.of (C.get 1 rfl)) (SqT.of (C.get 3 rfl)) ?_
    refine lc_z (k1 := true) (k2 := true) (xs := hs.map V.int) (ys := ads.map V.ref) (by rw [List.length_map, List.length_map, hT.1, hl]) C (fun D i H' => Cur H [] H' [(D, .lst ((List.replicate i true).map V.bl)), (h, .tup (hs.map V.int)), (a.t, .tup (ads.map V.ref))])
      (fun D H1 D0 C => C.sub (by have := C.nd; simp only [List.map_cons, List.map_nil, List.nodup_cons, List.mem_cons, List.not_mem_nil, or_false, not_or] at this ⊢; simp [this]) (by simp))
      (fun D i H' hi C => ⟨SqT.of (C.get 1 rfl), SqT.of (C.get 2 rfl)⟩) (fun D i x y H' D0 hx hy C => ?_) (fun D H' D0 C => ?_)
    · obtain ⟨n, hn, rfl⟩ := int_of hx
      have hin : i < hs.length := (List.getElem?_eq_some_iff.mp hn).1
      obtain ⟨ar, har, rfl⟩ : ∃ ar, ads[i]? = some ar ∧ y = .ref ar := by
        rw [List.getElem?_map] at hy
        cases e : ads[i]? with
        | none => rw [e] at hy; cases hy
        | some ar => rw [e] at hy; exact ⟨ar, rfl, (Option.some.inj hy).symm⟩
      obtain ⟨b0, b1⟩ := ok.2 i (by omega)
      have hgd : hs.getD i 0 = n := by rw [List.getD_eq_getElem?_getD, hn]; rfl
      rw [hgd] at b0 b1
      refine new_c C fun t H2 t0 C => ?_
      have harr := C.ret.tup (fun s hs => nomatch hs) (hT.2 _ _ har)
      refine u_gtup (SqT.of (C.get 0 rfl)) rfl ?_
      walk_at "rd"
      refine ⟨rfl, ?_⟩
      walk_at "rd"
      refine ⟨n, 0, _, rfl, ?_⟩
      rw [show (decide ((0 : Int) ≤ n) && decide (n ≤ (((row R i).map V.int).length : Int) - 1)) = true by rw [len_map]; simp [b0]; omega]
      refine k_acc (C.get 1 rfl) (by rw [List.length_map, List.length_replicate]; omega) ?_
      refine mod_c C 1 rfl (.inr D0) fun H3 C => ?_
      have e : (List.replicate i true).map V.bl ++ [V.bl true] = (List.replicate (i + 1) true).map V.bl := by rw [List.replicate_succ', List.map_append]; rfl
      have C' := C.drop
      have C'' : Cur H [] H3 [(D, .lst ((List.replicate i true).map V.bl ++ [V.bl true])), (h, .tup (hs.map V.int)), (a.t, .tup (ads.map V.ref))] := C'
      rw [e] at C''
      exact C''
    · walk_at "rd"
      refine ⟨D, _, rfl, SqL.of (C.get 0 rfl), ?_⟩
      rw [show (List.replicate (hs.map V.int).length true).all id = true by simp]
      walk_at "rd"
      refine r_listT (SqT.of (C.get 1 rfl)) (new_c C fun l H1 l0 C => k l H1 C.ret l0 (C.get 0 rfl))
theorem ok_World_init (T : Txt K mg A) (G_need_board : Gd P w K mg base CX0 1 "need_board" ["value", "part"] [.str "board"] (sp_need_board K A)) (G_need_hands : Gd P w K mg base CX0 3 "need_hands" ["board", "value"] [] (sp_need_hands K A)) : Gm P w K mg base CX0 4 "World" A.World ["self", "board", "hands"] [] (sp_World_init K A) := by
  obtain ⟨f, fd, F, hm, hk⟩ := T.v_World_init
  refine ⟨⟨f, fd, [], ?_, hk, hm, F.binds (ps := ["self", "board", "hands"]) (fun _ _ _ _ _ _ us hl => match us, hl with | [_, _, _], _ => rfl), .nil⟩⟩
  refine F.ok sc_World_init (fun vs H Q E h => by first | (obtain ⟨rfl, _⟩ := h; rfl) | (obtain ⟨_, rfl, _⟩ := h; rfl) | (obtain ⟨_, _, rfl, _⟩ := h; rfl) | (obtain ⟨_, _, _, rfl, _⟩ := h; rfl) | (obtain ⟨_, _, _, _, rfl, _⟩ := h; rfl) | (obtain ⟨_, _, _, _, _, rfl, _⟩ := h; rfl) | (obtain ⟨_, _, _, _, _, _, rfl, _⟩ := h; rfl) | (obtain ⟨_, _, _, _, _, _, _, rfl, _⟩ := h; rfl)) (fun cdv A' outer s H vs Q E hr h => ⟨_, (pss_cons (ps_expr (pe_callG G_need_board (hr.mono (by decide)) (by rfl) pass0 (pa_cons (pv 1) pa_nil)))
      (pss_cons (ps_fldK K (pv 0) (pv 1) rfl)
      (pss_cons (ps_fldK K (pv 0) (pe_callG G_need_hands (hr.mono (by decide)) (by rfl) pass0 (pa_cons (pv 1) (pa_cons (pv 2) pa_nil))) rfl)
      (pss_cons (ps_fldK K (pv 0) (pe_lst pa_nil) rfl)
      (pss_cons (ps_fldK K (pv 0) (pe_op op_mulU (pe_lst (pa_cons pe_int pa_nil)) (pe_fldK K (pv 1) rfl)) rfl)
      (pss_one (ps_fldK K (pv 0) pe_int rfl))))))), ?_⟩)
  obtain ⟨x, b, h, rfl, a, R, m, ads, hs, kd, rfl, rfl, hW, hT, ok, lk, n1, hm, k⟩ := h
  have C : Cur H [a.w] H ((a.w, .ins A.World a.dx []) :: (h, sqO kd (hs.map V.int)) :: bL A a R m ads) := hW.cur
  walk_at "rd"
  refine ⟨a.B, "board", rfl, a.dB, _, C.get 2 rfl, ?_⟩
  walk_at "rd"
  refine mod_c C 0 rfl (.inl (by simp)) fun H1 C => ?_
  have nt : ∀ s ∈ [a.w], ∀ xs, H s ≠ some (.tup xs) := fun s hs xs e => by
    rw [List.mem_singleton.mp hs] at e
    rw [hW.2 (a.w, _) (List.mem_cons_self)] at e; cases e
  walk_at "rd"
  refine ⟨a.B, h, rfl, a, R, m, ads, hs, kd, rfl, has_of C.drop, hT.to C.ret nt, ok, lk, n1, fun sh H2 r2 sh0 e2 => ?_⟩
  have f1 := C.fresh sh0
  replace C := C.call0n r2 sh0 e2
  walk_at "rd"
  refine mod_c C 1 rfl (.inl (by simp)) fun H3 C => ?_
  walk_at "rd"
  refine new_c C fun st H4 f2 C => ?_
  walk_at "rd"
  refine mod_c C 2 rfl (.inl (by simp)) fun H5 C => ?_
  walk_at "rd"
  refine new_c C fun z0 H6 z00 C => ?_
  walk_at "rd"
  refine r_rep (C.get 0 rfl) (by omega) (by omega) (by simp) ?_
  refine new_c C fun wo H7 f3 C => ?_
  walk_at "rd"
  refine mod_c C 4 rfl (.inl (by simp)) fun H8 C => ?_
  walk_at "rd"
  refine mod_c C 4 rfl (.inl (by simp)) fun H9 C => ?_
  walk_at "rd"
  refine k sh st wo H9 C.ret f1 f2 f3 ?_
  rw [Int.toNat_natCast, rep_zero] at C
  exact has_of (C.sub (L' := wL A { a with sh := sh, st := st, wo := wo } ⟨hs, [], List.replicate m 0, 0⟩) (by have := C.nd; simp only [List.map_cons, List.map_nil, List.nodup_cons, List.mem_cons, List.not_mem_nil, or_false, not_or, List.set_cons_succ, List.set_cons_zero] at this ⊢; simp [this, Ne.symm]) (fun q hq => by
    simp only [wL, List.mem_cons, List.not_mem_nil, or_false] at hq
    rcases hq with rfl | rfl | rfl | rfl
    · exact List.mem_of_getElem? (i := 4) rfl
    · exact List.mem_of_getElem? (i := 3) rfl
    · exact List.mem_of_getElem? (i := 2) rfl
    · exact List.mem_of_getElem? (i := 0) rfl))
end
end K67

end

section
set_option Elab.async false
set_option linter.all false
set_option maxRecDepth 100000
set_option maxHeartbeats 1000000
namespace K67
open PySem PySem.Spec PyProof.Rows L2 Nd M94
set_option hygiene false
local macro_rules | `(tactic| walk_at "hg") => `(tactic| first | assumption | exact C.get 0 rfl | exact C.get 1 rfl | exact C.get 2 rfl | exact C.get 3 rfl | exact C.get 4 rfl | exact C.get 5 rfl | exact C.get 6 rfl | exact C.get 7 rfl | exact C.get 8 rfl | exact C.get 9 rfl)
local macro_rules | `(tactic| walk_at "rd1") => `(tactic| first
  | with_reducible refine u_seq ?_ | with_reducible refine u_asg ?_ | ((with_reducible refine' u_var ?q7hv ?_); (case q7hv => exact rfl)) | with_reducible refine u_c ?_ | with_reducible refine u_op ?_ | with_reducible refine u_if ?_ | with_reducible refine u_ret ?_
  | with_reducible refine u_test ?_ | with_reducible refine u_tB ?_ | with_reducible refine u_and ?_ | with_reducible refine u_or ?_ | with_reducible refine u_not ?_ | with_reducible refine u_call ?_ | with_reducible refine u_cb ?_ | with_reducible refine u_cons ?_ | with_reducible refine u_nil ?_
  | with_reducible refine u_gname ?_ | with_reducible refine u_gcons ?_ | with_reducible refine u_gnil ?_ | with_reducible refine u_gsub ?_ | with_reducible refine u_lst ?_ | with_reducible refine u_tup ?_ | with_reducible refine u_un ?_ | with_reducible refine u_ifE ?_
  | with_reducible refine u_drop ?_ | with_reducible refine u_next ?_ | with_reducible refine u_retN ?_ | with_reducible refine u_tf ?_ | with_reducible refine u_fld ?_ | with_reducible refine u_gfld ?_ | with_reducible refine u_par ?_ | with_reducible refine u_par3 ?_ | with_reducible refine u_meth ?_ | with_reducible refine u_prop ?_ | with_reducible refine u_make ?_
  | with_reducible refine u_bm ?_ | with_reducible refine u_bm0 ?_ | with_reducible refine u_sl ?_ | with_reducible refine u_noPart ?_ | with_reducible refine u_part ?_ | with_reducible refine u_chain ?_ | with_reducible refine u_andV ?_ | with_reducible refine u_orV ?_ | with_reducible refine u_notV ?_
  | with_reducible refine u_listRg ?_ | with_reducible refine u_rg1 ?_ | with_reducible refine u_lc2 ?_ | with_reducible refine u_enum ?_ | with_reducible refine u_zip ?_ | with_reducible refine u_for ?_ | with_reducible refine u_lc ?_ | with_reducible refine u_rng1 ?_ | with_reducible refine u_rng2 ?_ | with_reducible refine u_yes ?_ | with_reducible refine u_brk ?_ | with_reducible refine u_cont ?_
  | with_reducible refine r_add ?_ | with_reducible refine r_sub ?_ | with_reducible refine r_lt ?_ | with_reducible refine r_le ?_ | with_reducible refine r_gt ?_ | with_reducible refine r_ge ?_ | with_reducible refine r_eqI ?_ | with_reducible refine r_neI ?_ | with_reducible refine r_neg ?_ | with_reducible refine r_int ?_ | with_reducible refine r_intB ?_ | with_reducible refine r_abs ?_ | with_reducible refine r_isNi ?_ | with_reducible refine r_isNn ?_ | with_reducible refine r_isNr ?_ | with_reducible refine r_isNs ?_ | with_reducible refine r_notN ?_
  | ((with_reducible refine' r_ixL ?q7hs ?q7ha ?_); (case q7hs => exact SqL.of (by walk_at "hg")); (case q7ha => first | exact rfl | exact atI_nat (by assumption)))
  | ((with_reducible refine' r_ixT ?q7hs ?q7ha ?_); (case q7hs => exact SqT.of (by walk_at "hg")); (case q7ha => first | exact rfl | exact atI_nat (by assumption)))
  | ((with_reducible refine' r_len ?q7hs ?_); (case q7hs => exact SqL.of (by walk_at "hg")))
  | ((with_reducible refine' r_lenT ?q7hs ?_); (case q7hs => exact SqT.of (by walk_at "hg")))
  | ((with_reducible refine' r_mod ?q7c ?_); (case q7c => first | decide | omega)) | ((with_reducible refine' r_div ?q7c ?_); (case q7c => first | (constructor <;> decide) | (constructor <;> omega)))
  | ((with_reducible refine' r_mul ?q7c ?_); (case q7c => first | exact .inl ⟨by omega, by omega⟩ | exact .inr ⟨by omega, by omega⟩))
  | ((with_reducible refine' r_pow ?q7c ?_); (case q7c => exact ⟨by omega, by omega, by omega⟩))
  | with_reducible refine b_nT ?_ | with_reducible refine b_nF ?_ | with_reducible refine iteF ?_ | with_reducible refine iteT ?_
  | with_reducible refine k_blA ?_ | with_reducible refine k_int ?_ | with_reducible refine k_two ?_ | with_reducible refine k_three ?_
  | ((with_reducible refine' k_size ?q7hn ?_); (case q7hn => exact Nat.le_of_ble_eq_true rfl))
  | ((with_reducible refine' k_fld ?q7ha ?q7c ?q7n ?q7hl ?_); (case q7ha => walk_at "hg"); (case q7c => walk_at "cls"); (case q7n => walk_at "att"); (case q7hl => exact rfl))
  | ((with_reducible refine' k_put ?q7ha ?q7c ?q7n ?q7hl ?_); (case q7ha => walk_at "hg"); (case q7c => walk_at "cls"); (case q7n => walk_at "att"); (case q7hl => first | decide | exact Nat.lt_of_lt_of_le (Nat.lt_succ_self _) (Nat.le_of_ble_eq_true rfl)))
  | ((with_reducible refine' k_meth ?q7ha ?q7hl ?_); (case q7ha => walk_at "hg"); (case q7hl => exact rfl))
  | ((with_reducible refine' k_prop ?q7ha ?_); (case q7ha => walk_at "hg")))
local macro_rules | `(tactic| walk_at "rd") => `(tactic| repeat walk_at "rd1")
local macro_rules | `(tactic| walk_at "cls") => `(tactic| first | exact T.c_Board | exact T.c_World)
local macro_rules | `(tactic| walk_at "att") => `(tactic| first | exact T.n_Board_homes | exact T.n_Board_places | exact T.n_Board_rows | exact T.n_World_board | exact T.n_World_shown | exact T.n_World_standing | exact T.n_World_won | exact T.n_World_steps)

def sp_World_copy (K : PySem.W.Frag) (A : Adr) : Sp := fun vs H Q E => ∃ w : Addr, vs = [.ref w] ∧ ∃ (a : WA) (s : WS) (R : Rows) (m : Nat) (ads : List Addr), w = a.w ∧ Has H (wL A a s ++ bL A a R m ads) ∧ TRows H ads R ∧ WOk R m s ∧ m ≤ 1000 ∧ ∀ q H', Ret [] H H' → Q (.ref q) H'
def sp_World_led (K : PySem.W.Frag) (A : Adr) : Sp := fun vs H Q E => ∃ (w : Addr) (i : Int), vs = [.ref w, .int i, .int 10000] ∧ ∃ (a : WA) (s : WS) (R : Rows) (m : Nat) (rk gd : Nat → Nat) (ads : List Addr) (p : Nat), w = a.w ∧ Has H (wL A a s ++ bL A a R m ads) ∧ TRows H ads R ∧ WOk R m s ∧ Good R m rk gd ∧ m ≤ 1000 ∧ 0 ≤ i ∧ s.sn[i.toNat]? = some (p : Int) ∧ p < R.length ∧
  ∀ (v : Int) H', Ret (wS a) H H' → (∀ q ∈ wL A a (ledTo R s i.toNat p), H' q.1 = some q.2) → Q (.int v) H'
def sp_World_enter (K : PySem.W.Frag) (A : Adr) : Sp := fun vs H Q E => ∃ (w : Addr) (p : Int), vs = [.ref w, .int p] ∧ ∃ (a : WA) (s : WS) (R : Rows) (m : Nat) (ads : List Addr), w = a.w ∧ Has H (wL A a s ++ bL A a R m ads) ∧ 0 ≤ p ∧ p < (R.length : Int) ∧ s.sn.length < 200 ∧
  ∀ H', Ret (wS a) H H' → (∀ q ∈ wL A a { s with sn := s.sn ++ [p] }, H' q.1 = some q.2) → Q (.int s.sn.length) H'
def sp_World_play (K : PySem.W.Frag) (A : Adr) : Sp := fun vs H Q E => ∃ (w : Addr) (p : Nat), vs = [.ref w, .int p, .int 10000] ∧ ∃ (a : WA) (s : WS) (R : Rows) (m : Nat) (rk gd : Nat → Nat) (ads : List Addr), w = a.w ∧ Has H (wL A a s ++ bL A a R m ads) ∧ TRows H ads R ∧ WOk R m s ∧ Good R m rk gd ∧ m ≤ 1000 ∧ p < R.length ∧ s.sn.length < 200 ∧
  ∀ (v : Int) H', Ret (wS a) H H' → (∀ q ∈ wL A a (ledTo R { s with sn := s.sn ++ [(p : Int)] } s.sn.length p), H' q.1 = some q.2) → Q (.int v) H'
section
variable {P : Program} {w : World} {K : PySem.W.Frag} {mg : Str → Option Value} {base : Heap} {A : Adr}
theorem ok_World_copy (T : Txt K mg A) (G_World_init : Gm P w K mg base CX0 4 "World" A.World ["self", "board", "hands"] [] (sp_World_init K A)) (G_World_take : Gv P w K mg base CX0 1 A.World "take" ["self", "other"] [] (sp_World_take K A)) : Gv P w K mg base CX0 6 A.World "copy" ["self"] [] (sp_World_copy K A) := by
  obtain ⟨f, fd, F, hm⟩ := T.v_World_copy
  refine ⟨⟨f, fd, [], ?_, hm, F.binds (ps := ["self"]) (fun _ _ _ _ _ _ us hl => match us, hl with | [_], _ => rfl), .nil⟩⟩
  refine F.ok sc_World_copy (fun vs H Q E h => by first | (obtain ⟨rfl, _⟩ := h; rfl) | (obtain ⟨_, rfl, _⟩ := h; rfl) | (obtain ⟨_, _, rfl, _⟩ := h; rfl) | (obtain ⟨_, _, _, rfl, _⟩ := h; rfl) | (obtain ⟨_, _, _, _, rfl, _⟩ := h; rfl) | (obtain ⟨_, _, _, _, _, rfl, _⟩ := h; rfl) | (obtain ⟨_, _, _, _, _, _, rfl, _⟩ := h; rfl) | (obtain ⟨_, _, _, _, _, _, _, rfl, _⟩ := h; rfl)) (fun cdv A' outer s H vs Q E hr h => ⟨_, (pss_cons (ps_set (i := 1) sc_World_copy.nd rfl (.inl rfl) (pe_makeG G_World_init (hr.mono (by decide)) (by rfl) pass0 (pa_cons (pe_fldK K (pv 0) rfl) (pa_cons (pe_fldK K (pv 0) rfl) pa_nil))))
      (pss_cons (ps_expr (pe_methG G_World_take T.c_World (hr.mono (by decide)) pass0 (pv 1) (pa_cons (pv 0) pa_nil)))
      (pss_one (ps_ret (pv 1))))), ?_⟩)
  obtain ⟨w, rfl, a, s, R, m, ads, rfl, hW, hT, ok, hm, k⟩ := h
  have C : Cur H [] H (wL A a s ++ bL A a R m ads) := hW.cur
  walk_at "rd"
  refine make_c C fun x dx H1 x0 dx0 C => ?_
  have hi : Has H1 ((x, .ins A.World dx []) :: (a.sh, .lst (s.hs.map V.int)) :: bL A a R m ads) := has_of (C.sub (by have := C.nd; simp only [wL, bL, List.map_append, List.cons_append, List.nil_append, List.map_cons, List.map_nil, List.nodup_cons, List.mem_cons, List.not_mem_nil, or_false, not_or] at this ⊢; simp [this]) (by simp))
  refine ⟨x, a.B, a.sh, rfl, { a with w := x, dx := dx }, R, m, ads, s.hs, false, rfl, rfl, hi, hT.to C.ret (fun _ z => nomatch z), ok.hok, ok.len, ok.n1, hm, fun sh st wo H2 r2 f1 f2 f3 h2 => ⟨rfl, ?_⟩⟩
  have C := C.call1 0 rfl (.inr x0) r2 (h2.2 _ (List.mem_cons_self))
  walk_at "rd"
  refine ⟨x, a.w, rfl, a, s, dx, _, _, _, _, _, rfl, (has_of (C.drop.drop)).left, C.get 0 rfl, C.ne 0 2 rfl rfl (by decide), fun H3 r3 => ?_⟩
  walk_at "rd"
  exact k x H3 (C.retTo r3 fun y hy => .inr (by rw [List.mem_singleton.mp hy]; exact x0))
theorem ok_World_led (T : Txt K mg A) (G_World_need_out : Gv P w K mg base CX0 4 A.World "need_out" ["self", "walker"] [] (sp_World_need_out K A)) (G_need_number : Gd P w K mg base CX0 3 "need_number" ["value", "part", "least", "most"] [] (sp_need_number K A)) (G_World_need_away : Gv P w K mg base CX0 1 A.World "need_away" ["self", "walker"] [] (sp_World_need_away K A)) (G_World_sent_home : Gv P w K mg base CX0 2 A.World "sent_home" ["self", "walker", "most", "before"] [] (sp_World_sent_home K A)) (G_World_copy : Gv P w K mg base CX0 6 A.World "copy" ["self"] [] (sp_World_copy K A)) : Gv P w K mg base CX0 7 A.World "led" ["self", "walker", "most"] [] (sp_World_led K A) := by
  obtain ⟨f, fd, F, hm⟩ := T.v_World_led
  refine ⟨⟨f, fd, [], ?_, hm, F.binds (ps := ["self", "walker", "most"]) (fun _ _ _ _ _ _ us hl => match us, hl with | [_, _, _], _ => rfl), .nil⟩⟩
  refine F.ok sc_World_led (fun vs H Q E h => by first | (obtain ⟨rfl, _⟩ := h; rfl) | (obtain ⟨_, rfl, _⟩ := h; rfl) | (obtain ⟨_, _, rfl, _⟩ := h; rfl) | (obtain ⟨_, _, _, rfl, _⟩ := h; rfl) | (obtain ⟨_, _, _, _, rfl, _⟩ := h; rfl) | (obtain ⟨_, _, _, _, _, rfl, _⟩ := h; rfl) | (obtain ⟨_, _, _, _, _, _, rfl, _⟩ := h; rfl) | (obtain ⟨_, _, _, _, _, _, _, rfl, _⟩ := h; rfl)) (fun cdv A' outer s H vs Q E hr h => ⟨_, (pss_cons (ps_expr (pe_methG G_World_need_out T.c_World (hr.mono (by decide)) pass0 (pv 0) (pa_cons (pv 1) pa_nil)))
      (pss_cons (ps_expr (pe_callG G_need_number (hr.mono (by decide)) (by rfl) pass0 (pa_cons (pv 2) (pa_cons pe_str (pa_cons pe_int (pa_cons (pe_K_MOST_STEPS T) pa_nil))))))
      (pss_cons (ps_expr (pe_methG G_World_need_away T.c_World (hr.mono (by decide)) pass0 (pv 0) (pa_cons (pv 1) pa_nil)))
      (pss_one (ps_ret (pe_methG G_World_sent_home T.c_World (hr.mono (by decide)) pass0 (pv 0) (pa_cons (pv 1) (pa_cons (pv 2) (pa_cons (pe_meth0G G_World_copy T.c_World (hr.mono (by decide)) pass0 (pv 0)) pa_nil))))))))), ?_⟩)
  obtain ⟨w, i, rfl, a, s, R, m, rk, gd, ads, p, rfl, hW, hT, ok, G, hm, i0, hp, hpR, k⟩ := h
  have C : Cur H [] H (wL A a s ++ bL A a R m ads) := hW.cur
  walk_at "rd"
  refine ⟨a.w, i, rfl, a, s, rfl, hW.left, i0, len_of i0 hp, ?_⟩
  walk_at "rd"
  refine ⟨10000, "most", 1, 10000, rfl, by decide, by decide, ?_⟩
  walk_at "rd"
  refine ⟨a.w, i, rfl, a, s, R, m, ads, p, rfl, hW, i0, hp, hpR, ?_⟩
  walk_at "rd"
  refine ⟨a.w, rfl, a, s, R, m, ads, rfl, hW, hT, ok, hm, fun q H1 r1 => ?_⟩
  have C := C.call0 r1
  walk_at "rd"
  refine ⟨a.w, q, i, rfl, a, s, R, m, rk, gd, ads, p, rfl, has_of C, hT.to r1 (fun _ z => nomatch z), ok, G, i0, hp, hpR, fun v H2 r2 h2 => ?_⟩
  exact k v H2 (r1.nil.trans r2) h2
theorem ok_World_enter (T : Txt K mg A) (G_need_number : Gd P w K mg base CX0 3 "need_number" ["value", "part", "least", "most"] [] (sp_need_number K A)) : Gv P w K mg base CX0 4 A.World "enter" ["self", "place"] [] (sp_World_enter K A) := by
  obtain ⟨f, fd, F, hm⟩ := T.v_World_enter
  refine ⟨⟨f, fd, [], ?_, hm, F.binds (ps := ["self", "place"]) (fun _ _ _ _ _ _ us hl => match us, hl with | [_, _], _ => rfl), .nil⟩⟩
  refine F.ok sc_World_enter (fun vs H Q E h => by first | (obtain ⟨rfl, _⟩ := h; rfl) | (obtain ⟨_, rfl, _⟩ := h; rfl) | (obtain ⟨_, _, rfl, _⟩ := h; rfl) | (obtain ⟨_, _, _, rfl, _⟩ := h; rfl) | (obtain ⟨_, _, _, _, rfl, _⟩ := h; rfl) | (obtain ⟨_, _, _, _, _, rfl, _⟩ := h; rfl) | (obtain ⟨_, _, _, _, _, _, rfl, _⟩ := h; rfl) | (obtain ⟨_, _, _, _, _, _, _, rfl, _⟩ := h; rfl)) (fun cdv A' outer s H vs Q E hr h => ⟨_, (pss_cons (ps_expr (pe_callG G_need_number (hr.mono (by decide)) (by rfl) pass0 (pa_cons (pv 1) (pa_cons pe_str (pa_cons pe_int (pa_cons (pe_op op_subI (pe_fldK K (pe_fldK K (pv 0) rfl) rfl) pe_int) pa_nil))))))
      (pss_cons (ps_if (pt_cmpR op_geI (pe_callB (call_lenK K) (by rfl) T.b_len PySem.boot_len (pa_cons (pe_fldK K (pv 0) rfl) pa_nil)) (pe_K_MOST_WALKERS T) (nomark _)) (pss_one ps_never) pss_nil)
      (pss_cons (ps_expr (pe_bmK K PySem.F.plainAttrs_list PySem.F.slot_list_append PySem.F.type_list_append mt_append (pe_fldK K (pv 0) rfl) (pa_cons (pv 1) pa_nil)))
      (pss_one (ps_ret (pe_op op_subI (pe_callB (call_lenK K) (by rfl) T.b_len PySem.boot_len (pa_cons (pe_fldK K (pv 0) rfl) pa_nil)) pe_int)))))), ?_⟩)
  obtain ⟨w, p, rfl, a, s, R, m, ads, rfl, hW, p0, p1, hn, k⟩ := h
  have C : Cur H (wS a) H (wL A a s ++ bL A a R m ads) := hW.cur
  walk_at "rd"
  refine ⟨p, "place", 0, _, rfl, p0, by omega, ?_⟩
  walk_at "rd"
  refine b_df (by rw [len_map]; omega) ?_
  walk_at "rd"
  refine ⟨ty_list (C.get 2 rfl), ?_⟩
  walk_at "rd"
  refine r_app (C.get 2 rfl) (by rw [len_map]; omega) ?_
  refine mod_c C 2 rfl (.inl (by simp)) fun H1 C => ?_
  walk_at "rd"
  rw [show (((s.sn.map V.int ++ [V.int p]).length : Nat) : Int) - 1 = s.sn.length by rw [List.length_append, len_map]; simp]
  refine k H1 C.ret fun q hq => C.own q ?_
  simp only [wL, List.mem_cons, List.not_mem_nil, or_false] at hq
  rcases hq with rfl | rfl | rfl | rfl
  · exact List.mem_of_getElem? (i := 0) rfl
  · exact List.mem_of_getElem? (i := 1) rfl
  · refine List.mem_of_getElem? (i := 2) ?_
    show some _ = some _
    rw [List.map_append]
    rfl
  · exact List.mem_of_getElem? (i := 3) rfl
theorem ok_World_play (T : Txt K mg A) (G_need_number : Gd P w K mg base CX0 3 "need_number" ["value", "part", "least", "most"] [] (sp_need_number K A)) (G_World_copy : Gv P w K mg base CX0 6 A.World "copy" ["self"] [] (sp_World_copy K A)) (G_World_sent_home : Gv P w K mg base CX0 2 A.World "sent_home" ["self", "walker", "most", "before"] [] (sp_World_sent_home K A)) (G_World_enter : Gv P w K mg base CX0 4 A.World "enter" ["self", "place"] [] (sp_World_enter K A)) : Gv P w K mg base CX0 7 A.World "play" ["self", "place", "most"] [] (sp_World_play K A) := by
  obtain ⟨f, fd, F, hm⟩ := T.v_World_play
  refine ⟨⟨f, fd, [], ?_, hm, F.binds (ps := ["self", "place", "most"]) (fun _ _ _ _ _ _ us hl => match us, hl with | [_, _, _], _ => rfl), .nil⟩⟩
  refine F.ok sc_World_play (fun vs H Q E h => by first | (obtain ⟨rfl, _⟩ := h; rfl) | (obtain ⟨_, rfl, _⟩ := h; rfl) | (obtain ⟨_, _, rfl, _⟩ := h; rfl) | (obtain ⟨_, _, _, rfl, _⟩ := h; rfl) | (obtain ⟨_, _, _, _, rfl, _⟩ := h; rfl) | (obtain ⟨_, _, _, _, _, rfl, _⟩ := h; rfl) | (obtain ⟨_, _, _, _, _, _, rfl, _⟩ := h; rfl) | (obtain ⟨_, _, _, _, _, _, _, rfl, _⟩ := h; rfl)) (fun cdv A' outer s H vs Q E hr h => ⟨_, (pss_cons (ps_expr (pe_callG G_need_number (hr.mono (by decide)) (by rfl) pass0 (pa_cons (pv 1) (pa_cons pe_str (pa_cons pe_int (pa_cons (pe_op op_subI (pe_fldK K (pe_fldK K (pv 0) rfl) rfl) pe_int) pa_nil))))))
      (pss_cons (ps_expr (pe_callG G_need_number (hr.mono (by decide)) (by rfl) pass0 (pa_cons (pv 2) (pa_cons pe_str (pa_cons pe_int (pa_cons (pe_K_MOST_STEPS T) pa_nil))))))
      (pss_cons (ps_set (i := 3) sc_World_play.nd rfl (.inl rfl) (pe_meth0G G_World_copy T.c_World (hr.mono (by decide)) pass0 (pv 0)))
      (pss_one (ps_ret (pe_methG G_World_sent_home T.c_World (hr.mono (by decide)) pass0 (pv 0) (pa_cons (pe_methG G_World_enter T.c_World (hr.mono (by decide)) pass0 (pv 0) (pa_cons (pv 1) pa_nil)) (pa_cons (pv 2) (pa_cons (pv 3) pa_nil))))))))), ?_⟩)
  obtain ⟨w, p, rfl, a, s, R, m, rk, gd, ads, rfl, hW, hT, ok, G, hm, hp, hn, k⟩ := h
  have C : Cur H [] H (wL A a s ++ bL A a R m ads) := hW.cur
  walk_at "rd"
  refine ⟨p, "place", 0, _, rfl, by omega, by omega, ?_⟩
  walk_at "rd"
  refine ⟨10000, "most", 1, 10000, rfl, by decide, by decide, ?_⟩
  walk_at "rd"
  refine ⟨a.w, rfl, a, s, R, m, ads, rfl, hW, hT, ok, hm, fun q H1 r1 => ?_⟩
  have C := C.call0 r1
  have hW1 : Has H1 (wL A a s ++ bL A a R m ads) := has_of C
  walk_at "rd"
  refine ⟨a.w, p, rfl, a, s, R, m, ads, rfl, hW1, by omega, by omega, hn, fun H2 r2 h2 => ?_⟩
  have C2 : Cur H1 (wS a) H1 (wL A a s ++ bL A a R m ads) := hW1.cur
  have C2 := own_after (R := R) (m := m) (ads := ads) C2 (fun x hx => .inl hx) r2 h2
  walk_at "rd"
  have ok2 : WOk R m { s with sn := s.sn ++ [(p : Int)] } := ⟨ok.hok, ok.len, ok.ents, ok.wl, by simp; omega, ok.n1⟩
  refine ⟨a.w, q, s.sn.length, rfl, a, _, R, m, rk, gd, ads, p, rfl, has_of C2, (hT.to r1 (fun _ z => nomatch z)).to r2 (notTup hW1), ok2, G, by omega, by simp, hp, fun v H3 r3 h3 => ?_⟩
  exact k v H3 ((r1.nil.trans r2).trans r3) (by rw [Int.toNat_natCast] at h3; exact h3)
end
end K67

end

section
set_option Elab.async false
set_option linter.all false
set_option maxRecDepth 100000
set_option maxHeartbeats 1000000
namespace K67
open PySem PySem.Spec PyProof.Rows L2 Nd M94
set_option hygiene false
local macro_rules | `(tactic| walk_at "hg") => `(tactic| first | assumption | exact C.get 0 rfl | exact C.get 1 rfl | exact C.get 2 rfl | exact C.get 3 rfl | exact C.get 4 rfl | exact C.get 5 rfl | exact C.get 6 rfl | exact C.get 7 rfl | exact C.get 8 rfl | exact C.get 9 rfl)
local macro_rules | `(tactic| walk_at "rd1") => `(tactic| first
  | with_reducible refine u_seq ?_ | with_reducible refine u_asg ?_ | ((with_reducible refine' u_var ?q7hv ?_); (case q7hv => exact rfl)) | with_reducible refine u_c ?_ | with_reducible refine u_op ?_ | with_reducible refine u_if ?_ | with_reducible refine u_ret ?_
  | with_reducible refine u_test ?_ | with_reducible refine u_tB ?_ | with_reducible refine u_and ?_ | with_reducible refine u_or ?_ | with_reducible refine u_not ?_ | with_reducible refine u_call ?_ | with_reducible refine u_cb ?_ | with_reducible refine u_cons ?_ | with_reducible refine u_nil ?_
  | with_reducible refine u_gname ?_ | with_reducible refine u_gcons ?_ | with_reducible refine u_gnil ?_ | with_reducible refine u_gsub ?_ | with_reducible refine u_lst ?_ | with_reducible refine u_tup ?_ | with_reducible refine u_un ?_ | with_reducible refine u_ifE ?_
  | with_reducible refine u_drop ?_ | with_reducible refine u_next ?_ | with_reducible refine u_retN ?_ | with_reducible refine u_tf ?_ | with_reducible refine u_fld ?_ | with_reducible refine u_gfld ?_ | with_reducible refine u_par ?_ | with_reducible refine u_par3 ?_ | with_reducible refine u_meth ?_ | with_reducible refine u_prop ?_ | with_reducible refine u_make ?_
  | with_reducible refine u_bm ?_ | with_reducible refine u_bm0 ?_ | with_reducible refine u_sl ?_ | with_reducible refine u_noPart ?_ | with_reducible refine u_part ?_ | with_reducible refine u_chain ?_ | with_reducible refine u_andV ?_ | with_reducible refine u_orV ?_ | with_reducible refine u_notV ?_
  | with_reducible refine u_listRg ?_ | with_reducible refine u_rg1 ?_ | with_reducible refine u_lc2 ?_ | with_reducible refine u_enum ?_ | with_reducible refine u_zip ?_ | with_reducible refine u_for ?_ | with_reducible refine u_lc ?_ | with_reducible refine u_rng1 ?_ | with_reducible refine u_rng2 ?_ | with_reducible refine u_yes ?_ | with_reducible refine u_brk ?_ | with_reducible refine u_cont ?_
  | with_reducible refine r_add ?_ | with_reducible refine r_sub ?_ | with_reducible refine r_lt ?_ | with_reducible refine r_le ?_ | with_reducible refine r_gt ?_ | with_reducible refine r_ge ?_ | with_reducible refine r_eqI ?_ | with_reducible refine r_neI ?_ | with_reducible refine r_neg ?_ | with_reducible refine r_int ?_ | with_reducible refine r_intB ?_ | with_reducible refine r_abs ?_ | with_reducible refine r_isNi ?_ | with_reducible refine r_isNn ?_ | with_reducible refine r_isNr ?_ | with_reducible refine r_isNs ?_ | with_reducible refine r_notN ?_
  | ((with_reducible refine' r_ixL ?q7hs ?q7ha ?_); (case q7hs => exact SqL.of (by walk_at "hg")); (case q7ha => first | exact rfl | exact atI_nat (by assumption)))
  | ((with_reducible refine' r_ixT ?q7hs ?q7ha ?_); (case q7hs => exact SqT.of (by walk_at "hg")); (case q7ha => first | exact rfl | exact atI_nat (by assumption)))
  | ((with_reducible refine' r_len ?q7hs ?_); (case q7hs => exact SqL.of (by walk_at "hg")))
  | ((with_reducible refine' r_lenT ?q7hs ?_); (case q7hs => exact SqT.of (by walk_at "hg")))
  | ((with_reducible refine' r_mod ?q7c ?_); (case q7c => first | decide | omega)) | ((with_reducible refine' r_div ?q7c ?_); (case q7c => first | (constructor <;> decide) | (constructor <;> omega)))
  | ((with_reducible refine' r_mul ?q7c ?_); (case q7c => first | exact .inl ⟨by omega, by omega⟩ | exact .inr ⟨by omega, by omega⟩))
  | ((with_reducible refine' r_pow ?q7c ?_); (case q7c => exact ⟨by omega, by omega, by omega⟩))
  | with_reducible refine b_nT ?_ | with_reducible refine b_nF ?_ | with_reducible refine iteF ?_ | with_reducible refine iteT ?_
  | with_reducible refine k_blA ?_ | with_reducible refine k_int ?_ | with_reducible refine k_two ?_ | with_reducible refine k_three ?_
  | ((with_reducible refine' k_size ?q7hn ?_); (case q7hn => exact Nat.le_of_ble_eq_true rfl))
  | ((with_reducible refine' k_fld ?q7ha ?q7c ?q7n ?q7hl ?_); (case q7ha => walk_at "hg"); (case q7c => walk_at "cls"); (case q7n => walk_at "att"); (case q7hl => exact rfl))
  | ((with_reducible refine' k_put ?q7ha ?q7c ?q7n ?q7hl ?_); (case q7ha => walk_at "hg"); (case q7c => walk_at "cls"); (case q7n => walk_at "att"); (case q7hl => first | decide | exact Nat.lt_of_lt_of_le (Nat.lt_succ_self _) (Nat.le_of_ble_eq_true rfl)))
  | ((with_reducible refine' k_meth ?q7ha ?q7hl ?_); (case q7ha => walk_at "hg"); (case q7hl => exact rfl))
  | ((with_reducible refine' k_prop ?q7ha ?_); (case q7ha => walk_at "hg")))
local macro_rules | `(tactic| walk_at "rd") => `(tactic| repeat walk_at "rd1")
local macro_rules | `(tactic| walk_at "cls") => `(tactic| first | exact T.c_Board | exact T.c_World)
local macro_rules | `(tactic| walk_at "att") => `(tactic| first | exact T.n_Board_homes | exact T.n_Board_places | exact T.n_Board_rows | exact T.n_World_board | exact T.n_World_shown | exact T.n_World_standing | exact T.n_World_won | exact T.n_World_steps)

/-- rows that make a board -/
structure BOk (R : Rows) (m : Nat) : Prop where
  n1 : 1 ≤ R.length
  n60 : R.length ≤ 60
  len : ∀ p, p < R.length → 1 ≤ (row R p).length ∧ (row R p).length ≤ 60
  ents : ∀ p, p < R.length → ∀ x ∈ row R p, XOk R m x
  m1 : 1 ≤ m
  m9 : m ≤ 9
def sp_are_rows (K : PySem.W.Frag) (A : Adr) : Sp := fun vs H Q E => ∃ r : Addr, vs = [.ref r] ∧ ∃ (ads : List Addr) (R : Rows) (m : Nat), H r = some (.lst (ads.map V.ref)) ∧ RowsAt H ads R ∧ BOk R m ∧ ∀ H', Ret [] H H' → Q (.bl true) H'
def sp_do_fit (K : PySem.W.Frag) (A : Adr) : Sp := fun vs H Q E => ∃ (r : Addr) (m : Nat), vs = [.ref r, .int m] ∧ ∃ (ads : List Addr) (R : Rows), H r = some (.lst (ads.map V.ref)) ∧ RowsAt H ads R ∧ BOk R m ∧ ∀ H', Ret [] H H' → Q (.bl true) H'
def sp_Board_init (K : PySem.W.Frag) (A : Adr) : Sp := fun vs H Q E => ∃ (x r : Addr) (m : Nat), vs = [.ref x, .int m, .ref r] ∧ ∃ (dB : Addr) (ads : List Addr) (R : Rows), H x = some (.ins A.Board dB []) ∧ H r = some (.lst (ads.map V.ref)) ∧ RowsAt H ads R ∧ BOk R m ∧
  ∀ (t : Addr) (tads : List Addr) H', Ret [x] H H' → H t = none → H' x = some (.ins A.Board dB [("homes", .int m), ("places", .int R.length), ("rows", .ref t)]) → H' t = some (.tup (tads.map V.ref)) → TRows H' tads R → Q .non H'
theorem ref_of {ads : List Addr} {i : Nat} {x : V} (h : (ads.map V.ref)[i]? = some x) : ∃ a, ads[i]? = some a ∧ x = .ref a := by
  rw [List.getElem?_map] at h
  cases e : ads[i]? with
  | none => rw [e] at h; cases h
  | some a => rw [e] at h; exact ⟨a, rfl, (Option.some.inj h).symm⟩
theorem trues (n : Nat) : (List.replicate n true).map V.bl ++ [V.bl true] = (List.replicate (n + 1) true).map V.bl := by rw [List.replicate_succ', List.map_append]; rfl
theorem all_trues (n : Nat) : (List.replicate n true).all id = true := by simp
section
variable {P : Program} {w : World} {K : PySem.W.Frag} {mg : Str → Option Value} {base : Heap} {A : Adr}
theorem ok_are_rows (T : Txt K mg A)  : Gd P w K mg base CX0 1 "are_rows" ["value"] [] (sp_are_rows K A) := by
  obtain ⟨f, fd, F, hm⟩ := T.f_are_rows
  refine ⟨⟨f, fd, [], ?_, hm, F.kp, F.binds (ps := ["value"]) (fun _ _ _ _ _ _ us hl => match us, hl with | [_], _ => rfl), .nil⟩⟩
  refine F.ok sc_are_rows (fun vs H Q E h => by first | (obtain ⟨rfl, _⟩ := h; rfl) | (obtain ⟨_, rfl, _⟩ := h; rfl) | (obtain ⟨_, _, rfl, _⟩ := h; rfl) | (obtain ⟨_, _, _, rfl, _⟩ := h; rfl) | (obtain ⟨_, _, _, _, rfl, _⟩ := h; rfl) | (obtain ⟨_, _, _, _, _, rfl, _⟩ := h; rfl) | (obtain ⟨_, _, _, _, _, _, rfl, _⟩ := h; rfl) | (obtain ⟨_, _, _, _, _, _, _, rfl, _⟩ := h; rfl)) (fun cdv A' outer s H vs Q E hr h => ⟨_, (pss_cons (ps_if (PW.pt (pw_or (pt_not (pt_val (pe_callB (call_isiTK K) (by rfl) T.b_isinstance (by decide +kernel) (pa_cons (pv 0) (pa_cons (pe_tup (pa_cons (pe_bltn (v := .ty "list") (by rfl) T.b_list (by decide +kernel) rfl) (pa_cons (pe_bltn (v := .ty "tuple") (by rfl) T.b_tuple (by decide +kernel) rfl) pa_nil))) pa_nil))))) (pw_or1 (pt_not (pt_chain op_leI op_leI pe_int (pe_callB (call_lenK K) (by rfl) T.b_len PySem.boot_len (pa_cons (pv 0) pa_nil)) (pe_K_MOST_PLACES T)))))) (pss_one (ps_ret pe_bl)) pss_nil)
      (pss_one (ps_ret (pe_callB (call_allK K rfl) (by rfl) T.b_all (by decide +kernel) (pa_cons (pe_lc (own := [("row", 1)]) rfl sc_are_rows.nd (pi_seqK K (pv 0)) (blkOk_by (N := N_are_rows) (sc := defScope s_are_rows) (own := [("row", 1)]) (by decide +kernel)) (fun _ _ _ _ _ => (pg_name (i := 1) sc_are_rows.nd rfl (by first | exact .inl rfl | exact .inr rfl))) (fun _ _ _ _ _ => pts_nil) (fun _ _ _ _ _ => (pe_and (pe_callB (call_isiTK K) (by rfl) T.b_isinstance (by decide +kernel) (pa_cons (pv 1) (pa_cons (pe_tup (pa_cons (pe_bltn (v := .ty "list") (by rfl) T.b_list (by decide +kernel) rfl) (pa_cons (pe_bltn (v := .ty "tuple") (by rfl) T.b_tuple (by decide +kernel) rfl) pa_nil))) pa_nil))) (pe_one (pe_chain op_leI op_leI pe_int (pe_callB (call_lenK K) (by rfl) T.b_len PySem.boot_len (pa_cons (pv 1) pa_nil)) (pe_K_MOST_ROW T)))))) pa_nil))))), ?_⟩)
  obtain ⟨r, rfl, ads, R, m, hr', hR, ok, k⟩ := h
  have C : Cur H [] H [(r, .lst (ads.map V.ref))] := Cur.start (by simp) (by simp [hr'])
  have hn1 := ok.n1
  have hn60 := ok.n60
  have hl : (ads.map V.ref).length = R.length := by rw [List.length_map, hR.1]
  walk_at "rd"
  refine new_c C fun t1 H1 t10 C => ?_
  walk_at "rd"
  refine q_isSeqL (C.get 0 rfl) (C.get 1 rfl) ?_
  walk_at "rd"
  refine b_dt (by rw [hl]; omega) ?_
  walk_at "rd"
  refine b_f (by rw [decide_eq_true (show ((ads.map V.ref).length : Int) ≤ 60 by rw [hl]; omega)]; rfl) ?_
  walk_at "rd"
  refine u_sseqL ?_
  walk_at "rd"
  refine k_seqL (SqL.of (C.get 1 rfl)) ?_
  refine lc_l (xs := ads.map V.ref) C (fun D i H' => Cur H [] H' [(D, .lst ((List.replicate i true).map V.bl)), (r, .lst (ads.map V.ref))])
    (fun D H1 D0 C => C.sub (by have := C.nd; simp only [List.map_cons, List.map_nil, List.nodup_cons, List.mem_cons, List.not_mem_nil, or_false, not_or] at this ⊢; simp [this]) (by simp)) (fun D i H' hi C => SqL.of (C.get 1 rfl)) (fun D i x H' D0 hx C => ?_) (fun D H' D0 C => ?_)
  · obtain ⟨a, ha, rfl⟩ := ref_of hx
    have hi : i < R.length := by rw [← hR.1]; exact (List.getElem?_eq_some_iff.mp ha).1
    have haR := C.ret.fr _ _ (hR.2 _ _ ha) (by simp)
    obtain ⟨l1, l60⟩ := ok.len i hi
    walk_at "rd"
    refine ⟨rfl, ?_⟩
    walk_at "rd"
    refine new_c C fun t2 H2 t20 C => ?_
    have haR := C.ret.fr _ _ (hR.2 _ _ ha) (by simp)
    walk_at "rd"
    refine q_isSeqL (C.get 0 rfl) haR ?_
    walk_at "rd"
    refine b_dt (by rw [len_map]; omega) ?_
    walk_at "rd"
    rw [decide_eq_true (show (((row R i).map V.int).length : Int) ≤ 60 by rw [len_map]; omega)]
    refine k_acc (C.get 1 rfl) (by rw [List.length_map, List.length_replicate]; omega) ?_
    refine mod_c C 1 rfl (.inr D0) fun H3 C => ?_
    have C' : Cur H [] H3 [(D, .lst ((List.replicate i true).map V.bl ++ [V.bl true])), (r, .lst (ads.map V.ref))] := C.drop
    rw [trues] at C'
    exact C'
  · walk_at "rd"
    refine ⟨D, _, rfl, SqL.of (C.get 0 rfl), ?_⟩
    rw [all_trues]
    exact k H' C.ret
theorem ok_do_fit (T : Txt K mg A) (G_is_within : Gd P w K mg base CX0 2 "is_within" ["value", "least", "most"] [] (sp_is_within K A)) : Gd P w K mg base CX0 3 "do_fit" ["rows", "homes"] [] (sp_do_fit K A) := by
  obtain ⟨f, fd, F, hm⟩ := T.f_do_fit
  refine ⟨⟨f, fd, [], ?_, hm, F.kp, F.binds (ps := ["rows", "homes"]) (fun _ _ _ _ _ _ us hl => match us, hl with | [_, _], _ => rfl), .nil⟩⟩
  refine F.ok sc_do_fit (fun vs H Q E h => by first | (obtain ⟨rfl, _⟩ := h; rfl) | (obtain ⟨_, rfl, _⟩ := h; rfl) | (obtain ⟨_, _, rfl, _⟩ := h; rfl) | (obtain ⟨_, _, _, rfl, _⟩ := h; rfl) | (obtain ⟨_, _, _, _, rfl, _⟩ := h; rfl) | (obtain ⟨_, _, _, _, _, rfl, _⟩ := h; rfl) | (obtain ⟨_, _, _, _, _, _, rfl, _⟩ := h; rfl) | (obtain ⟨_, _, _, _, _, _, _, rfl, _⟩ := h; rfl)) (fun cdv A' outer s H vs Q E hr h => ⟨_, (pss_cons (ps_set (i := 2) sc_do_fit.nd rfl (.inr rfl) (pe_op op_subI (pe_op op_addU (pe_callB (call_lenK K) (by rfl) T.b_len PySem.boot_len (pa_cons (pv 0) pa_nil)) (pv 1)) pe_int))
      (pss_one (ps_ret (pe_callB (call_allK K rfl) (by rfl) T.b_all (by decide +kernel) (pa_cons (pe_lc2 (own := [("row", 3), ("entry", 4)]) (vs1 := [4]) rfl sc_do_fit.nd (pi_seqK K (pv 0)) (blkOk_by (N := N_do_fit) (sc := defScope s_do_fit) (own := [("row", 3), ("entry", 4)]) (by decide +kernel)) (by decide) (fun _ _ _ _ _ => (pg_name (i := 3) sc_do_fit.nd rfl (by first | exact .inl rfl | exact .inr rfl))) (fun _ _ _ _ _ => pts_nil) (fun _ _ _ _ _ => (pi_seqK K (pv 3))) (fun _ _ _ _ _ => (pg_name (i := 4) sc_do_fit.nd rfl (by first | exact .inl rfl | exact .inr rfl))) (fun _ _ _ _ _ => pts_nil) (fun _ _ _ _ _ => (pe_callG G_is_within (hr.mono (by decide)) (by rfl) pass0 (pa_cons (pv 4) (pa_cons pe_int (pa_cons (pv 2) pa_nil)))))) pa_nil))))), ?_⟩)
  obtain ⟨r, m, rfl, ads, R, hr', hR, ok, k⟩ := h
  have C : Cur H [] H [(r, .lst (ads.map V.ref))] := Cur.start (by simp) (by simp [hr'])
  have hn60 := ok.n60
  have hl : (ads.map V.ref).length = R.length := by rw [List.length_map, hR.1]
  walk_at "rd"
  refine u_sseqL ?_
  walk_at "rd"
  refine k_seqL (SqL.of (C.get 0 rfl)) ?_
  refine lc2_l (xs := ads.map V.ref) C (fun D i H' => ∃ n, n ≤ 60 * i ∧ Cur H [] H' [(D, .lst ((List.replicate n true).map V.bl)), (r, .lst (ads.map V.ref))]) (fun D H1 D0 C => ⟨0, by omega, C⟩) (fun D i H' hi h => h.elim fun n h => SqL.of (h.2.get 1 rfl)) (fun D i x H' D0 hx h => ?_) (fun D H' D0 h => ?_)
  · obtain ⟨n, hn, C⟩ := h
    obtain ⟨a, ha, rfl⟩ := ref_of hx
    have hi : i < R.length := by rw [← hR.1]; exact (List.getElem?_eq_some_iff.mp ha).1
    obtain ⟨l1, l60⟩ := ok.len i hi
    walk_at "rd"
    refine ⟨rfl, ?_⟩
    walk_at "rd"
    refine u_sseqL ?_
    walk_at "rd"
    refine k_seqL (SqL.of (C.ret.fr _ _ (hR.2 _ _ ha) (by simp))) ?_
    refine in_l (ys := (row R i).map V.int) (fun j H' => Cur H [] H' [(D, .lst ((List.replicate (n + j) true).map V.bl)), (r, .lst (ads.map V.ref))]) C (fun j H' hj C => SqL.of (C.ret.fr _ _ (hR.2 _ _ ha) (by simp))) (fun j y H' hy C => ?_) (fun H' C => ?_)
    · obtain ⟨z, hz, rfl⟩ := int_of hy
      obtain ⟨x0, x1⟩ := ok.ents i hi z (List.mem_of_getElem? hz)
      have hj : j < (row R i).length := (List.getElem?_eq_some_iff.mp hz).1
      walk_at "rd"
      refine ⟨rfl, ?_⟩
      walk_at "rd"
      refine ⟨z, 0, _, rfl, ?_⟩
      rw [show (decide ((0 : Int) ≤ z) && decide (z ≤ ((ads.map V.ref).length : Int) + m - 1)) = true by rw [hl]; simp [x0]; omega]
      refine k_acc (C.get 0 rfl) (by rw [List.length_map, List.length_replicate]; omega) ?_
      refine mod_c C 0 rfl (.inr D0) fun H3 C => ?_
      have C' : Cur H [] H3 [(D, .lst ((List.replicate (n + j) true).map V.bl ++ [V.bl true])), (r, .lst (ads.map V.ref))] := C
      rw [trues] at C'
      exact C'
    · exact ⟨n + ((row R i).map V.int).length, by rw [len_map]; omega, C⟩
  · obtain ⟨n, hn, C⟩ := h
    walk_at "rd"
    refine ⟨D, _, rfl, SqL.of (C.get 0 rfl), ?_⟩
    rw [all_trues]
    exact k H' C.ret
theorem ok_Board_init (T : Txt K mg A) (G_is_within : Gd P w K mg base CX0 2 "is_within" ["value", "least", "most"] [] (sp_is_within K A)) (G_do_fit : Gd P w K mg base CX0 3 "do_fit" ["rows", "homes"] [] (sp_do_fit K A)) (G_are_rows : Gd P w K mg base CX0 1 "are_rows" ["value"] [] (sp_are_rows K A)) : Gm P w K mg base CX0 4 "Board" A.Board ["self", "homes", "rows"] [] (sp_Board_init K A) := by
  obtain ⟨f, fd, F, hm, hk⟩ := T.v_Board_init
  refine ⟨⟨f, fd, [], ?_, hk, hm, F.binds (ps := ["self", "homes", "rows"]) (fun _ _ _ _ _ _ us hl => match us, hl with | [_, _, _], _ => rfl), .nil⟩⟩
  refine F.ok sc_Board_init (fun vs H Q E h => by first | (obtain ⟨rfl, _⟩ := h; rfl) | (obtain ⟨_, rfl, _⟩ := h; rfl) | (obtain ⟨_, _, rfl, _⟩ := h; rfl) | (obtain ⟨_, _, _, rfl, _⟩ := h; rfl) | (obtain ⟨_, _, _, _, rfl, _⟩ := h; rfl) | (obtain ⟨_, _, _, _, _, rfl, _⟩ := h; rfl) | (obtain ⟨_, _, _, _, _, _, rfl, _⟩ := h; rfl) | (obtain ⟨_, _, _, _, _, _, _, rfl, _⟩ := h; rfl)) (fun cdv A' outer s H vs Q E hr h => ⟨_, (pss_cons (ps_if (pt_not (pt_val (pe_callG G_is_within (hr.mono (by decide)) (by rfl) pass0 (pa_cons (pv 1) (pa_cons pe_int (pa_cons (pe_K_MOST_HOMES T) pa_nil)))))) (pss_one ps_never) pss_nil)
      (pss_cons (ps_if (PW.pt (pw_or (pt_not (pt_val (pe_callG G_are_rows (hr.mono (by decide)) (by rfl) pass0 (pa_cons (pv 2) pa_nil)))) (pw_or1 (pt_not (pt_val (pe_callG G_do_fit (hr.mono (by decide)) (by rfl) pass0 (pa_cons (pv 2) (pa_cons (pv 1) pa_nil)))))))) (pss_one ps_never) pss_nil)
      (pss_cons (ps_fldK K (pv 0) (pv 1) rfl)
      (pss_cons (ps_fldK K (pv 0) (pe_callB (call_lenK K) (by rfl) T.b_len PySem.boot_len (pa_cons (pv 2) pa_nil)) rfl)
      (pss_one (ps_fldK K (pv 0) (pe_callTy (call_tupleK K) (by rfl) T.b_tuple (by decide +kernel) (pa_cons (pe_lc (own := [("row", 3)]) rfl sc_Board_init.nd (pi_seqK K (pv 2)) (blkOk_by (N := N_Board_init) (sc := defScope s_Board_init) (own := [("row", 3)]) (by decide +kernel)) (fun _ _ _ _ _ => (pg_name (i := 3) sc_Board_init.nd rfl (by first | exact .inl rfl | exact .inr rfl))) (fun _ _ _ _ _ => pts_nil) (fun _ _ _ _ _ => (pe_callTy (call_tupleK K) (by rfl) T.b_tuple (by decide +kernel) (pa_cons (pv 3) pa_nil)))) pa_nil)) rfl)))))), ?_⟩)
  obtain ⟨x, r, m, rfl, dB, ads, R, hx, hr', hR, ok, k⟩ := h
  have hxr : x ≠ r := fun e => by rw [e, hr'] at hx; cases hx
  have C : Cur H [x] H [(x, .ins A.Board dB []), (r, .lst (ads.map V.ref))] := Cur.start (by simp [hxr]) (by simp [hx, hr'])
  have hn60 := ok.n60
  have hl : (ads.map V.ref).length = R.length := by rw [List.length_map, hR.1]
  have xnot : ∀ {a : Addr} {xs : List V} {H' : Hp}, Ret [x] H H' → H a = some (.lst xs) → H' a = some (.lst xs) := fun rr e => rr.fr _ _ e fun z => by rw [List.mem_singleton.mp z, hx] at e; cases e
  walk_at "rd"
  refine ⟨m, 1, 9, rfl, ?_⟩
  walk_at "rd"
  refine b_f (by have := ok.m1; have := ok.m9; simp; omega) ?_
  walk_at "rd"
  refine ⟨r, rfl, ads, R, m, hr', hR, ok, fun H1 r1 => ?_⟩
  have C := C.call0 r1
  walk_at "rd"
  refine ⟨r, m, rfl, ads, R, C.get 1 rfl, hR.to r1 (by simp), ok, fun H2 r2 => ?_⟩
  have C := C.call0 r2
  walk_at "rd"
  refine mod_c C 0 rfl (.inl (by simp)) fun H3 C => ?_
  walk_at "rd"
  refine mod_c C 0 rfl (.inl (by simp)) fun H4 C => ?_
  walk_at "rd"
  refine u_sseqL ?_
  walk_at "rd"
  refine k_seqL (SqL.of (C.get 1 rfl)) ?_
  refine lc_l (xs := ads.map V.ref) C (fun D i H' => ∃ tads : List Addr, tads.length = i ∧ (∀ j a, tads[j]? = some a → H' a = some (.tup ((row R j).map V.int))) ∧ Cur H [x] H' [(D, .lst (tads.map V.ref)), (x, .ins A.Board dB [("homes", .int m), ("places", .int R.length)]), (r, .lst (ads.map V.ref))])
    (fun D H1 D0 C => ⟨[], rfl, by simp, ?_⟩) (fun D i H' hi h => h.elim fun n h => SqL.of (h.2.2.get 2 rfl)) (fun D i y H' D0 hy h => ?_) (fun D H' D0 h => ?_)
  · rw [hl] at C; exact C
  · obtain ⟨tads, htl, hta, C⟩ := h
    obtain ⟨a, ha, rfl⟩ := ref_of hy
    have hi : i < R.length := by rw [← hR.1]; exact (List.getElem?_eq_some_iff.mp ha).1
    have haR := xnot C.ret (hR.2 _ _ ha)
    walk_at "rd"
    refine ⟨rfl, ?_⟩
    walk_at "rd"
    refine r_tupL (SqL.of haR) (new_r C fun t H2 t0 t1 C2 r2 => ?_)
    refine k_acc (C2.get 1 rfl) (by rw [List.length_map]; omega) ?_
    refine mod_r C2 1 rfl (.inr D0) fun H3 C3 r3 => ?_
    have hD : H2 D = some (.lst (tads.map V.ref)) := C2.get 1 rfl
    refine ⟨tads ++ [t], by simp [htl], fun j b e => ?_, ?_⟩
    · rcases Nat.lt_or_ge j tads.length with g | g
      · rw [List.getElem?_append_left g] at e
        have h2 := r2.fr _ _ (hta j b e) (by simp)
        exact r3.fr _ _ h2 fun z => by rw [List.mem_singleton.mp z, hD] at h2; cases h2
      · rw [List.getElem?_append_right g] at e
        have e0 : j - tads.length = 0 := by
          rcases Nat.eq_zero_or_pos (j - tads.length) with z | z
          · exact z
          · rw [List.getElem?_eq_none (by simp; omega)] at e; cases e
        rw [e0] at e
        have : t = b := by simpa using e
        subst this
        have : j = i := by omega
        subst this
        exact C3.get 0 rfl
    · rw [List.map_append]
      exact C3.drop
  · obtain ⟨tads, htl, hta, C⟩ := h
    walk_at "rd"
    refine r_tupL (SqL.of (C.get 0 rfl)) (new_r C fun t H2 t0 t1 C2 r2 => ?_)
    walk_at "rd"
    have hx2 : H2 x = some (.ins A.Board dB [("homes", .int m), ("places", .int R.length)]) := C2.get 2 rfl
    refine k_put (C2.get 2 rfl) T.c_Board T.n_Board_rows (by simp) ?_
    refine mod_r C2 2 rfl (.inl (by simp)) fun H3 C3 r3 => ?_
    refine k t tads H3 C3.ret t0 (C3.get 2 rfl) (C3.get 0 rfl) ⟨by rw [htl, hl], fun j b e => ?_⟩
    have h2 := r2.fr _ _ (hta j b e) (by simp)
    exact r3.fr _ _ h2 fun z => by rw [List.mem_singleton.mp z, hx2] at h2; cases h2
end
end K67

end

section
set_option Elab.async false
set_option linter.all false
set_option maxRecDepth 100000
set_option maxHeartbeats 1000000
namespace K67
open PySem PySem.Spec PyProof.Rows L2 Nd M94
set_option hygiene false
local macro_rules | `(tactic| walk_at "hg") => `(tactic| first | assumption | exact C.get 0 rfl | exact C.get 1 rfl | exact C.get 2 rfl | exact C.get 3 rfl | exact C.get 4 rfl | exact C.get 5 rfl | exact C.get 6 rfl | exact C.get 7 rfl | exact C.get 8 rfl | exact C.get 9 rfl)
local macro_rules | `(tactic| walk_at "rd1") => `(tactic| first
  | with_reducible refine u_seq ?_ | with_reducible refine u_asg ?_ | ((with_reducible refine' u_var ?q7hv ?_); (case q7hv => exact rfl)) | with_reducible refine u_c ?_ | with_reducible refine u_op ?_ | with_reducible refine u_if ?_ | with_reducible refine u_ret ?_
  | with_reducible refine u_test ?_ | with_reducible refine u_tB ?_ | with_reducible refine u_and ?_ | with_reducible refine u_or ?_ | with_reducible refine u_not ?_ | with_reducible refine u_call ?_ | with_reducible refine u_cb ?_ | with_reducible refine u_cons ?_ | with_reducible refine u_nil ?_
  | with_reducible refine u_gname ?_ | with_reducible refine u_gcons ?_ | with_reducible refine u_gnil ?_ | with_reducible refine u_gsub ?_ | with_reducible refine u_lst ?_ | with_reducible refine u_tup ?_ | with_reducible refine u_un ?_ | with_reducible refine u_ifE ?_
  | with_reducible refine u_drop ?_ | with_reducible refine u_next ?_ | with_reducible refine u_retN ?_ | with_reducible refine u_tf ?_ | with_reducible refine u_fld ?_ | with_reducible refine u_gfld ?_ | with_reducible refine u_par ?_ | with_reducible refine u_par3 ?_ | with_reducible refine u_meth ?_ | with_reducible refine u_prop ?_ | with_reducible refine u_make ?_
  | with_reducible refine u_bm ?_ | with_reducible refine u_bm0 ?_ | with_reducible refine u_sl ?_ | with_reducible refine u_noPart ?_ | with_reducible refine u_part ?_ | with_reducible refine u_chain ?_ | with_reducible refine u_andV ?_ | with_reducible refine u_orV ?_ | with_reducible refine u_notV ?_
  | with_reducible refine u_listRg ?_ | with_reducible refine u_rg1 ?_ | with_reducible refine u_lc2 ?_ | with_reducible refine u_enum ?_ | with_reducible refine u_zip ?_ | with_reducible refine u_for ?_ | with_reducible refine u_lc ?_ | with_reducible refine u_rng1 ?_ | with_reducible refine u_rng2 ?_ | with_reducible refine u_yes ?_ | with_reducible refine u_brk ?_ | with_reducible refine u_cont ?_
  | with_reducible refine r_add ?_ | with_reducible refine r_sub ?_ | with_reducible refine r_lt ?_ | with_reducible refine r_le ?_ | with_reducible refine r_gt ?_ | with_reducible refine r_ge ?_ | with_reducible refine r_eqI ?_ | with_reducible refine r_neI ?_ | with_reducible refine r_neg ?_ | with_reducible refine r_int ?_ | with_reducible refine r_intB ?_ | with_reducible refine r_abs ?_ | with_reducible refine r_isNi ?_ | with_reducible refine r_isNn ?_ | with_reducible refine r_isNr ?_ | with_reducible refine r_isNs ?_ | with_reducible refine r_notN ?_
  | ((with_reducible refine' r_ixL ?q7hs ?q7ha ?_); (case q7hs => exact SqL.of (by walk_at "hg")); (case q7ha => first | exact rfl | exact atI_nat (by assumption)))
  | ((with_reducible refine' r_ixT ?q7hs ?q7ha ?_); (case q7hs => exact SqT.of (by walk_at "hg")); (case q7ha => first | exact rfl | exact atI_nat (by assumption)))
  | ((with_reducible refine' r_len ?q7hs ?_); (case q7hs => exact SqL.of (by walk_at "hg")))
  | ((with_reducible refine' r_lenT ?q7hs ?_); (case q7hs => exact SqT.of (by walk_at "hg")))
  | ((with_reducible refine' r_mod ?q7c ?_); (case q7c => first | decide | omega)) | ((with_reducible refine' r_div ?q7c ?_); (case q7c => first | (constructor <;> decide) | (constructor <;> omega)))
  | ((with_reducible refine' r_mul ?q7c ?_); (case q7c => first | exact .inl ⟨by omega, by omega⟩ | exact .inr ⟨by omega, by omega⟩))
  | ((with_reducible refine' r_pow ?q7c ?_); (case q7c => exact ⟨by omega, by omega, by omega⟩))
  | with_reducible refine b_nT ?_ | with_reducible refine b_nF ?_ | with_reducible refine iteF ?_ | with_reducible refine iteT ?_
  | with_reducible refine k_blA ?_ | with_reducible refine k_int ?_ | with_reducible refine k_two ?_ | with_reducible refine k_three ?_
  | ((with_reducible refine' k_size ?q7hn ?_); (case q7hn => exact Nat.le_of_ble_eq_true rfl))
  | ((with_reducible refine' k_fld ?q7ha ?q7c ?q7n ?q7hl ?_); (case q7ha => walk_at "hg"); (case q7c => walk_at "cls"); (case q7n => walk_at "att"); (case q7hl => exact rfl))
  | ((with_reducible refine' k_put ?q7ha ?q7c ?q7n ?q7hl ?_); (case q7ha => walk_at "hg"); (case q7c => walk_at "cls"); (case q7n => walk_at "att"); (case q7hl => first | decide | exact Nat.lt_of_lt_of_le (Nat.lt_succ_self _) (Nat.le_of_ble_eq_true rfl)))
  | ((with_reducible refine' k_meth ?q7ha ?q7hl ?_); (case q7ha => walk_at "hg"); (case q7hl => exact rfl))
  | ((with_reducible refine' k_prop ?q7ha ?_); (case q7ha => walk_at "hg")))
local macro_rules | `(tactic| walk_at "rd") => `(tactic| repeat walk_at "rd1")
local macro_rules | `(tactic| walk_at "cls") => `(tactic| first | exact T.c_Board | exact T.c_World)
local macro_rules | `(tactic| walk_at "att") => `(tactic| first | exact T.n_Board_homes | exact T.n_Board_places | exact T.n_Board_rows | exact T.n_World_board | exact T.n_World_shown | exact T.n_World_standing | exact T.n_World_won | exact T.n_World_steps)

abbrev bail (c : Addr) (at_ lf : Int) : HO := .lst [.ref c, .int at_, .int lf]
theorem wok_of {R : Rows} {m : Nat} {rk gd : Nat → Nat} {s : WS} (G : Good R m rk gd) (ok : SOk R m s) : WOk R m s := ⟨ok.hok, lenOk_of G, G.ents, ok.wl, ok.l200, by have := G.n5; omega⟩
def sp_l_home (K : PySem.W.Frag) (A : Adr) : Sp := fun vs H Q E => ∃ (b w : Addr) (n way : Int), vs = [.ref b, .ref w, .int n, .int way] ∧ ∃ (c : Addr) (cells : List Int) (at_ lf : Int) (a : WA) (s : WS) (R : Rows) (m : Nat) (rk gd : Nat → Nat) (ads : List Addr) (d : Int → Nat) (st : Nat) (e : Cfg),
  w = a.w ∧ n = (R.length : Int) ∧ Has H ((b, bail c at_ lf) :: (c, .lst (cells.map V.int)) :: (wL A a s ++ bL A a R m ads)) ∧ TRows H ads R ∧ Good R m rk gd ∧ SOk R m s ∧ m ≤ 1000 ∧ Run R (more ⟨s.hs, cnt s.sn⟩ d) st e ∧
  cells.length ≤ 60 ∧ 0 ≤ at_ ∧ at_ + 2 * (st : Int) + 2 < 4194304 ∧ 0 ≤ lf ∧
  ∀ (s' : WS) (st' : Nat) (at' lf' : Int) H', Ret (b :: wS a) H H' → H' b = some (bail c at' lf') → (∀ q ∈ wL A a s', H' q.1 = some q.2) → SOk R m s' → (∀ x ∈ s'.sn, (R.length : Int) ≤ x) → s'.sn.length = s.sn.length → Run R (more ⟨s'.hs, cnt s'.sn⟩ d) st' e →
    s'.k + st' = s.k + st → at_ ≤ at' → at' + 2 * (st' : Int) ≤ at_ + 2 * (st : Int) → 0 ≤ lf' → Q .non H'
theorem drop2 {H0 H : Hp} {S : List Addr} {L : List (Addr × HO)} {x y : Addr × HO} (C : Cur H0 S H (x :: y :: L)) : Cur H0 S H (x :: L) :=
  C.sub (by have := C.nd; simp only [List.map_cons, List.nodup_cons, List.mem_cons, not_or] at this ⊢; exact ⟨this.1.2, this.2.2⟩) (fun p hp => by
    rcases List.mem_cons.mp hp with q | q
    · exact q ▸ List.mem_cons_self
    · exact List.mem_cons_of_mem _ (List.mem_cons_of_mem _ q))
theorem last_of {l : List Int} (h : l ≠ []) : ∃ x, x ∈ l ∧ atI (l.map V.int) (-1) = some (.int x) := by
  refine ⟨l.getLast h, List.getLast_mem h, ?_⟩
  have e : l.map V.int = (l.dropLast.map V.int) ++ [.int (l.getLast h)] := by rw [← List.map_singleton, ← List.map_append, List.dropLast_concat_getLast]
  rw [e]
  exact atI_last _ _
theorem first_of {l : List Int} (h : l ≠ []) : ∃ x, x ∈ l ∧ atI (l.map V.int) 0 = some (.int x) := by
  cases l with
  | nil => exact absurd rfl h
  | cons x r => exact ⟨x, List.mem_cons_self, atI_nat (j := 0) rfl⟩
section
variable {P : Program} {w : World} {K : PySem.W.Frag} {mg : Str → Option Value} {base : Heap} {A : Adr}
end
end K67

end

section
set_option Elab.async false
set_option linter.all false
set_option maxRecDepth 100000
set_option maxHeartbeats 1000000
namespace K67
open PySem PySem.Spec PyProof.Rows L2 Nd M94
set_option hygiene false
local macro_rules | `(tactic| walk_at "hg") => `(tactic| first | assumption | exact C.get 0 rfl | exact C.get 1 rfl | exact C.get 2 rfl | exact C.get 3 rfl | exact C.get 4 rfl | exact C.get 5 rfl | exact C.get 6 rfl | exact C.get 7 rfl | exact C.get 8 rfl | exact C.get 9 rfl)
local macro_rules | `(tactic| walk_at "rd1") => `(tactic| first
  | with_reducible refine u_seq ?_ | with_reducible refine u_asg ?_ | ((with_reducible refine' u_var ?q7hv ?_); (case q7hv => exact rfl)) | with_reducible refine u_c ?_ | with_reducible refine u_op ?_ | with_reducible refine u_if ?_ | with_reducible refine u_ret ?_
  | with_reducible refine u_test ?_ | with_reducible refine u_tB ?_ | with_reducible refine u_and ?_ | with_reducible refine u_or ?_ | with_reducible refine u_not ?_ | with_reducible refine u_call ?_ | with_reducible refine u_cb ?_ | with_reducible refine u_cons ?_ | with_reducible refine u_nil ?_
  | with_reducible refine u_gname ?_ | with_reducible refine u_gcons ?_ | with_reducible refine u_gnil ?_ | with_reducible refine u_gsub ?_ | with_reducible refine u_lst ?_ | with_reducible refine u_tup ?_ | with_reducible refine u_un ?_ | with_reducible refine u_ifE ?_
  | with_reducible refine u_drop ?_ | with_reducible refine u_next ?_ | with_reducible refine u_retN ?_ | with_reducible refine u_tf ?_ | with_reducible refine u_fld ?_ | with_reducible refine u_gfld ?_ | with_reducible refine u_par ?_ | with_reducible refine u_par3 ?_ | with_reducible refine u_meth ?_ | with_reducible refine u_prop ?_ | with_reducible refine u_make ?_
  | with_reducible refine u_bm ?_ | with_reducible refine u_bm0 ?_ | with_reducible refine u_sl ?_ | with_reducible refine u_noPart ?_ | with_reducible refine u_part ?_ | with_reducible refine u_chain ?_ | with_reducible refine u_andV ?_ | with_reducible refine u_orV ?_ | with_reducible refine u_notV ?_
  | with_reducible refine u_listRg ?_ | with_reducible refine u_rg1 ?_ | with_reducible refine u_lc2 ?_ | with_reducible refine u_enum ?_ | with_reducible refine u_zip ?_ | with_reducible refine u_for ?_ | with_reducible refine u_lc ?_ | with_reducible refine u_rng1 ?_ | with_reducible refine u_rng2 ?_ | with_reducible refine u_yes ?_ | with_reducible refine u_brk ?_ | with_reducible refine u_cont ?_
  | with_reducible refine r_add ?_ | with_reducible refine r_sub ?_ | with_reducible refine r_lt ?_ | with_reducible refine r_le ?_ | with_reducible refine r_gt ?_ | with_reducible refine r_ge ?_ | with_reducible refine r_eqI ?_ | with_reducible refine r_neI ?_ | with_reducible refine r_neg ?_ | with_reducible refine r_int ?_ | with_reducible refine r_intB ?_ | with_reducible refine r_abs ?_ | with_reducible refine r_isNi ?_ | with_reducible refine r_isNn ?_ | with_reducible refine r_isNr ?_ | with_reducible refine r_isNs ?_ | with_reducible refine r_notN ?_
  | ((with_reducible refine' r_ixL ?q7hs ?q7ha ?_); (case q7hs => exact SqL.of (by walk_at "hg")); (case q7ha => first | exact rfl | exact atI_nat (by assumption)))
  | ((with_reducible refine' r_ixT ?q7hs ?q7ha ?_); (case q7hs => exact SqT.of (by walk_at "hg")); (case q7ha => first | exact rfl | exact atI_nat (by assumption)))
  | ((with_reducible refine' r_len ?q7hs ?_); (case q7hs => exact SqL.of (by walk_at "hg")))
  | ((with_reducible refine' r_lenT ?q7hs ?_); (case q7hs => exact SqT.of (by walk_at "hg")))
  | ((with_reducible refine' r_mod ?q7c ?_); (case q7c => first | decide | omega)) | ((with_reducible refine' r_div ?q7c ?_); (case q7c => first | (constructor <;> decide) | (constructor <;> omega)))
  | ((with_reducible refine' r_mul ?q7c ?_); (case q7c => first | exact .inl ⟨by omega, by omega⟩ | exact .inr ⟨by omega, by omega⟩))
  | ((with_reducible refine' r_pow ?q7c ?_); (case q7c => exact ⟨by omega, by omega, by omega⟩))
  | with_reducible refine b_nT ?_ | with_reducible refine b_nF ?_ | with_reducible refine iteF ?_ | with_reducible refine iteT ?_
  | with_reducible refine k_blA ?_ | with_reducible refine k_int ?_ | with_reducible refine k_two ?_ | with_reducible refine k_three ?_
  | ((with_reducible refine' k_size ?q7hn ?_); (case q7hn => exact Nat.le_of_ble_eq_true rfl))
  | ((with_reducible refine' k_fld ?q7ha ?q7c ?q7n ?q7hl ?_); (case q7ha => walk_at "hg"); (case q7c => walk_at "cls"); (case q7n => walk_at "att"); (case q7hl => exact rfl))
  | ((with_reducible refine' k_put ?q7ha ?q7c ?q7n ?q7hl ?_); (case q7ha => walk_at "hg"); (case q7c => walk_at "cls"); (case q7n => walk_at "att"); (case q7hl => first | decide | exact Nat.lt_of_lt_of_le (Nat.lt_succ_self _) (Nat.le_of_ble_eq_true rfl)))
  | ((with_reducible refine' k_meth ?q7ha ?q7hl ?_); (case q7ha => walk_at "hg"); (case q7hl => exact rfl))
  | ((with_reducible refine' k_prop ?q7ha ?_); (case q7ha => walk_at "hg")))
local macro_rules | `(tactic| walk_at "rd") => `(tactic| repeat walk_at "rd1")
local macro_rules | `(tactic| walk_at "cls") => `(tactic| first | exact T.c_Board | exact T.c_World)
local macro_rules | `(tactic| walk_at "att") => `(tactic| first | exact T.n_Board_homes | exact T.n_Board_places | exact T.n_Board_rows | exact T.n_World_board | exact T.n_World_shown | exact T.n_World_standing | exact T.n_World_won | exact T.n_World_steps)

abbrev famOf (rs : List (Addr × List Int)) : List (Addr × HO) := rs.map fun q => (q.1, .lst (q.2.map V.int))
def rowsOf (rs : List (Addr × List Int)) : Rows := rs.reverse.map (·.2)
def adsOf (rs : List (Addr × List Int)) : List Addr := rs.reverse.map (·.1)
def sp_l_rows (K : PySem.W.Frag) (A : Adr) : Sp := fun vs H Q E => ∃ (b : Addr) (n m : Nat), vs = [.ref b, .int n, .int m] ∧ ∃ (c : Addr) (cells : List Int) (at_ lf : Int), Has H [(b, bail c at_ lf), (c, .lst (cells.map V.int))] ∧ 1 ≤ n ∧ n ≤ 5 ∧ 1 ≤ m ∧ m ≤ 9 ∧
  cells.length ≤ 60 ∧ 0 ≤ at_ ∧ at_ + 100 < 4194304 ∧ 0 ≤ lf ∧
  ∀ (r : Addr) (ads : List Addr) (R : Rows) (rk gd : Nat → Nat) (at' lf' : Int) H', R.length = n → Good R m rk gd → at_ ≤ at' → at' ≤ at_ + 100 → 0 ≤ lf' → Ret [b] H H' → H' b = some (bail c at' lf') → H r = none → H' r = some (.lst (ads.map V.ref)) → (∀ a ∈ ads, H a = none) → RowsAt H' ads R → Q (.ref r) H'
theorem erase_map (f : Int → V) : ∀ (l : List Int) (k : Nat), (l.map f).eraseIdx k = (l.eraseIdx k).map f
  | [], _ => rfl
  | _ :: _, 0 => rfl
  | a :: l, k + 1 => by show f a :: (l.map f).eraseIdx k = f a :: (l.eraseIdx k).map f; rw [erase_map f l k]
theorem adsOf_cons {D : Addr} {rw : List Int} {rs : List (Addr × List Int)} : adsOf ((D, rw) :: rs) = adsOf rs ++ [D] := by unfold adsOf; rw [List.reverse_cons, List.map_append]; rfl
theorem rowsOf_cons {D : Addr} {rw : List Int} {rs : List (Addr × List Int)} : rowsOf ((D, rw) :: rs) = rowsOf rs ++ [rw] := by unfold rowsOf; rw [List.reverse_cons, List.map_append]; rfl
theorem rowsOf_len {rs : List (Addr × List Int)} : (rowsOf rs).length = rs.length := by unfold rowsOf; rw [List.length_map, List.length_reverse]
theorem adsOf_len {rs : List (Addr × List Int)} : (adsOf rs).length = rs.length := by unfold adsOf; rw [List.length_map, List.length_reverse]
theorem rot {H0 H : Hp} {S : List Addr} {L : List (Addr × HO)} {x y z u : Addr × HO} (C : Cur H0 S H (x :: y :: z :: u :: L)) : Cur H0 S H (y :: z :: u :: x :: L) :=
  C.sub (by have := C.nd; simp only [List.map_cons, List.nodup_cons, List.mem_cons, not_or] at this ⊢; obtain ⟨⟨a1, a2, a3, a4⟩, ⟨b1, b2, b3⟩, ⟨c1, c2⟩, d1, e1⟩ := this; exact ⟨⟨b1, b2, Ne.symm a1, b3⟩, ⟨c1, Ne.symm a2, c2⟩, ⟨Ne.symm a3, d1⟩, a4, e1⟩) (fun p hp => by
    simp only [List.mem_cons] at hp ⊢
    rcases hp with h | h | h | h | h <;> simp [h])
theorem fam_mem {rs : List (Addr × List Int)} {q : Addr × List Int} (h : q ∈ rs) : (q.1, HO.lst (q.2.map V.int)) ∈ famOf rs := List.mem_map.mpr ⟨q, h, rfl⟩
theorem ads_at {rs : List (Addr × List Int)} {i : Nat} {q : Addr × List Int} (h : rs.reverse[i]? = some q) : (adsOf rs)[i]? = some q.1 := by unfold adsOf; rw [List.getElem?_map, h]; rfl
theorem row_at {rs : List (Addr × List Int)} {i : Nat} {q : Addr × List Int} (h : rs.reverse[i]? = some q) : row (rowsOf rs) i = q.2 := by unfold row rowsOf; rw [List.getD_eq_getElem?_getD, List.getElem?_map, h]; rfl
theorem _root_.Nd.Cur.perm {H0 H : Hp} {S : List Addr} {L L' : List (Addr × HO)} (C : Cur H0 S H L) (p : L.Perm L') : Cur H0 S H L' :=
  C.sub ((p.map _).nodup_iff.mp C.nd) (fun q hq => p.mem_iff.mpr hq)
structure Found (n : Nat) (names : List Int) (R1 : Rows) (fa : List Addr) (nws : List (Addr × List Int)) : Prop where
  len : fa.length = n
  ok : ∀ j q, nws.reverse[j]? = some q → fa[(names.getD j 0).toNat]? = some q.1 ∧ q.2 = (row R1 j).map (ren n names)
theorem nm_at {n : Nat} {names : List Int} (N : Names n names) {i : Nat} (h : i < n) : 0 ≤ names.getD i 0 ∧ names.getD i 0 < (n : Int) := by
  have : names.getD i 0 ∈ names := by
    rw [List.getD_eq_getElem?_getD, List.getElem?_eq_getElem (show i < names.length by rw [N.len]; exact h)]
    exact List.getElem_mem _
  exact (N.mem _).mp this
theorem nm_inj {n : Nat} {names : List Int} (N : Names n names) {i j : Nat} (hi : i < n) (hj : j < n) (h : names.getD i 0 = names.getD j 0) : i = j := by
  rw [← idx_of N.nd (show i < names.length by rw [N.len]; exact hi), ← idx_of N.nd (show j < names.length by rw [N.len]; exact hj), h]
theorem Found.snoc {n i : Nat} {names : List Int} {R1 : Rows} {fa : List Addr} {nws : List (Addr × List Int)} (F : Found n names R1 fa nws) (N : Names n names) (hl : nws.length = i) (hi : i < n) (E : Addr) :
    Found n names R1 (fa.set (names.getD i 0).toNat E) ((E, (row R1 i).map (ren n names)) :: nws) := by
  have b := nm_at N hi
  refine ⟨by rw [List.length_set]; exact F.len, fun j q h => ?_⟩
  rw [List.reverse_cons] at h
  by_cases hj : j < i
  · rw [List.getElem?_append_left (by rw [List.length_reverse]; omega)] at h
    have b' := nm_at N (show j < n by omega)
    have := F.ok j q h
    refine ⟨?_, this.2⟩
    rw [List.getElem?_set_ne (fun e => ?_)]
    · exact this.1
    · have := nm_inj N hi (show j < n by omega) (by omega)
      omega
  · have hji : j = i := by
      have := (List.getElem?_eq_some_iff.mp h).1
      simp at this
      omega
    subst hji
    rw [List.getElem?_append_right (by rw [List.length_reverse]; omega), List.length_reverse, hl, Nat.sub_self] at h
    have h' := Option.some.inj h
    subst h'
    exact ⟨List.getElem?_set_self (by rw [F.len]; omega), rfl⟩
theorem Found.rows {n : Nat} {names : List Int} {R1 : Rows} {fa : List Addr} {nws : List (Addr × List Int)} (F : Found n names R1 fa nws) (N : Names n names) (hl : nws.length = n) {p : Nat} {a : Addr} (h : fa[p]? = some a) : ∃ q ∈ nws, q.1 = a ∧ q.2 = row (mkR n names R1) p := by
  have hp : p < n := by have := (List.getElem?_eq_some_iff.mp h).1; rw [F.len] at this; exact this
  obtain ⟨h1, h2⟩ := idx_at ((N.mem (p : Int)).mpr ⟨by omega, by omega⟩)
  rw [N.len] at h1
  obtain ⟨q, hq⟩ : ∃ q, nws.reverse[names.idxOf (p : Int)]? = some q := ⟨_, List.getElem?_eq_getElem (by rw [List.length_reverse, hl]; exact h1)⟩
  have := F.ok _ q hq
  rw [h2, Int.toNat_natCast, h] at this
  refine ⟨q, List.mem_reverse.mp (List.mem_of_getElem? hq), (Option.some.inj this.1).symm, ?_⟩
  rw [row_mkR hp]
  exact this.2
section
variable {P : Program} {w : World} {K : PySem.W.Frag} {mg : Str → Option Value} {base : Heap} {A : Adr}
theorem ok_l_rows (T : Txt K mg A) (G_l_one : Gd P w K mg base CX0 2 "_law_one" ["_law_steward_here", "_law_some"] [] (sp_l_one K A)) (G_l_ledger : Gd P w K mg base CX0 1 "_law_ledger" ["_law_steward_here", "_law_many"] [] (sp_l_ledger K A)) : Gd P w K mg base CX0 3 "_law_rows" ["_law_steward_here", "_law_places", "_law_homes"] [] (sp_l_rows K A) := by
  obtain ⟨f, fd, F, hm⟩ := T.f_l_rows
  refine ⟨⟨f, fd, [], ?_, hm, F.kp, F.binds (ps := ["_law_steward_here", "_law_places", "_law_homes"]) (fun _ _ _ _ _ _ us hl => match us, hl with | [_, _, _], _ => rfl), .nil⟩⟩
  refine F.ok sc_l_rows (fun vs H Q E h => by first | (obtain ⟨rfl, _⟩ := h; rfl) | (obtain ⟨_, rfl, _⟩ := h; rfl) | (obtain ⟨_, _, rfl, _⟩ := h; rfl) | (obtain ⟨_, _, _, rfl, _⟩ := h; rfl) | (obtain ⟨_, _, _, _, rfl, _⟩ := h; rfl) | (obtain ⟨_, _, _, _, _, rfl, _⟩ := h; rfl) | (obtain ⟨_, _, _, _, _, _, rfl, _⟩ := h; rfl) | (obtain ⟨_, _, _, _, _, _, _, rfl, _⟩ := h; rfl)) (fun cdv A' outer s H vs Q E hr h => ⟨_, (pss_cons (ps_set (i := 3) sc_l_rows.nd rfl (.inl rfl) (pe_lst pa_nil))
      (pss_cons (ps_for PassesOwn.never rfl (pi_range1 (by rfl) T.b_range (pa_cons (pv 1) pa_nil)) (pg_name (i := 4) sc_l_rows.nd rfl (.inl rfl)) (pss_cons (ps_setLc (i := 6) (own := [("_law_entry", 9)]) rfl sc_l_rows.nd rfl rfl (sw_true rfl rfl rfl (by decide +kernel)) (pi_range1 (by rfl) T.b_range (pa_cons (pe_callG G_l_one (hr.mono (by decide)) (by rfl) pass0 (pa_cons (pv 0) (pa_cons (pe_lst (pa_cons pe_int (pa_cons pe_int (pa_cons pe_int (pa_cons pe_int (pa_cons pe_int pa_nil)))))) pa_nil))) pa_nil)) (blkOk_by (N := N_l_rows) (sc := defScope s_l_rows) (own := [("_law_entry", 9)]) (by decide +kernel)) (fun _ _ _ _ _ => (pg_name (i := 9) sc_l_rows.nd rfl (by first | exact .inl rfl | exact .inr rfl))) (fun _ _ _ _ _ => pts_nil) (fun _ _ _ _ _ => (pe_callG G_l_ledger (hr.mono (by decide)) (by rfl) pass0 (pa_cons (pv 0) (pa_cons (pe_op op_addU (pv 1) (pv 2)) pa_nil)))))
      (pss_cons (ps_asg (pe_op op_addU (pe_op op_addU (pv 4) pe_int) (pe_callG G_l_ledger (hr.mono (by decide)) (by rfl) pass0 (pa_cons (pv 0) (pa_cons (pe_op op_subI (pe_op op_subI (pe_op op_addU (pv 1) (pv 2)) (pv 4)) pe_int) pa_nil)))) (pg_sub (pv 6) (pe_callG G_l_ledger (hr.mono (by decide)) (by rfl) pass0 (pa_cons (pv 0) (pa_cons (pe_callB (call_lenK K) (by rfl) T.b_len PySem.boot_len (pa_cons (pv 6) pa_nil)) pa_nil))) set_list))
      (pss_one (ps_expr (pe_bmK K PySem.F.plainAttrs_list PySem.F.slot_list_append PySem.F.type_list_append mt_append (pv 3) (pa_cons (pv 6) pa_nil)))))))
      (pss_cons (ps_asg (pe_tup (pa_cons (pe_lst pa_nil) (pa_cons (pe_listRg rfl (by rfl) T.b_list (prg_1 (by rfl) T.b_range (pv 1))) pa_nil))) (pg_tupK K (n := 2) rfl (pgs_cons (pg_name (i := 7) sc_l_rows.nd rfl (.inr rfl)) (pgs_cons (pg_name (i := 8) sc_l_rows.nd rfl (.inl rfl)) pgs_nil))))
      (pss_cons (ps_while PassesOwn.never (pt_cmpR (op_neK K hr.units) (pv 8) (pe_lst pa_nil) (nomark _)) (pss_one (ps_expr (pe_bmK K PySem.F.plainAttrs_list PySem.F.slot_list_append PySem.F.type_list_append mt_append (pv 7) (pa_cons (pe_bmK K PySem.F.plainAttrs_list PySem.F.slot_list_pop PySem.F.type_list_pop mt_popAt (pv 8) (pa_cons (pe_callG G_l_ledger (hr.mono (by decide)) (by rfl) pass0 (pa_cons (pv 0) (pa_cons (pe_callB (call_lenK K) (by rfl) T.b_len PySem.boot_len (pa_cons (pv 8) pa_nil)) pa_nil))) pa_nil)) pa_nil)))))
      (pss_cons (ps_setLc (i := 5) (own := [("_law_place", 4)]) rfl sc_l_rows.nd rfl rfl (sw_true rfl rfl rfl (by decide +kernel)) (pi_range1 (by rfl) T.b_range (pa_cons (pv 1) pa_nil)) (blkOk_by (N := N_l_rows) (sc := defScope s_l_rows) (own := [("_law_place", 4)]) (by decide +kernel)) (fun _ _ _ _ _ => (pg_name (i := 4) sc_l_rows.nd rfl (by first | exact .inl rfl | exact .inr rfl))) (fun _ _ _ _ _ => pts_nil) (fun _ _ _ _ _ => (pe_lst pa_nil)))
      (pss_cons (ps_for PassesOwn.never rfl (pi_enumK K false (by rfl) T.b_enumerate (pa_cons (pv 3) pa_nil)) (pg_tupK K (n := 2) rfl (pgs_cons (pg_name (i := 4) sc_l_rows.nd rfl (.inl rfl)) (pgs_cons (pg_name (i := 6) sc_l_rows.nd rfl (.inl rfl)) pgs_nil))) (pss_one (ps_asg (pe_lc (own := [("_law_entry", 9)]) rfl sc_l_rows.nd (pi_seqK K (pv 6)) (blkOk_by (N := N_l_rows) (sc := defScope s_l_rows) (own := [("_law_entry", 9)]) (by decide +kernel)) (fun _ _ _ _ _ => (pg_name (i := 9) sc_l_rows.nd rfl (by first | exact .inl rfl | exact .inr rfl))) (fun _ _ _ _ _ => pts_nil) (fun _ _ _ _ _ => (pe_ifExp (pt_cmpR op_ltI (pv 9) (pv 1) (nomark _)) (pe_ix (ix_seqK K) (pv 7) (pv 9) (fun _ _ => rfl)) (pv 9)))) (pg_sub (pv 5) (pe_ix (ix_seqK K) (pv 7) (pv 4) (fun _ _ => rfl)) set_list))))
      (pss_one (ps_ret (pv 5))))))))), ?_⟩)
  obtain ⟨b, n, m, rfl, c, cells, at_, lf, hW, hn1, hn5, hm1, hm9, hcl, ha0, ha1, hl0, k⟩ := h
  have C : Cur H [b] H [(b, bail c at_ lf), (c, .lst (cells.map V.int))] := hW.cur
  walk_at "rd"
  refine new_c C fun rh H1 rh0 C => ?_
  walk_at "rd"
  refine k_rng1 (j := (n : Int)) (by omega) (by omega) ?_
  refine for_r (fun i σ H' => ∃ (rs : List (Addr × List Int)) (g : Nat → Nat) (at' lf' : Int) (o4 o6 o9 : Option V), σ = [some (.ref b), some (.int n), some (.int m), some (.ref rh), o4, none, o6, none, none, o9] ∧ rs.length = i ∧ Drawn n m (rowsOf rs) g ∧ at_ ≤ at' ∧ at' ≤ at_ + 7 * i ∧ 0 ≤ lf' ∧
    Cur H [b] H' ((rh, .lst ((adsOf rs).map V.ref)) :: (b, bail c at' lf') :: (c, .lst (cells.map V.int)) :: famOf rs)) ⟨[], fun _ => 0, at_, lf, none, none, none, rfl, rfl, ⟨fun j h => absurd h (Nat.not_lt_zero _), fun j h => absurd h (Nat.not_lt_zero _), fun j h => absurd h (Nat.not_lt_zero _)⟩, Int.le_refl _, by omega, hl0, C⟩ ?_ ?_
  · rintro i σ H' hi ⟨rs, g, at', lf', o4, o6, o9, rfl, hrl, hD, hat0, hat1, hlf, C⟩
    have hin : i < n := by omega
    walk_at "rd"
    refine new_c C fun dl H2 dl0 C => ?_
    walk_at "rd"
    refine ⟨b, dl, rfl, c, cells, at', lf', [2, 1, 3, 2, 4], C.get 2 rfl, C.get 3 rfl, C.ne 2 3 rfl rfl (by decide), C.get 0 rfl, C.ne 2 0 rfl rfl (by decide), hcl, by omega, by omega, hlf, by decide, by decide, fun dn at1 lf1 H3 hdn a1 a2 a3 r3 e3 => ?_⟩
    have C := C.call1 2 rfl (.inl (by simp)) r3 e3
    have hdn' : 1 ≤ dn ∧ dn ≤ 4 := by
      simp only [List.mem_cons, List.not_mem_nil, or_false] at hdn
      omega
    walk_at "rd"
    refine k_rng1 (j := dn) (by omega) (by omega) ?_
    refine lc_r C (fun D j H' => ∃ (rw : List Int) (at2 lf2 : Int), rw.length = j ∧ (∀ x ∈ rw, 0 ≤ x ∧ x < (n : Int) + m) ∧ at1 ≤ at2 ∧ at2 ≤ at1 + j ∧ 0 ≤ lf2 ∧
      Cur H [b] H' ((D, .lst (rw.map V.int)) :: (dl, .lst [.int 2, .int 1, .int 3, .int 2, .int 4]) :: (rh, .lst ((adsOf rs).map V.ref)) :: (b, bail c at2 lf2) :: (c, .lst (cells.map V.int)) :: famOf rs)) (fun D H1 D0 C => ⟨[], at1, lf1, rfl, by simp, Int.le_refl _, by omega, a3, C⟩) (fun D j H' D0 hj h => ?_) (fun D H' D0 h => ?_)
    · obtain ⟨rw, at2, lf2, hrw, hx, b0, b1, b2, C⟩ := h
      walk_at "rd"
      refine ⟨rfl, ?_⟩
      walk_at "rd"
      refine use_crook C 3 4 rfl rfl (by decide) (.inl (by simp)) hcl (by omega) (by omega) b2 (by omega) (by omega) fun dd at3 lf3 H4 d0 d1 c0 c1 c2 C => ?_
      refine k_acc (C.get 0 rfl) (by rw [len_map]; omega) ?_
      refine mod_c C 0 rfl (.inr D0) fun H5 C => ?_
      refine ⟨rw ++ [dd], at3, lf3, by simp [hrw], fun x hx' => ?_, by omega, by omega, c2, ?_⟩
      · rcases List.mem_append.mp hx' with q | q
        · exact hx x q
        · rw [List.mem_singleton.mp q]; exact ⟨d0, d1⟩
      · rw [List.map_append]; exact C
    · obtain ⟨rw, at2, lf2, hrw, hx, b0, b1, b2, C⟩ := h
      have C := drop2 C
      walk_at "rd"
      refine use_crook C 2 3 rfl rfl (by decide) (.inl (by simp)) hcl (by omega) (by omega) b2 (by omega) (by omega) fun d2 at3 lf3 H5 d20 d21 c0 c1 c2 C => ?_
      walk_at "rd"
      refine use_crook C 2 3 rfl rfl (by decide) (.inl (by simp)) hcl (by omega) (by omega) c2 (by rw [len_map]; omega) (by rw [len_map]; omega) fun d3 at4 lf4 H6 d30 d31 f0 f1 f2 C => ?_
      rw [len_map] at d31
      refine r_setL (C.get 0 rfl) (ixN_of d30 (by rw [len_map]; exact d31)) ?_
      refine mod_c C 0 rfl (.inr D0) fun H7 C => ?_
      walk_at "rd"
      refine ⟨ty_list (C.get 1 rfl), ?_⟩
      walk_at "rd"
      refine r_app (C.get 1 rfl) (by rw [List.length_map, adsOf_len]; omega) ?_
      refine mod_c C 1 rfl (.inr rh0) fun H8 C => ?_
      have C := rot C
      have e1 : (rw.map V.int).set d3.toNat (V.int (0 + (i : Int) + 1 + d2)) = (rw.set d3.toNat ((i : Int) + 1 + d2)).map V.int := by rw [Int.zero_add, ← List.map_set]
      have e2 : (adsOf rs).map V.ref ++ [V.ref D] = (adsOf ((D, rw.set d3.toNat ((i : Int) + 1 + d2)) :: rs)).map V.ref := by rw [adsOf_cons, List.map_append]; rfl
      rw [e1, e2] at C
      refine ⟨(D, rw.set d3.toNat ((i : Int) + 1 + d2)) :: rs, fun j => if j = (rowsOf rs).length then d3.toNat else g j, at4, lf4, _, _, _, rfl, by simp [hrl], ?_, by omega, by omega, f2, C⟩
      rw [rowsOf_cons]
      refine hD.snoc (by rw [List.length_set]; omega) (fun x hx' => ?_) (by rw [List.length_set]; omega) (fun x hx' => ?_)
      · rcases set_mem hx' with q | q
        · exact hx x q
        · rw [q]; omega
      · rw [List.getElem?_set_self (by omega)] at hx'
        rw [← Option.some.inj hx', rowsOf_len, hrl]
        omega
  · rintro σ H' ⟨rs, g, at', lf', o4, o6, o9, rfl, hrl, hD, hat0, hat1, hlf, C⟩
    rw [Int.toNat_natCast] at hrl hat1
    walk_at "rd"
    refine new_c C fun nm H1 nm0 C => ?_
    walk_at "rd"
    refine ⟨RgOk.of_le (by decide) (by omega) (by decide) (by omega), ?_⟩
    refine new_c C fun la H2 la0 C => ?_
    walk_at "rd"
    refine new_c C fun tt H3 tt0 C => ?_
    refine u_gtup (SqT.of (C.get 0 rfl)) rfl ?_
    walk_at "rd"
    rw [rg_ints] at C
    have C := C.drop
    have C : Cur H [b] H3 ((nm, .lst (([] : List Int).map V.int)) :: (la, .lst (((List.range n).map fun (i : Nat) => ((i : Nat) : Int)).map V.int)) :: (rh, .lst ((adsOf rs).map V.ref)) :: (b, bail c at' lf') :: (c, .lst (cells.map V.int)) :: famOf rs) :=
      C.sub (by have := C.nd; simp only [List.map_cons, List.nodup_cons, List.mem_cons, not_or] at this ⊢; obtain ⟨⟨a1, a2⟩, ⟨b1, b2⟩⟩ := this; exact ⟨⟨Ne.symm a1, b1⟩, a2, b2⟩) (fun p hp => by
        simp only [List.mem_cons] at hp ⊢
        rcases hp with h | h | h | h | h | h <;> simp [h])
    refine u_while (fun r σ H' => ∃ (names left : List Int) (at2 lf2 : Int), r = left.length ∧ σ = [some (.ref b), some (.int n), some (.int m), some (.ref rh), o4, none, o6, some (.ref nm), some (.ref la), o9] ∧ Part n names left ∧ at' ≤ at2 ∧ at2 ≤ at' + names.length ∧ 0 ≤ lf2 ∧
      Cur H [b] H' ((nm, .lst (names.map V.int)) :: (la, .lst (left.map V.int)) :: (rh, .lst ((adsOf rs).map V.ref)) :: (b, bail c at2 lf2) :: (c, .lst (cells.map V.int)) :: famOf rs)) (m0 := _) ⟨[], _, at', lf', rfl, rfl, Part.start n, Int.le_refl _, by simp, hlf, C⟩ ?_
    rintro _ σ H' ⟨names, left, at2, lf2, rfl, rfl, hP, b0, b1, b2, C⟩
    have hPl := hP.2.2
    walk_at "rd"
    refine new_c C fun z0 H4 z00 C => ?_
    refine r_neL (ns := left) (ms := []) (SqL.of (C.get 2 rfl)) (SqL.of (C.get 0 rfl)) ?_
    have C := C.drop
    walk_at "rd"
    refine b_ndec (fun hne => ?_) (fun hnil => ?_)
    · have hlp : 1 ≤ left.length := List.length_pos_iff.mpr hne
      refine wh_b ?_
      walk_at "rd"
      refine ⟨ty_list (C.get 0 rfl), ?_⟩
      walk_at "rd"
      refine ⟨ty_list (C.get 1 rfl), ?_⟩
      walk_at "rd"
      refine use_crook C 3 4 rfl rfl (by decide) (.inl (by simp)) hcl (by omega) (by omega) b2 (by rw [len_map]; omega) (by rw [len_map]; omega) fun dk at3 lf3 H5 d0 d1 c0 c1 c2 C => ?_
      rw [len_map] at d1
      obtain ⟨x, hx⟩ : ∃ x, left[dk.toNat]? = some x := ⟨_, List.getElem?_eq_getElem (by omega)⟩
      walk_at "rd"
      refine r_popAt (y := .int x) (C.get 1 rfl) d0 (by rw [len_map]; exact d1) (by rw [len_map]; omega) (by rw [List.getElem?_map, hx]; rfl) ?_
      refine mod_c C 1 rfl (.inr la0) fun H6 C => ?_
      walk_at "rd"
      refine r_app (C.get 0 rfl) (by rw [len_map]; omega) ?_
      refine mod_c C 0 rfl (.inr nm0) fun H7 C => ?_
      have e1 : (left.map V.int).eraseIdx dk.toNat = (left.eraseIdx dk.toNat).map V.int := erase_map ..
      have e2 : names.map V.int ++ [V.int x] = (names ++ [x]).map V.int := by rw [List.map_append]; rfl
      rw [e1, e2] at C
      refine ⟨_, ?_, names ++ [x], left.eraseIdx dk.toNat, at3, lf3, rfl, rfl, hP.pop hx, by omega, by simp; omega, c2, C⟩
      rw [List.length_eraseIdx, if_pos (by omega)]
      omega
    · subst hnil
      have N := hP.names
      have hNl := N.len
      have hP0 : names.length = n := hNl
      walk_at "rd"
      have C : Cur H [b] H4 ((nm, .lst (names.map V.int)) :: (rh, .lst ((adsOf rs).map V.ref)) :: (b, bail c at2 lf2) :: (c, .lst (cells.map V.int)) :: famOf rs) :=
        C.sub (by have := C.nd; simp only [List.map_cons, List.nodup_cons, List.mem_cons, not_or] at this ⊢; obtain ⟨⟨a1, a2⟩, ⟨b1, b2⟩⟩ := this; exact ⟨a2, b2⟩) (fun p hp => by
          simp only [List.mem_cons] at hp ⊢
          rcases hp with h | h | h | h | h <;> simp [h])
      refine k_rng1 (j := (n : Int)) (by omega) (by omega) ?_
      refine lc_r C (fun D j H' => ∃ es : List Addr, es.length = j ∧ Cur H [b] H' ((D, .lst (es.map V.ref)) :: (nm, .lst (names.map V.int)) :: (rh, .lst ((adsOf rs).map V.ref)) :: (b, bail c at2 lf2) :: (c, .lst (cells.map V.int)) :: famOf rs) ∧ (∀ a ∈ es, H a = none)) (fun D H1 D0 C => ⟨[], rfl, C, by simp⟩) (fun D j H' D0 hj h => ?_) (fun D H' D0 h => ?_)
      · obtain ⟨es, hes, C, he0⟩ := h
        walk_at "rd"
        refine ⟨rfl, ?_⟩
        walk_at "rd"
        refine new_c C fun y H5 y0 C => ?_
        refine k_acc (C.get 1 rfl) (by rw [List.length_map]; omega) ?_
        refine mod_c C 1 rfl (.inr D0) fun H6 C => ?_
        have C := C.drop
        rw [List.set_cons_zero] at C
        refine ⟨es ++ [y], by simp [hes], by rw [List.map_append]; exact C, fun a ha => ?_⟩
        rcases List.mem_append.mp ha with q | q
        · exact he0 a q
        · rw [List.mem_singleton.mp q]; exact y0
      · obtain ⟨es, hes, C, he0⟩ := h
        rw [Int.toNat_natCast] at hes
        walk_at "rd"
        have Fd0 : Found n names (rowsOf rs) es [] := ⟨hes, fun j q h => by simp at h⟩
        refine k_enum (k := false) (xs := (adsOf rs).map V.ref) (SqL.of (C.get 2 rfl)) ?_
        refine for_e (k := false) (xs := (adsOf rs).map V.ref) (fun i σ H' => ∃ (nws : List (Addr × List Int)) (fa : List Addr) (o4 o6 o9 : Option V), σ = [some (.ref b), some (.int n), some (.int m), some (.ref rh), o4, some (.ref D), o6, some (.ref nm), some (.ref la), o9] ∧ nws.length = i ∧ Found n names (rowsOf rs) fa nws ∧ (∀ q ∈ nws, H q.1 = none) ∧
          Cur H [b] H' ((D, .lst (fa.map V.ref)) :: (nm, .lst (names.map V.int)) :: (rh, .lst ((adsOf rs).map V.ref)) :: (b, bail c at2 lf2) :: (c, .lst (cells.map V.int)) :: (famOf nws ++ famOf rs))) ⟨[], es, o4, o6, o9, rfl, rfl, Fd0, by simp, C⟩ ?_ ?_ ?_
        · rintro i σ H' hi ⟨nws, fa, o4, o6, o9, rfl, hnl, Fd, hnn, C⟩
          exact SqL.of (C.get 2 rfl)
        · rintro i x σ H' hx ⟨nws, fa, o4, o6, o9, rfl, hnl, Fd, hnn, C⟩
          have hin : i < n := by
            have := (List.getElem?_eq_some_iff.mp hx).1
            rw [List.length_map, adsOf_len] at this; omega
          obtain ⟨q, hq⟩ : ∃ q, rs.reverse[i]? = some q := ⟨_, List.getElem?_eq_getElem (by rw [List.length_reverse]; omega)⟩
          rw [List.getElem?_map, ads_at hq] at hx
          obtain rfl : V.ref q.1 = x := Option.some.inj hx
          have hqm : q ∈ rs := List.mem_reverse.mp (List.mem_of_getElem? hq)
          have hqr : row (rowsOf rs) i = q.2 := row_at hq
          have hql : q.2.length ≤ 4 := by have := (hD.len i (by rw [rowsOf_len]; omega)).2; rw [hqr] at this; exact this
          have hqb : ∀ x ∈ q.2, 0 ≤ x ∧ x < (n : Int) + m := by have := hD.ents i (by rw [rowsOf_len]; omega); rw [hqr] at this; exact this
          refine new_c C fun t2 H2 t20 C => ?_
          refine u_gtup (SqT.of (C.get 0 rfl)) rfl ?_
          have C := C.drop
          walk_at "rd"
          have hqa : ∀ {H' : Hp} {x : Addr × HO}, Cur H [b] H' (x :: (D, .lst (fa.map V.ref)) :: (nm, .lst (names.map V.int)) :: (rh, .lst ((adsOf rs).map V.ref)) :: (b, bail c at2 lf2) :: (c, .lst (cells.map V.int)) :: (famOf nws ++ famOf rs)) → H' q.1 = some (.lst (q.2.map V.int)) := fun C => C.own _ (List.mem_cons_of_mem _ (List.mem_cons_of_mem _ (List.mem_cons_of_mem _ (List.mem_cons_of_mem _ (List.mem_cons_of_mem _ (List.mem_cons_of_mem _ (List.mem_append_right _ (fam_mem hqm))))))))
          refine u_sseqL ?_
          walk_at "rd"
          refine k_seqL (xs := q.2.map V.int) (SqL.of (C.own _ (List.mem_cons_of_mem _ (List.mem_cons_of_mem _ (List.mem_cons_of_mem _ (List.mem_cons_of_mem _ (List.mem_cons_of_mem _ (List.mem_append_right _ (fam_mem hqm))))))))) ?_
          refine lc_l (xs := q.2.map V.int) C (fun E j H' => Cur H [b] H' ((E, .lst (((q.2.take j).map (ren n names)).map V.int)) :: (D, .lst (fa.map V.ref)) :: (nm, .lst (names.map V.int)) :: (rh, .lst ((adsOf rs).map V.ref)) :: (b, bail c at2 lf2) :: (c, .lst (cells.map V.int)) :: (famOf nws ++ famOf rs))) (fun E H1 E0 C => C) (fun E j H' hj C => SqL.of (hqa C)) (fun E j x H' E0 hx C => ?_) (fun E H' E0 C => ?_)
          · obtain ⟨e, he, rfl⟩ := int_of hx
            obtain ⟨e0, e1⟩ := hqb e (List.mem_of_getElem? he)
            have hjl := (List.getElem?_eq_some_iff.mp he).1
            walk_at "rd"
            refine ⟨rfl, ?_⟩
            have et : (((q.2.take j).map (ren n names)).map V.int) ++ [V.int (ren n names e)] = (((q.2.take (j + 1)).map (ren n names)).map V.int) := by
              rw [List.take_add_one, he, List.map_append, List.map_append]; rfl
            walk_at "rd"
            refine b_dec (fun hlt => ?_) (fun hge => ?_)
            · have er : ren n names e = names[e.toNat]'(by omega) := by
                unfold ren; rw [if_pos hlt, List.getD_eq_getElem?_getD, List.getElem?_eq_getElem (by omega)]; rfl
              walk_at "rd"
              refine r_ixL (SqL.of (C.get 2 rfl)) (atI_int (ns := names) e0 (by omega)) ?_
              refine k_acc (C.get 0 rfl) (by rw [len_map, List.length_map, List.length_take]; omega) ?_
              refine mod_c C 0 rfl (.inr E0) fun H6 C => ?_
              rw [← er, et] at C
              exact C
            · have er : ren n names e = e := by unfold ren; rw [if_neg hge]
              walk_at "rd"
              refine k_acc (C.get 0 rfl) (by rw [len_map, List.length_map, List.length_take]; omega) ?_
              refine mod_c C 0 rfl (.inr E0) fun H6 C => ?_
              rw [er] at et
              rw [et] at C
              exact C
          · have etl : (q.2.take (q.2.map V.int).length) = q.2 := by rw [len_map, List.take_length]
            rw [etl] at C
            have C : Cur H [b] H' ((D, .lst (fa.map V.ref)) :: (nm, .lst (names.map V.int)) :: (rh, .lst ((adsOf rs).map V.ref)) :: (b, bail c at2 lf2) :: (c, .lst (cells.map V.int)) :: ((E, .lst ((q.2.map (ren n names)).map V.int)) :: (famOf nws ++ famOf rs))) :=
              C.perm (List.perm_middle (a := (E, HO.lst ((q.2.map (ren n names)).map V.int))) (l₁ := [(D, HO.lst (fa.map V.ref)), (nm, .lst (names.map V.int)), (rh, .lst ((adsOf rs).map V.ref)), (b, bail c at2 lf2), (c, .lst (cells.map V.int))]) (l₂ := famOf nws ++ famOf rs)).symm
            obtain ⟨n0, n1⟩ := nm_at N hin
            have en : names[(i : Int).toNat]'(by omega) = names.getD i 0 := by
              rw [List.getD_eq_getElem?_getD, List.getElem?_eq_getElem (by omega)]; rfl
            walk_at "rd"
            refine r_ixL (SqL.of (C.get 1 rfl)) (atI_int (ns := names) (i := (i : Int)) (by omega) (by omega)) ?_
            rw [en]
            refine r_setL (C.get 0 rfl) (ixN_of n0 (by rw [List.length_map, Fd.len]; exact n1)) ?_
            refine mod_c C 0 rfl (.inr D0) fun H7 C => ?_
            rw [List.set_cons_zero, ← List.map_set] at C
            refine ⟨(E, (row (rowsOf rs) i).map (ren n names)) :: nws, _, _, _, _, rfl, by simp [hnl], Fd.snoc N hnl hin E, fun q' hq' => ?_, ?_⟩
            · rcases List.mem_cons.mp hq' with z | z
              · rw [z]; exact E0
              · exact hnn q' z
            · rw [hqr]; exact C
        · rintro σ H' ⟨nws, fa, o4, o6, o9, rfl, hnl, Fd, hnn, C⟩
          rw [List.length_map, adsOf_len, hrl] at hnl
          walk_at "rd"
          refine k D fa (mkR n names (rowsOf rs)) _ _ at2 lf2 H' (by unfold mkR; rw [List.length_map, List.length_range]) (good_of hn1 hn5 hm1 (by rw [rowsOf_len, hrl]) hD N) (by omega) (by omega) b2 C.toRet (C.get 3 rfl) D0 (C.get 0 rfl) (fun a ha => ?_) ⟨by rw [Fd.len]; unfold mkR; rw [List.length_map, List.length_range], fun i a hia => ?_⟩
          · obtain ⟨p, hp, e⟩ := List.mem_iff_getElem.mp ha
            obtain ⟨q, hq, e1, e2⟩ := Fd.rows N hnl (p := p) (a := a) (by rw [List.getElem?_eq_getElem hp, e])
            rw [← e1]; exact hnn q hq
          · obtain ⟨q, hq, e1, e2⟩ := Fd.rows N hnl hia
            rw [← e1, ← e2]
            exact C.own _ (List.mem_cons_of_mem _ (List.mem_cons_of_mem _ (List.mem_cons_of_mem _ (List.mem_cons_of_mem _ (List.mem_cons_of_mem _ (List.mem_append_left _ (fam_mem hq)))))))
end
end K67

end

section
set_option Elab.async false
set_option linter.all false
set_option maxRecDepth 100000
set_option maxHeartbeats 1000000
namespace K67
open PySem PySem.Spec PyProof.Rows L2 Nd M94 M67
set_option hygiene false
local macro_rules | `(tactic| walk_at "hg") => `(tactic| first | assumption | exact C.get 0 rfl | exact C.get 1 rfl | exact C.get 2 rfl | exact C.get 3 rfl | exact C.get 4 rfl | exact C.get 5 rfl | exact C.get 6 rfl | exact C.get 7 rfl | exact C.get 8 rfl | exact C.get 9 rfl)
local macro_rules | `(tactic| walk_at "rd1") => `(tactic| first
  | with_reducible refine u_seq ?_ | with_reducible refine u_asg ?_ | ((with_reducible refine' u_var ?q7hv ?_); (case q7hv => exact rfl)) | with_reducible refine u_c ?_ | with_reducible refine u_op ?_ | with_reducible refine u_if ?_ | with_reducible refine u_ret ?_
  | with_reducible refine u_test ?_ | with_reducible refine u_tB ?_ | with_reducible refine u_and ?_ | with_reducible refine u_or ?_ | with_reducible refine u_not ?_ | with_reducible refine u_call ?_ | with_reducible refine u_cb ?_ | with_reducible refine u_cons ?_ | with_reducible refine u_nil ?_
  | with_reducible refine u_gname ?_ | with_reducible refine u_gcons ?_ | with_reducible refine u_gnil ?_ | with_reducible refine u_gsub ?_ | with_reducible refine u_lst ?_ | with_reducible refine u_tup ?_ | with_reducible refine u_un ?_ | with_reducible refine u_ifE ?_
  | with_reducible refine u_drop ?_ | with_reducible refine u_next ?_ | with_reducible refine u_retN ?_ | with_reducible refine u_tf ?_ | with_reducible refine u_fld ?_ | with_reducible refine u_gfld ?_ | with_reducible refine u_par ?_ | with_reducible refine u_par3 ?_ | with_reducible refine u_meth ?_ | with_reducible refine u_prop ?_ | with_reducible refine u_make ?_
  | with_reducible refine u_bm ?_ | with_reducible refine u_bm0 ?_ | with_reducible refine u_sl ?_ | with_reducible refine u_noPart ?_ | with_reducible refine u_part ?_ | with_reducible refine u_chain ?_ | with_reducible refine u_andV ?_ | with_reducible refine u_orV ?_ | with_reducible refine u_notV ?_
  | with_reducible refine u_listRg ?_ | with_reducible refine u_rg1 ?_ | with_reducible refine u_lc2 ?_ | with_reducible refine u_enum ?_ | with_reducible refine u_zip ?_ | with_reducible refine u_for ?_ | with_reducible refine u_lc ?_ | with_reducible refine u_rng1 ?_ | with_reducible refine u_rng2 ?_ | with_reducible refine u_yes ?_ | with_reducible refine u_brk ?_ | with_reducible refine u_cont ?_
  | with_reducible refine r_add ?_ | with_reducible refine r_sub ?_ | with_reducible refine r_lt ?_ | with_reducible refine r_le ?_ | with_reducible refine r_gt ?_ | with_reducible refine r_ge ?_ | with_reducible refine r_eqI ?_ | with_reducible refine r_neI ?_ | with_reducible refine r_neg ?_ | with_reducible refine r_int ?_ | with_reducible refine r_intB ?_ | with_reducible refine r_abs ?_ | with_reducible refine r_isNi ?_ | with_reducible refine r_isNn ?_ | with_reducible refine r_isNr ?_ | with_reducible refine r_isNs ?_ | with_reducible refine r_notN ?_
  | ((with_reducible refine' r_ixL ?q7hs ?q7ha ?_); (case q7hs => exact SqL.of (by walk_at "hg")); (case q7ha => first | exact rfl | exact atI_nat (by assumption)))
  | ((with_reducible refine' r_ixT ?q7hs ?q7ha ?_); (case q7hs => exact SqT.of (by walk_at "hg")); (case q7ha => first | exact rfl | exact atI_nat (by assumption)))
  | ((with_reducible refine' r_len ?q7hs ?_); (case q7hs => exact SqL.of (by walk_at "hg")))
  | ((with_reducible refine' r_lenT ?q7hs ?_); (case q7hs => exact SqT.of (by walk_at "hg")))
  | ((with_reducible refine' r_mod ?q7c ?_); (case q7c => first | decide | omega)) | ((with_reducible refine' r_div ?q7c ?_); (case q7c => first | (constructor <;> decide) | (constructor <;> omega)))
  | ((with_reducible refine' r_mul ?q7c ?_); (case q7c => first | exact .inl ⟨by omega, by omega⟩ | exact .inr ⟨by omega, by omega⟩))
  | ((with_reducible refine' r_pow ?q7c ?_); (case q7c => exact ⟨by omega, by omega, by omega⟩))
  | with_reducible refine b_nT ?_ | with_reducible refine b_nF ?_ | with_reducible refine iteF ?_ | with_reducible refine iteT ?_
  | with_reducible refine k_blA ?_ | with_reducible refine k_int ?_ | with_reducible refine k_two ?_ | with_reducible refine k_three ?_
  | ((with_reducible refine' k_size ?q7hn ?_); (case q7hn => exact Nat.le_of_ble_eq_true rfl))
  | ((with_reducible refine' k_fld ?q7ha ?q7c ?q7n ?q7hl ?_); (case q7ha => walk_at "hg"); (case q7c => walk_at "cls"); (case q7n => walk_at "att"); (case q7hl => exact rfl))
  | ((with_reducible refine' k_put ?q7ha ?q7c ?q7n ?q7hl ?_); (case q7ha => walk_at "hg"); (case q7c => walk_at "cls"); (case q7n => walk_at "att"); (case q7hl => first | decide | exact Nat.lt_of_lt_of_le (Nat.lt_succ_self _) (Nat.le_of_ble_eq_true rfl)))
  | ((with_reducible refine' k_meth ?q7ha ?q7hl ?_); (case q7ha => walk_at "hg"); (case q7hl => exact rfl))
  | ((with_reducible refine' k_prop ?q7ha ?_); (case q7ha => walk_at "hg")))
local macro_rules | `(tactic| walk_at "rd") => `(tactic| repeat walk_at "rd1")
local macro_rules | `(tactic| walk_at "cls") => `(tactic| first | exact T.c_Board | exact T.c_World)
local macro_rules | `(tactic| walk_at "att") => `(tactic| first | exact T.n_Board_homes | exact T.n_Board_places | exact T.n_Board_rows | exact T.n_World_board | exact T.n_World_shown | exact T.n_World_standing | exact T.n_World_won | exact T.n_World_steps)

local macro_rules | `(tactic| walk_at "rdp") => `(tactic| repeat (first | walk_at "rd1" | ((with_reducible refine' r_num ?q7h ?_); (case q7h => assumption)) | ((with_reducible refine' r_den ?q7h ?_); (case q7h => assumption))))
def spLp : Sp := fun vs H Q E => ∃ (n d : Int), vs = [.int n, .int d] ∧ d ≠ 0 ∧ d.natAbs < 2 ^ 9000 ∧ NewP Q H (Rat.divInt n d)
def spP1 (P : Rat → Prop) (f : Rat → Rat) (K : PySem.W.Frag) : Sp := fun vs H Q E => ∃ a : Addr, vs = [.ref a] ∧ ∃ x : Rat, PrA K H a x ∧ P x ∧ NewP Q H (f x)
def spP2 (P : Rat → Rat → Prop) (f : Rat → Rat → Rat) (K : PySem.W.Frag) : Sp := fun vs H Q E => ∃ a b : Addr, vs = [.ref a, .ref b] ∧ ∃ x y : Rat, PrA K H a x ∧ PrA K H b y ∧ P x y ∧ NewP Q H (f x y)
def small2 (x y : Rat) : Prop := Ht x 4500 ∧ Ht y 4500
def sp_least_pair (K : PySem.W.Frag) (A : Adr) : Sp := spLp
def sp_both (K : PySem.W.Frag) (A : Adr) : Sp := spP2 small2 (· + ·) K
def sp_times (K : PySem.W.Frag) (A : Adr) : Sp := spP2 small2 (· * ·) K
def sp_turned (K : PySem.W.Frag) (A : Adr) : Sp := spP1 (fun _ => True) (fun x => -x) K
def sp_over (K : PySem.W.Frag) (A : Adr) : Sp := spP2 (fun x y => small2 x y ∧ y ≠ 0) (fun x y => x * y⁻¹) K
def sp_l_short (K : PySem.W.Frag) (A : Adr) : Sp := spLp
def sp_l_plus (K : PySem.W.Frag) (A : Adr) : Sp := spP2 small2 (· + ·) K
def sp_l_less (K : PySem.W.Frag) (A : Adr) : Sp := spP2 small2 (fun x y => x + -y) K
def sp_l_by (K : PySem.W.Frag) (A : Adr) : Sp := spP2 small2 (· * ·) K
/-- all added up, from the left -/
def tot (f : Nat → Rat) : Nat → Rat := sumR f
def sp_total_of (K : PySem.W.Frag) (A : Adr) : Sp := fun vs H Q E => ∃ l : Addr, vs = [.ref l] ∧ ∃ (ads : List Addr) (f : Nat → Rat) (n : Nat), H l = some (.lst (ads.map V.ref)) ∧ PrL K H ads f n ∧ (∀ i, i < n → Ht (f i) 4500) ∧ (∀ i, i < n → Ht (tot f i) 4500) ∧
  ∀ t H', Ret [] H H' → PrA K H' t (tot f n) → Q (.ref t) H'
theorem pos_den2 {x y : Rat} : (0 : Int) < (x.den : Int) * (y.den : Int) := Int.mul_pos pos_of_den pos_of_den
theorem den2_ne {x y : Rat} : (x.den : Int) * (y.den : Int) ≠ 0 := by have := pos_den2 (x := x) (y := y); omega
section
variable {P : Program} {w : World} {K : PySem.W.Frag} {mg : Str → Option Value} {base : Heap} {A : Adr}
theorem ok_least_pair (T : Txt K mg A)  : Gd P w K mg base CX0 1 "least_pair" ["up", "down"] [] (sp_least_pair K A) := by
  obtain ⟨f, fd, F, hm⟩ := T.f_least_pair
  refine ⟨⟨f, fd, [], ?_, hm, F.kp, F.binds (ps := ["up", "down"]) (fun _ _ _ _ _ _ us hl => match us, hl with | [_, _], _ => rfl), .nil⟩⟩
  refine F.ok sc_least_pair (fun vs H Q E h => by first | (obtain ⟨rfl, _⟩ := h; rfl) | (obtain ⟨_, rfl, _⟩ := h; rfl) | (obtain ⟨_, _, rfl, _⟩ := h; rfl) | (obtain ⟨_, _, _, rfl, _⟩ := h; rfl) | (obtain ⟨_, _, _, _, rfl, _⟩ := h; rfl) | (obtain ⟨_, _, _, _, _, rfl, _⟩ := h; rfl) | (obtain ⟨_, _, _, _, _, _, rfl, _⟩ := h; rfl) | (obtain ⟨_, _, _, _, _, _, _, rfl, _⟩ := h; rfl)) (fun cdv A' outer s H vs Q E hr h => ⟨_, (pss_cons (ps_set (i := 2) sc_least_pair.nd rfl (.inl rfl) (pe_ifExp (pt_cmpR op_gtI (pv 1) pe_int (nomark _)) (pe_callMB cr_gcd (by rfl) T.g_gcd (pa_cons (pv 0) (pa_cons (pv 1) pa_nil))) (pe_un un_negI (pe_callMB cr_gcd (by rfl) T.g_gcd (pa_cons (pv 0) (pa_cons (pv 1) pa_nil))))))
      (pss_one (ps_ret (pe_tup (pa_cons (pe_op op_divB (pv 0) (pv 2)) (pa_cons (pe_op op_divB (pv 1) (pv 2)) pa_nil)))))), ?_⟩)
  obtain ⟨n, d, rfl, hd, hdd, k⟩ := h
  have C : Cur H [] H [] := Cur.start (by simp) (by simp)
  have e1 : ((Nat.gcd n.natAbs d.natAbs : Nat) : Int) = (Int.gcd n d : Int) := rfl
  walk_at "rd"
  refine b_dec (fun hp => ?_) (fun hp => ?_)
  · walk_at "rd"
    refine r_gcd ?_
    rw [e1, show (Int.gcd n d : Int) = sg n d by unfold sg; rw [if_pos hp]]
    walk_at "rd"
    refine r_divB (div_ok n hd hdd) ?_
    walk_at "rd"
    refine r_divB (div_ok d hd hdd) ?_
    rw [(lpF hd).1, (lpF hd).2]
    walk_at "rd"
    exact new_c C fun t H1 t0 C => k t H1 C.ret t0 (C.get 0 rfl)
  · walk_at "rd"
    refine r_gcd ?_
    walk_at "rd"
    rw [e1, show -(Int.gcd n d : Int) = sg n d by unfold sg; rw [if_neg hp]]
    walk_at "rd"
    refine r_divB (div_ok n hd hdd) ?_
    walk_at "rd"
    refine r_divB (div_ok d hd hdd) ?_
    rw [(lpF hd).1, (lpF hd).2]
    walk_at "rd"
    exact new_c C fun t H1 t0 C => k t H1 C.ret t0 (C.get 0 rfl)
theorem ok_both (T : Txt K mg A) (G_least_pair : Gd P w K mg base CX0 1 "least_pair" ["up", "down"] [] (sp_least_pair K A)) : Gd P w K mg base CX0 2 "both" ["one", "other"] [] (sp_both K A) := by
  obtain ⟨f, fd, F, hm⟩ := T.f_both
  refine ⟨⟨f, fd, [], ?_, hm, F.kp, F.binds (ps := ["one", "other"]) (fun _ _ _ _ _ _ us hl => match us, hl with | [_, _], _ => rfl), .nil⟩⟩
  refine F.ok sc_both (fun vs H Q E h => by first | (obtain ⟨rfl, _⟩ := h; rfl) | (obtain ⟨_, rfl, _⟩ := h; rfl) | (obtain ⟨_, _, rfl, _⟩ := h; rfl) | (obtain ⟨_, _, _, rfl, _⟩ := h; rfl) | (obtain ⟨_, _, _, _, rfl, _⟩ := h; rfl) | (obtain ⟨_, _, _, _, _, rfl, _⟩ := h; rfl) | (obtain ⟨_, _, _, _, _, _, rfl, _⟩ := h; rfl) | (obtain ⟨_, _, _, _, _, _, _, rfl, _⟩ := h; rfl)) (fun cdv A' outer s H vs Q E hr h => ⟨_, (pss_one (ps_ret (pe_callG G_least_pair (hr.mono (by decide)) (by rfl) pass0 (pa_cons (pe_op op_addU (pe_op op_mulB (pe_ix (ix_seqK K) (pv 0) pe_int (fun _ _ => rfl)) (pe_ix (ix_seqK K) (pv 1) pe_int (fun _ _ => rfl))) (pe_op op_mulB (pe_ix (ix_seqK K) (pv 1) pe_int (fun _ _ => rfl)) (pe_ix (ix_seqK K) (pv 0) pe_int (fun _ _ => rfl)))) (pa_cons (pe_op op_mulB (pe_ix (ix_seqK K) (pv 0) pe_int (fun _ _ => rfl)) (pe_ix (ix_seqK K) (pv 1) pe_int (fun _ _ => rfl))) pa_nil))))), ?_⟩)
  obtain ⟨a, b, rfl, x, y, hx, hy, ⟨bx, byy⟩, k⟩ := h
  walk_at "rdp"
  refine r_mulB (mul_ok bx.n byy.d (by decide) (by decide)) ?_
  walk_at "rdp"
  refine r_mulB (mul_ok byy.n bx.d (by decide) (by decide)) ?_
  walk_at "rdp"
  refine r_mulB (mul_ok bx.d byy.d (by decide) (by decide)) ?_
  walk_at "rdp"
  exact ⟨_, _, rfl, den2_ne, big_mul bx.d byy.d, by rw [add_pair]; exact k⟩
theorem ok_times (T : Txt K mg A) (G_least_pair : Gd P w K mg base CX0 1 "least_pair" ["up", "down"] [] (sp_least_pair K A)) : Gd P w K mg base CX0 2 "times" ["one", "other"] [] (sp_times K A) := by
  obtain ⟨f, fd, F, hm⟩ := T.f_times
  refine ⟨⟨f, fd, [], ?_, hm, F.kp, F.binds (ps := ["one", "other"]) (fun _ _ _ _ _ _ us hl => match us, hl with | [_, _], _ => rfl), .nil⟩⟩
  refine F.ok sc_times (fun vs H Q E h => by first | (obtain ⟨rfl, _⟩ := h; rfl) | (obtain ⟨_, rfl, _⟩ := h; rfl) | (obtain ⟨_, _, rfl, _⟩ := h; rfl) | (obtain ⟨_, _, _, rfl, _⟩ := h; rfl) | (obtain ⟨_, _, _, _, rfl, _⟩ := h; rfl) | (obtain ⟨_, _, _, _, _, rfl, _⟩ := h; rfl) | (obtain ⟨_, _, _, _, _, _, rfl, _⟩ := h; rfl) | (obtain ⟨_, _, _, _, _, _, _, rfl, _⟩ := h; rfl)) (fun cdv A' outer s H vs Q E hr h => ⟨_, (pss_one (ps_ret (pe_callG G_least_pair (hr.mono (by decide)) (by rfl) pass0 (pa_cons (pe_op op_mulB (pe_ix (ix_seqK K) (pv 0) pe_int (fun _ _ => rfl)) (pe_ix (ix_seqK K) (pv 1) pe_int (fun _ _ => rfl))) (pa_cons (pe_op op_mulB (pe_ix (ix_seqK K) (pv 0) pe_int (fun _ _ => rfl)) (pe_ix (ix_seqK K) (pv 1) pe_int (fun _ _ => rfl))) pa_nil))))), ?_⟩)
  obtain ⟨a, b, rfl, x, y, hx, hy, ⟨bx, byy⟩, k⟩ := h
  walk_at "rdp"
  refine r_mulB (mul_ok bx.n byy.n (by decide) (by decide)) ?_
  walk_at "rdp"
  refine r_mulB (mul_ok bx.d byy.d (by decide) (by decide)) ?_
  walk_at "rdp"
  exact ⟨_, _, rfl, den2_ne, big_mul bx.d byy.d, by rw [mul_pair]; exact k⟩
theorem ok_turned (T : Txt K mg A)  : Gd P w K mg base CX0 1 "turned" ["one"] [] (sp_turned K A) := by
  obtain ⟨f, fd, F, hm⟩ := T.f_turned
  refine ⟨⟨f, fd, [], ?_, hm, F.kp, F.binds (ps := ["one"]) (fun _ _ _ _ _ _ us hl => match us, hl with | [_], _ => rfl), .nil⟩⟩
  refine F.ok sc_turned (fun vs H Q E h => by first | (obtain ⟨rfl, _⟩ := h; rfl) | (obtain ⟨_, rfl, _⟩ := h; rfl) | (obtain ⟨_, _, rfl, _⟩ := h; rfl) | (obtain ⟨_, _, _, rfl, _⟩ := h; rfl) | (obtain ⟨_, _, _, _, rfl, _⟩ := h; rfl) | (obtain ⟨_, _, _, _, _, rfl, _⟩ := h; rfl) | (obtain ⟨_, _, _, _, _, _, rfl, _⟩ := h; rfl) | (obtain ⟨_, _, _, _, _, _, _, rfl, _⟩ := h; rfl)) (fun cdv A' outer s H vs Q E hr h => ⟨_, (pss_one (ps_ret (pe_tup (pa_cons (pe_un un_negI (pe_ix (ix_seqK K) (pv 0) pe_int (fun _ _ => rfl))) (pa_cons (pe_ix (ix_seqK K) (pv 0) pe_int (fun _ _ => rfl)) pa_nil))))), ?_⟩)
  obtain ⟨a, rfl, x, hx, _, k⟩ := h
  have C : Cur H [] H [] := Cur.start (by simp) (by simp)
  walk_at "rdp"
  exact new_c C fun t H1 t0 C => k t H1 C.ret t0 (by rw [Rat.neg_num, Rat.neg_den]; exact C.get 0 rfl)
theorem ok_total_of (T : Txt K mg A) (G_both : Gd P w K mg base CX0 2 "both" ["one", "other"] [] (sp_both K A)) : Gd P w K mg base CX0 3 "total_of" ["fractions"] [] (sp_total_of K A) := by
  obtain ⟨f, fd, F, hm⟩ := T.f_total_of
  refine ⟨⟨f, fd, [], ?_, hm, F.kp, F.binds (ps := ["fractions"]) (fun _ _ _ _ _ _ us hl => match us, hl with | [_], _ => rfl), .nil⟩⟩
  refine F.ok sc_total_of (fun vs H Q E h => by first | (obtain ⟨rfl, _⟩ := h; rfl) | (obtain ⟨_, rfl, _⟩ := h; rfl) | (obtain ⟨_, _, rfl, _⟩ := h; rfl) | (obtain ⟨_, _, _, rfl, _⟩ := h; rfl) | (obtain ⟨_, _, _, _, rfl, _⟩ := h; rfl) | (obtain ⟨_, _, _, _, _, rfl, _⟩ := h; rfl) | (obtain ⟨_, _, _, _, _, _, rfl, _⟩ := h; rfl) | (obtain ⟨_, _, _, _, _, _, _, rfl, _⟩ := h; rfl)) (fun cdv A' outer s H vs Q E hr h => ⟨_, (pss_cons (ps_set (i := 1) sc_total_of.nd rfl (.inl rfl) (pe_K_NOUGHT T))
      (pss_cons (ps_for PassesOwn.never rfl (pi_seqK K (pv 0)) (pg_name (i := 2) sc_total_of.nd rfl (.inl rfl)) (pss_one (ps_set (i := 1) sc_total_of.nd rfl (.inl rfl) (pe_callG G_both (hr.mono (by decide)) (by rfl) pass0 (pa_cons (pv 1) (pa_cons (pv 2) pa_nil))))))
      (pss_one (ps_ret (pv 1))))), ?_⟩)
  obtain ⟨l, rfl, ads, f, n, hl, hP, hf, ht, k⟩ := h
  have C : Cur H [] H [(l, .lst (ads.map V.ref))] := Cur.start (by simp) (by simp [hl])
  walk_at "rd"
  refine u_sseqL ?_
  walk_at "rd"
  refine k_seqL (SqL.of (C.get 0 rfl)) ?_
  refine for_l (xs := ads.map V.ref) (fun i σ H' => ∃ (t : Addr) (o : Option V), σ = [some (.ref l), some (.ref t), o] ∧ PrA K H' t (tot f i) ∧ Cur H [] H' [(l, .lst (ads.map V.ref))]) ?_ ?_ ?_ ?_
  · exact ⟨A.NOUGHT, none, rfl, .inr T.k_NOUGHT.2, C⟩
  · rintro i σ H' hi ⟨t, o, rfl, hp, C⟩
    exact SqL.of (C.get 0 rfl)
  · rintro i x σ H' hx ⟨t, o, rfl, hp, C⟩
    obtain ⟨a, ha, rfl⟩ := refOf hx
    have hi : i < n := by rw [← hP.1]; exact (List.getElem?_eq_some_iff.mp ha).1
    walk_at "rd"
    refine ⟨t, a, rfl, _, _, hp, (hP.2 i a ha).to C.ret.tups0, ⟨ht i hi, hf i hi⟩, fun u H2 r u0 e => ?_⟩
    walk_at "rd"
    exact ⟨u, _, rfl, .of e, C.call0 r⟩
  · rintro σ H' ⟨t, o, rfl, hp, C⟩
    rw [len_ref, hP.1] at hp
    walk_at "rd"
    exact k t H' C.ret hp
theorem ok_over (T : Txt K mg A) (G_times : Gd P w K mg base CX0 2 "times" ["one", "other"] [] (sp_times K A)) (G_least_pair : Gd P w K mg base CX0 1 "least_pair" ["up", "down"] [] (sp_least_pair K A)) : Gd P w K mg base CX0 3 "over" ["one", "other"] [] (sp_over K A) := by
  obtain ⟨f, fd, F, hm⟩ := T.f_over
  refine ⟨⟨f, fd, [], ?_, hm, F.kp, F.binds (ps := ["one", "other"]) (fun _ _ _ _ _ _ us hl => match us, hl with | [_, _], _ => rfl), .nil⟩⟩
  refine F.ok sc_over (fun vs H Q E h => by first | (obtain ⟨rfl, _⟩ := h; rfl) | (obtain ⟨_, rfl, _⟩ := h; rfl) | (obtain ⟨_, _, rfl, _⟩ := h; rfl) | (obtain ⟨_, _, _, rfl, _⟩ := h; rfl) | (obtain ⟨_, _, _, _, rfl, _⟩ := h; rfl) | (obtain ⟨_, _, _, _, _, rfl, _⟩ := h; rfl) | (obtain ⟨_, _, _, _, _, _, rfl, _⟩ := h; rfl) | (obtain ⟨_, _, _, _, _, _, _, rfl, _⟩ := h; rfl)) (fun cdv A' outer s H vs Q E hr h => ⟨_, (pss_one (ps_ret (pe_callG G_times (hr.mono (by decide)) (by rfl) pass0 (pa_cons (pv 0) (pa_cons (pe_callG G_least_pair (hr.mono (by decide)) (by rfl) pass0 (pa_cons (pe_ix (ix_seqK K) (pv 1) pe_int (fun _ _ => rfl)) (pa_cons (pe_ix (ix_seqK K) (pv 1) pe_int (fun _ _ => rfl)) pa_nil))) pa_nil))))), ?_⟩)
  obtain ⟨a, b, rfl, x, y, hx, hy, ⟨⟨bx, byy⟩, hy0⟩, k⟩ := h
  walk_at "rdp"
  refine ⟨_, _, rfl, num_ne hy0, pw byy.n (by decide), fun t H1 r t0 e => ?_⟩
  rw [inv_pair] at e
  refine ⟨a, t, rfl, x, y⁻¹, hx.to r.tups0, .of e, ⟨bx, inv_ht hy0 byy⟩, fun u H2 r2 u0 e2 => ?_⟩
  exact k u H2 (r.trans r2) ((Cur.start (H := H) (S := []) (L := []) (by simp) (by simp)).call0 r |>.fresh u0) e2
theorem ok_l_short (T : Txt K mg A)  : Gd P w K mg base CX0 1 "_law_short" ["_law_up", "_law_down"] [] (sp_l_short K A) := by
  obtain ⟨f, fd, F, hm⟩ := T.f_l_short
  refine ⟨⟨f, fd, [], ?_, hm, F.kp, F.binds (ps := ["_law_up", "_law_down"]) (fun _ _ _ _ _ _ us hl => match us, hl with | [_, _], _ => rfl), .nil⟩⟩
  refine F.ok sc_l_short (fun vs H Q E h => by first | (obtain ⟨rfl, _⟩ := h; rfl) | (obtain ⟨_, rfl, _⟩ := h; rfl) | (obtain ⟨_, _, rfl, _⟩ := h; rfl) | (obtain ⟨_, _, _, rfl, _⟩ := h; rfl) | (obtain ⟨_, _, _, _, rfl, _⟩ := h; rfl) | (obtain ⟨_, _, _, _, _, rfl, _⟩ := h; rfl) | (obtain ⟨_, _, _, _, _, _, rfl, _⟩ := h; rfl) | (obtain ⟨_, _, _, _, _, _, _, rfl, _⟩ := h; rfl)) (fun cdv A' outer s H vs Q E hr h => ⟨_, (pss_cons (ps_par (i := 2) (j := 3) (by rfl) sc_l_short.nd rfl rfl (by decide) rfl rfl (pa_cons (pe_callB call_absU (by rfl) T.b_abs (by decide +kernel) (pa_cons (pv 0) pa_nil)) (pa_cons (pe_callB call_absU (by rfl) T.b_abs (by decide +kernel) (pa_cons (pv 1) pa_nil)) pa_nil)) (by rfl))
      (pss_cons (ps_while PassesOwn.never (pt_cmpR op_gtI (pv 3) pe_int (nomark _)) (pss_one (ps_par (i := 2) (j := 3) (by rfl) sc_l_short.nd rfl rfl (by decide) rfl rfl (pa_cons (pv 3) (pa_cons (pe_op op_modI (pe_callTy call_intU (by rfl) T.b_int (by decide +kernel) (pa_cons (pv 2) pa_nil)) (pv 3)) pa_nil)) (by rfl))))
      (pss_one (ps_ret (pe_ifExp (pt_cmpR op_gtI (pv 1) pe_int (nomark _)) (pe_tup (pa_cons (pe_op op_divB (pv 0) (pv 2)) (pa_cons (pe_op op_divB (pv 1) (pv 2)) pa_nil))) (pe_tup (pa_cons (pe_op op_divB (pe_un un_negI (pv 0)) (pv 2)) (pa_cons (pe_op op_divB (pe_un un_negI (pv 1)) (pv 2)) pa_nil)))))))), ?_⟩)
  obtain ⟨n, d, rfl, hd, hdd, k⟩ := h
  have C : Cur H [] H [] := Cur.start (by simp) (by simp)
  obtain ⟨e1, e2⟩ := lpG (n := n) hd
  walk_at "rd"
  refine u_while (fun m σ H' => ∃ a b : Int, σ = [some (.int n), some (.int d), some (.int a), some (.int b)] ∧ 0 ≤ a ∧ 0 ≤ b ∧ Int.gcd a b = Int.gcd n d ∧ m = b.toNat ∧ H' = H) (m0 := d.natAbs) ?_ ?_
  · refine ⟨_, _, rfl, by split <;> omega, by split <;> omega, ?_, by split <;> omega, rfl⟩
    split <;> split <;> simp [Int.neg_gcd, Int.gcd_neg]
  · rintro m σ H' ⟨a, b, rfl, ha, hb, hg, rfl, rfl⟩
    walk_at "rd"
    refine b_dec (fun hp => ?_) (fun hp => ?_)
    · refine wh_b ?_
      walk_at "rd"
      have h1 := Int.emod_nonneg a (show b ≠ 0 by omega)
      have h2 := Int.emod_lt_of_pos a hp
      exact ⟨_, by omega, b, a % b, rfl, by omega, h1, by rw [gcd_step hp]; exact hg, rfl, rfl⟩
    · obtain rfl : b = 0 := by omega
      have ea : a = (Int.gcd n d : Int) := by rw [← hg, Int.gcd_zero_right]; omega
      subst ea
      walk_at "rd"
      refine b_dec (fun hp => ?_) (fun hp => ?_)
      · rw [if_pos hp] at e1 e2
        walk_at "rd"
        refine r_divB (gcd_ok n hd hdd) ?_
        walk_at "rd"
        refine r_divB (gcd_ok d hd hdd) ?_
        rw [e1, e2]
        walk_at "rd"
        exact new_c C fun t H1 t0 C => k t H1 C.ret t0 (C.get 0 rfl)
      · rw [if_neg hp] at e1 e2
        walk_at "rd"
        refine r_divB (gcd_ok (-n) hd hdd) ?_
        walk_at "rd"
        refine r_divB (gcd_ok (-d) hd hdd) ?_
        rw [e1, e2]
        walk_at "rd"
        exact new_c C fun t H1 t0 C => k t H1 C.ret t0 (C.get 0 rfl)
theorem ok_l_plus (T : Txt K mg A) (G_l_short : Gd P w K mg base CX0 1 "_law_short" ["_law_up", "_law_down"] [] (sp_l_short K A)) : Gd P w K mg base CX0 2 "_law_plus" ["_law_one_here", "_law_other"] [] (sp_l_plus K A) := by
  obtain ⟨f, fd, F, hm⟩ := T.f_l_plus
  refine ⟨⟨f, fd, [], ?_, hm, F.kp, F.binds (ps := ["_law_one_here", "_law_other"]) (fun _ _ _ _ _ _ us hl => match us, hl with | [_, _], _ => rfl), .nil⟩⟩
  refine F.ok sc_l_plus (fun vs H Q E h => by first | (obtain ⟨rfl, _⟩ := h; rfl) | (obtain ⟨_, rfl, _⟩ := h; rfl) | (obtain ⟨_, _, rfl, _⟩ := h; rfl) | (obtain ⟨_, _, _, rfl, _⟩ := h; rfl) | (obtain ⟨_, _, _, _, rfl, _⟩ := h; rfl) | (obtain ⟨_, _, _, _, _, rfl, _⟩ := h; rfl) | (obtain ⟨_, _, _, _, _, _, rfl, _⟩ := h; rfl) | (obtain ⟨_, _, _, _, _, _, _, rfl, _⟩ := h; rfl)) (fun cdv A' outer s H vs Q E hr h => ⟨_, (pss_one (ps_ret (pe_callG G_l_short (hr.mono (by decide)) (by rfl) pass0 (pa_cons (pe_op op_addU (pe_op op_mulB (pe_ix (ix_seqK K) (pv 0) pe_int (fun _ _ => rfl)) (pe_ix (ix_seqK K) (pv 1) pe_int (fun _ _ => rfl))) (pe_op op_mulB (pe_ix (ix_seqK K) (pv 1) pe_int (fun _ _ => rfl)) (pe_ix (ix_seqK K) (pv 0) pe_int (fun _ _ => rfl)))) (pa_cons (pe_op op_mulB (pe_ix (ix_seqK K) (pv 0) pe_int (fun _ _ => rfl)) (pe_ix (ix_seqK K) (pv 1) pe_int (fun _ _ => rfl))) pa_nil))))), ?_⟩)
  obtain ⟨a, b, rfl, x, y, hx, hy, ⟨bx, byy⟩, k⟩ := h
  walk_at "rdp"
  refine r_mulB (mul_ok bx.n byy.d (by decide) (by decide)) ?_
  walk_at "rdp"
  refine r_mulB (mul_ok byy.n bx.d (by decide) (by decide)) ?_
  walk_at "rdp"
  refine r_mulB (mul_ok bx.d byy.d (by decide) (by decide)) ?_
  walk_at "rdp"
  exact ⟨_, _, rfl, den2_ne, big_mul bx.d byy.d, by rw [add_pair]; exact k⟩
theorem ok_l_less (T : Txt K mg A) (G_l_short : Gd P w K mg base CX0 1 "_law_short" ["_law_up", "_law_down"] [] (sp_l_short K A)) : Gd P w K mg base CX0 2 "_law_less" ["_law_one_here", "_law_other"] [] (sp_l_less K A) := by
  obtain ⟨f, fd, F, hm⟩ := T.f_l_less
  refine ⟨⟨f, fd, [], ?_, hm, F.kp, F.binds (ps := ["_law_one_here", "_law_other"]) (fun _ _ _ _ _ _ us hl => match us, hl with | [_, _], _ => rfl), .nil⟩⟩
  refine F.ok sc_l_less (fun vs H Q E h => by first | (obtain ⟨rfl, _⟩ := h; rfl) | (obtain ⟨_, rfl, _⟩ := h; rfl) | (obtain ⟨_, _, rfl, _⟩ := h; rfl) | (obtain ⟨_, _, _, rfl, _⟩ := h; rfl) | (obtain ⟨_, _, _, _, rfl, _⟩ := h; rfl) | (obtain ⟨_, _, _, _, _, rfl, _⟩ := h; rfl) | (obtain ⟨_, _, _, _, _, _, rfl, _⟩ := h; rfl) | (obtain ⟨_, _, _, _, _, _, _, rfl, _⟩ := h; rfl)) (fun cdv A' outer s H vs Q E hr h => ⟨_, (pss_one (ps_ret (pe_callG G_l_short (hr.mono (by decide)) (by rfl) pass0 (pa_cons (pe_op op_subI (pe_op op_mulB (pe_ix (ix_seqK K) (pv 0) pe_int (fun _ _ => rfl)) (pe_ix (ix_seqK K) (pv 1) pe_int (fun _ _ => rfl))) (pe_op op_mulB (pe_ix (ix_seqK K) (pv 1) pe_int (fun _ _ => rfl)) (pe_ix (ix_seqK K) (pv 0) pe_int (fun _ _ => rfl)))) (pa_cons (pe_op op_mulB (pe_ix (ix_seqK K) (pv 0) pe_int (fun _ _ => rfl)) (pe_ix (ix_seqK K) (pv 1) pe_int (fun _ _ => rfl))) pa_nil))))), ?_⟩)
  obtain ⟨a, b, rfl, x, y, hx, hy, ⟨bx, byy⟩, k⟩ := h
  walk_at "rdp"
  refine r_mulB (mul_ok bx.n byy.d (by decide) (by decide)) ?_
  walk_at "rdp"
  refine r_mulB (mul_ok byy.n bx.d (by decide) (by decide)) ?_
  walk_at "rdp"
  refine r_mulB (mul_ok bx.d byy.d (by decide) (by decide)) ?_
  walk_at "rdp"
  exact ⟨_, _, rfl, den2_ne, big_mul bx.d byy.d, by rw [sub_pair]; exact k⟩
theorem ok_l_by (T : Txt K mg A) (G_l_short : Gd P w K mg base CX0 1 "_law_short" ["_law_up", "_law_down"] [] (sp_l_short K A)) : Gd P w K mg base CX0 2 "_law_by" ["_law_one_here", "_law_other"] [] (sp_l_by K A) := by
  obtain ⟨f, fd, F, hm⟩ := T.f_l_by
  refine ⟨⟨f, fd, [], ?_, hm, F.kp, F.binds (ps := ["_law_one_here", "_law_other"]) (fun _ _ _ _ _ _ us hl => match us, hl with | [_, _], _ => rfl), .nil⟩⟩
  refine F.ok sc_l_by (fun vs H Q E h => by first | (obtain ⟨rfl, _⟩ := h; rfl) | (obtain ⟨_, rfl, _⟩ := h; rfl) | (obtain ⟨_, _, rfl, _⟩ := h; rfl) | (obtain ⟨_, _, _, rfl, _⟩ := h; rfl) | (obtain ⟨_, _, _, _, rfl, _⟩ := h; rfl) | (obtain ⟨_, _, _, _, _, rfl, _⟩ := h; rfl) | (obtain ⟨_, _, _, _, _, _, rfl, _⟩ := h; rfl) | (obtain ⟨_, _, _, _, _, _, _, rfl, _⟩ := h; rfl)) (fun cdv A' outer s H vs Q E hr h => ⟨_, (pss_one (ps_ret (pe_callG G_l_short (hr.mono (by decide)) (by rfl) pass0 (pa_cons (pe_op op_mulB (pe_ix (ix_seqK K) (pv 0) pe_int (fun _ _ => rfl)) (pe_ix (ix_seqK K) (pv 1) pe_int (fun _ _ => rfl))) (pa_cons (pe_op op_mulB (pe_ix (ix_seqK K) (pv 0) pe_int (fun _ _ => rfl)) (pe_ix (ix_seqK K) (pv 1) pe_int (fun _ _ => rfl))) pa_nil))))), ?_⟩)
  obtain ⟨a, b, rfl, x, y, hx, hy, ⟨bx, byy⟩, k⟩ := h
  walk_at "rdp"
  refine r_mulB (mul_ok bx.n byy.n (by decide) (by decide)) ?_
  walk_at "rdp"
  refine r_mulB (mul_ok bx.d byy.d (by decide) (by decide)) ?_
  walk_at "rdp"
  exact ⟨_, _, rfl, den2_ne, big_mul bx.d byy.d, by rw [mul_pair]; exact k⟩
end
end K67

end

section
set_option Elab.async false
set_option linter.all false
set_option maxRecDepth 100000
set_option maxHeartbeats 1000000
namespace K67
open PySem PySem.Spec PyProof.Rows L2 Nd M94 M67
set_option hygiene false
local macro_rules | `(tactic| walk_at "hg") => `(tactic| first | assumption | exact C.get 0 rfl | exact C.get 1 rfl | exact C.get 2 rfl | exact C.get 3 rfl | exact C.get 4 rfl | exact C.get 5 rfl | exact C.get 6 rfl | exact C.get 7 rfl | exact C.get 8 rfl | exact C.get 9 rfl)
local macro_rules | `(tactic| walk_at "rd1") => `(tactic| first
  | with_reducible refine u_seq ?_ | with_reducible refine u_asg ?_ | ((with_reducible refine' u_var ?q7hv ?_); (case q7hv => exact rfl)) | with_reducible refine u_c ?_ | with_reducible refine u_op ?_ | with_reducible refine u_if ?_ | with_reducible refine u_ret ?_
  | with_reducible refine u_test ?_ | with_reducible refine u_tB ?_ | with_reducible refine u_and ?_ | with_reducible refine u_or ?_ | with_reducible refine u_not ?_ | with_reducible refine u_call ?_ | with_reducible refine u_cb ?_ | with_reducible refine u_cons ?_ | with_reducible refine u_nil ?_
  | with_reducible refine u_gname ?_ | with_reducible refine u_gcons ?_ | with_reducible refine u_gnil ?_ | with_reducible refine u_gsub ?_ | with_reducible refine u_lst ?_ | with_reducible refine u_tup ?_ | with_reducible refine u_un ?_ | with_reducible refine u_ifE ?_
  | with_reducible refine u_drop ?_ | with_reducible refine u_next ?_ | with_reducible refine u_retN ?_ | with_reducible refine u_tf ?_ | with_reducible refine u_fld ?_ | with_reducible refine u_gfld ?_ | with_reducible refine u_par ?_ | with_reducible refine u_par3 ?_ | with_reducible refine u_meth ?_ | with_reducible refine u_prop ?_ | with_reducible refine u_make ?_
  | with_reducible refine u_bm ?_ | with_reducible refine u_bm0 ?_ | with_reducible refine u_sl ?_ | with_reducible refine u_noPart ?_ | with_reducible refine u_part ?_ | with_reducible refine u_chain ?_ | with_reducible refine u_andV ?_ | with_reducible refine u_orV ?_ | with_reducible refine u_notV ?_
  | with_reducible refine u_listRg ?_ | with_reducible refine u_rg1 ?_ | with_reducible refine u_lc2 ?_ | with_reducible refine u_enum ?_ | with_reducible refine u_zip ?_ | with_reducible refine u_for ?_ | with_reducible refine u_lc ?_ | with_reducible refine u_rng1 ?_ | with_reducible refine u_rng2 ?_ | with_reducible refine u_yes ?_ | with_reducible refine u_brk ?_ | with_reducible refine u_cont ?_
  | with_reducible refine r_add ?_ | with_reducible refine r_sub ?_ | with_reducible refine r_lt ?_ | with_reducible refine r_le ?_ | with_reducible refine r_gt ?_ | with_reducible refine r_ge ?_ | with_reducible refine r_eqI ?_ | with_reducible refine r_neI ?_ | with_reducible refine r_neg ?_ | with_reducible refine r_int ?_ | with_reducible refine r_intB ?_ | with_reducible refine r_abs ?_ | with_reducible refine r_isNi ?_ | with_reducible refine r_isNn ?_ | with_reducible refine r_isNr ?_ | with_reducible refine r_isNs ?_ | with_reducible refine r_notN ?_
  | ((with_reducible refine' r_ixL ?q7hs ?q7ha ?_); (case q7hs => exact SqL.of (by walk_at "hg")); (case q7ha => first | exact rfl | exact atI_nat (by assumption)))
  | ((with_reducible refine' r_ixT ?q7hs ?q7ha ?_); (case q7hs => exact SqT.of (by walk_at "hg")); (case q7ha => first | exact rfl | exact atI_nat (by assumption)))
  | ((with_reducible refine' r_len ?q7hs ?_); (case q7hs => exact SqL.of (by walk_at "hg")))
  | ((with_reducible refine' r_lenT ?q7hs ?_); (case q7hs => exact SqT.of (by walk_at "hg")))
  | ((with_reducible refine' r_mod ?q7c ?_); (case q7c => first | decide | omega)) | ((with_reducible refine' r_div ?q7c ?_); (case q7c => first | (constructor <;> decide) | (constructor <;> omega)))
  | ((with_reducible refine' r_mul ?q7c ?_); (case q7c => first | exact .inl ⟨by omega, by omega⟩ | exact .inr ⟨by omega, by omega⟩))
  | ((with_reducible refine' r_pow ?q7c ?_); (case q7c => exact ⟨by omega, by omega, by omega⟩))
  | with_reducible refine b_nT ?_ | with_reducible refine b_nF ?_ | with_reducible refine iteF ?_ | with_reducible refine iteT ?_
  | with_reducible refine k_blA ?_ | with_reducible refine k_int ?_ | with_reducible refine k_two ?_ | with_reducible refine k_three ?_
  | ((with_reducible refine' k_size ?q7hn ?_); (case q7hn => exact Nat.le_of_ble_eq_true rfl))
  | ((with_reducible refine' k_fld ?q7ha ?q7c ?q7n ?q7hl ?_); (case q7ha => walk_at "hg"); (case q7c => walk_at "cls"); (case q7n => walk_at "att"); (case q7hl => exact rfl))
  | ((with_reducible refine' k_put ?q7ha ?q7c ?q7n ?q7hl ?_); (case q7ha => walk_at "hg"); (case q7c => walk_at "cls"); (case q7n => walk_at "att"); (case q7hl => first | decide | exact Nat.lt_of_lt_of_le (Nat.lt_succ_self _) (Nat.le_of_ble_eq_true rfl)))
  | ((with_reducible refine' k_meth ?q7ha ?q7hl ?_); (case q7ha => walk_at "hg"); (case q7hl => exact rfl))
  | ((with_reducible refine' k_prop ?q7ha ?_); (case q7ha => walk_at "hg")))
local macro_rules | `(tactic| walk_at "rd") => `(tactic| repeat walk_at "rd1")
local macro_rules | `(tactic| walk_at "cls") => `(tactic| first | exact T.c_Board | exact T.c_World)
local macro_rules | `(tactic| walk_at "att") => `(tactic| first | exact T.n_Board_homes | exact T.n_Board_places | exact T.n_Board_rows | exact T.n_World_board | exact T.n_World_shown | exact T.n_World_standing | exact T.n_World_won | exact T.n_World_steps)

structure BAt (A : Adr) (H : Hp) (B : Addr) (R : Rows) (m : Nat) : Prop where
  ex : ∃ dB t ads, H B = some (.ins A.Board dB [("homes", .int m), ("places", .int R.length), ("rows", .ref t)]) ∧ H t = some (.tup (ads.map V.ref)) ∧ TRows H ads R
theorem BAt.to {A : Adr} {H H' : Hp} {B : Addr} {R : Rows} {m : Nat} {S : List Addr} (h : BAt A H B R m) (r : Ret S H H') (hB : B ∉ S) (hs : ∀ s ∈ S, ∀ xs, H s ≠ some (.tup xs)) : BAt A H' B R m := by
  obtain ⟨dB, t, ads, h1, h2, h3⟩ := h.ex
  exact ⟨dB, t, ads, r.fr _ _ h1 hB, r.tup hs h2, h3.to r hs⟩
theorem BAt.to0 {A : Adr} {H H' : Hp} {B : Addr} {R : Rows} {m : Nat} (h : BAt A H B R m) (r : Ret [] H H') : BAt A H' B R m := h.to r (by simp) (by simp)
/-- a new list, a new tuple of pairs -/
def NewL (K : PySem.W.Frag) (Q : VK) (H : Hp) (f : Nat → Rat) (n : Nat) : Prop := ∀ l ads H', Ret [] H H' → H l = none → H' l = some (.lst (ads.map V.ref)) → PrL K H' ads f n → Q (.ref l) H'
def NewTu (K : PySem.W.Frag) (Q : VK) (H : Hp) (f : Nat → Rat) (n : Nat) : Prop := ∀ l ads H', Ret [] H H' → H l = none → H' l = some (.tup (ads.map V.ref)) → PrL K H' ads f n → Q (.ref l) H'
def endF (h j : Nat) : Rat := if j = h then 1 else 0
def sp_ends_of (K : PySem.W.Frag) (A : Adr) : Sp := fun vs H Q E => ∃ (B : Addr) (h : Nat), vs = [.ref B, .int h] ∧ ∃ (R : Rows) (m : Nat), BAt A H B R m ∧ m ≤ 60 ∧ NewL K Q H (endF h) m
/-- a board's rows, as equations want them -/
structure EOk (R : Rows) (m b : Nat) : Prop where
  n60 : R.length ≤ 60
  m60 : m ≤ 60
  b100 : b ≤ 100
  len : ∀ p, p < R.length → 0 < (row R p).length ∧ (row R p).length < 2 ^ b ∧ (row R p).length ≤ 60
  ents : ∀ p, p < R.length → ∀ x ∈ row R p, 0 ≤ x ∧ x < (R.length : Int) + m
def sp_equation_of (K : PySem.W.Frag) (A : Adr) : Sp := fun vs H Q E => ∃ (B : Addr) (p : Nat) (e mo : Addr), vs = [.ref B, .int p, .ref e, .ref mo] ∧ ∃ (R : Rows) (m b h : Nat) (eads : List Addr), BAt A H B R m ∧ EOk R m b ∧ p < R.length ∧ H e = some (.lst (eads.map V.ref)) ∧ PrL K H eads (endF h) m ∧ PrA K H mo 0 ∧
  NewL K Q H (eqA R (tH R.length h) p) (R.length + 1)
theorem PrL.rep {K : PySem.W.Frag} {H : Hp} {a : Addr} {f : Nat → Rat} {n : Nat} (h : ∀ i, i < n → PrA K H a (f i)) : PrL K H (List.replicate n a) f n := ⟨List.length_replicate .., fun i b e => by
  have l := (List.getElem?_eq_some_iff.mp e).1
  rw [List.length_replicate] at l
  rw [List.getElem?_replicate_of_lt l] at e
  rw [← Option.some.inj e]; exact h i l⟩
theorem at_end {α : Type} {xs : List α} {k : Nat} {x : α} (hl : xs.length = k + 1) (h : xs[k]? = some x) : atI xs (-1) = some x := by
  unfold atI ixN
  rw [hl, if_neg (by decide), if_pos (by omega)]
  show xs[(-1 + ((k + 1 : Nat) : Int)).toNat]? = some x
  rw [show (-1 + ((k + 1 : Nat) : Int)).toNat = k by omega, h]
theorem ixN_end {n k : Nat} (hl : n = k + 1) : ixN n (-1) = some k := by
  unfold ixN
  rw [hl, if_neg (by decide), if_pos (by omega)]
  show some (-1 + ((k + 1 : Nat) : Int)).toNat = some k
  rw [show (-1 + ((k + 1 : Nat) : Int)).toNat = k by omega]
theorem rep_flat (n : Nat) (a : Addr) : (List.replicate n [V.ref a]).flatten = (List.replicate n a).map V.ref := by rw [List.flatten_replicate_singleton, List.map_replicate]
section
variable {P : Program} {w : World} {K : PySem.W.Frag} {mg : Str → Option Value} {base : Heap} {A : Adr}
theorem zeroA (T : Txt K mg A) {H : Hp} : PrA K H A.NOUGHT 0 := .inr T.k_NOUGHT.2
theorem oneA (T : Txt K mg A) {H : Hp} : PrA K H A.ONE 1 := .inr T.k_ONE.2
theorem ok_ends_of (T : Txt K mg A)  : Gd P w K mg base CX0 1 "ends_of" ["board", "home"] [] (sp_ends_of K A) := by
  obtain ⟨f, fd, F, hm⟩ := T.f_ends_of
  refine ⟨⟨f, fd, [], ?_, hm, F.kp, F.binds (ps := ["board", "home"]) (fun _ _ _ _ _ _ us hl => match us, hl with | [_, _], _ => rfl), .nil⟩⟩
  refine F.ok sc_ends_of (fun vs H Q E h => by first | (obtain ⟨rfl, _⟩ := h; rfl) | (obtain ⟨_, rfl, _⟩ := h; rfl) | (obtain ⟨_, _, rfl, _⟩ := h; rfl) | (obtain ⟨_, _, _, rfl, _⟩ := h; rfl) | (obtain ⟨_, _, _, _, rfl, _⟩ := h; rfl) | (obtain ⟨_, _, _, _, _, rfl, _⟩ := h; rfl) | (obtain ⟨_, _, _, _, _, _, rfl, _⟩ := h; rfl) | (obtain ⟨_, _, _, _, _, _, _, rfl, _⟩ := h; rfl)) (fun cdv A' outer s H vs Q E hr h => ⟨_, (pss_one (ps_ret (pe_lc (own := [("each", 2)]) rfl sc_ends_of.nd (pi_range1 (by rfl) T.b_range (pa_cons (pe_fldK K (pv 0) rfl) pa_nil)) (blkOk_by (N := N_ends_of) (sc := defScope s_ends_of) (own := [("each", 2)]) (by decide +kernel)) (fun _ _ _ _ _ => (pg_name (i := 2) sc_ends_of.nd rfl (by first | exact .inl rfl | exact .inr rfl))) (fun _ _ _ _ _ => pts_nil) (fun _ _ _ _ _ => (pe_ifExp (pt_cmpR (op_eqK K hr.units) (pv 2) (pv 1) (nomark _)) (pe_K_ONE T) (pe_K_NOUGHT T)))))), ?_⟩)
  obtain ⟨B, hh, rfl, R, m, hB, m60, k⟩ := h
  obtain ⟨dB, t, ads, h1, h2, h3⟩ := hB.ex
  have C : Cur H [] H [(B, .ins A.Board dB [("homes", .int m), ("places", .int R.length), ("rows", .ref t)])] := Cur.start (by simp) (by simp [h1])
  walk_at "rd"
  refine k_rng1 (j := (m : Int)) (by omega) (by omega) ?_
  refine lc_r C (fun D i H' => ∃ pads, PrL K H' pads (endF hh) i ∧ Cur H [] H' [(D, .lst (pads.map V.ref))]) (fun D H1 D0 C => ⟨[], .nil, C.pick [0] (by decide)⟩) ?_ ?_
  · rintro D i H' D0 hi ⟨pads, hP, C⟩
    have hpl := hP.1
    walk_at "rd"
    refine ⟨rfl, ?_⟩
    walk_at "rd"
    refine b_dec (fun e => ?_) (fun e => ?_)
    · walk_at "rd"
      refine k_acc (C.get 0 rfl) (by rw [len_ref]; omega) ?_
      refine mod_r C 0 rfl (.inr D0) fun H2 C2 r2 => ?_
      rw [app_ref] at C2
      refine ⟨_, (hP.to (r2.tupsL (C.get 0 rfl))).snoc ?_, C2⟩
      unfold endF
      rw [if_pos (by omega)]
      exact oneA T
    · walk_at "rd"
      refine k_acc (C.get 0 rfl) (by rw [len_ref]; omega) ?_
      refine mod_r C 0 rfl (.inr D0) fun H2 C2 r2 => ?_
      rw [app_ref] at C2
      refine ⟨_, (hP.to (r2.tupsL (C.get 0 rfl))).snoc ?_, C2⟩
      unfold endF
      rw [if_neg (by omega)]
      exact zeroA T
  · rintro D H' D0 ⟨pads, hP, C⟩
    exact k D pads H' C.ret D0 (C.get 0 rfl) (by simpa using hP)
theorem ok_equation_of (T : Txt K mg A) (G_both : Gd P w K mg base CX0 2 "both" ["one", "other"] [] (sp_both K A)) (G_times : Gd P w K mg base CX0 2 "times" ["one", "other"] [] (sp_times K A)) : Gd P w K mg base CX0 3 "equation_of" ["board", "place", "ends", "more"] [] (sp_equation_of K A) := by
  obtain ⟨f, fd, F, hm⟩ := T.f_equation_of
  refine ⟨⟨f, fd, [], ?_, hm, F.kp, F.binds (ps := ["board", "place", "ends", "more"]) (fun _ _ _ _ _ _ us hl => match us, hl with | [_, _, _, _], _ => rfl), .nil⟩⟩
  refine F.ok sc_equation_of (fun vs H Q E h => by first | (obtain ⟨rfl, _⟩ := h; rfl) | (obtain ⟨_, rfl, _⟩ := h; rfl) | (obtain ⟨_, _, rfl, _⟩ := h; rfl) | (obtain ⟨_, _, _, rfl, _⟩ := h; rfl) | (obtain ⟨_, _, _, _, rfl, _⟩ := h; rfl) | (obtain ⟨_, _, _, _, _, rfl, _⟩ := h; rfl) | (obtain ⟨_, _, _, _, _, _, rfl, _⟩ := h; rfl) | (obtain ⟨_, _, _, _, _, _, _, rfl, _⟩ := h; rfl)) (fun cdv A' outer s H vs Q E hr h => ⟨_, (pss_cons (ps_set (i := 4) sc_equation_of.nd rfl (.inl rfl) (pe_ix (ix_seqK K) (pe_fldK K (pv 0) rfl) (pv 1) (fun _ _ => rfl)))
      (pss_cons (ps_set (i := 5) sc_equation_of.nd rfl (.inl rfl) (pe_op op_addU (pe_op op_mulU (pe_lst (pa_cons (pe_K_NOUGHT T) pa_nil)) (pe_fldK K (pv 0) rfl)) (pe_lst (pa_cons (pv 3) pa_nil))))
      (pss_cons (ps_asg (pe_K_ONE T) (pg_sub (pv 5) (pv 1) set_list))
      (pss_cons (ps_for PassesOwn.never rfl (pi_seqK K (pv 4)) (pg_name (i := 6) sc_equation_of.nd rfl (.inl rfl)) (pss_one (ps_if (pt_cmpR op_ltI (pv 6) (pe_fldK K (pv 0) rfl) (nomark _)) (pss_one (ps_asg (pe_callG G_both (hr.mono (by decide)) (by rfl) pass0 (pa_cons (pe_ix (ix_seqK K) (pv 5) (pv 6) (fun _ _ => rfl)) (pa_cons (pe_tup (pa_cons (pe_un un_negI pe_int) (pa_cons (pe_callB (call_lenK K) (by rfl) T.b_len PySem.boot_len (pa_cons (pv 4) pa_nil)) pa_nil))) pa_nil))) (pg_sub (pv 5) (pv 6) set_list))) (pss_one (ps_asg (pe_callG G_both (hr.mono (by decide)) (by rfl) pass0 (pa_cons (pe_ix (ix_seqK K) (pv 5) (pe_un un_negI pe_int) (fun _ _ => rfl)) (pa_cons (pe_callG G_times (hr.mono (by decide)) (by rfl) pass0 (pa_cons (pe_ix (ix_seqK K) (pv 2) (pe_op op_subI (pv 6) (pe_fldK K (pv 0) rfl)) (fun _ _ => rfl)) (pa_cons (pe_tup (pa_cons pe_int (pa_cons (pe_callB (call_lenK K) (by rfl) T.b_len PySem.boot_len (pa_cons (pv 4) pa_nil)) pa_nil))) pa_nil))) pa_nil))) (pg_sub (pv 5) (pe_un un_negI pe_int) set_list))))))
      (pss_one (ps_ret (pv 5))))))), ?_⟩)
  obtain ⟨B, p, e, mo, rfl, R, m, b, hh, eads, hB, ok, hp, he, hE, hmo, k⟩ := h
  obtain ⟨dB, t, ads, h1, h2, hT⟩ := hB.ex
  obtain ⟨ar, har⟩ : ∃ x, ads[p]? = some x := ⟨_, List.getElem?_eq_getElem (by rw [hT.1]; exact hp)⟩
  have harr := hT.2 _ _ har
  obtain ⟨l0, lb, l60⟩ := ok.len p hp
  have n60 := ok.n60
  have m60 := ok.m60
  have b100 := ok.b100
  have C : Cur H [] H [(B, .ins A.Board dB [("homes", .int m), ("places", .int R.length), ("rows", .ref t)]), (e, .lst (eads.map V.ref))] := Cur.start (by
    have : B ≠ e := fun z => by rw [z, he] at h1; cases h1
    simp [this]) (by simp [h1, he])
  walk_at "rd"
  refine r_ixT (SqT.of h2) (refs_at (by omega) har) ?_
  walk_at "rd"
  refine new_c C fun l1 H1 l10 C => ?_
  walk_at "rd"
  refine r_rep (C.get 0 rfl) (by omega) (by omega) (by simp) ?_
  refine new_c C fun l2 H2 l20 C => ?_
  rw [Int.toNat_natCast, rep_flat] at C
  walk_at "rd"
  refine new_c C fun l3 H3 l30 C => ?_
  refine r_cat (C.get 1 rfl) (C.get 0 rfl) (by simp; omega) ?_
  refine new_c C fun l4 H4 l40 C => ?_
  walk_at "rd"
  refine r_setL (C.get 0 rfl) (ixN_of (by omega) (by simp; omega)) ?_
  refine mod_c C 0 rfl (.inr l40) fun H5 C => ?_
  have C5 : Cur H [] H5 [(l4, .lst (((List.replicate R.length A.NOUGHT ++ [mo]).set p A.ONE).map V.ref)), (B, .ins A.Board dB [("homes", .int m), ("places", .int R.length), ("rows", .ref t)]), (e, .lst (eads.map V.ref))] := by
    have C' := C.pick [0, 4, 5] (by decide)
    rw [List.map_set, List.map_append]
    exact C'
  clear C
  have hP0 : PrL K H5 ((List.replicate R.length A.NOUGHT ++ [mo]).set p A.ONE) (eqK R (tH R.length hh) p 0) (R.length + 1) := by
    have q1 : PrL K H5 (List.replicate R.length A.NOUGHT ++ [mo]) (fun _ => 0) (R.length + 1) := (PrL.rep fun _ _ => zeroA T).snoc (hmo.to C5.ret.tups0)
    refine q1.set ?_ fun j hj hj2 => ?_
    · rw [eqK_zero, if_pos ⟨hp, rfl⟩]; exact oneA T
    · rw [eqK_zero, if_neg fun z => hj z.2]
  walk_at "rd"
  refine u_sseqT ?_
  walk_at "rd"
  have hrow : ∀ {H' : Hp}, Ret [] H H' → H' ar = some (.tup ((row R p).map V.int)) := fun r => r.tups0 _ _ harr
  refine k_seqT (SqT.of (hrow C5.ret)) ?_
  refine for_t (xs := (row R p).map V.int) (fun i σ H' => ∃ (fads : List Addr) (o : Option V), σ = [some (.ref B), some (.int p), some (.ref e), some (.ref mo), some (.ref ar), some (.ref l4), o] ∧ PrL K H' fads (eqK R (tH R.length hh) p i) (R.length + 1) ∧
    Cur H [] H' [(l4, .lst (fads.map V.ref)), (B, .ins A.Board dB [("homes", .int m), ("places", .int R.length), ("rows", .ref t)]), (e, .lst (eads.map V.ref))]) ?_ ?_ ?_ ?_
  · exact ⟨_, none, rfl, hP0, C5⟩
  · rintro i σ H' hi ⟨fads, o, rfl, hP, C⟩
    exact SqT.of (hrow C.ret)
  · rintro i x σ H' hx ⟨fads, o, rfl, hP, C⟩
    obtain ⟨z, hz, rfl⟩ := int_of hx
    obtain ⟨z0, z1⟩ := ok.ents p hp z (List.mem_of_getElem? hz)
    have hpl := hP.1
    walk_at "rd"
    refine b_dec (fun hlt => ?_) (fun hlt => ?_)
    · obtain ⟨s1, s2⟩ := eqK_in (t := tH R.length hh) hz z0 hlt
      obtain ⟨q1, q2⟩ := one_pair l0 (-1) (.inr rfl)
      obtain ⟨fa, hfa, hfp⟩ := hP.get (show z.toNat < R.length + 1 by omega)
      walk_at "rd"
      refine r_ixL (SqL.of (C.get 0 rfl)) (atR z0 hfa) ?_
      walk_at "rd"
      refine r_lenT (SqT.of (hrow C.ret)) ?_
      walk_at "rd"
      refine new_r C fun u H6 u0 u00 C6 r6 => ?_
      walk_at "rd"
      refine ⟨fa, u, rfl, _, _, hfp.to r6.tups0, PrA.mk (q := Rat.divInt (-1) ((row R p).length : Nat)) (C6.get 0 rfl) q1.symm (by rw [q2, len_map]), ⟨(eqK_ht l0 lb).mono (by omega), (divInt_ht (b := b + 1) (by omega) (by rw [Nat.pow_succ]; have := Nat.pow_pos (n := b) (show 0 < 2 by decide); omega) (by rw [Int.natAbs_natCast, Nat.pow_succ]; omega)).mono (by omega)⟩, fun v H7 r7 v0 e7 => ?_⟩
      have C7 := C6.call0 r7
      walk_at "rd"
      refine r_setL (C7.get 1 rfl) (ixN_of z0 (by rw [len_ref, hpl]; omega)) ?_
      refine mod_r C7 1 rfl (.inr l40) fun H8 C8 r8 => ?_
      have t8 : Tups H7 H8 := r8.tupsL (C7.get 1 rfl)
      refine ⟨fads.set z.toNat v, _, rfl, (hP.to ((r6.tups0.trans r7.tups0).trans t8)).set (PrA.res (t8 _ _ e7) s1) fun j hj _ => s2 j hj, ?_⟩
      rw [← set_ref]
      exact C8.pick [1, 2, 3] (by decide)
    · obtain ⟨s1, s2⟩ := eqK_out (t := tH R.length hh) hz hlt
      obtain ⟨q1, q2⟩ := one_pair l0 1 (.inl rfl)
      obtain ⟨fa, hfa, hfp⟩ := hP.get (show R.length < R.length + 1 by omega)
      obtain ⟨ea, hea, hep⟩ := hE.get (show (z - (R.length : Int)).toNat < m by omega)
      walk_at "rd"
      refine r_ixL (SqL.of (C.get 0 rfl)) (at_end (by rw [len_ref, hpl]) (by rw [List.getElem?_map, hfa]; rfl)) ?_
      walk_at "rd"
      refine r_ixL (SqL.of (C.get 2 rfl)) (atR (by omega) hea) ?_
      walk_at "rd"
      refine r_lenT (SqT.of (hrow C.ret)) ?_
      walk_at "rd"
      refine new_r C fun u H6 u0 u00 C6 r6 => ?_
      walk_at "rd"
      have hbb : Ht (Rat.divInt 1 ((row R p).length : Nat)) (b + 1) := divInt_ht (by omega) (by rw [Nat.pow_succ]; have := Nat.pow_pos (n := b) (show 0 < 2 by decide); omega) (by rw [Int.natAbs_natCast, Nat.pow_succ]; omega)
      have ht1 : endF hh (z - (R.length : Int)).toNat = tH R.length hh z := by
        unfold endF tH
        by_cases q : z = (R.length : Int) + hh
        · rw [if_pos q, if_pos (by omega)]
        · rw [if_neg q, if_neg (by omega)]
      have h1' : Ht (tH R.length hh z) 1 := tH_ht
      have hep' := hep.to (C6.ret.tups0)
      rw [ht1] at hep'
      refine ⟨ea, u, rfl, _, _, hep', PrA.mk (q := Rat.divInt 1 ((row R p).length : Nat)) (C6.get 0 rfl) q1.symm (by rw [q2, len_map]), ⟨h1'.mono (by decide), hbb.mono (by omega)⟩, fun v H7 r7 v0 e7 => ?_⟩
      have C7 := C6.call0 r7
      walk_at "rd"
      refine ⟨fa, v, rfl, _, _, (hfp.to r6.tups0).to r7.tups0, .of e7, ⟨(eqK_ht l0 lb).mono (by omega), (mul_ht h1' hbb).mono (by omega)⟩, fun v2 H8 r8 v20 e8 => ?_⟩
      have C8 := C7.call0 r8
      walk_at "rd"
      refine r_setL (C8.get 1 rfl) (ixN_end (by rw [len_ref, hpl])) ?_
      refine mod_r C8 1 rfl (.inr l40) fun H9 C9 r9 => ?_
      have t9 : Tups H8 H9 := r9.tupsL (C8.get 1 rfl)
      refine ⟨fads.set R.length v2, _, rfl, (hP.to (((r6.tups0.trans r7.tups0).trans r8.tups0).trans t9)).set (PrA.res (t9 _ _ e8) s1) fun j hj hj2 => s2 j hj hj2, ?_⟩
      rw [← set_ref]
      exact C9.pick [1, 2, 3] (by decide)
  · rintro σ H' ⟨fads, o, rfl, hP, C⟩
    walk_at "rd"
    rw [len_map, eqK_full] at hP
    exact k l4 fads H' C.ret l40 (C.get 0 rfl) hP
end
end K67

end

section
set_option Elab.async false
set_option linter.all false
set_option maxRecDepth 100000
set_option maxHeartbeats 1000000
namespace K67
open PySem PySem.Spec PyProof.Rows L2 Nd M94 M67
set_option hygiene false
local macro_rules | `(tactic| walk_at "hg") => `(tactic| first | assumption | exact C.get 0 rfl | exact C.get 1 rfl | exact C.get 2 rfl | exact C.get 3 rfl | exact C.get 4 rfl | exact C.get 5 rfl | exact C.get 6 rfl | exact C.get 7 rfl | exact C.get 8 rfl | exact C.get 9 rfl)
local macro_rules | `(tactic| walk_at "rd1") => `(tactic| first
  | with_reducible refine u_seq ?_ | with_reducible refine u_asg ?_ | ((with_reducible refine' u_var ?q7hv ?_); (case q7hv => exact rfl)) | with_reducible refine u_c ?_ | with_reducible refine u_op ?_ | with_reducible refine u_if ?_ | with_reducible refine u_ret ?_
  | with_reducible refine u_test ?_ | with_reducible refine u_tB ?_ | with_reducible refine u_and ?_ | with_reducible refine u_or ?_ | with_reducible refine u_not ?_ | with_reducible refine u_call ?_ | with_reducible refine u_cb ?_ | with_reducible refine u_cons ?_ | with_reducible refine u_nil ?_
  | with_reducible refine u_gname ?_ | with_reducible refine u_gcons ?_ | with_reducible refine u_gnil ?_ | with_reducible refine u_gsub ?_ | with_reducible refine u_lst ?_ | with_reducible refine u_tup ?_ | with_reducible refine u_un ?_ | with_reducible refine u_ifE ?_
  | with_reducible refine u_drop ?_ | with_reducible refine u_next ?_ | with_reducible refine u_retN ?_ | with_reducible refine u_tf ?_ | with_reducible refine u_fld ?_ | with_reducible refine u_gfld ?_ | with_reducible refine u_par ?_ | with_reducible refine u_par3 ?_ | with_reducible refine u_meth ?_ | with_reducible refine u_prop ?_ | with_reducible refine u_make ?_
  | with_reducible refine u_bm ?_ | with_reducible refine u_bm0 ?_ | with_reducible refine u_sl ?_ | with_reducible refine u_noPart ?_ | with_reducible refine u_part ?_ | with_reducible refine u_chain ?_ | with_reducible refine u_andV ?_ | with_reducible refine u_orV ?_ | with_reducible refine u_notV ?_
  | with_reducible refine u_listRg ?_ | with_reducible refine u_rg1 ?_ | with_reducible refine u_lc2 ?_ | with_reducible refine u_enum ?_ | with_reducible refine u_zip ?_ | with_reducible refine u_for ?_ | with_reducible refine u_lc ?_ | with_reducible refine u_rng1 ?_ | with_reducible refine u_rng2 ?_ | with_reducible refine u_yes ?_ | with_reducible refine u_brk ?_ | with_reducible refine u_cont ?_
  | with_reducible refine r_add ?_ | with_reducible refine r_sub ?_ | with_reducible refine r_lt ?_ | with_reducible refine r_le ?_ | with_reducible refine r_gt ?_ | with_reducible refine r_ge ?_ | with_reducible refine r_eqI ?_ | with_reducible refine r_neI ?_ | with_reducible refine r_neg ?_ | with_reducible refine r_int ?_ | with_reducible refine r_intB ?_ | with_reducible refine r_abs ?_ | with_reducible refine r_isNi ?_ | with_reducible refine r_isNn ?_ | with_reducible refine r_isNr ?_ | with_reducible refine r_isNs ?_ | with_reducible refine r_notN ?_
  | ((with_reducible refine' r_ixL ?q7hs ?q7ha ?_); (case q7hs => exact SqL.of (by walk_at "hg")); (case q7ha => first | exact rfl | exact atI_nat (by assumption)))
  | ((with_reducible refine' r_ixT ?q7hs ?q7ha ?_); (case q7hs => exact SqT.of (by walk_at "hg")); (case q7ha => first | exact rfl | exact atI_nat (by assumption)))
  | ((with_reducible refine' r_len ?q7hs ?_); (case q7hs => exact SqL.of (by walk_at "hg")))
  | ((with_reducible refine' r_lenT ?q7hs ?_); (case q7hs => exact SqT.of (by walk_at "hg")))
  | ((with_reducible refine' r_mod ?q7c ?_); (case q7c => first | decide | omega)) | ((with_reducible refine' r_div ?q7c ?_); (case q7c => first | (constructor <;> decide) | (constructor <;> omega)))
  | ((with_reducible refine' r_mul ?q7c ?_); (case q7c => first | exact .inl ⟨by omega, by omega⟩ | exact .inr ⟨by omega, by omega⟩))
  | ((with_reducible refine' r_pow ?q7c ?_); (case q7c => exact ⟨by omega, by omega, by omega⟩))
  | with_reducible refine b_nT ?_ | with_reducible refine b_nF ?_ | with_reducible refine iteF ?_ | with_reducible refine iteT ?_
  | with_reducible refine k_blA ?_ | with_reducible refine k_int ?_ | with_reducible refine k_two ?_ | with_reducible refine k_three ?_
  | ((with_reducible refine' k_size ?q7hn ?_); (case q7hn => exact Nat.le_of_ble_eq_true rfl))
  | ((with_reducible refine' k_fld ?q7ha ?q7c ?q7n ?q7hl ?_); (case q7ha => walk_at "hg"); (case q7c => walk_at "cls"); (case q7n => walk_at "att"); (case q7hl => exact rfl))
  | ((with_reducible refine' k_put ?q7ha ?q7c ?q7n ?q7hl ?_); (case q7ha => walk_at "hg"); (case q7c => walk_at "cls"); (case q7n => walk_at "att"); (case q7hl => first | decide | exact Nat.lt_of_lt_of_le (Nat.lt_succ_self _) (Nat.le_of_ble_eq_true rfl)))
  | ((with_reducible refine' k_meth ?q7ha ?q7hl ?_); (case q7ha => walk_at "hg"); (case q7hl => exact rfl))
  | ((with_reducible refine' k_prop ?q7ha ?_); (case q7ha => walk_at "hg")))
local macro_rules | `(tactic| walk_at "rd") => `(tactic| repeat walk_at "rd1")
local macro_rules | `(tactic| walk_at "cls") => `(tactic| first | exact T.c_Board | exact T.c_World)
local macro_rules | `(tactic| walk_at "att") => `(tactic| first | exact T.n_Board_homes | exact T.n_Board_places | exact T.n_Board_rows | exact T.n_World_board | exact T.n_World_shown | exact T.n_World_standing | exact T.n_World_won | exact T.n_World_steps)

def sp_lessened (K : PySem.W.Frag) (A : Adr) : Sp := fun vs H Q E => ∃ (r o : Addr) (a : Nat), vs = [.ref r, .ref o, .int a] ∧ ∃ (f g : Nat → Rat) (n b : Nat), a < n ∧ n ≤ 100 ∧ b ≤ 1000 ∧ RowP K H r f n ∧ RowP K H o g n ∧ (∀ j, j < n → Ht (f j) b ∧ Ht (g j) b) ∧ g a ≠ 0 ∧
  NewL K Q H (fun j => f j + -(f a * (g a)⁻¹) * g j) n
def sp_solved (K : PySem.W.Frag) (A : Adr) : Sp := fun vs H Q E => ∃ l : Addr, vs = [.ref l] ∧ ∃ (rads : List Addr) (B : Sq) (n b : Nat), H l = some (.lst (rads.map V.ref)) ∧ TabP K H rads B n (n + 1) ∧ n ≤ 60 ∧ GJ B B n 0 ∧ (∀ i j, i < n → j ≤ n → Ht (B i j) b) ∧ (∀ k, k < n → hb b k ≤ 1000) ∧ hb b n ≤ 4500 ∧
  ∀ x, SolA B n x → NewL K Q H x n
section
variable {P : Program} {w : World} {K : PySem.W.Frag} {mg : Str → Option Value} {base : Heap} {A : Adr}
theorem ok_lessened (T : Txt K mg A) (G_turned : Gd P w K mg base CX0 1 "turned" ["one"] [] (sp_turned K A)) (G_over : Gd P w K mg base CX0 3 "over" ["one", "other"] [] (sp_over K A)) (G_both : Gd P w K mg base CX0 2 "both" ["one", "other"] [] (sp_both K A)) (G_times : Gd P w K mg base CX0 2 "times" ["one", "other"] [] (sp_times K A)) : Gd P w K mg base CX0 4 "lessened" ["row", "own", "at"] [] (sp_lessened K A) := by
  obtain ⟨f, fd, F, hm⟩ := T.f_lessened
  refine ⟨⟨f, fd, [], ?_, hm, F.kp, F.binds (ps := ["row", "own", "at"]) (fun _ _ _ _ _ _ us hl => match us, hl with | [_, _, _], _ => rfl), .nil⟩⟩
  refine F.ok sc_lessened (fun vs H Q E h => by first | (obtain ⟨rfl, _⟩ := h; rfl) | (obtain ⟨_, rfl, _⟩ := h; rfl) | (obtain ⟨_, _, rfl, _⟩ := h; rfl) | (obtain ⟨_, _, _, rfl, _⟩ := h; rfl) | (obtain ⟨_, _, _, _, rfl, _⟩ := h; rfl) | (obtain ⟨_, _, _, _, _, rfl, _⟩ := h; rfl) | (obtain ⟨_, _, _, _, _, _, rfl, _⟩ := h; rfl) | (obtain ⟨_, _, _, _, _, _, _, rfl, _⟩ := h; rfl)) (fun cdv A' outer s H vs Q E hr h => ⟨_, (pss_cons (ps_set (i := 3) sc_lessened.nd rfl (.inr rfl) (pe_callG G_turned (hr.mono (by decide)) (by rfl) pass0 (pa_cons (pe_callG G_over (hr.mono (by decide)) (by rfl) pass0 (pa_cons (pe_ix (ix_seqK K) (pv 0) (pv 2) (fun _ _ => rfl)) (pa_cons (pe_ix (ix_seqK K) (pv 1) (pv 2) (fun _ _ => rfl)) pa_nil))) pa_nil)))
      (pss_one (ps_ret (pe_lc (own := [("mine", 4), ("its", 5)]) rfl sc_lessened.nd (pi_zipK K false false (by rfl) T.b_zip (pa_cons (pv 0) (pa_cons (pv 1) pa_nil))) (blkOk_by (N := N_lessened) (sc := defScope s_lessened) (own := [("mine", 4), ("its", 5)]) (by decide +kernel)) (fun _ _ _ _ _ => (pg_tupK K (n := 2) rfl (pgs_cons (pg_name (i := 4) sc_lessened.nd rfl (by first | exact .inl rfl | exact .inr rfl)) (pgs_cons (pg_name (i := 5) sc_lessened.nd rfl (by first | exact .inl rfl | exact .inr rfl)) pgs_nil)))) (fun _ _ _ _ _ => pts_nil) (fun _ _ _ _ _ => (pe_callG G_both (hr.mono (by decide)) (by rfl) pass0 (pa_cons (pv 4) (pa_cons (pe_callG G_times (hr.mono (by decide)) (by rfl) pass0 (pa_cons (pv 3) (pa_cons (pv 5) pa_nil))) pa_nil)))))))), ?_⟩)
  obtain ⟨r, o, a, rfl, f, g, n, b, han, n100, b1, ⟨rads, hr0, hR⟩, ⟨oads, ho0, hO⟩, hh, hga, k⟩ := h
  have C : Cur H [] H [] := Cur.start (by simp) (by simp)
  obtain ⟨ra, hra, hrp⟩ := hR.get han
  obtain ⟨oa, hoa, hop⟩ := hO.get han
  walk_at "rd"
  refine r_ixL (SqL.of hr0) (atRn hra) ?_
  walk_at "rd"
  refine r_ixL (SqL.of ho0) (atRn hoa) ?_
  refine ⟨ra, oa, rfl, _, _, hrp, hop, ⟨⟨(hh a han).1.mono (by omega), (hh a han).2.mono (by omega)⟩, hga⟩, fun t H1 r1 t0 e1 => ?_⟩
  refine ⟨t, rfl, _, .of e1, trivial, fun y H2 r2 y0 e2 => ?_⟩
  have hby : Ht (-(f a * (g a)⁻¹)) (2 * b) := (neg_ht (mul_ht (hh a han).1 (inv_ht hga (hh a han).2))).mono (by omega)
  have hyp : PrA K H2 y (-(f a * (g a)⁻¹)) := .of e2
  have C0 := (C.call0 r1).call0 r2
  have C : Cur H2 [] H2 [] := C0.again
  have hr0 := C0.ret.fr _ _ hr0 (by simp)
  have ho0 := C0.ret.fr _ _ ho0 (by simp)
  have hR := hR.to C0.ret.tups0
  have hO := hO.to C0.ret.tups0
  walk_at "rd"
  refine k_zip (k1 := false) (k2 := false) (SqL.of (C.ret.fr _ _ hr0 (by simp))) (SqL.of (C.ret.fr _ _ ho0 (by simp))) ?_
  refine lc_z (k1 := false) (k2 := false) (xs := rads.map V.ref) (ys := oads.map V.ref) (by simp [hR.1, hO.1]) C (fun D i H' => ∃ pads, PrL K H' pads (fun j => f j + -(f a * (g a)⁻¹) * g j) i ∧ Tups H2 H' ∧ Cur H2 [] H' [(D, .lst (pads.map V.ref))])
    (fun D H1 D0 C => ⟨[], .nil, C.ret.tups0, C⟩) ?_ ?_ ?_
  · rintro D i H' hi ⟨pads, hP, hT, C⟩
    exact ⟨SqL.of (C.ret.fr _ _ hr0 (by simp)), SqL.of (C.ret.fr _ _ ho0 (by simp))⟩
  · rintro D i x y' H' D0 hx hy ⟨pads, hP, hT, C⟩
    obtain ⟨xa, hxa, rfl⟩ := refOf hx
    obtain ⟨ya, hya, rfl⟩ := refOf hy
    have hin : i < n := by rw [← hR.1]; exact (List.getElem?_eq_some_iff.mp hxa).1
    obtain ⟨hf, hg⟩ := hh i hin
    refine new_r C fun u H3 u0 u00 C3 r3 => ?_
    refine u_gtup (SqT.of (C3.get 0 rfl)) rfl ?_
    walk_at "rd"
    refine ⟨rfl, ?_⟩
    walk_at "rd"
    refine ⟨y, ya, rfl, _, _, (hyp.to hT).to r3.tups0, (hO.2 i ya hya).to C3.ret.tups0, ⟨hby.mono (by omega), hg.mono (by omega)⟩, fun v H4 r4 v0 e4 => ?_⟩
    have C4 := C3.call0 r4
    walk_at "rd"
    refine ⟨xa, v, rfl, _, _, (hR.2 i xa hxa).to C4.ret.tups0, .of e4, ⟨hf.mono (by omega), (mul_ht hby hg).mono (by omega)⟩, fun v2 H5 r5 v20 e5 => ?_⟩
    have C5 := C4.call0 r5
    refine k_acc (C5.get 1 rfl) (by rw [len_ref, hP.1]; omega) ?_
    refine mod_r C5 1 rfl (.inr D0) fun H6 C6 r6 => ?_
    have t6 : Tups H5 H6 := r6.tupsL (C5.get 1 rfl)
    have t36 : Tups H' H6 := (r3.tups0.trans r4.tups0).trans (r5.tups0.trans t6)
    rw [app_ref] at C6
    exact ⟨_, (hP.to t36).snoc (PrA.res (t6 _ _ e5) rfl), hT.trans t36, C6.drop⟩
  · rintro D H' D0 ⟨pads, hP, hT, C⟩
    rw [len_ref, hR.1] at hP
    exact k D pads H' (C0.ret.trans C.ret) (C0.fresh D0) (C.get 0 rfl) hP
end
end K67

end

section
set_option Elab.async false
set_option linter.all false
set_option maxRecDepth 100000
set_option maxHeartbeats 1000000
namespace K67
open PySem PySem.Spec PyProof.Rows L2 Nd M94 M67
set_option hygiene false
local macro_rules | `(tactic| walk_at "hg") => `(tactic| first | assumption | exact C.get 0 rfl | exact C.get 1 rfl | exact C.get 2 rfl | exact C.get 3 rfl | exact C.get 4 rfl | exact C.get 5 rfl | exact C.get 6 rfl | exact C.get 7 rfl | exact C.get 8 rfl | exact C.get 9 rfl)
local macro_rules | `(tactic| walk_at "rd1") => `(tactic| first
  | with_reducible refine u_seq ?_ | with_reducible refine u_asg ?_ | ((with_reducible refine' u_var ?q7hv ?_); (case q7hv => exact rfl)) | with_reducible refine u_c ?_ | with_reducible refine u_op ?_ | with_reducible refine u_if ?_ | with_reducible refine u_ret ?_
  | with_reducible refine u_test ?_ | with_reducible refine u_tB ?_ | with_reducible refine u_and ?_ | with_reducible refine u_or ?_ | with_reducible refine u_not ?_ | with_reducible refine u_call ?_ | with_reducible refine u_cb ?_ | with_reducible refine u_cons ?_ | with_reducible refine u_nil ?_
  | with_reducible refine u_gname ?_ | with_reducible refine u_gcons ?_ | with_reducible refine u_gnil ?_ | with_reducible refine u_gsub ?_ | with_reducible refine u_lst ?_ | with_reducible refine u_tup ?_ | with_reducible refine u_un ?_ | with_reducible refine u_ifE ?_
  | with_reducible refine u_drop ?_ | with_reducible refine u_next ?_ | with_reducible refine u_retN ?_ | with_reducible refine u_tf ?_ | with_reducible refine u_fld ?_ | with_reducible refine u_gfld ?_ | with_reducible refine u_par ?_ | with_reducible refine u_par3 ?_ | with_reducible refine u_meth ?_ | with_reducible refine u_prop ?_ | with_reducible refine u_make ?_
  | with_reducible refine u_bm ?_ | with_reducible refine u_bm0 ?_ | with_reducible refine u_sl ?_ | with_reducible refine u_noPart ?_ | with_reducible refine u_part ?_ | with_reducible refine u_chain ?_ | with_reducible refine u_andV ?_ | with_reducible refine u_orV ?_ | with_reducible refine u_notV ?_
  | with_reducible refine u_listRg ?_ | with_reducible refine u_rg1 ?_ | with_reducible refine u_lc2 ?_ | with_reducible refine u_enum ?_ | with_reducible refine u_zip ?_ | with_reducible refine u_for ?_ | with_reducible refine u_lc ?_ | with_reducible refine u_rng1 ?_ | with_reducible refine u_rng2 ?_ | with_reducible refine u_yes ?_ | with_reducible refine u_brk ?_ | with_reducible refine u_cont ?_
  | with_reducible refine r_add ?_ | with_reducible refine r_sub ?_ | with_reducible refine r_lt ?_ | with_reducible refine r_le ?_ | with_reducible refine r_gt ?_ | with_reducible refine r_ge ?_ | with_reducible refine r_eqI ?_ | with_reducible refine r_neI ?_ | with_reducible refine r_neg ?_ | with_reducible refine r_int ?_ | with_reducible refine r_intB ?_ | with_reducible refine r_abs ?_ | with_reducible refine r_isNi ?_ | with_reducible refine r_isNn ?_ | with_reducible refine r_isNr ?_ | with_reducible refine r_isNs ?_ | with_reducible refine r_notN ?_
  | ((with_reducible refine' r_ixL ?q7hs ?q7ha ?_); (case q7hs => exact SqL.of (by walk_at "hg")); (case q7ha => first | exact rfl | exact atI_nat (by assumption)))
  | ((with_reducible refine' r_ixT ?q7hs ?q7ha ?_); (case q7hs => exact SqT.of (by walk_at "hg")); (case q7ha => first | exact rfl | exact atI_nat (by assumption)))
  | ((with_reducible refine' r_len ?q7hs ?_); (case q7hs => exact SqL.of (by walk_at "hg")))
  | ((with_reducible refine' r_lenT ?q7hs ?_); (case q7hs => exact SqT.of (by walk_at "hg")))
  | ((with_reducible refine' r_mod ?q7c ?_); (case q7c => first | decide | omega)) | ((with_reducible refine' r_div ?q7c ?_); (case q7c => first | (constructor <;> decide) | (constructor <;> omega)))
  | ((with_reducible refine' r_mul ?q7c ?_); (case q7c => first | exact .inl ⟨by omega, by omega⟩ | exact .inr ⟨by omega, by omega⟩))
  | ((with_reducible refine' r_pow ?q7c ?_); (case q7c => exact ⟨by omega, by omega, by omega⟩))
  | with_reducible refine b_nT ?_ | with_reducible refine b_nF ?_ | with_reducible refine iteF ?_ | with_reducible refine iteT ?_
  | with_reducible refine k_blA ?_ | with_reducible refine k_int ?_ | with_reducible refine k_two ?_ | with_reducible refine k_three ?_
  | ((with_reducible refine' k_size ?q7hn ?_); (case q7hn => exact Nat.le_of_ble_eq_true rfl))
  | ((with_reducible refine' k_fld ?q7ha ?q7c ?q7n ?q7hl ?_); (case q7ha => walk_at "hg"); (case q7c => walk_at "cls"); (case q7n => walk_at "att"); (case q7hl => exact rfl))
  | ((with_reducible refine' k_put ?q7ha ?q7c ?q7n ?q7hl ?_); (case q7ha => walk_at "hg"); (case q7c => walk_at "cls"); (case q7n => walk_at "att"); (case q7hl => first | decide | exact Nat.lt_of_lt_of_le (Nat.lt_succ_self _) (Nat.le_of_ble_eq_true rfl)))
  | ((with_reducible refine' k_meth ?q7ha ?q7hl ?_); (case q7ha => walk_at "hg"); (case q7hl => exact rfl))
  | ((with_reducible refine' k_prop ?q7ha ?_); (case q7ha => walk_at "hg")))
local macro_rules | `(tactic| walk_at "rd") => `(tactic| repeat walk_at "rd1")
local macro_rules | `(tactic| walk_at "cls") => `(tactic| first | exact T.c_Board | exact T.c_World)
local macro_rules | `(tactic| walk_at "att") => `(tactic| first | exact T.n_Board_homes | exact T.n_Board_places | exact T.n_Board_rows | exact T.n_World_board | exact T.n_World_shown | exact T.n_World_standing | exact T.n_World_won | exact T.n_World_steps)

theorem k_rng2' {i j : Nat} {A : Int → Int → Prop} (h1 : i ≤ 1000000) (h2 : j ≤ 1000000) (h : A i j) : ∃ i' j' : Int, [V.int i, V.int j] = [.int i', .int j'] ∧ (-(2 ^ 62) ≤ i' ∧ i' < 2 ^ 62 ∧ -(2 ^ 62) ≤ j' ∧ j' < 2 ^ 62) ∧ A i' j' := k_rng2 (by omega) (by omega) (by omega) (by omega) h
theorem natAt {is : List Nat} {i k : Nat} (h : is[i]? = some k) : atI (is.map fun k => V.int (k : Nat)) (i : Int) = some (.int k) := atI_nat (by rw [List.getElem?_map, h]; rfl)
theorem notSeg {rads : List Addr} {x y : Addr} (h : x ∉ rads) (hy : y ≠ x) : x ∉ rads ++ [y] := fun m => by
  rcases List.mem_append.mp m with q | q
  · exact h q
  · exact hy (List.mem_singleton.mp q).symm
theorem notSet {rads : List Addr} {x y : Addr} {i : Nat} (h : x ∉ rads) (hy : y ≠ x) : x ∉ rads.set i y := fun m => by
  rcases Nd.mem_set m with q | q
  · exact h q
  · exact hy q.symm
section
variable {P : Program} {w : World} {K : PySem.W.Frag} {mg : Str → Option Value} {base : Heap} {A : Adr}
theorem TabP.list {K : PySem.W.Frag} {H H' : Hp} {rads : List Addr} {B : Sq} {n m : Nat} {l : Addr} {xs : List V} (h : TabP K H rads B n m) (r : Ret [l] H H') (hl : H l = some (.lst xs)) (hn : l ∉ rads) : TabP K H' rads B n m :=
  h.to r (fun x hx z => hn (List.mem_singleton.mp z ▸ hx)) (fun s hs ys e => by rw [List.mem_singleton.mp hs, hl] at e; cases e)
theorem TabP.to0 {K : PySem.W.Frag} {H H' : Hp} {rads : List Addr} {B : Sq} {n m : Nat} (h : TabP K H rads B n m) (r : Ret [] H H') : TabP K H' rads B n m := h.to r (by simp) (by simp)
theorem TabP.there {K : PySem.W.Frag} {H : Hp} {rads : List Addr} {B : Sq} {n m : Nat} (h : TabP K H rads B n m) {l : Addr} (hl : H l = none) : l ∉ rads := fun z => by
  obtain ⟨i, hi⟩ := List.mem_iff_getElem?.mp z
  obtain ⟨ads, e, _⟩ := h.2 i l hi
  rw [hl] at e; cases e
theorem ok_solved (T : Txt K mg A) (G_lessened : Gd P w K mg base CX0 4 "lessened" ["row", "own", "at"] [] (sp_lessened K A)) (G_over : Gd P w K mg base CX0 3 "over" ["one", "other"] [] (sp_over K A)) : Gd P w K mg base CX0 5 "solved" ["rows"] [] (sp_solved K A) := by
  obtain ⟨f, fd, F, hm⟩ := T.f_solved
  refine ⟨⟨f, fd, [], ?_, hm, F.kp, F.binds (ps := ["rows"]) (fun _ _ _ _ _ _ us hl => match us, hl with | [_], _ => rfl), .nil⟩⟩
  refine F.ok sc_solved (fun vs H Q E h => by first | (obtain ⟨rfl, _⟩ := h; rfl) | (obtain ⟨_, rfl, _⟩ := h; rfl) | (obtain ⟨_, _, rfl, _⟩ := h; rfl) | (obtain ⟨_, _, _, rfl, _⟩ := h; rfl) | (obtain ⟨_, _, _, _, rfl, _⟩ := h; rfl) | (obtain ⟨_, _, _, _, _, rfl, _⟩ := h; rfl) | (obtain ⟨_, _, _, _, _, _, rfl, _⟩ := h; rfl) | (obtain ⟨_, _, _, _, _, _, _, rfl, _⟩ := h; rfl)) (fun cdv A' outer s H vs Q E hr h => ⟨_, (pss_cons (ps_asg (pe_tup (pa_cons (pe_lc (own := [("row", 6)]) rfl sc_solved.nd (pi_seqK K (pv 0)) (blkOk_by (N := N_solved) (sc := defScope s_solved) (own := [("row", 6)]) (by decide +kernel)) (fun _ _ _ _ _ => (pg_name (i := 6) sc_solved.nd rfl (by first | exact .inl rfl | exact .inr rfl))) (fun _ _ _ _ _ => pts_nil) (fun _ _ _ _ _ => (pe_callTy (call_listK K) (by rfl) T.b_list (by decide +kernel) (pa_cons (pv 6) pa_nil)))) (pa_cons (pe_callB (call_lenK K) (by rfl) T.b_len PySem.boot_len (pa_cons (pv 0) pa_nil)) pa_nil))) (pg_tupK K (n := 2) rfl (pgs_cons (pg_name (i := 2) sc_solved.nd rfl (.inr rfl)) (pgs_cons (pg_name (i := 3) sc_solved.nd rfl (.inr rfl)) pgs_nil))))
      (pss_cons (ps_for PassesOwn.never rfl (pi_range1 (by rfl) T.b_range (pa_cons (pv 3) pa_nil)) (pg_name (i := 1) sc_solved.nd rfl (.inr rfl)) (pss_cons (ps_set (i := 4) sc_solved.nd rfl (.inl rfl) (pe_ix (ix_seqK K) (pe_lc (own := [("place", 5)]) rfl sc_solved.nd (pi_range2 (by rfl) T.b_range (pa_cons (pv 1) (pa_cons (pv 3) pa_nil))) (blkOk_by (N := N_solved) (sc := defScope s_solved) (own := [("place", 5)]) (by decide +kernel)) (fun _ _ _ _ _ => (pg_name (i := 5) sc_solved.nd rfl (by first | exact .inl rfl | exact .inr rfl))) (fun _ _ _ _ _ => (pts_one (pt_cmpR (op_neK K hr.units) (pe_ix (ix_seqK K) (pe_ix (ix_seqK K) (pv 2) (pv 5) (fun _ _ => rfl)) (pv 1) (fun _ _ => rfl)) (pe_K_NOUGHT T) (nomark _)))) (fun _ _ _ _ _ => (pv 5))) pe_int (fun _ _ => rfl)))
      (pss_cons (ps_asg (pe_tup (pa_cons (pe_ix (ix_seqK K) (pv 2) (pv 4) (fun _ _ => rfl)) (pa_cons (pe_ix (ix_seqK K) (pv 2) (pv 1) (fun _ _ => rfl)) pa_nil))) (pg_tupK K (n := 2) rfl (pgs_cons (pg_sub (pv 2) (pv 1) set_list) (pgs_cons (pg_sub (pv 2) (pv 4) set_list) pgs_nil))))
      (pss_one (ps_for PassesOwn.never rfl (pi_range1 (by rfl) T.b_range (pa_cons (pv 3) pa_nil)) (pg_name (i := 5) sc_solved.nd rfl (.inl rfl)) (pss_one (ps_if (PW.pt (pw_and (pt_cmpR (op_neK K hr.units) (pv 5) (pv 1) (nomark _)) (pw_and1 (pt_cmpR (op_neK K hr.units) (pe_ix (ix_seqK K) (pe_ix (ix_seqK K) (pv 2) (pv 5) (fun _ _ => rfl)) (pv 1) (fun _ _ => rfl)) (pe_K_NOUGHT T) (nomark _))))) (pss_one (ps_asg (pe_callG G_lessened (hr.mono (by decide)) (by rfl) pass0 (pa_cons (pe_ix (ix_seqK K) (pv 2) (pv 5) (fun _ _ => rfl)) (pa_cons (pe_ix (ix_seqK K) (pv 2) (pv 1) (fun _ _ => rfl)) (pa_cons (pv 1) pa_nil)))) (pg_sub (pv 2) (pv 5) set_list))) pss_nil)))))))
      (pss_one (ps_ret (pe_lc (own := [("at", 1), ("row", 6)]) rfl sc_solved.nd (pi_enumK K false (by rfl) T.b_enumerate (pa_cons (pv 2) pa_nil)) (blkOk_by (N := N_solved) (sc := defScope s_solved) (own := [("at", 1), ("row", 6)]) (by decide +kernel)) (fun _ _ _ _ _ => (pg_tupK K (n := 2) rfl (pgs_cons (pg_name (i := 1) sc_solved.nd rfl (by first | exact .inl rfl | exact .inr rfl)) (pgs_cons (pg_name (i := 6) sc_solved.nd rfl (by first | exact .inl rfl | exact .inr rfl)) pgs_nil)))) (fun _ _ _ _ _ => pts_nil) (fun _ _ _ _ _ => (pe_callG G_over (hr.mono (by decide)) (by rfl) pass0 (pa_cons (pe_ix (ix_seqK K) (pv 6) (pv 3) (fun _ _ => rfl)) (pa_cons (pe_ix (ix_seqK K) (pv 6) (pv 1) (fun _ _ => rfl)) pa_nil))))))))), ?_⟩)
  obtain ⟨rl, rfl, rds, B, n, b, hrl, hT0, n60, G0, hB, hh1, hh2, k⟩ := h
  have C : Cur H [] H [(rl, .lst (rds.map V.ref))] := Cur.start (by simp) (by simp [hrl])
  walk_at "rd"
  refine u_sseqL ?_
  walk_at "rd"
  refine k_seqL (SqL.of (C.get 0 rfl)) ?_
  refine lc_l (xs := rds.map V.ref) C (fun D i H' => ∃ rads, TabP K H' rads B i (n + 1) ∧ D ∉ rads ∧ Cur H [] H' [(D, .lst (rads.map V.ref)), (rl, .lst (rds.map V.ref))]) (fun D H1 D0 C => ⟨[], .nil, by simp, C⟩) ?_ ?_ ?_
  · rintro D i H' hi ⟨rads, hT, hD, C⟩
    exact SqL.of (C.get 1 rfl)
  · rintro D i x H' D0 hx ⟨rads, hT, hD, C⟩
    obtain ⟨r, hr1, rfl⟩ := refOf hx
    have hin : i < n := by rw [← hT0.1]; exact (List.getElem?_eq_some_iff.mp hr1).1
    obtain ⟨pads, hp1, hp2⟩ := hT0.2 i r hr1
    walk_at "rd"
    refine ⟨rfl, ?_⟩
    walk_at "rd"
    refine r_listL (SqL.of (C.ret.fr _ _ hp1 (by simp))) ?_
    refine new_r C fun l H2 l0 l00 C2 r2 => ?_
    refine k_acc (C2.get 1 rfl) (by rw [len_ref, hT.1]; omega) ?_
    refine mod_r C2 1 rfl (.inr D0) fun H3 C3 r3 => ?_
    have hDl : l ≠ D := C2.ne 0 1 rfl rfl (by decide)
    have hT3 := TabP.list (TabP.to0 hT r2) r3 (C2.get 1 rfl) hD
    have hl3 : RowP K H3 l (B i) (n + 1) := ⟨pads, C3.get 0 rfl, hp2.to (C2.ret.tups0.trans (r3.tupsL (C2.get 1 rfl)))⟩
    refine ⟨rads ++ [l], hT3.snoc hl3, notSeg hD hDl, ?_⟩
    rw [app_ref] at C3
    exact C3.drop
  rintro sq H' sq0 ⟨rads, hT, hD, C⟩
  rw [len_ref, hT0.1] at hT
  walk_at "rd"
  refine new_r C fun u H2 u0 u00 C2 r2 => ?_
  rw [len_ref, hT0.1] at C2
  refine u_gtup (SqT.of (C2.get 0 rfl)) rfl ?_
  walk_at "rd"
  refine k_rng1 (j := (n : Int)) (by omega) (by omega) ?_
  have C2 : Cur H [] H2 [(sq, .lst (rads.map V.ref))] := C2.pick [1] (by decide)
  refine for_r (fun at_ σ H' => ∃ (rads : List Addr) (S : Sq) (o1 o4 o5 : Option V), σ = [some (.ref rl), o1, some (.ref sq), some (.int n), o4, o5, none] ∧ TabP K H' rads S n (n + 1) ∧ sq ∉ rads ∧ Cur H [] H' [(sq, .lst (rads.map V.ref))] ∧ GJ B S n at_ ∧ ∀ i j, i < n → j ≤ n → Ht (S i j) (hb b at_)) ?_ ?_ ?_
  · exact ⟨rads, B, _, _, _, rfl, TabP.to0 hT r2, hD, C2, G0, hB⟩
  · rintro at_ σ H3 hat ⟨rads, S, o1, o4, o5, rfl, hT3, hD, C, G, hS⟩
    have hrl := hT3.1
    rw [show (0 : Int) + (at_ : Int) = at_ by omega]
    walk_at "rd"
    refine k_rng2' (i := at_) (j := n) (by omega) (by omega) ?_
    refine lc_r (C.again (S1 := [])) (fun D i H' => ∃ is : List Nat, TabP K H' rads S n (n + 1) ∧ (∀ k ∈ is, at_ ≤ k ∧ k < n ∧ S k at_ ≠ 0) ∧ (∀ k, at_ ≤ k → k < at_ + i → S k at_ ≠ 0 → is ≠ []) ∧ is.length ≤ i ∧ Cur H3 [] H' [(D, .lst (is.map fun k => V.int (k : Nat))), (sq, .lst (rads.map V.ref))])
      (fun D H1 D0 C => ⟨[], TabP.to0 hT3 C.ret, by simp, fun k h1 h2 => by omega, by simp, C⟩) ?_ ?_
    · rintro D i H' D0 hi ⟨is, hT, h1, h2, h3, C⟩
      have hin : at_ + i < n := by omega
      obtain ⟨ra, hra, pads, hp1, hp2⟩ := hT.get hin
      obtain ⟨pa, hpa, hpp⟩ := hp2.get (show at_ < n + 1 by omega)
      walk_at "rd"
      refine ⟨rfl, ?_⟩
      walk_at "rd"
      refine r_ixL (SqL.of (C.get 1 rfl)) (atR (by omega) (by rw [show ((at_ : Int) + (i : Int)).toNat = at_ + i by omega]; exact hra)) ?_
      walk_at "rd"
      refine r_ixL (SqL.of hp1) (atRn hpa) ?_
      walk_at "rd"
      refine r_nePr hpp (zeroA T) ?_
      walk_at "rd"
      refine b_ndec (fun hne => ?_) (fun he => ?_)
      · walk_at "rd"
        refine k_acc (C.get 0 rfl) (by simp; omega) ?_
        refine mod_r C 0 rfl (.inr D0) fun H4 C4 r4 => ?_
        refine ⟨is ++ [at_ + i], TabP.list hT r4 (C.get 0 rfl) (TabP.there hT3 D0), fun k hk => ?_, fun k _ _ _ => by simp, by simp; omega, ?_⟩
        · rcases List.mem_append.mp hk with q | q
          · exact h1 k q
          · rw [List.mem_singleton.mp q]; exact ⟨by omega, by omega, hne⟩
        · rw [List.map_append]
          have e1 : V.int ((at_ : Int) + (i : Int)) = V.int ((at_ + i : Nat) : Int) := by rw [Int.natCast_add]
          rw [e1] at C4
          exact C4
      · refine ⟨is, hT, h1, fun k k1 k2 k3 => ?_, by omega, C⟩
        by_cases q : k = at_ + i
        · subst q; exact absurd he k3
        · exact h2 k k1 (by omega) k3
    rintro D H4 D0 ⟨is, hT4, h1, h2, h3, C4⟩
    rw [show ((n : Int) - (at_ : Int)).toNat = n - at_ by omega] at h2
    obtain ⟨pb, pb1, pb2, pb3⟩ := G.pivot hat
    obtain ⟨bt, rest, rfl⟩ : ∃ bt rest, is = bt :: rest := by
      cases is with
      | nil => exact absurd rfl (h2 pb pb1 (by omega) pb3)
      | cons x y => exact ⟨x, y, rfl⟩
    obtain ⟨b1, b2, b3⟩ := h1 bt (by simp)
    have C4 : Cur H [] H4 [(D, .lst ((bt :: rest).map fun k => V.int (k : Nat))), (sq, .lst (rads.map V.ref))] := C.and C4
    obtain ⟨ra, hra, hra2⟩ := hT4.get hat
    obtain ⟨rb, hrb, hrb2⟩ := hT4.get b2
    walk_at "rd"
    refine r_ixL (SqL.of (C4.get 0 rfl)) (natAt (i := 0) (k := bt) rfl) ?_
    walk_at "rd"
    refine r_ixL (SqL.of (C4.get 1 rfl)) (atRn hrb) ?_
    walk_at "rd"
    refine r_ixL (SqL.of (C4.get 1 rfl)) (atRn hra) ?_
    walk_at "rd"
    refine new_r C4 fun u H5 u0 u00 C5 r5 => ?_
    refine u_gtup (SqT.of (C5.get 0 rfl)) rfl ?_
    walk_at "rd"
    refine r_setL (C5.get 2 rfl) (ixN_of (by omega) (by rw [len_ref, hrl]; omega)) ?_
    refine mod_r C5 2 rfl (.inr sq0) fun H6 C6 r6 => ?_
    rw [Int.toNat_natCast, set_ref] at C6
    have hT5 := TabP.to0 hT4 r5
    have hT6 : TabP K H6 (rads.set at_ rb) (fun p j => if p = at_ then S bt j else S p j) n (n + 1) :=
      (TabP.list hT5 r6 (C5.get 2 rfl) hD).set (B := fun p j => if p = at_ then S bt j else S p j) (((RowP.congr hrb2 fun j _ => by rw [if_pos rfl]).to r5 (by simp) (by simp)).to r6 (fun z => hD (List.mem_singleton.mp z ▸ List.mem_of_getElem? hrb)) (fun s hs ys e => by rw [List.mem_singleton.mp hs, C5.get 2 rfl] at e; cases e)) fun p hp _ j _ => by rw [if_neg hp]
    have hD6 : sq ∉ rads.set at_ rb := notSet hD fun z => hD (z ▸ List.mem_of_getElem? hrb)
    walk_at "rd"
    refine r_setL (C6.get 2 rfl) (ixN_of (by omega) (by rw [len_ref, List.length_set, hrl]; omega)) ?_
    refine mod_r C6 2 rfl (.inr sq0) fun H7 C7 r7 => ?_
    rw [Int.toNat_natCast, set_ref] at C7
    have hT7 : TabP K H7 ((rads.set at_ rb).set bt ra) (sw S at_ bt) n (n + 1) :=
      (TabP.list hT6 r7 (C6.get 2 rfl) hD6).set (B := sw S at_ bt) ((((RowP.congr hra2 fun j _ => by
          show S at_ j = sw S at_ bt bt j
          unfold sw
          by_cases q : bt = at_
          · subst q; rw [if_pos rfl]
          · rw [if_neg q, if_pos rfl]).to r5 (by simp) (by simp)).to r6 (fun z => hD (List.mem_singleton.mp z ▸ List.mem_of_getElem? hra)) (fun s hs ys e => by rw [List.mem_singleton.mp hs, C5.get 2 rfl] at e; cases e)).to r7 (fun z => hD (List.mem_singleton.mp z ▸ List.mem_of_getElem? hra)) (fun s hs ys e => by rw [List.mem_singleton.mp hs, C6.get 2 rfl] at e; cases e)) fun p hp _ j _ => by
        show (if p = at_ then S bt j else S p j) = sw S at_ bt p j
        unfold sw
        by_cases q : p = at_
        · rw [if_pos q, if_pos q]
        · rw [if_neg q, if_neg q, if_neg hp]
    have hD7 : sq ∉ (rads.set at_ rb).set bt ra := notSet hD6 fun z => hD (z ▸ List.mem_of_getElem? hra)
    have C7 : Cur H [] H7 [(sq, .lst (((rads.set at_ rb).set bt ra).map V.ref))] := C7.pick [2] (by decide)
    have hS7 : ∀ i j, i < n → j ≤ n → Ht (sw S at_ bt i j) (hb b at_) := fun i j hi hj => by
      unfold sw
      split
      · exact hS bt j b2 hj
      · split
        · exact hS at_ j hat hj
        · exact hS i j hi hj
    have hpv : sw S at_ bt at_ at_ ≠ 0 := by
      unfold sw; rw [if_pos rfl]; exact b3
    have hGn := G.step hat b1 b2 b3
    clear hT6 hD6 C6 r6 hT5 C5 r5 hra2 hrb2 hra hrb hD hT4 C4 hS G hT3 C h1 h2
    generalize (rads.set at_ rb).set bt ra = rads7 at *
    generalize sw S at_ bt = S7 at *
    walk_at "rd"
    refine k_rng1 (j := (n : Int)) (by omega) (by omega) ?_
    refine for_r (fun pl σ H' => ∃ (rads : List Addr) (o5 : Option V), σ = [some (.ref rl), some (.int at_), some (.ref sq), some (.int n), some (.int bt), o5, none] ∧ TabP K H' rads (elTo S7 at_ pl) n (n + 1) ∧ sq ∉ rads ∧ Cur H [] H' [(sq, .lst (rads.map V.ref))]) ?_ ?_ ?_
    · exact ⟨rads7, _, rfl, hT7, hD7, C7⟩
    · rintro pl σ H8 hpl ⟨rads, o5', rfl, hT, hD, C⟩
      have hrl8 := hT.1
      rw [show (0 : Int) + (pl : Int) = pl by omega]
      obtain ⟨ra, hra, hra2⟩ := hT.get hpl
      obtain ⟨rb, hrb, hrb2⟩ := hT.get hat
      have ha' : RowP K H8 ra (S7 pl) (n + 1) := hra2.congr fun j _ => elTo_row
      have hb' : RowP K H8 rb (S7 at_) (n + 1) := hrb2.congr fun j _ => elTo_at
      obtain ⟨pads, hp1, hp2⟩ := ha'
      obtain ⟨pa, hpa, hpp⟩ := hp2.get (show at_ < n + 1 by omega)
      walk_at "rd"
      refine b_ndec (fun hne => ?_) (fun he => ?_)
      · walk_at "rd"
        refine r_ixL (SqL.of (C.get 0 rfl)) (atRn hra) ?_
        walk_at "rd"
        refine r_ixL (SqL.of hp1) (atRn hpa) ?_
        walk_at "rd"
        refine r_nePr hpp (zeroA T) ?_
        walk_at "rd"
        refine b_ndec (fun hne2 => ?_) (fun he => ?_)
        · walk_at "rd"
          refine r_ixL (SqL.of (C.get 0 rfl)) (atRn hra) ?_
          walk_at "rd"
          refine r_ixL (SqL.of (C.get 0 rfl)) (atRn hrb) ?_
          walk_at "rd"
          refine ⟨ra, rb, at_, rfl, S7 pl, S7 at_, n + 1, hb b at_, by omega, by omega, hh1 at_ hat, ⟨pads, hp1, hp2⟩, hb', fun j hj => ⟨hS7 pl j hpl (by omega), hS7 at_ j hat (by omega)⟩, hpv, fun l lads H9 r9 l0 hl hL => ?_⟩
          have C9 := C.call0n r9 l0 hl
          walk_at "rd"
          refine r_setL (C9.get 1 rfl) (ixN_of (by omega) (by rw [len_ref, hrl8]; omega)) ?_
          refine mod_r C9 1 rfl (.inr sq0) fun H10 C10 r10 => ?_
          rw [Int.toNat_natCast, set_ref] at C10
          have hls : l ≠ sq := C9.ne 0 1 rfl rfl (by decide)
          have hpn : pl ≠ at_ := fun z => hne (by omega)
          refine ⟨rads.set pl l, _, rfl, (TabP.list (TabP.to0 hT r9) r10 (C9.get 1 rfl) hD).set ⟨lads, C10.get 0 rfl, (hL.to (r10.tupsL (C9.get 1 rfl))).congr fun j _ => ?_⟩ fun p hp _ j _ => elTo_ne hp, notSet hD hls, C10.drop⟩
          rw [elTo_new]
          exact el_eq hpn
        · exact ⟨rads, _, rfl, hT.congr fun p _ j _ => elTo_same (.inr he), hD, C⟩
      · walk_at "rd"
        exact ⟨rads, _, rfl, hT.congr fun p _ j _ => elTo_same (.inl (by omega)), hD, C⟩
    · rintro σ H8 ⟨rads, o5', rfl, hT, hD, C⟩
      refine ⟨rads, el S7 at_, _, _, _, rfl, hT.congr fun p hp j _ => elTo_all hp, hD, C, hGn, fun i j hi hj => ?_⟩
      exact el_ht1 hpv (hS7 i j hi hj) (hS7 i at_ hi (by omega)) (hS7 at_ at_ hat (by omega)) (hS7 at_ j hat hj)
  · rintro σ H3 ⟨rads, S, o1, o4, o5, rfl, hT, hD, C, G, hS⟩
    obtain ⟨hsol, hne⟩ := G.fin
    walk_at "rd"
    refine k_enum (k := false) (SqL.of (C.get 0 rfl)) ?_
    refine lc_e (k := false) (xs := rads.map V.ref) (C.again (S1 := [])) (fun D i H' => ∃ pads, PrL K H' pads (fun p => S p n / S p p) i ∧ TabP K H' rads S n (n + 1) ∧ Cur H3 [] H' [(D, .lst (pads.map V.ref)), (sq, .lst (rads.map V.ref))])
      (fun D H1 D0 C => ⟨[], .nil, TabP.to0 hT C.ret, C⟩) (fun D i H' hi h => by obtain ⟨pads, hP, hT, C⟩ := h; exact SqL.of (C.get 1 rfl)) ?_ ?_
    · rintro D i x H' D0 hx ⟨pads, hP, hT4, C⟩
      obtain ⟨ra, hra, rfl⟩ := refOf hx
      have hin : i < n := by rw [← hT.1]; exact (List.getElem?_eq_some_iff.mp hra).1
      obtain ⟨qads, hq1, hq2⟩ := hT4.2 i ra hra
      obtain ⟨pa, hpa, hpp⟩ := hq2.get (show n < n + 1 by omega)
      obtain ⟨pb, hpb, hpp2⟩ := hq2.get (show i < n + 1 by omega)
      refine new_r C fun u H5 u0 u00 C5 r5 => ?_
      have hq5 := r5.fr _ _ hq1 (by simp)
      refine u_gtup (SqT.of (C5.get 0 rfl)) rfl ?_
      walk_at "rd"
      refine ⟨rfl, ?_⟩
      walk_at "rd"
      refine r_ixL (SqL.of hq5) (atRn hpa) ?_
      walk_at "rd"
      refine r_ixL (SqL.of hq5) (atRn hpb) ?_
      walk_at "rd"
      refine ⟨pa, pb, rfl, _, _, hpp.to r5.tups0, hpp2.to r5.tups0, ⟨⟨(hS i n hin (by omega)).mono hh2, (hS i i hin (by omega)).mono hh2⟩, hne i hin⟩, fun v H6 r6 v0 e6 => ?_⟩
      have C6 := C5.call0 r6
      refine k_acc (C6.get 1 rfl) (by rw [len_ref, hP.1]; omega) ?_
      refine mod_r C6 1 rfl (.inr D0) fun H7 C7 r7 => ?_
      have t7 : Tups H6 H7 := r7.tupsL (C6.get 1 rfl)
      have t57 : Tups H' H7 := (r5.tups0.trans r6.tups0).trans t7
      rw [app_ref] at C7
      exact ⟨_, (hP.to t57).snoc (PrA.res (t7 _ _ e6) (Rat.div_def _ _)), TabP.list (TabP.to0 (TabP.to0 hT4 r5) r6) r7 (C6.get 1 rfl) (TabP.there hT D0), C7.drop⟩
    · rintro D H4 D0 ⟨pads, hP, hT4, C4⟩
      rw [len_ref, hT.1] at hP
      exact k _ hsol D pads H4 (C.ret.trans C4.ret) (C.fresh D0) (C4.get 0 rfl) hP
end
end K67

end

section
set_option Elab.async false
set_option linter.all false
set_option maxRecDepth 100000
set_option maxHeartbeats 1000000
namespace K67
open PySem PySem.Spec PyProof.Rows L2 Nd M94 M67
set_option hygiene false
local macro_rules | `(tactic| walk_at "hg") => `(tactic| first | assumption | exact C.get 0 rfl | exact C.get 1 rfl | exact C.get 2 rfl | exact C.get 3 rfl | exact C.get 4 rfl | exact C.get 5 rfl | exact C.get 6 rfl | exact C.get 7 rfl | exact C.get 8 rfl | exact C.get 9 rfl)
local macro_rules | `(tactic| walk_at "rd1") => `(tactic| first
  | with_reducible refine u_seq ?_ | with_reducible refine u_asg ?_ | ((with_reducible refine' u_var ?q7hv ?_); (case q7hv => exact rfl)) | with_reducible refine u_c ?_ | with_reducible refine u_op ?_ | with_reducible refine u_if ?_ | with_reducible refine u_ret ?_
  | with_reducible refine u_test ?_ | with_reducible refine u_tB ?_ | with_reducible refine u_and ?_ | with_reducible refine u_or ?_ | with_reducible refine u_not ?_ | with_reducible refine u_call ?_ | with_reducible refine u_cb ?_ | with_reducible refine u_cons ?_ | with_reducible refine u_nil ?_
  | with_reducible refine u_gname ?_ | with_reducible refine u_gcons ?_ | with_reducible refine u_gnil ?_ | with_reducible refine u_gsub ?_ | with_reducible refine u_lst ?_ | with_reducible refine u_tup ?_ | with_reducible refine u_un ?_ | with_reducible refine u_ifE ?_
  | with_reducible refine u_drop ?_ | with_reducible refine u_next ?_ | with_reducible refine u_retN ?_ | with_reducible refine u_tf ?_ | with_reducible refine u_fld ?_ | with_reducible refine u_gfld ?_ | with_reducible refine u_par ?_ | with_reducible refine u_par3 ?_ | with_reducible refine u_meth ?_ | with_reducible refine u_prop ?_ | with_reducible refine u_make ?_
  | with_reducible refine u_bm ?_ | with_reducible refine u_bm0 ?_ | with_reducible refine u_sl ?_ | with_reducible refine u_noPart ?_ | with_reducible refine u_part ?_ | with_reducible refine u_chain ?_ | with_reducible refine u_andV ?_ | with_reducible refine u_orV ?_ | with_reducible refine u_notV ?_
  | with_reducible refine u_listRg ?_ | with_reducible refine u_rg1 ?_ | with_reducible refine u_lc2 ?_ | with_reducible refine u_enum ?_ | with_reducible refine u_zip ?_ | with_reducible refine u_for ?_ | with_reducible refine u_lc ?_ | with_reducible refine u_rng1 ?_ | with_reducible refine u_rng2 ?_ | with_reducible refine u_yes ?_ | with_reducible refine u_brk ?_ | with_reducible refine u_cont ?_
  | with_reducible refine r_add ?_ | with_reducible refine r_sub ?_ | with_reducible refine r_lt ?_ | with_reducible refine r_le ?_ | with_reducible refine r_gt ?_ | with_reducible refine r_ge ?_ | with_reducible refine r_eqI ?_ | with_reducible refine r_neI ?_ | with_reducible refine r_neg ?_ | with_reducible refine r_int ?_ | with_reducible refine r_intB ?_ | with_reducible refine r_abs ?_ | with_reducible refine r_isNi ?_ | with_reducible refine r_isNn ?_ | with_reducible refine r_isNr ?_ | with_reducible refine r_isNs ?_ | with_reducible refine r_notN ?_
  | ((with_reducible refine' r_ixL ?q7hs ?q7ha ?_); (case q7hs => exact SqL.of (by walk_at "hg")); (case q7ha => first | exact rfl | exact atI_nat (by assumption)))
  | ((with_reducible refine' r_ixT ?q7hs ?q7ha ?_); (case q7hs => exact SqT.of (by walk_at "hg")); (case q7ha => first | exact rfl | exact atI_nat (by assumption)))
  | ((with_reducible refine' r_len ?q7hs ?_); (case q7hs => exact SqL.of (by walk_at "hg")))
  | ((with_reducible refine' r_lenT ?q7hs ?_); (case q7hs => exact SqT.of (by walk_at "hg")))
  | ((with_reducible refine' r_mod ?q7c ?_); (case q7c => first | decide | omega)) | ((with_reducible refine' r_div ?q7c ?_); (case q7c => first | (constructor <;> decide) | (constructor <;> omega)))
  | ((with_reducible refine' r_mul ?q7c ?_); (case q7c => first | exact .inl ⟨by omega, by omega⟩ | exact .inr ⟨by omega, by omega⟩))
  | ((with_reducible refine' r_pow ?q7c ?_); (case q7c => exact ⟨by omega, by omega, by omega⟩))
  | with_reducible refine b_nT ?_ | with_reducible refine b_nF ?_ | with_reducible refine iteF ?_ | with_reducible refine iteT ?_
  | with_reducible refine k_blA ?_ | with_reducible refine k_int ?_ | with_reducible refine k_two ?_ | with_reducible refine k_three ?_
  | ((with_reducible refine' k_size ?q7hn ?_); (case q7hn => exact Nat.le_of_ble_eq_true rfl))
  | ((with_reducible refine' k_fld ?q7ha ?q7c ?q7n ?q7hl ?_); (case q7ha => walk_at "hg"); (case q7c => walk_at "cls"); (case q7n => walk_at "att"); (case q7hl => exact rfl))
  | ((with_reducible refine' k_put ?q7ha ?q7c ?q7n ?q7hl ?_); (case q7ha => walk_at "hg"); (case q7c => walk_at "cls"); (case q7n => walk_at "att"); (case q7hl => first | decide | exact Nat.lt_of_lt_of_le (Nat.lt_succ_self _) (Nat.le_of_ble_eq_true rfl)))
  | ((with_reducible refine' k_meth ?q7ha ?q7hl ?_); (case q7ha => walk_at "hg"); (case q7hl => exact rfl))
  | ((with_reducible refine' k_prop ?q7ha ?_); (case q7ha => walk_at "hg")))
local macro_rules | `(tactic| walk_at "rd") => `(tactic| repeat walk_at "rd1")
local macro_rules | `(tactic| walk_at "cls") => `(tactic| first | exact T.c_Board | exact T.c_World)
local macro_rules | `(tactic| walk_at "att") => `(tactic| first | exact T.n_Board_homes | exact T.n_Board_places | exact T.n_Board_rows | exact T.n_World_board | exact T.n_World_shown | exact T.n_World_standing | exact T.n_World_won | exact T.n_World_steps)

theorem eok_of {R : Rows} {m : Nat} {rk gd : Nat → Nat} (G : Good R m rk gd) (m60 : m ≤ 60) : EOk R m 3 :=
  ⟨by have := G.n5; omega, m60, by decide, fun p hp => ⟨(G.le4 p hp).1, by have := (G.le4 p hp).2; omega, by have := (G.le4 p hp).2; omega⟩, fun p hp x hx => G.ents p hp x hx⟩
theorem hb5 {k n : Nat} (h : k < n) (hn : n ≤ 5) : hb 3 k ≤ 1000 := Nat.le_trans (hb_le (l := 4) (by omega)) (by decide)
/-- what is asked of a board by those who ask its numbers -/
def sp_numbers_for (K : PySem.W.Frag) (A : Adr) : Sp := fun vs H Q E => ∃ (B e mo : Addr), vs = [.ref B, .ref e, .ref mo] ∧ ∃ (R : Rows) (m h : Nat) (rk gd : Nat → Nat) (eads : List Addr), BAt A H B R m ∧ Good R m rk gd ∧ m ≤ 60 ∧ H e = some (.lst (eads.map V.ref)) ∧ PrL K H eads (endF h) m ∧ PrA K H mo 0 ∧
  ∀ x, Sol R (tH R.length h) x → NewTu K Q H x R.length
def sp_shares_in (K : PySem.W.Frag) (A : Adr) : Sp := fun vs H Q E => ∃ (B : Addr) (h : Nat), vs = [.ref B, .int h] ∧ ∃ (R : Rows) (m : Nat) (rk gd : Nat → Nat), BAt A H B R m ∧ Good R m rk gd ∧ m ≤ 60 ∧ ∀ x, Sol R (tH R.length h) x → NewTu K Q H x R.length
/-- the numbers of places and homes in one -/
def numF (n : Nat) (t : Int → Rat) (x : Nat → Rat) (j : Nat) : Rat := yv n x t (j : Int)
def sp_numbers_of (K : PySem.W.Frag) (A : Adr) : Sp := fun vs H Q E => ∃ (B : Addr) (h : Nat), vs = [.ref B, .int h] ∧ ∃ (R : Rows) (m : Nat) (rk gd : Nat → Nat), BAt A H B R m ∧ Good R m rk gd ∧ m ≤ 60 ∧ ∀ x, Sol R (tH R.length h) x → NewL K Q H (numF R.length (tH R.length h) x) (R.length + m)
section
variable {P : Program} {w : World} {K : PySem.W.Frag} {mg : Str → Option Value} {base : Heap} {A : Adr}
theorem ok_numbers_for (T : Txt K mg A) (G_solved : Gd P w K mg base CX0 5 "solved" ["rows"] [] (sp_solved K A)) (G_equation_of : Gd P w K mg base CX0 3 "equation_of" ["board", "place", "ends", "more"] [] (sp_equation_of K A)) : Gd P w K mg base CX0 6 "numbers_for" ["board", "ends", "more"] [] (sp_numbers_for K A) := by
  obtain ⟨f, fd, F, hm⟩ := T.f_numbers_for
  refine ⟨⟨f, fd, [], ?_, hm, F.kp, F.binds (ps := ["board", "ends", "more"]) (fun _ _ _ _ _ _ us hl => match us, hl with | [_, _, _], _ => rfl), .nil⟩⟩
  refine F.ok sc_numbers_for (fun vs H Q E h => by first | (obtain ⟨rfl, _⟩ := h; rfl) | (obtain ⟨_, rfl, _⟩ := h; rfl) | (obtain ⟨_, _, rfl, _⟩ := h; rfl) | (obtain ⟨_, _, _, rfl, _⟩ := h; rfl) | (obtain ⟨_, _, _, _, rfl, _⟩ := h; rfl) | (obtain ⟨_, _, _, _, _, rfl, _⟩ := h; rfl) | (obtain ⟨_, _, _, _, _, _, rfl, _⟩ := h; rfl) | (obtain ⟨_, _, _, _, _, _, _, rfl, _⟩ := h; rfl)) (fun cdv A' outer s H vs Q E hr h => ⟨_, (pss_one (ps_ret (pe_callTy (call_tupleK K) (by rfl) T.b_tuple (by decide +kernel) (pa_cons (pe_callG G_solved (hr.mono (by decide)) (by rfl) pass0 (pa_cons (pe_lc (own := [("place", 3)]) rfl sc_numbers_for.nd (pi_range1 (by rfl) T.b_range (pa_cons (pe_fldK K (pv 0) rfl) pa_nil)) (blkOk_by (N := N_numbers_for) (sc := defScope s_numbers_for) (own := [("place", 3)]) (by decide +kernel)) (fun _ _ _ _ _ => (pg_name (i := 3) sc_numbers_for.nd rfl (by first | exact .inl rfl | exact .inr rfl))) (fun _ _ _ _ _ => pts_nil) (fun _ _ _ _ _ => (pe_callG G_equation_of (hr.mono (by decide)) (by rfl) pass0 (pa_cons (pv 0) (pa_cons (pv 3) (pa_cons (pv 1) (pa_cons (pv 2) pa_nil))))))) pa_nil)) pa_nil)))), ?_⟩)
  obtain ⟨B, e, mo, rfl, R, m, hh, rk, gd, eads, hB, G, m60, he, hE, hmo, k⟩ := h
  have n5 := G.n5
  obtain ⟨dB, t, ads, h1, h2, h3⟩ := hB.ex
  have C : Cur H [] H [(B, .ins A.Board dB [("homes", .int m), ("places", .int R.length), ("rows", .ref t)])] := Cur.start (by simp) (by simp [h1])
  walk_at "rd"
  refine k_rng1 (j := (R.length : Int)) (by omega) (by omega) ?_
  refine lc_r C (fun D i H' => ∃ rads, TabP K H' rads (eqA R (tH R.length hh)) i (R.length + 1) ∧ D ∉ rads ∧ Cur H [] H' [(D, .lst (rads.map V.ref))]) (fun D H1 D0 C => ⟨[], .nil, by simp, C.pick [0] (by decide)⟩) ?_ ?_
  · rintro D i H' D0 hi ⟨rads, hT, hD, C⟩
    have hin : i < R.length := by omega
    rw [show (0 : Int) + (i : Int) = i by omega]
    walk_at "rd"
    refine ⟨rfl, ?_⟩
    walk_at "rd"
    refine ⟨B, i, e, mo, rfl, R, m, 3, hh, eads, hB.to0 C.ret, eok_of G m60, hin, C.ret.fr _ _ he (by simp), hE.to C.ret.tups0, hmo.to C.ret.tups0, fun l lads H2 r2 l0 hl hL => ?_⟩
    have C2 := C.call0n r2 l0 hl
    have hlD : l ≠ D := C2.ne 0 1 rfl rfl (by decide)
    refine k_acc (C2.get 1 rfl) (by rw [len_ref, hT.1]; omega) ?_
    refine mod_r C2 1 rfl (.inr D0) fun H3 C3 r3 => ?_
    rw [app_ref] at C3
    exact ⟨_, (TabP.list (TabP.to0 hT r2) r3 (C2.get 1 rfl) hD).snoc ⟨lads, C3.get 0 rfl, hL.to (r3.tupsL (C2.get 1 rfl))⟩, notSeg hD hlD, C3.drop⟩
  · rintro D H' D0 ⟨rads, hT, hD, C⟩
    rw [show ((R.length : Int)).toNat = R.length by omega] at hT
    refine ⟨D, rfl, rads, _, _, 3, C.get 0 rfl, hT, by omega, gj_start G, fun i j hi hj => ?_, fun k hk => hb5 hk n5, Nat.le_trans (hb_le (l := 5) n5) (by decide), fun x hx l lads H2 r2 l0 hl hL => ?_⟩
    · rw [← eqK_full]
      exact eqK_ht (G.le4 i hi).1 (by have := (G.le4 i hi).2; omega)
    · have C2 := C.call0n r2 l0 hl
      refine r_tupL (SqL.of (C2.get 0 rfl)) (new_r C2 fun u H3 u0 u00 C3 r3 => ?_)
      exact k x (sol_of_eq G hx) u lads H3 C3.ret u0 (C3.get 0 rfl) (hL.to r3.tups0)
theorem ok_shares_in (T : Txt K mg A) (G_numbers_for : Gd P w K mg base CX0 6 "numbers_for" ["board", "ends", "more"] [] (sp_numbers_for K A)) (G_ends_of : Gd P w K mg base CX0 1 "ends_of" ["board", "home"] [] (sp_ends_of K A)) : Gd P w K mg base CX0 7 "shares_in" ["board", "home"] [] (sp_shares_in K A) := by
  obtain ⟨f, fd, F, hm⟩ := T.f_shares_in
  refine ⟨⟨f, fd, [], ?_, hm, F.kp, F.binds (ps := ["board", "home"]) (fun _ _ _ _ _ _ us hl => match us, hl with | [_, _], _ => rfl), .nil⟩⟩
  refine F.ok sc_shares_in (fun vs H Q E h => by first | (obtain ⟨rfl, _⟩ := h; rfl) | (obtain ⟨_, rfl, _⟩ := h; rfl) | (obtain ⟨_, _, rfl, _⟩ := h; rfl) | (obtain ⟨_, _, _, rfl, _⟩ := h; rfl) | (obtain ⟨_, _, _, _, rfl, _⟩ := h; rfl) | (obtain ⟨_, _, _, _, _, rfl, _⟩ := h; rfl) | (obtain ⟨_, _, _, _, _, _, rfl, _⟩ := h; rfl) | (obtain ⟨_, _, _, _, _, _, _, rfl, _⟩ := h; rfl)) (fun cdv A' outer s H vs Q E hr h => ⟨_, (pss_one (ps_ret (pe_callG G_numbers_for (hr.mono (by decide)) (by rfl) pass0 (pa_cons (pv 0) (pa_cons (pe_callG G_ends_of (hr.mono (by decide)) (by rfl) pass0 (pa_cons (pv 0) (pa_cons (pv 1) pa_nil))) (pa_cons (pe_K_NOUGHT T) pa_nil)))))), ?_⟩)
  obtain ⟨B, hh, rfl, R, m, rk, gd, hB, G, m60, k⟩ := h
  have C : Cur H [] H [] := Cur.start (by simp) (by simp)
  walk_at "rd"
  refine ⟨B, hh, rfl, R, m, hB, m60, fun l ads H1 r1 l0 hl hL => ?_⟩
  have C := C.call0n r1 l0 hl
  walk_at "rd"
  refine ⟨B, l, A.NOUGHT, rfl, R, m, hh, rk, gd, ads, hB.to0 r1, G, m60, hl, hL, zeroA T, fun x hx u uads H2 r2 u0 hu hU => ?_⟩
  exact k x hx u uads H2 (r1.trans r2) (C.fresh u0) hu hU
theorem ok_numbers_of (T : Txt K mg A) (G_ends_of : Gd P w K mg base CX0 1 "ends_of" ["board", "home"] [] (sp_ends_of K A)) (G_shares_in : Gd P w K mg base CX0 7 "shares_in" ["board", "home"] [] (sp_shares_in K A)) : Gd P w K mg base CX0 8 "numbers_of" ["board", "home"] [] (sp_numbers_of K A) := by
  obtain ⟨f, fd, F, hm⟩ := T.f_numbers_of
  refine ⟨⟨f, fd, [], ?_, hm, F.kp, F.binds (ps := ["board", "home"]) (fun _ _ _ _ _ _ us hl => match us, hl with | [_, _], _ => rfl), .nil⟩⟩
  refine F.ok sc_numbers_of (fun vs H Q E h => by first | (obtain ⟨rfl, _⟩ := h; rfl) | (obtain ⟨_, rfl, _⟩ := h; rfl) | (obtain ⟨_, _, rfl, _⟩ := h; rfl) | (obtain ⟨_, _, _, rfl, _⟩ := h; rfl) | (obtain ⟨_, _, _, _, rfl, _⟩ := h; rfl) | (obtain ⟨_, _, _, _, _, rfl, _⟩ := h; rfl) | (obtain ⟨_, _, _, _, _, _, rfl, _⟩ := h; rfl) | (obtain ⟨_, _, _, _, _, _, _, rfl, _⟩ := h; rfl)) (fun cdv A' outer s H vs Q E hr h => ⟨_, (pss_one (ps_ret (pe_lst (pa_starK K (pe_callG G_shares_in (hr.mono (by decide)) (by rfl) pass0 (pa_cons (pv 0) (pa_cons (pv 1) pa_nil))) (pa_starK K (pe_callG G_ends_of (hr.mono (by decide)) (by rfl) pass0 (pa_cons (pv 0) (pa_cons (pv 1) pa_nil))) pa_nil))))), ?_⟩)
  obtain ⟨B, hh, rfl, R, m, rk, gd, hB, G, m60, k⟩ := h
  have n5 := G.n5
  have C : Cur H [] H [] := Cur.start (by simp) (by simp)
  walk_at "rd"
  refine u_star ?_
  walk_at "rd"
  refine ⟨B, hh, rfl, R, m, rk, gd, hB, G, m60, fun x hx u uads H1 r1 u0 hu hU => ?_⟩
  refine k_starT (SqT.of hu) ?_
  have C := C.call0n r1 u0 hu
  refine u_star ?_
  walk_at "rd"
  refine ⟨B, hh, rfl, R, m, hB.to0 r1, m60, fun l ads H2 r2 l0 hl hL => ?_⟩
  have C := C.call0n r2 l0 hl
  refine k_starL (SqL.of hl) ?_
  walk_at "rd"
  refine ⟨by simp only [List.append_nil, List.length_append, List.length_map, hU.1, hL.1]; exact Nat.le_trans (show R.length + m ≤ 1000 by omega) (by decide), ?_⟩
  refine new_r C fun v H3 v0 v00 C3 r3 => ?_
  rw [List.append_nil, ← List.map_append] at C3
  refine k x hx v _ H3 C3.ret v0 (C3.get 0 rfl) (PrL.app ((hU.to (r2.tups0.trans r3.tups0)).congr fun j hj => ?_) ((hL.to r3.tups0).congr fun j hj => ?_))
  · unfold numF yv
    rw [if_pos (by omega), Int.toNat_natCast]
  · have e : numF R.length (tH R.length hh) x (R.length + j) = tH R.length hh ((R.length + j : Nat) : Int) := by unfold numF yv; rw [if_neg (by omega)]
    show endF hh j = _
    rw [e]
    unfold endF tH
    by_cases q : j = hh
    · rw [if_pos q, if_pos (by omega)]
    · rw [if_neg q, if_neg (by omega)]
end
end K67

end

section
set_option Elab.async false
set_option linter.all false
set_option maxRecDepth 100000
set_option maxHeartbeats 1000000
namespace K67
open PySem PySem.Spec PyProof.Rows L2 Nd M94 M67
set_option hygiene false
local macro_rules | `(tactic| walk_at "hg") => `(tactic| first | assumption | exact C.get 0 rfl | exact C.get 1 rfl | exact C.get 2 rfl | exact C.get 3 rfl | exact C.get 4 rfl | exact C.get 5 rfl | exact C.get 6 rfl | exact C.get 7 rfl | exact C.get 8 rfl | exact C.get 9 rfl)
local macro_rules | `(tactic| walk_at "rd1") => `(tactic| first
  | with_reducible refine u_seq ?_ | with_reducible refine u_asg ?_ | ((with_reducible refine' u_var ?q7hv ?_); (case q7hv => exact rfl)) | with_reducible refine u_c ?_ | with_reducible refine u_op ?_ | with_reducible refine u_if ?_ | with_reducible refine u_ret ?_
  | with_reducible refine u_test ?_ | with_reducible refine u_tB ?_ | with_reducible refine u_and ?_ | with_reducible refine u_or ?_ | with_reducible refine u_not ?_ | with_reducible refine u_call ?_ | with_reducible refine u_cb ?_ | with_reducible refine u_cons ?_ | with_reducible refine u_nil ?_
  | with_reducible refine u_gname ?_ | with_reducible refine u_gcons ?_ | with_reducible refine u_gnil ?_ | with_reducible refine u_gsub ?_ | with_reducible refine u_lst ?_ | with_reducible refine u_tup ?_ | with_reducible refine u_un ?_ | with_reducible refine u_ifE ?_
  | with_reducible refine u_drop ?_ | with_reducible refine u_next ?_ | with_reducible refine u_retN ?_ | with_reducible refine u_tf ?_ | with_reducible refine u_fld ?_ | with_reducible refine u_gfld ?_ | with_reducible refine u_par ?_ | with_reducible refine u_par3 ?_ | with_reducible refine u_meth ?_ | with_reducible refine u_prop ?_ | with_reducible refine u_make ?_
  | with_reducible refine u_bm ?_ | with_reducible refine u_bm0 ?_ | with_reducible refine u_sl ?_ | with_reducible refine u_noPart ?_ | with_reducible refine u_part ?_ | with_reducible refine u_chain ?_ | with_reducible refine u_andV ?_ | with_reducible refine u_orV ?_ | with_reducible refine u_notV ?_
  | with_reducible refine u_listRg ?_ | with_reducible refine u_rg1 ?_ | with_reducible refine u_lc2 ?_ | with_reducible refine u_enum ?_ | with_reducible refine u_zip ?_ | with_reducible refine u_for ?_ | with_reducible refine u_lc ?_ | with_reducible refine u_rng1 ?_ | with_reducible refine u_rng2 ?_ | with_reducible refine u_yes ?_ | with_reducible refine u_brk ?_ | with_reducible refine u_cont ?_
  | with_reducible refine r_add ?_ | with_reducible refine r_sub ?_ | with_reducible refine r_lt ?_ | with_reducible refine r_le ?_ | with_reducible refine r_gt ?_ | with_reducible refine r_ge ?_ | with_reducible refine r_eqI ?_ | with_reducible refine r_neI ?_ | with_reducible refine r_neg ?_ | with_reducible refine r_int ?_ | with_reducible refine r_intB ?_ | with_reducible refine r_abs ?_ | with_reducible refine r_isNi ?_ | with_reducible refine r_isNn ?_ | with_reducible refine r_isNr ?_ | with_reducible refine r_isNs ?_ | with_reducible refine r_notN ?_
  | ((with_reducible refine' r_ixL ?q7hs ?q7ha ?_); (case q7hs => exact SqL.of (by walk_at "hg")); (case q7ha => first | exact rfl | exact atI_nat (by assumption)))
  | ((with_reducible refine' r_ixT ?q7hs ?q7ha ?_); (case q7hs => exact SqT.of (by walk_at "hg")); (case q7ha => first | exact rfl | exact atI_nat (by assumption)))
  | ((with_reducible refine' r_len ?q7hs ?_); (case q7hs => exact SqL.of (by walk_at "hg")))
  | ((with_reducible refine' r_lenT ?q7hs ?_); (case q7hs => exact SqT.of (by walk_at "hg")))
  | ((with_reducible refine' r_mod ?q7c ?_); (case q7c => first | decide | omega)) | ((with_reducible refine' r_div ?q7c ?_); (case q7c => first | (constructor <;> decide) | (constructor <;> omega)))
  | ((with_reducible refine' r_mul ?q7c ?_); (case q7c => first | exact .inl ⟨by omega, by omega⟩ | exact .inr ⟨by omega, by omega⟩))
  | ((with_reducible refine' r_pow ?q7c ?_); (case q7c => exact ⟨by omega, by omega, by omega⟩))
  | with_reducible refine b_nT ?_ | with_reducible refine b_nF ?_ | with_reducible refine iteF ?_ | with_reducible refine iteT ?_
  | with_reducible refine k_blA ?_ | with_reducible refine k_int ?_ | with_reducible refine k_two ?_ | with_reducible refine k_three ?_
  | ((with_reducible refine' k_size ?q7hn ?_); (case q7hn => exact Nat.le_of_ble_eq_true rfl))
  | ((with_reducible refine' k_fld ?q7ha ?q7c ?q7n ?q7hl ?_); (case q7ha => walk_at "hg"); (case q7c => walk_at "cls"); (case q7n => walk_at "att"); (case q7hl => exact rfl))
  | ((with_reducible refine' k_put ?q7ha ?q7c ?q7n ?q7hl ?_); (case q7ha => walk_at "hg"); (case q7c => walk_at "cls"); (case q7n => walk_at "att"); (case q7hl => first | decide | exact Nat.lt_of_lt_of_le (Nat.lt_succ_self _) (Nat.le_of_ble_eq_true rfl)))
  | ((with_reducible refine' k_meth ?q7ha ?q7hl ?_); (case q7ha => walk_at "hg"); (case q7hl => exact rfl))
  | ((with_reducible refine' k_prop ?q7ha ?_); (case q7ha => walk_at "hg")))
local macro_rules | `(tactic| walk_at "rd") => `(tactic| repeat walk_at "rd1")
local macro_rules | `(tactic| walk_at "cls") => `(tactic| first | exact T.c_Board | exact T.c_World)
local macro_rules | `(tactic| walk_at "att") => `(tactic| first | exact T.n_Board_homes | exact T.n_Board_places | exact T.n_Board_rows | exact T.n_World_board | exact T.n_World_shown | exact T.n_World_standing | exact T.n_World_won | exact T.n_World_steps)

/-- tuples of pairs, at rads, each of its own length -/
def TupT (K : PySem.W.Frag) (H : Hp) (rads : List Addr) (f : Nat → Nat → Rat) (len : Nat → Nat) (n : Nat) : Prop := rads.length = n ∧ ∀ p r, rads[p]? = some r → ∃ ads, H r = some (.tup (ads.map V.ref)) ∧ PrL K H ads (f p) (len p)
theorem TupT.to {K : PySem.W.Frag} {H H' : Hp} {rads : List Addr} {f : Nat → Nat → Rat} {len : Nat → Nat} {n : Nat} (h : TupT K H rads f len n) (t : Tups H H') : TupT K H' rads f len n := ⟨h.1, fun p r e => by
  obtain ⟨ads, h1, h2⟩ := h.2 p r e
  exact ⟨ads, t _ _ h1, h2.to t⟩⟩
theorem TupT.snoc {K : PySem.W.Frag} {H : Hp} {rads : List Addr} {f : Nat → Nat → Rat} {len : Nat → Nat} {n : Nat} {r : Addr} {ads : List Addr} (h : TupT K H rads f len n) (h1 : H r = some (.tup (ads.map V.ref))) (h2 : PrL K H ads (f n) (len n)) : TupT K H (rads ++ [r]) f len (n + 1) := by
  refine ⟨by simp [h.1], fun i b e => ?_⟩
  rcases Nat.lt_or_ge i rads.length with l | l
  · rw [List.getElem?_append_left l] at e; exact h.2 i b e
  · rw [List.getElem?_append_right l] at e
    have l2 := (List.getElem?_eq_some_iff.mp e).1
    have : i - rads.length = 0 := by simpa using l2
    rw [this] at e
    have e2 : r = b := by simpa using e
    have e3 : i = n := by rw [← h.1]; omega
    subst e2; subst e3
    exact ⟨ads, h1, h2⟩
def sp_row_worths (K : PySem.W.Frag) (A : Adr) : Sp := fun vs H Q E => ∃ (B nu : Addr) (p : Nat), vs = [.ref B, .int p, .ref nu] ∧ ∃ (R : Rows) (m : Nat) (nads : List Addr) (t : Int → Rat) (x : Nat → Rat) (c : Nat), BAt A H B R m ∧ p < R.length ∧ 1 ≤ (row R p).length ∧ (row R p).length ≤ 60 ∧ (∀ e ∈ row R p, 0 ≤ e ∧ e < (R.length : Int) + m) ∧
  H nu = some (.lst (nads.map V.ref)) ∧ PrL K H nads (numF R.length t x) (R.length + m) ∧ (row R p).length * (2 * c + 2) ≤ 4000 ∧ (∀ j, j < R.length + m → Ht (numF R.length t x j) c) ∧ NewTu K Q H (wr R t x p) (row R p).length
def sp_all_worths (K : PySem.W.Frag) (A : Adr) : Sp := fun vs H Q E => ∃ (B nu : Addr), vs = [.ref B, .ref nu] ∧ ∃ (R : Rows) (m : Nat) (nads : List Addr) (t : Int → Rat) (x : Nat → Rat) (c : Nat), BAt A H B R m ∧ R.length ≤ 60 ∧ (∀ p, p < R.length → 1 ≤ (row R p).length ∧ (row R p).length ≤ 60 ∧ (row R p).length * (2 * c + 2) ≤ 4000 ∧ ∀ e ∈ row R p, 0 ≤ e ∧ e < (R.length : Int) + m) ∧
  H nu = some (.lst (nads.map V.ref)) ∧ PrL K H nads (numF R.length t x) (R.length + m) ∧ (∀ j, j < R.length + m → Ht (numF R.length t x j) c) ∧ ∀ u rads H', Ret [] H H' → H u = none → H' u = some (.tup (rads.map V.ref)) → TupT K H' rads (wr R t x) (fun p => (row R p).length) R.length → Q (.ref u) H'
theorem cut_last {xs : List V} (h : 1 ≤ xs.length) : cutV xs none (some (-1)) = xs.take (xs.length - 1) := by
  unfold cutV
  rw [HT.sIx_none]
  have e : HT.sIx xs.length xs.length (some (-1)) = xs.length - 1 := by
    unfold HT.sIx
    simp
    omega
  rw [e, List.drop_zero, Nat.sub_zero]
theorem numF_in {n : Nat} {t : Int → Rat} {x : Nat → Rat} {p : Nat} (h : p < n) : numF n t x p = x p := by unfold numF yv; rw [if_pos (by omega), Int.toNat_natCast]
theorem numF_at {n : Nat} {t : Int → Rat} {x : Nat → Rat} {e : Int} (h : 0 ≤ e) : numF n t x e.toNat = yv n x t e := by unfold numF; rw [Int.toNat_of_nonneg h]
theorem wr_ht {R : Rows} {t : Int → Rat} {x : Nat → Rat} {p m c : Nat} (hp : p < R.length) (he : ∀ e ∈ row R p, 0 ≤ e ∧ e < (R.length : Int) + m) (hh : ∀ j, j < R.length + m → Ht (numF R.length t x j) c) : ∀ k, k ≤ (row R p).length → Ht (wr R t x p k) (k * (2 * c + 2) + 1)
  | 0, _ => by rw [wr_none]; exact ⟨by simp, by simp⟩
  | k + 1, hk => by
    have e0 := List.getElem?_eq_getElem (show k < (row R p).length by omega)
    obtain ⟨z0, z1⟩ := he _ (List.getElem_mem (show k < (row R p).length by omega))
    rw [wr_step e0]
    have h1 := wr_ht hp he hh k (by omega)
    have h2 := hh p (by omega)
    rw [numF_in hp] at h2
    have h3 := hh ((row R p)[k]).toNat (by omega)
    rw [numF_at z0] at h3
    have h4 := add_ht h2 (neg_ht h3)
    have := add_ht h1 h4
    rw [Rat.sub_eq_add_neg]
    have e2 : (k + 1) * (2 * c + 2) = k * (2 * c + 2) + (2 * c + 2) := Nat.succ_mul _ _
    exact this.mono (by rw [e2]; generalize k * (2 * c + 2) = z; omega)
section
variable {P : Program} {w : World} {K : PySem.W.Frag} {mg : Str → Option Value} {base : Heap} {A : Adr}
theorem ok_row_worths (T : Txt K mg A) (G_both : Gd P w K mg base CX0 2 "both" ["one", "other"] [] (sp_both K A)) (G_turned : Gd P w K mg base CX0 1 "turned" ["one"] [] (sp_turned K A)) : Gd P w K mg base CX0 3 "row_worths" ["board", "place", "numbers"] [] (sp_row_worths K A) := by
  obtain ⟨f, fd, F, hm⟩ := T.f_row_worths
  refine ⟨⟨f, fd, [], ?_, hm, F.kp, F.binds (ps := ["board", "place", "numbers"]) (fun _ _ _ _ _ _ us hl => match us, hl with | [_, _, _], _ => rfl), .nil⟩⟩
  refine F.ok sc_row_worths (fun vs H Q E h => by first | (obtain ⟨rfl, _⟩ := h; rfl) | (obtain ⟨_, rfl, _⟩ := h; rfl) | (obtain ⟨_, _, rfl, _⟩ := h; rfl) | (obtain ⟨_, _, _, rfl, _⟩ := h; rfl) | (obtain ⟨_, _, _, _, rfl, _⟩ := h; rfl) | (obtain ⟨_, _, _, _, _, rfl, _⟩ := h; rfl) | (obtain ⟨_, _, _, _, _, _, rfl, _⟩ := h; rfl) | (obtain ⟨_, _, _, _, _, _, _, rfl, _⟩ := h; rfl)) (fun cdv A' outer s H vs Q E hr h => ⟨_, (pss_cons (ps_set (i := 3) sc_row_worths.nd rfl (.inl rfl) (pe_lst (pa_cons (pe_K_NOUGHT T) pa_nil)))
      (pss_cons (ps_for PassesOwn.never rfl (pi_seqK K (pe_slice (sl_tupK K) (pe_ix (ix_seqK K) (pe_fldK K (pv 0) rfl) (pv 1) (fun _ _ => rfl)) po_none (po_some (pe_un un_negI pe_int)))) (pg_name (i := 4) sc_row_worths.nd rfl (.inl rfl)) (pss_one (ps_expr (pe_bmK K PySem.F.plainAttrs_list PySem.F.slot_list_append PySem.F.type_list_append mt_append (pv 3) (pa_cons (pe_callG G_both (hr.mono (by decide)) (by rfl) pass0 (pa_cons (pe_ix (ix_seqK K) (pv 3) (pe_un un_negI pe_int) (fun _ _ => rfl)) (pa_cons (pe_callG G_both (hr.mono (by decide)) (by rfl) pass0 (pa_cons (pe_ix (ix_seqK K) (pv 2) (pv 1) (fun _ _ => rfl)) (pa_cons (pe_callG G_turned (hr.mono (by decide)) (by rfl) pass0 (pa_cons (pe_ix (ix_seqK K) (pv 2) (pv 4) (fun _ _ => rfl)) pa_nil)) pa_nil))) pa_nil))) pa_nil)))))
      (pss_one (ps_ret (pe_callTy (call_tupleK K) (by rfl) T.b_tuple (by decide +kernel) (pa_cons (pv 3) pa_nil)))))), ?_⟩)
  obtain ⟨B, nu, p, rfl, R, m, nads, t, x, c, hB, hp, l1, l60, he, hnu, hN, hlc, hh, k⟩ := h
  obtain ⟨dB, tt, ads, h1, h2, hT⟩ := hB.ex
  obtain ⟨ar, har⟩ : ∃ x, ads[p]? = some x := ⟨_, List.getElem?_eq_getElem (by rw [hT.1]; exact hp)⟩
  have harr := hT.2 _ _ har
  have C : Cur H [] H [(B, .ins A.Board dB [("homes", .int m), ("places", .int R.length), ("rows", .ref tt)]), (nu, .lst (nads.map V.ref))] := Cur.start (by
    have : B ≠ nu := fun z => by rw [z, hnu] at h1; cases h1
    simp [this]) (by simp [h1, hnu])
  walk_at "rd"
  refine new_r C fun fo H1 fo0 fo00 C1 r1 => ?_
  have h2' := r1.tups0 _ _ h2
  have harr' := r1.tups0 _ _ harr
  have C1 : Cur H [] H1 [(B, .ins A.Board dB [("homes", .int m), ("places", .int R.length), ("rows", .ref tt)]), (fo, .lst [V.ref A.NOUGHT]), (nu, .lst (nads.map V.ref))] := C1.pick [1, 0, 2] (by decide)
  clear C
  have C := C1
  walk_at "rd"
  refine u_sseqT ?_
  walk_at "rd"
  refine r_ixT (SqT.of h2') (atRn har) ?_
  walk_at "rd"
  have hlt : ((row R p).map V.int).length = (row R p).length := len_map _
  refine r_slT (SqT.of harr') (fun z => ?_) ?_
  · have := z.2
    unfold HT.sIx at this
    simp at this
    omega
  refine new_r C fun sl H2 sl0 sl00 C2 r2 => ?_
  rw [cut_last (by rw [hlt]; exact l1), hlt, ← List.map_take] at C2
  refine k_seqT (SqT.of (C2.get 0 rfl)) ?_
  have hpn : (row R p).length - 1 ≤ (row R p).length := by omega
  refine for_t (xs := ((row R p).take ((row R p).length - 1)).map V.int) (fun i σ H' => ∃ (fads : List Addr) (o : Option V), σ = [some (.ref B), some (.int p), some (.ref nu), some (.ref fo), o] ∧ PrL K H' fads (wr R t x p) (i + 1) ∧
    Cur H [] H' [(sl, .tup (((row R p).take ((row R p).length - 1)).map V.int)), (fo, .lst (fads.map V.ref)), (nu, .lst (nads.map V.ref))]) ?_ ?_ ?_ ?_
  · refine ⟨[A.NOUGHT], none, rfl, PrL.one ?_, C2.pick [0, 2, 3] (by decide)⟩
    rw [wr_none]; exact zeroA T
  · rintro i σ H' hi ⟨fads, o, rfl, hP, C⟩
    exact SqT.of (C.get 0 rfl)
  · rintro i y σ H' hy ⟨fads, o, rfl, hP, C⟩
    obtain ⟨z, hz, rfl⟩ := int_of hy
    have hi : i < (row R p).length - 1 := by
      have := (List.getElem?_eq_some_iff.mp hz).1
      rw [List.length_take] at this; omega
    rw [List.getElem?_take_of_lt hi] at hz
    obtain ⟨z0, z1⟩ := he z (List.mem_of_getElem? hz)
    have hpl := hP.1
    obtain ⟨fa, hfa, hfp⟩ := hP.get (show i < i + 1 by omega)
    obtain ⟨na, hna, hnp⟩ := (hN.to C.ret.tups0).get (show p < R.length + m by omega)
    obtain ⟨ea, hea, hep⟩ := (hN.to C.ret.tups0).get (show z.toNat < R.length + m by omega)
    have hw := wr_ht hp he hh i (by omega)
    have hw2 : (i + 1) * (2 * c + 2) ≤ (row R p).length * (2 * c + 2) := Nat.mul_le_mul_right _ (by omega)
    have hw3 : (i + 1) * (2 * c + 2) = i * (2 * c + 2) + (2 * c + 2) := Nat.succ_mul _ _
    generalize i * (2 * c + 2) = z1' at *
    generalize (row R p).length * (2 * c + 2) = z2' at *
    have hx := hh p (by omega)
    have hy2 := hh z.toNat (by omega)
    walk_at "rd"
    refine ⟨ty_list (C.get 1 rfl), ?_⟩
    walk_at "rd"
    refine r_ixL (SqL.of (C.get 1 rfl)) (at_end (by rw [len_ref, hpl]) (by rw [List.getElem?_map, hfa]; rfl)) ?_
    walk_at "rd"
    refine r_ixL (SqL.of (C.get 2 rfl)) (atRn hna) ?_
    walk_at "rd"
    refine r_ixL (SqL.of (C.get 2 rfl)) (atR z0 hea) ?_
    walk_at "rd"
    refine ⟨ea, rfl, _, hep, trivial, fun u H3 r3 u0 e3 => ?_⟩
    have C3 := C.call0 r3
    refine ⟨na, u, rfl, _, _, hnp.to r3.tups0, .of e3, ⟨hx.mono (by omega), (neg_ht hy2).mono (by omega)⟩, fun v H4 r4 v0 e4 => ?_⟩
    have C4 := C3.call0 r4
    refine ⟨fa, v, rfl, _, _, hfp.to (r3.tups0.trans r4.tups0), .of e4, ⟨hw.mono (by omega), (add_ht hx (neg_ht hy2)).mono (by omega)⟩, fun v2 H5 r5 v20 e5 => ?_⟩
    have C5 := C4.call0 r5
    walk_at "rd"
    refine r_app (C5.get 1 rfl) (by rw [len_ref, hpl]; omega) ?_
    refine mod_r C5 1 rfl (.inr fo0) fun H6 C6 r6 => ?_
    walk_at "rd"
    have t6 : Tups H5 H6 := r6.tupsL (C5.get 1 rfl)
    rw [app_ref] at C6
    refine ⟨_, _, rfl, (hP.to (((r3.tups0.trans r4.tups0).trans r5.tups0).trans t6)).snoc (PrA.res (t6 _ _ e5) ?_), C6⟩
    rw [wr_step hz, numF_in hp, numF_at z0, Rat.sub_eq_add_neg]
  · rintro σ H' ⟨fads, o, rfl, hP, C⟩
    have e : (((row R p).take ((row R p).length - 1)).map V.int).length + 1 = (row R p).length := by rw [len_map, List.length_take]; omega
    rw [e] at hP
    walk_at "rd"
    refine r_tupL (SqL.of (C.get 1 rfl)) (new_r C fun u H3 u0 u00 C3 r3 => ?_)
    exact k u fads H3 C3.ret u0 (C3.get 0 rfl) (hP.to r3.tups0)
theorem ok_all_worths (T : Txt K mg A) (G_row_worths : Gd P w K mg base CX0 3 "row_worths" ["board", "place", "numbers"] [] (sp_row_worths K A)) : Gd P w K mg base CX0 4 "all_worths" ["board", "numbers"] [] (sp_all_worths K A) := by
  obtain ⟨f, fd, F, hm⟩ := T.f_all_worths
  refine ⟨⟨f, fd, [], ?_, hm, F.kp, F.binds (ps := ["board", "numbers"]) (fun _ _ _ _ _ _ us hl => match us, hl with | [_, _], _ => rfl), .nil⟩⟩
  refine F.ok sc_all_worths (fun vs H Q E h => by first | (obtain ⟨rfl, _⟩ := h; rfl) | (obtain ⟨_, rfl, _⟩ := h; rfl) | (obtain ⟨_, _, rfl, _⟩ := h; rfl) | (obtain ⟨_, _, _, rfl, _⟩ := h; rfl) | (obtain ⟨_, _, _, _, rfl, _⟩ := h; rfl) | (obtain ⟨_, _, _, _, _, rfl, _⟩ := h; rfl) | (obtain ⟨_, _, _, _, _, _, rfl, _⟩ := h; rfl) | (obtain ⟨_, _, _, _, _, _, _, rfl, _⟩ := h; rfl)) (fun cdv A' outer s H vs Q E hr h => ⟨_, (pss_one (ps_ret (pe_callTy (call_tupleK K) (by rfl) T.b_tuple (by decide +kernel) (pa_cons (pe_lc (own := [("place", 2)]) rfl sc_all_worths.nd (pi_range1 (by rfl) T.b_range (pa_cons (pe_fldK K (pv 0) rfl) pa_nil)) (blkOk_by (N := N_all_worths) (sc := defScope s_all_worths) (own := [("place", 2)]) (by decide +kernel)) (fun _ _ _ _ _ => (pg_name (i := 2) sc_all_worths.nd rfl (by first | exact .inl rfl | exact .inr rfl))) (fun _ _ _ _ _ => pts_nil) (fun _ _ _ _ _ => (pe_callG G_row_worths (hr.mono (by decide)) (by rfl) pass0 (pa_cons (pv 0) (pa_cons (pv 2) (pa_cons (pv 1) pa_nil)))))) pa_nil)))), ?_⟩)
  obtain ⟨B, nu, rfl, R, m, nads, t, x, c, hB, n60, hr, hnu, hN, hh, k⟩ := h
  obtain ⟨dB, tt, ads, h1, h2, hT⟩ := hB.ex
  have C : Cur H [] H [(B, .ins A.Board dB [("homes", .int m), ("places", .int R.length), ("rows", .ref tt)])] := Cur.start (by simp) (by simp [h1])
  walk_at "rd"
  refine k_rng1 (j := (R.length : Int)) (by omega) (by omega) ?_
  refine lc_r C (fun D i H' => ∃ rads, TupT K H' rads (wr R t x) (fun p => (row R p).length) i ∧ Cur H [] H' [(D, .lst (rads.map V.ref))]) (fun D H1 D0 C => ⟨[], ⟨rfl, by simp⟩, C.pick [0] (by decide)⟩) ?_ ?_
  · rintro D i H' D0 hi ⟨rads, hW, C⟩
    have hin : i < R.length := by omega
    obtain ⟨q1, q2, qc, q3⟩ := hr i hin
    rw [show (0 : Int) + (i : Int) = i by omega]
    walk_at "rd"
    refine ⟨rfl, ?_⟩
    walk_at "rd"
    refine ⟨B, nu, i, rfl, R, m, nads, t, x, c, hB.to0 C.ret, hin, q1, q2, q3, C.ret.fr _ _ hnu (by simp), hN.to C.ret.tups0, qc, hh, fun u uads H2 r2 u0 hu hU => ?_⟩
    have C2 := C.call0 r2
    refine k_acc (C2.get 0 rfl) (by rw [len_ref, hW.1]; omega) ?_
    refine mod_r C2 0 rfl (.inr D0) fun H3 C3 r3 => ?_
    have t3 : Tups H2 H3 := r3.tupsL (C2.get 0 rfl)
    rw [app_ref] at C3
    exact ⟨_, (hW.to (r2.tups0.trans t3)).snoc (t3 _ _ hu) (hU.to t3), C3⟩
  · rintro D H' D0 ⟨rads, hW, C⟩
    rw [show ((R.length : Int)).toNat = R.length by omega] at hW
    refine r_tupL (SqL.of (C.get 0 rfl)) (new_r C fun u H3 u0 u00 C3 r3 => ?_)
    exact k u rads H3 C3.ret u0 (C3.get 0 rfl) (hW.to r3.tups0)
end
end K67

end

section
set_option Elab.async false
set_option linter.all false
set_option maxRecDepth 100000
set_option maxHeartbeats 1000000
namespace K67
open PySem PySem.Spec PyProof.Rows L2 Nd M94 M67
set_option hygiene false
local macro_rules | `(tactic| walk_at "hg") => `(tactic| first | assumption | exact C.get 0 rfl | exact C.get 1 rfl | exact C.get 2 rfl | exact C.get 3 rfl | exact C.get 4 rfl | exact C.get 5 rfl | exact C.get 6 rfl | exact C.get 7 rfl | exact C.get 8 rfl | exact C.get 9 rfl)
local macro_rules | `(tactic| walk_at "rd1") => `(tactic| first
  | with_reducible refine u_seq ?_ | with_reducible refine u_asg ?_ | ((with_reducible refine' u_var ?q7hv ?_); (case q7hv => exact rfl)) | with_reducible refine u_c ?_ | with_reducible refine u_op ?_ | with_reducible refine u_if ?_ | with_reducible refine u_ret ?_
  | with_reducible refine u_test ?_ | with_reducible refine u_tB ?_ | with_reducible refine u_and ?_ | with_reducible refine u_or ?_ | with_reducible refine u_not ?_ | with_reducible refine u_call ?_ | with_reducible refine u_cb ?_ | with_reducible refine u_cons ?_ | with_reducible refine u_nil ?_
  | with_reducible refine u_gname ?_ | with_reducible refine u_gcons ?_ | with_reducible refine u_gnil ?_ | with_reducible refine u_gsub ?_ | with_reducible refine u_lst ?_ | with_reducible refine u_tup ?_ | with_reducible refine u_un ?_ | with_reducible refine u_ifE ?_
  | with_reducible refine u_drop ?_ | with_reducible refine u_next ?_ | with_reducible refine u_retN ?_ | with_reducible refine u_tf ?_ | with_reducible refine u_fld ?_ | with_reducible refine u_gfld ?_ | with_reducible refine u_par ?_ | with_reducible refine u_par3 ?_ | with_reducible refine u_meth ?_ | with_reducible refine u_prop ?_ | with_reducible refine u_make ?_
  | with_reducible refine u_bm ?_ | with_reducible refine u_bm0 ?_ | with_reducible refine u_sl ?_ | with_reducible refine u_noPart ?_ | with_reducible refine u_part ?_ | with_reducible refine u_chain ?_ | with_reducible refine u_andV ?_ | with_reducible refine u_orV ?_ | with_reducible refine u_notV ?_
  | with_reducible refine u_listRg ?_ | with_reducible refine u_rg1 ?_ | with_reducible refine u_lc2 ?_ | with_reducible refine u_enum ?_ | with_reducible refine u_zip ?_ | with_reducible refine u_for ?_ | with_reducible refine u_lc ?_ | with_reducible refine u_rng1 ?_ | with_reducible refine u_rng2 ?_ | with_reducible refine u_yes ?_ | with_reducible refine u_brk ?_ | with_reducible refine u_cont ?_
  | with_reducible refine r_add ?_ | with_reducible refine r_sub ?_ | with_reducible refine r_lt ?_ | with_reducible refine r_le ?_ | with_reducible refine r_gt ?_ | with_reducible refine r_ge ?_ | with_reducible refine r_eqI ?_ | with_reducible refine r_neI ?_ | with_reducible refine r_neg ?_ | with_reducible refine r_int ?_ | with_reducible refine r_intB ?_ | with_reducible refine r_abs ?_ | with_reducible refine r_isNi ?_ | with_reducible refine r_isNn ?_ | with_reducible refine r_isNr ?_ | with_reducible refine r_isNs ?_ | with_reducible refine r_notN ?_
  | ((with_reducible refine' r_ixL ?q7hs ?q7ha ?_); (case q7hs => exact SqL.of (by walk_at "hg")); (case q7ha => first | exact rfl | exact atI_nat (by assumption)))
  | ((with_reducible refine' r_ixT ?q7hs ?q7ha ?_); (case q7hs => exact SqT.of (by walk_at "hg")); (case q7ha => first | exact rfl | exact atI_nat (by assumption)))
  | ((with_reducible refine' r_len ?q7hs ?_); (case q7hs => exact SqL.of (by walk_at "hg")))
  | ((with_reducible refine' r_lenT ?q7hs ?_); (case q7hs => exact SqT.of (by walk_at "hg")))
  | ((with_reducible refine' r_mod ?q7c ?_); (case q7c => first | decide | omega)) | ((with_reducible refine' r_div ?q7c ?_); (case q7c => first | (constructor <;> decide) | (constructor <;> omega)))
  | ((with_reducible refine' r_mul ?q7c ?_); (case q7c => first | exact .inl ⟨by omega, by omega⟩ | exact .inr ⟨by omega, by omega⟩))
  | ((with_reducible refine' r_pow ?q7c ?_); (case q7c => exact ⟨by omega, by omega, by omega⟩))
  | with_reducible refine b_nT ?_ | with_reducible refine b_nF ?_ | with_reducible refine iteF ?_ | with_reducible refine iteT ?_
  | with_reducible refine k_blA ?_ | with_reducible refine k_int ?_ | with_reducible refine k_two ?_ | with_reducible refine k_three ?_
  | ((with_reducible refine' k_size ?q7hn ?_); (case q7hn => exact Nat.le_of_ble_eq_true rfl))
  | ((with_reducible refine' k_fld ?q7ha ?q7c ?q7n ?q7hl ?_); (case q7ha => walk_at "hg"); (case q7c => walk_at "cls"); (case q7n => walk_at "att"); (case q7hl => exact rfl))
  | ((with_reducible refine' k_put ?q7ha ?q7c ?q7n ?q7hl ?_); (case q7ha => walk_at "hg"); (case q7c => walk_at "cls"); (case q7n => walk_at "att"); (case q7hl => first | decide | exact Nat.lt_of_lt_of_le (Nat.lt_succ_self _) (Nat.le_of_ble_eq_true rfl)))
  | ((with_reducible refine' k_meth ?q7ha ?q7hl ?_); (case q7ha => walk_at "hg"); (case q7hl => exact rfl))
  | ((with_reducible refine' k_prop ?q7ha ?_); (case q7ha => walk_at "hg")))
local macro_rules | `(tactic| walk_at "rd") => `(tactic| repeat walk_at "rd1")
local macro_rules | `(tactic| walk_at "cls") => `(tactic| first | exact T.c_Board | exact T.c_World)
local macro_rules | `(tactic| walk_at "att") => `(tactic| first | exact T.n_Board_homes | exact T.n_Board_places | exact T.n_Board_rows | exact T.n_World_board | exact T.n_World_shown | exact T.n_World_standing | exact T.n_World_won | exact T.n_World_steps)

def sp_shut_in (K : PySem.W.Frag) (A : Adr) : Sp := fun vs H Q E => ∃ B : Addr, vs = [.ref B] ∧ ∃ (R : Rows) (m : Nat) (rk gd : Nat → Nat), BAt A H B R m ∧ Good R m rk gd ∧ ∀ u H', Ret [] H H' → H' u = some (.tup []) → Q (.ref u) H'
def sp_need_open (K : PySem.W.Frag) (A : Adr) : Sp := fun vs H Q E => ∃ (B : Addr) (s : Str), vs = [.ref B, .str s] ∧ ∃ (R : Rows) (m : Nat) (rk gd : Nat → Nat), BAt A H B R m ∧ Good R m rk gd ∧ ∀ H', Ret [] H H' → Q .non H'
def sp_need_home (K : PySem.W.Frag) (A : Adr) : Sp := fun vs H Q E => ∃ (B : Addr) (h : Nat), vs = [.ref B, .int h] ∧ ∃ (R : Rows) (m : Nat), BAt A H B R m ∧ h < m ∧ Q .non H
def sp_need_world (K : PySem.W.Frag) (A : Adr) : Sp := fun vs H Q E => ∃ (w : Addr) (s : Str), vs = [.ref w, .str s] ∧ ∃ dx fs, H w = some (.ins A.World dx fs) ∧ Q .non H
theorem take_int {ns : List Int} {i : Nat} {x : Int} (h : ns[i]? = some x) (f : Int → Bool) : (ns.take (i + 1)).filter f = (ns.take i).filter f ++ if f x = true then [x] else [] := by
  rw [Nd.take_one h, List.filter_append]
  congr 1
  by_cases q : f x = true
  · rw [if_pos q, List.filter_cons_of_pos q]; rfl
  · rw [if_neg q, List.filter_cons_of_neg q]; rfl
section
variable {P : Program} {w : World} {K : PySem.W.Frag} {mg : Str → Option Value} {base : Heap} {A : Adr}
theorem ok_shut_in (T : Txt K mg A)  : Gd P w K mg base CX0 1 "shut_in" ["board"] [] (sp_shut_in K A) := by
  obtain ⟨f, fd, F, hm⟩ := T.f_shut_in
  refine ⟨⟨f, fd, [], ?_, hm, F.kp, F.binds (ps := ["board"]) (fun _ _ _ _ _ _ us hl => match us, hl with | [_], _ => rfl), .nil⟩⟩
  refine F.ok sc_shut_in (fun vs H Q E h => by first | (obtain ⟨rfl, _⟩ := h; rfl) | (obtain ⟨_, rfl, _⟩ := h; rfl) | (obtain ⟨_, _, rfl, _⟩ := h; rfl) | (obtain ⟨_, _, _, rfl, _⟩ := h; rfl) | (obtain ⟨_, _, _, _, rfl, _⟩ := h; rfl) | (obtain ⟨_, _, _, _, _, rfl, _⟩ := h; rfl) | (obtain ⟨_, _, _, _, _, _, rfl, _⟩ := h; rfl) | (obtain ⟨_, _, _, _, _, _, _, rfl, _⟩ := h; rfl)) (fun cdv A' outer s H vs Q E hr h => ⟨_, (pss_cons (ps_asg (pe_tup (pa_cons (pe_listRg rfl (by rfl) T.b_list (prg_1 (by rfl) T.b_range (pe_fldK K (pv 0) rfl))) (pa_cons pe_bl pa_nil))) (pg_tupK K (n := 2) rfl (pgs_cons (pg_name (i := 1) sc_shut_in.nd rfl (.inr rfl)) (pgs_cons (pg_name (i := 2) sc_shut_in.nd rfl (.inl rfl)) pgs_nil))))
      (pss_cons (ps_while PassesOwn.never (pt_val (pv 2)) (pss_cons (ps_asg (pe_lc (own := [("place", 4)]) rfl sc_shut_in.nd (pi_seqK K (pv 1)) (blkOk_by (N := N_shut_in) (sc := defScope s_shut_in) (own := [("place", 4)]) (by decide +kernel)) (fun _ _ _ _ _ => (pg_name (i := 4) sc_shut_in.nd rfl (by first | exact .inl rfl | exact .inr rfl))) (fun _ _ _ _ _ => (pts_one (pt_val (pe_callB (call_anyK K rfl) (by rfl) T.b_any (by decide +kernel) (pa_cons (pe_lc (own := [("entry", 5)]) rfl sc_shut_in.nd (pi_seqK K (pe_ix (ix_seqK K) (pe_fldK K (pv 0) rfl) (pv 4) (fun _ _ => rfl))) (blkOk_by (own := [("entry", 5)]) (by kernel_rfl)) (fun _ _ _ _ _ => (pg_name (i := 5) sc_shut_in.nd rfl (by first | exact .inl rfl | exact .inr rfl))) (fun _ _ _ _ _ => pts_nil) (fun _ _ _ _ _ => (pe_cmpR (op_notInK K) (pv 5) (pv 1) rfl))) pa_nil))))) (fun _ _ _ _ _ => (pv 4))) (pg_name (i := 3) sc_shut_in.nd rfl (.inr rfl)))
      (pss_one (ps_asg (pe_tup (pa_cons (pe_lc (own := [("place", 4)]) rfl sc_shut_in.nd (pi_seqK K (pv 1)) (blkOk_by (N := N_shut_in) (sc := defScope s_shut_in) (own := [("place", 4)]) (by decide +kernel)) (fun _ _ _ _ _ => (pg_name (i := 4) sc_shut_in.nd rfl (by first | exact .inl rfl | exact .inr rfl))) (fun _ _ _ _ _ => (pts_one (pt_cmpR (op_notInK K) (pv 4) (pv 3) rfl))) (fun _ _ _ _ _ => (pv 4))) (pa_cons (pe_cmpR (op_neK K hr.units) (pv 3) (pe_lst pa_nil) (nomark _)) pa_nil))) (pg_tupK K (n := 2) rfl (pgs_cons (pg_name (i := 1) sc_shut_in.nd rfl (.inr rfl)) (pgs_cons (pg_name (i := 2) sc_shut_in.nd rfl (.inl rfl)) pgs_nil)))))))
      (pss_one (ps_ret (pe_callTy (call_tupleK K) (by rfl) T.b_tuple (by decide +kernel) (pa_cons (pv 1) pa_nil)))))), ?_⟩)
  obtain ⟨B, rfl, R, m, rk, gd, hB, G, k⟩ := h
  have n5 := G.n5
  obtain ⟨dB, tt, ads, h1, h2, hT⟩ := hB.ex
  have C : Cur H [] H [(B, .ins A.Board dB [("homes", .int m), ("places", .int R.length), ("rows", .ref tt)])] := Cur.start (by simp) (by simp [h1])
  walk_at "rd"
  refine ⟨⟨by omega, by omega⟩, ?_⟩
  rw [rg_ints]
  refine new_c C fun l0 H1 l00 C => ?_
  walk_at "rd"
  refine new_c C fun l1 H2 l10 C => ?_
  refine u_gtup (SqT.of (C.get 0 rfl)) rfl ?_
  walk_at "rd"
  have hrow : ∀ {H' : Hp} {p : Nat} {ar : Addr}, Ret [] H H' → ads[p]? = some ar → H' ar = some (.tup ((row R p).map V.int)) := fun r e => r.tups0 _ _ (hT.2 _ _ e)
  have hads : ∀ {p : Nat}, p < R.length → ∃ ar, ads[p]? = some ar := fun hp => ⟨_, List.getElem?_eq_getElem (by rw [hT.1]; exact hp)⟩
  refine u_while (fun m' σ H' => ∃ (l : Addr) (L : List Int) (b : Bool) (o3 : Option V), σ = [some (.ref B), some (.ref l), some (.bl b), o3, none, none] ∧ (∀ p ∈ L, 0 ≤ p ∧ p < (R.length : Int)) ∧ (b = false → L = []) ∧ L.length ≤ 60 ∧ m' = L.length + (if b then 1 else 0) ∧
    Cur H [] H' [(l, .lst (L.map V.int)), (B, .ins A.Board dB [("homes", .int m), ("places", .int R.length), ("rows", .ref tt)])]) (m0 := R.length + 1) ?_ ?_
  · refine ⟨l0, (List.range R.length).map fun (i : Nat) => ((i : Nat) : Int), true, none, rfl, fun p hp => ?_, by simp, by simp; omega, by simp, C.pick [1, 2] (by decide)⟩
    obtain ⟨i, hi, rfl⟩ := List.mem_map.mp hp
    have := List.mem_range.mp hi
    omega
  · rintro m' σ H3 ⟨l, L, b, o3, rfl, hL, hb0, hl60, rfl, C3⟩
    walk_at "rd"
    cases b with
    | false =>
      obtain rfl := hb0 rfl
      refine iteF ?_
      walk_at "rd"
      refine r_tupL (SqL.of (C3.get 0 rfl)) (new_c C3 fun u H4 u0 C4 => ?_)
      exact k u H4 C4.ret (C4.get 0 rfl)
    | true =>
      refine iteT ?_
      refine wh_b ?_
      walk_at "rd"
      refine u_sseqL ?_
      walk_at "rd"
      refine k_seqL (SqL.of (C3.get 0 rfl)) ?_
      refine lc_l (xs := L.map V.int) C3 (fun D i H' => Cur H [] H' [(D, .lst (((L.take i).filter (isOpen R L)).map V.int)), (l, .lst (L.map V.int)), (B, .ins A.Board dB [("homes", .int m), ("places", .int R.length), ("rows", .ref tt)])]) (fun D H1 D0 C => C) (fun D i H' hi C => SqL.of (C.get 1 rfl)) ?_ ?_
      · rintro D i x H' D0 hx C
        obtain ⟨p, hp, rfl⟩ := int_of hx
        obtain ⟨p0, p1⟩ := hL p (List.mem_of_getElem? hp)
        have hi : i < L.length := (List.getElem?_eq_some_iff.mp hp).1
        obtain ⟨ar, har⟩ := hads (show p.toNat < R.length by omega)
        obtain ⟨g1, g4⟩ := G.le4 p.toNat (by omega)
        walk_at "rd"
        refine ⟨rfl, ?_⟩
        walk_at "rd"
        refine u_sseqT ?_
        walk_at "rd"
        refine r_ixT (SqT.of (C.ret.tups0 _ _ h2)) (atR p0 har) ?_
        refine k_seqT (SqT.of (hrow C.ret har)) ?_
        refine lc_t (xs := (row R p.toNat).map V.int) C (fun D2 j H' => Cur H [] H' [(D2, .lst ((((row R p.toNat).take j).map fun e => decide (e ∉ L)).map V.bl)), (D, .lst (((L.take i).filter (isOpen R L)).map V.int)), (l, .lst (L.map V.int)), (B, .ins A.Board dB [("homes", .int m), ("places", .int R.length), ("rows", .ref tt)])]) (fun D H1 D0 C => C) (fun D i H' hi C => SqT.of (hrow C.ret har)) ?_ ?_
        · rintro D2 j y H5 D20 hy C5
          obtain ⟨z, hz, rfl⟩ := int_of hy
          walk_at "rd"
          refine ⟨rfl, ?_⟩
          walk_at "rd"
          refine r_notInL (SqL.of (C5.get 2 rfl)) ?_
          refine k_acc (C5.get 0 rfl) (by simp only [List.length_map, List.length_take]; omega) ?_
          refine mod_c C5 0 rfl (.inr D20) fun H6 C6 => ?_
          have e : ((((row R p.toNat).take (j + 1)).map fun e => decide (e ∉ L)).map V.bl) = ((((row R p.toNat).take j).map fun e => decide (e ∉ L)).map V.bl) ++ [V.bl (!decide (z ∈ L))] := by
            rw [Nd.take_one hz, List.map_append, List.map_append]
            simp
          rw [e]; exact C6
        · rintro D2 H5 D20 C5
          rw [len_map, List.take_length] at C5
          walk_at "rd"
          refine r_any (SqL.of (C5.get 0 rfl)) ?_
          have eany : (((row R p.toNat).map fun e => decide (e ∉ L)).any id) = isOpen R L p := by
            unfold isOpen
            rw [List.any_map]; rfl
          rw [eany]
          walk_at "rd"
          have hlen : ((L.take i).filter (isOpen R L)).length ≤ 60 := Nat.le_trans (List.length_filter_le ..) (by rw [List.length_take]; omega)
          cases hop : isOpen R L p with
          | true =>
            refine iteT ?_
            walk_at "rd"
            refine k_acc (C5.get 1 rfl) (by rw [len_map]; omega) ?_
            refine mod_c C5 1 rfl (.inr D0) fun H6 C6 => ?_
            have C6 : Cur H [] H6 [(D, .lst (((L.take i).filter (isOpen R L)).map V.int ++ [.int p])), (l, .lst (L.map V.int)), (B, .ins A.Board dB [("homes", .int m), ("places", .int R.length), ("rows", .ref tt)])] := C6.drop
            rw [take_int hp, if_pos hop, List.map_append]
            exact C6
          | false =>
            refine iteF ?_
            rw [take_int hp, if_neg (by rw [hop]; simp), List.append_nil]
            exact C5.drop
      rintro D H5 D0 C5
      rw [len_map, List.take_length] at C5
      have C5 : Cur H [] H5 [(D, .lst ((openOf R L).map V.int)), (l, .lst (L.map V.int)), (B, .ins A.Board dB [("homes", .int m), ("places", .int R.length), ("rows", .ref tt)])] := C5
      walk_at "rd"
      refine u_sseqL ?_
      walk_at "rd"
      refine k_seqL (SqL.of (C5.get 1 rfl)) ?_
      have hol : (openOf R L).length ≤ 60 := Nat.le_trans (List.length_filter_le ..) hl60
      refine lc_l (xs := L.map V.int) C5 (fun D2 i H' => Cur H [] H' [(D2, .lst (((L.take i).filter fun p => decide (p ∉ openOf R L)).map V.int)), (D, .lst ((openOf R L).map V.int)), (l, .lst (L.map V.int)), (B, .ins A.Board dB [("homes", .int m), ("places", .int R.length), ("rows", .ref tt)])]) (fun D H1 D0 C => C) (fun D i H' hi C => SqL.of (C.get 2 rfl)) ?_ ?_
      · rintro D2 i x H' D20 hx C
        obtain ⟨p, hp, rfl⟩ := int_of hx
        have hi : i < L.length := (List.getElem?_eq_some_iff.mp hp).1
        have hlen : ((L.take i).filter fun p => decide (p ∉ openOf R L)).length ≤ 60 := Nat.le_trans (List.length_filter_le ..) (by rw [List.length_take]; omega)
        walk_at "rd"
        refine ⟨rfl, ?_⟩
        walk_at "rd"
        refine r_notInL (SqL.of (C.get 1 rfl)) ?_
        walk_at "rd"
        refine b_ndec (fun hne => ?_) (fun he => ?_)
        · walk_at "rd"
          refine k_acc (C.get 0 rfl) (by rw [len_map]; omega) ?_
          refine mod_c C 0 rfl (.inr D20) fun H6 C6 => ?_
          rw [take_int hp, if_pos (decide_eq_true hne), List.map_append]
          exact C6
        · rw [take_int hp, if_neg (by simpa using he), List.append_nil]
          exact C
      rintro D2 H6 D20 C6
      rw [len_map, List.take_length] at C6
      walk_at "rd"
      refine new_c C6 fun e H7 e0 C7 => ?_
      refine r_neL (ns := openOf R L) (ms := []) (SqL.of (C7.get 2 rfl)) (SqL.of (C7.get 0 rfl)) ?_
      walk_at "rd"
      refine new_c C7 fun t7 H8 t70 C8 => ?_
      refine u_gtup (SqT.of (C8.get 0 rfl)) rfl ?_
      walk_at "rd"
      have C8 : Cur H [] H8 [(D2, .lst ((stay R L).map V.int)), (B, .ins A.Board dB [("homes", .int m), ("places", .int R.length), ("rows", .ref tt)])] := C8.pick [2, 5] (by decide)
      have hsl : (stay R L).length ≤ L.length := List.length_filter_le ..
      refine ⟨_, ?_, D2, stay R L, !decide (openOf R L = []), _, rfl, fun p hp => hL p (stay_in hp), fun z => ?_, by omega, rfl, C8⟩
      · by_cases q : openOf R L = []
        · simp [q]; omega
        · have := stay_lt q
          simp [q]; omega
      · have q : openOf R L = [] := by simpa using z
        rw [stay_nil q]
        exact Classical.byContradiction fun hne => open_some G hL hne q
theorem fn_need_open {f : Addr} {fd : FuncData} (F : FunD K "need_open" "need_open" (defArgs s_need_open) (defBody s_need_open) (defScope s_need_open) [.str "board"] [] f fd) (T : Txt K mg A) (G_shut_in : Gd P w K mg base CX0 1 "shut_in" ["board"] [] (sp_shut_in K A)) : FnOk P w K mg base CX0 2 f fd ["board", "part"] (sp_need_open K A) := by
  refine FunD.ok F sc_need_open (fun vs H Q E h => by first | (obtain ⟨rfl, _⟩ := h; rfl) | (obtain ⟨_, rfl, _⟩ := h; rfl) | (obtain ⟨_, _, rfl, _⟩ := h; rfl) | (obtain ⟨_, _, _, rfl, _⟩ := h; rfl) | (obtain ⟨_, _, _, _, rfl, _⟩ := h; rfl) | (obtain ⟨_, _, _, _, _, rfl, _⟩ := h; rfl) | (obtain ⟨_, _, _, _, _, _, rfl, _⟩ := h; rfl) | (obtain ⟨_, _, _, _, _, _, _, rfl, _⟩ := h; rfl)) (fun cdv A' outer s H vs Q E hr h => ⟨_, PSs.nox (X := cxOf CX0 P w K mg base N_need_open "need_open" (defScope s_need_open) f cdv A' outer s H E) (pss_one (ps_if (pt_cmpR (op_neK K hr.units) (pe_callG G_shut_in (hr.mono (by decide)) (by rfl) pass0 (pa_cons (pv 0) pa_nil)) (pe_tup pa_nil) (nomark _)) (pss_one ps_never) pss_nil)), ?_⟩)
  obtain ⟨B, s, rfl, R, m, rk, gd, hB, G, k⟩ := h
  have C : Cur H [] H [] := Cur.start (by simp) (by simp)
  walk_at "rd"
  refine ⟨B, rfl, R, m, rk, gd, hB, G, fun u H1 r1 hu => ?_⟩
  have C := C.call0 r1
  walk_at "rd"
  refine new_r C fun v H2 v0 v00 C2 r2 => ?_
  refine r_neT (ns := []) (ms := []) (SqT.of (r2.tups0 _ _ hu)) (SqT.of (C2.get 0 rfl)) ?_
  walk_at "rd"
  refine b_f rfl ?_
  walk_at "rd"
  exact k H2 C2.ret
theorem ok_need_open_n2 (T : Txt K mg A) (G_shut_in : Gd P w K mg base CX0 1 "shut_in" ["board"] [] (sp_shut_in K A)) : Gd P w K mg base CX0 2 "need_open" ["board", "part"] [] (sp_need_open K A) := by
  obtain ⟨f, fd, F, hm⟩ := T.f_need_open
  obtain ⟨ds, hv, hb⟩ := F.binds1 (ps := ["board", "part"]) 2 1 (by simp) rfl (fun _ _ _ _ _ _ _ us its l1 l2 => match us, its, l1, l2 with | [_, _], [_], _, _ => ⟨_, rfl, rfl⟩)
  exact ⟨⟨f, fd, ds, fn_need_open F T G_shut_in, hm, F.kp, hb, hv⟩⟩
theorem ok_need_home (T : Txt K mg A) (G_need_number : Gd P w K mg base CX0 3 "need_number" ["value", "part", "least", "most"] [] (sp_need_number K A)) : Gd P w K mg base CX0 4 "need_home" ["board", "value"] [] (sp_need_home K A) := by
  obtain ⟨f, fd, F, hm⟩ := T.f_need_home
  refine ⟨⟨f, fd, [], ?_, hm, F.kp, F.binds (ps := ["board", "value"]) (fun _ _ _ _ _ _ us hl => match us, hl with | [_, _], _ => rfl), .nil⟩⟩
  refine F.ok sc_need_home (fun vs H Q E h => by first | (obtain ⟨rfl, _⟩ := h; rfl) | (obtain ⟨_, rfl, _⟩ := h; rfl) | (obtain ⟨_, _, rfl, _⟩ := h; rfl) | (obtain ⟨_, _, _, rfl, _⟩ := h; rfl) | (obtain ⟨_, _, _, _, rfl, _⟩ := h; rfl) | (obtain ⟨_, _, _, _, _, rfl, _⟩ := h; rfl) | (obtain ⟨_, _, _, _, _, _, rfl, _⟩ := h; rfl) | (obtain ⟨_, _, _, _, _, _, _, rfl, _⟩ := h; rfl)) (fun cdv A' outer s H vs Q E hr h => ⟨_, (pss_one (ps_expr (pe_callG G_need_number (hr.mono (by decide)) (by rfl) pass0 (pa_cons (pv 1) (pa_cons pe_str (pa_cons pe_int (pa_cons (pe_op op_subI (pe_fldK K (pv 0) rfl) pe_int) pa_nil))))))), ?_⟩)
  obtain ⟨B, hh, rfl, R, m, hB, hm, k⟩ := h
  obtain ⟨dB, tt, ads, h1, h2, hT⟩ := hB.ex
  have C : Cur H [] H [(B, .ins A.Board dB [("homes", .int m), ("places", .int R.length), ("rows", .ref tt)])] := Cur.start (by simp) (by simp [h1])
  walk_at "rd"
  refine ⟨hh, "home", 0, _, rfl, by omega, by omega, ?_⟩
  walk_at "rd"
  exact k
theorem ok_need_world (T : Txt K mg A)  : Gd P w K mg base CX0 1 "need_world" ["value", "part"] [.str "world"] (sp_need_world K A) := by
  obtain ⟨f, fd, F, hm⟩ := T.f_need_world
  obtain ⟨ds, hv, hb⟩ := F.binds1 (ps := ["value", "part"]) 1 0 (by simp) rfl (fun _ _ _ _ _ _ _ us its l1 l2 => match us, its, l1, l2 with | [_], [_], _, _ => ⟨_, rfl, rfl⟩)
  refine ⟨⟨f, fd, ds, ?_, hm, F.kp, hb, hv⟩⟩
  refine FunD.ok F sc_need_world (fun vs H Q E h => by first | (obtain ⟨rfl, _⟩ := h; rfl) | (obtain ⟨_, rfl, _⟩ := h; rfl) | (obtain ⟨_, _, rfl, _⟩ := h; rfl) | (obtain ⟨_, _, _, rfl, _⟩ := h; rfl) | (obtain ⟨_, _, _, _, rfl, _⟩ := h; rfl) | (obtain ⟨_, _, _, _, _, rfl, _⟩ := h; rfl) | (obtain ⟨_, _, _, _, _, _, rfl, _⟩ := h; rfl) | (obtain ⟨_, _, _, _, _, _, _, rfl, _⟩ := h; rfl)) (fun cdv A' outer s H vs Q E hr h => ⟨_, PSs.nox (X := cxOf CX0 P w K mg base N_need_world "need_world" (defScope s_need_world) f cdv A' outer s H E) (pss_one (ps_if (pt_not (pt_val (pe_callB (C8.call_isC T.s_World) (by rfl) T.b_isinstance (by decide +kernel) (pa_cons (pv 0) (pa_cons (pe_glob (v := .ref A.World) (by rfl) T.g_World rfl) pa_nil))))) (pss_one ps_never) pss_nil)), ?_⟩)
  obtain ⟨w, s, rfl, dx, fs, hw, k⟩ := h
  walk_at "rd"
  refine ⟨w, dx, fs, rfl, hw, ?_⟩
  walk_at "rd"
  exact k
end
end K67

end

section
set_option Elab.async false
set_option linter.all false
set_option maxRecDepth 100000
set_option maxHeartbeats 1000000
namespace K67
open PySem PySem.Spec PyProof.Rows L2 Nd M94 M67
set_option hygiene false
local macro_rules | `(tactic| walk_at "hg") => `(tactic| first | assumption | exact C.get 0 rfl | exact C.get 1 rfl | exact C.get 2 rfl | exact C.get 3 rfl | exact C.get 4 rfl | exact C.get 5 rfl | exact C.get 6 rfl | exact C.get 7 rfl | exact C.get 8 rfl | exact C.get 9 rfl)
local macro_rules | `(tactic| walk_at "rd1") => `(tactic| first
  | with_reducible refine u_seq ?_ | with_reducible refine u_asg ?_ | ((with_reducible refine' u_var ?q7hv ?_); (case q7hv => exact rfl)) | with_reducible refine u_c ?_ | with_reducible refine u_op ?_ | with_reducible refine u_if ?_ | with_reducible refine u_ret ?_
  | with_reducible refine u_test ?_ | with_reducible refine u_tB ?_ | with_reducible refine u_and ?_ | with_reducible refine u_or ?_ | with_reducible refine u_not ?_ | with_reducible refine u_call ?_ | with_reducible refine u_cb ?_ | with_reducible refine u_cons ?_ | with_reducible refine u_nil ?_
  | with_reducible refine u_gname ?_ | with_reducible refine u_gcons ?_ | with_reducible refine u_gnil ?_ | with_reducible refine u_gsub ?_ | with_reducible refine u_lst ?_ | with_reducible refine u_tup ?_ | with_reducible refine u_un ?_ | with_reducible refine u_ifE ?_
  | with_reducible refine u_drop ?_ | with_reducible refine u_next ?_ | with_reducible refine u_retN ?_ | with_reducible refine u_tf ?_ | with_reducible refine u_fld ?_ | with_reducible refine u_gfld ?_ | with_reducible refine u_par ?_ | with_reducible refine u_par3 ?_ | with_reducible refine u_meth ?_ | with_reducible refine u_prop ?_ | with_reducible refine u_make ?_
  | with_reducible refine u_bm ?_ | with_reducible refine u_bm0 ?_ | with_reducible refine u_sl ?_ | with_reducible refine u_noPart ?_ | with_reducible refine u_part ?_ | with_reducible refine u_chain ?_ | with_reducible refine u_andV ?_ | with_reducible refine u_orV ?_ | with_reducible refine u_notV ?_
  | with_reducible refine u_listRg ?_ | with_reducible refine u_rg1 ?_ | with_reducible refine u_lc2 ?_ | with_reducible refine u_enum ?_ | with_reducible refine u_zip ?_ | with_reducible refine u_for ?_ | with_reducible refine u_lc ?_ | with_reducible refine u_rng1 ?_ | with_reducible refine u_rng2 ?_ | with_reducible refine u_yes ?_ | with_reducible refine u_brk ?_ | with_reducible refine u_cont ?_
  | with_reducible refine r_add ?_ | with_reducible refine r_sub ?_ | with_reducible refine r_lt ?_ | with_reducible refine r_le ?_ | with_reducible refine r_gt ?_ | with_reducible refine r_ge ?_ | with_reducible refine r_eqI ?_ | with_reducible refine r_neI ?_ | with_reducible refine r_neg ?_ | with_reducible refine r_int ?_ | with_reducible refine r_intB ?_ | with_reducible refine r_abs ?_ | with_reducible refine r_isNi ?_ | with_reducible refine r_isNn ?_ | with_reducible refine r_isNr ?_ | with_reducible refine r_isNs ?_ | with_reducible refine r_notN ?_
  | ((with_reducible refine' r_ixL ?q7hs ?q7ha ?_); (case q7hs => exact SqL.of (by walk_at "hg")); (case q7ha => first | exact rfl | exact atI_nat (by assumption)))
  | ((with_reducible refine' r_ixT ?q7hs ?q7ha ?_); (case q7hs => exact SqT.of (by walk_at "hg")); (case q7ha => first | exact rfl | exact atI_nat (by assumption)))
  | ((with_reducible refine' r_len ?q7hs ?_); (case q7hs => exact SqL.of (by walk_at "hg")))
  | ((with_reducible refine' r_lenT ?q7hs ?_); (case q7hs => exact SqT.of (by walk_at "hg")))
  | ((with_reducible refine' r_mod ?q7c ?_); (case q7c => first | decide | omega)) | ((with_reducible refine' r_div ?q7c ?_); (case q7c => first | (constructor <;> decide) | (constructor <;> omega)))
  | ((with_reducible refine' r_mul ?q7c ?_); (case q7c => first | exact .inl ⟨by omega, by omega⟩ | exact .inr ⟨by omega, by omega⟩))
  | ((with_reducible refine' r_pow ?q7c ?_); (case q7c => exact ⟨by omega, by omega, by omega⟩))
  | with_reducible refine b_nT ?_ | with_reducible refine b_nF ?_ | with_reducible refine iteF ?_ | with_reducible refine iteT ?_
  | with_reducible refine k_blA ?_ | with_reducible refine k_int ?_ | with_reducible refine k_two ?_ | with_reducible refine k_three ?_
  | ((with_reducible refine' k_size ?q7hn ?_); (case q7hn => exact Nat.le_of_ble_eq_true rfl))
  | ((with_reducible refine' k_fld ?q7ha ?q7c ?q7n ?q7hl ?_); (case q7ha => walk_at "hg"); (case q7c => walk_at "cls"); (case q7n => walk_at "att"); (case q7hl => exact rfl))
  | ((with_reducible refine' k_put ?q7ha ?q7c ?q7n ?q7hl ?_); (case q7ha => walk_at "hg"); (case q7c => walk_at "cls"); (case q7n => walk_at "att"); (case q7hl => first | decide | exact Nat.lt_of_lt_of_le (Nat.lt_succ_self _) (Nat.le_of_ble_eq_true rfl)))
  | ((with_reducible refine' k_meth ?q7ha ?q7hl ?_); (case q7ha => walk_at "hg"); (case q7hl => exact rfl))
  | ((with_reducible refine' k_prop ?q7ha ?_); (case q7ha => walk_at "hg")))
local macro_rules | `(tactic| walk_at "rd") => `(tactic| repeat walk_at "rd1")
local macro_rules | `(tactic| walk_at "cls") => `(tactic| first | exact T.c_Board | exact T.c_World)
local macro_rules | `(tactic| walk_at "att") => `(tactic| first | exact T.n_Board_homes | exact T.n_Board_places | exact T.n_Board_rows | exact T.n_World_board | exact T.n_World_shown | exact T.n_World_standing | exact T.n_World_won | exact T.n_World_steps)

theorem bat_of {A : Adr} {H : Hp} {a : WA} {R : Rows} {m : Nat} {ads : List Addr} (h : Has H (bL A a R m ads)) (hT : TRows H ads R) : BAt A H a.B R m := ⟨a.dB, a.t, ads, h.2 (a.B, _) (by simp), h.2 (a.t, _) (by simp), hT⟩
theorem has_right {H : Hp} {L1 L2 : List (Addr × HO)} (h : Has H (L1 ++ L2)) : Has H L2 := ⟨by have := h.1; rw [List.map_append] at this; exact (List.nodup_append.mp this).2.1, fun p hp => h.2 p (List.mem_append_right _ hp)⟩
theorem Has.to0 {H H' : Hp} {L : List (Addr × HO)} (h : Has H L) (r : Ret [] H H') : Has H' L := ⟨h.1, fun p hp => r.fr _ _ (h.2 p hp) (by simp)⟩
def sp_kept (K : PySem.W.Frag) (A : Adr) : Sp := fun vs H Q E => ∃ (w : Addr) (h : Nat), vs = [.ref w, .int h] ∧ ∃ (a : WA) (s : WS) (R : Rows) (m : Nat) (rk gd : Nat → Nat) (ads : List Addr) (x : Nat → Rat) (c : Nat), w = a.w ∧ Has H (wL A a s ++ bL A a R m ads) ∧ TRows H ads R ∧ Good R m rk gd ∧ HandsOk R s.hs ∧ (∀ y ∈ s.sn, XOk R m y) ∧ s.sn.length ≤ 40 ∧ m ≤ 60 ∧ h < m ∧
  Sol R (tH R.length h) x ∧ (∀ j, j < R.length + m → Ht (numF R.length (tH R.length h) x j) c) ∧ R.length * (3 * (2 * c + 2) + 2) + s.sn.length * (c + 1) + 1 ≤ 4500 ∧ c ≤ 400 ∧ ∀ t H', Ret [] H H' → PrA K H' t (keptR R (tH R.length h) x s.hs s.sn) → Q (.ref t) H'
section
variable {P : Program} {w : World} {K : PySem.W.Frag} {mg : Str → Option Value} {base : Heap} {A : Adr}
theorem fn_kept {f : Addr} {fd : FuncData} (F : Fun K "kept" "kept" s_kept f fd) (T : Txt K mg A) (G_need_world : Gd P w K mg base CX0 1 "need_world" ["value", "part"] [.str "world"] (sp_need_world K A)) (G_need_home : Gd P w K mg base CX0 4 "need_home" ["board", "value"] [] (sp_need_home K A)) (G_need_open_n2 : Gd P w K mg base CX0 2 "need_open" ["board", "part"] [] (sp_need_open K A)) (G_numbers_of : Gd P w K mg base CX0 8 "numbers_of" ["board", "home"] [] (sp_numbers_of K A)) (G_World_hands : Gp P w K mg base CX0 1 A.World "hands" ["self"] (sp_World_hands K A)) (G_all_worths : Gd P w K mg base CX0 4 "all_worths" ["board", "numbers"] [] (sp_all_worths K A)) (G_total_of : Gd P w K mg base CX0 3 "total_of" ["fractions"] [] (sp_total_of K A)) (G_World_walkers : Gp P w K mg base CX0 1 A.World "walkers" ["self"] (sp_World_walkers K A)) : FnOk P w K mg base CX0 9 f fd ["world", "home"] (sp_kept K A) := by
  refine F.ok sc_kept (fun vs H Q E h => by first | (obtain ⟨rfl, _⟩ := h; rfl) | (obtain ⟨_, rfl, _⟩ := h; rfl) | (obtain ⟨_, _, rfl, _⟩ := h; rfl) | (obtain ⟨_, _, _, rfl, _⟩ := h; rfl) | (obtain ⟨_, _, _, _, rfl, _⟩ := h; rfl) | (obtain ⟨_, _, _, _, _, rfl, _⟩ := h; rfl) | (obtain ⟨_, _, _, _, _, _, rfl, _⟩ := h; rfl) | (obtain ⟨_, _, _, _, _, _, _, rfl, _⟩ := h; rfl)) (fun cdv A' outer s H vs Q E hr h => ⟨_, (pss_cons (ps_expr (pe_callG G_need_world (hr.mono (by decide)) (by rfl) pass0 (pa_cons (pv 0) pa_nil)))
      (pss_cons (ps_expr (pe_callG G_need_home (hr.mono (by decide)) (by rfl) pass0 (pa_cons (pe_fldK K (pv 0) rfl) (pa_cons (pv 1) pa_nil))))
      (pss_cons (ps_expr (pe_callG G_need_open_n2 (hr.mono (by decide)) (by rfl) pass0 (pa_cons (pe_fldK K (pv 0) rfl) (pa_cons pe_str pa_nil))))
      (pss_cons (ps_set (i := 2) sc_kept.nd rfl (.inr rfl) (pe_callG G_numbers_of (hr.mono (by decide)) (by rfl) pass0 (pa_cons (pe_fldK K (pv 0) rfl) (pa_cons (pv 1) pa_nil))))
      (pss_cons (ps_setLc (i := 3) (own := [("row", 4), ("hand", 5)]) rfl sc_kept.nd rfl rfl (sw_true rfl rfl rfl (by decide +kernel)) (pi_zipK K true true (by rfl) T.b_zip (pa_cons (pe_callG G_all_worths (hr.mono (by decide)) (by rfl) pass0 (pa_cons (pe_fldK K (pv 0) rfl) (pa_cons (pv 2) pa_nil))) (pa_cons (pe_propG G_World_hands T.c_World (hr.mono (by decide)) pass0 (pv 0)) pa_nil))) (blkOk_by (N := N_kept) (sc := defScope s_kept) (own := [("row", 4), ("hand", 5)]) (by decide +kernel)) (fun _ _ _ _ _ => (pg_tupK K (n := 2) rfl (pgs_cons (pg_name (i := 4) sc_kept.nd rfl (by first | exact .inl rfl | exact .inr rfl)) (pgs_cons (pg_name (i := 5) sc_kept.nd rfl (by first | exact .inl rfl | exact .inr rfl)) pgs_nil)))) (fun _ _ _ _ _ => pts_nil) (fun _ _ _ _ _ => (pe_ix (ix_seqK K) (pv 4) (pv 5) (fun _ _ => rfl))))
      (pss_one (ps_ret (pe_callG G_total_of (hr.mono (by decide)) (by rfl) pass0 (pa_cons (pe_op op_addU (pv 3) (pe_lc (own := [("entry", 6)]) rfl sc_kept.nd (pi_seqK K (pe_propG G_World_walkers T.c_World (hr.mono (by decide)) pass0 (pv 0))) (blkOk_by (N := N_kept) (sc := defScope s_kept) (own := [("entry", 6)]) (by decide +kernel)) (fun _ _ _ _ _ => (pg_name (i := 6) sc_kept.nd rfl (by first | exact .inl rfl | exact .inr rfl))) (fun _ _ _ _ _ => pts_nil) (fun _ _ _ _ _ => (pe_ix (ix_seqK K) (pv 2) (pv 6) (fun _ _ => rfl))))) pa_nil))))))))), ?_⟩)
  obtain ⟨w, hh, rfl, a, s, R, m, rk, gd, ads, x, c, rfl, hW, hT, G, hok, hsn, sn40, m60, hm, hS, hx, hcc, c400, k⟩ := h
  have n5 := G.n5
  have hB := bat_of (has_right hW) hT
  have hwl := hW.left
  have C : Cur H [] H (wL A a s ++ bL A a R m ads) := hW.cur
  walk_at "rd"
  refine ⟨a.w, "world", rfl, _, _, C.get 0 rfl, ?_⟩
  walk_at "rd"
  refine ⟨a.B, hh, rfl, R, m, hB, hm, ?_⟩
  walk_at "rd"
  refine ⟨a.B, "world", rfl, R, m, rk, gd, hB, G, fun H1 r1 => ?_⟩
  have C := C.call0 r1
  walk_at "rd"
  refine ⟨a.B, hh, rfl, R, m, rk, gd, hB.to0 r1, G, m60, fun x' hx' nu nads H2 r2 nu0 hnu hN => ?_⟩
  have hxx : ∀ p, p < R.length → x' p = x p := sol_one G hx' hS
  have hN : PrL K H2 nads (numF R.length (tH R.length hh) x) (R.length + m) := hN.congr fun j hj => yv_congr hxx _ (by omega)
  have C := C.call0n r2 nu0 hnu
  have r12 := r1.trans r2
  walk_at "rd"
  have hal : ∀ p, p < R.length → 1 ≤ (row R p).length ∧ (row R p).length ≤ 60 ∧ (row R p).length * (2 * c + 2) ≤ 4000 ∧ ∀ e ∈ row R p, 0 ≤ e ∧ e < (R.length : Int) + m := fun p hp => ⟨(G.le4 p hp).1, by have := (G.le4 p hp).2; omega, Nat.le_trans (Nat.mul_le_mul (G.le4 p hp).2 (show 2 * c + 2 ≤ 802 by omega)) (by decide), G.ents p hp⟩
  refine ⟨a.B, nu, rfl, R, m, nads, tH R.length hh, x, c, hB.to0 r12, by omega, hal, hnu, hN, hx, fun u rads H3 r3 u0 hu hU => ?_⟩
  have C := C.call0n r3 u0 hu
  walk_at "rd"
  refine ⟨a.w, rfl, a, s, rfl, hwl.to0 (r12.trans r3), fun t H4 r4 t0 ht => ?_⟩
  have C := C.call0n r4 t0 ht
  walk_at "rd"
  have hU := hU.to r4.tups0
  have hN := hN.to (r3.tups0.trans r4.tups0)
  refine k_zip (k1 := true) (k2 := true) (SqT.of (C.get 1 rfl)) (SqT.of (C.get 0 rfl)) ?_
  refine lc_z (k1 := true) (k2 := true) (xs := rads.map V.ref) (ys := s.hs.map V.int) (by simp [hU.1, hok.1]) (C.again (S1 := [])) (fun D i H' => ∃ pads, PrL K H' pads (fun i => wr R (tH R.length hh) x i (s.hs.getD i 0).toNat) i ∧ Cur H4 [] H' ((D, .lst (pads.map V.ref)) :: (t, .tup (s.hs.map V.int)) :: (u, .tup (rads.map V.ref)) :: (nu, .lst (nads.map V.ref)) :: (wL A a s ++ bL A a R m ads)))
    (fun D H1 D0 C => ⟨[], .nil, C⟩) (fun D i H' hi h => by obtain ⟨pads, hP, C⟩ := h; exact ⟨SqT.of (C.get 2 rfl), SqT.of (C.get 1 rfl)⟩) ?_ ?_
  · rintro D i y z H' D0 hy hz ⟨pads, hP, C⟩
    obtain ⟨ra, hra, rfl⟩ := refOf hy
    obtain ⟨hd, hhd, rfl⟩ := int_of hz
    have hi : i < R.length := by rw [← hU.1]; exact (List.getElem?_eq_some_iff.mp hra).1
    obtain ⟨h0, h1⟩ := hok.2 i hi
    have ehd : s.hs.getD i 0 = hd := by rw [List.getD_eq_getElem?_getD, hhd]; rfl
    rw [ehd] at h0 h1
    obtain ⟨qads, hq1, hq2⟩ := hU.2 i ra hra
    obtain ⟨pa, hpa, hpp⟩ := hq2.get (show hd.toNat < (row R i).length by omega)
    refine new_r C fun v H5 v0 v00 C5 r5 => ?_
    refine u_gtup (SqT.of (C5.get 0 rfl)) rfl ?_
    walk_at "rd"
    refine ⟨rfl, ?_⟩
    walk_at "rd"
    refine r_ixT (SqT.of (C5.ret.tups0 _ _ hq1)) (atR h0 hpa) ?_
    refine k_acc (C5.get 1 rfl) (by rw [len_ref, hP.1]; omega) ?_
    refine mod_r C5 1 rfl (.inr D0) fun H6 C6 r6 => ?_
    have t6 : Tups H5 H6 := r6.tupsL (C5.get 1 rfl)
    rw [app_ref] at C6
    refine ⟨_, (hP.to (r5.tups0.trans t6)).snoc ?_, C6.drop⟩
    show PrA K H6 pa (wr R (tH R.length hh) x i (s.hs.getD i 0).toNat)
    rw [ehd]
    exact (hpp.to C5.ret.tups0).to t6
  rintro D H5 D0 ⟨pads, hP, C5⟩
  rw [len_ref, hU.1] at hP
  have t45 : Tups H4 H5 := C5.ret.tups0
  have r5 := (C.and C5).ret
  have D0 := C.fresh D0
  have C := C.and C5
  have hN := hN.to t45
  walk_at "rd"
  refine u_sseqT ?_
  walk_at "rd"
  refine ⟨a.w, rfl, a, s, rfl, hwl.to0 r5, fun t2 H6 r6 t20 ht2 => ?_⟩
  have C := C.call0n r6 t20 ht2
  have hP := hP.to r6.tups0
  have hN := hN.to r6.tups0
  refine k_seqT (SqT.of (C.get 0 rfl)) ?_
  have sn0 : ∀ i, i < s.sn.length → 0 ≤ s.sn.getD i 0 ∧ s.sn.getD i 0 < (R.length : Int) + m := fun i hi => by
    have e : s.sn.getD i 0 = s.sn[i] := by rw [List.getD_eq_getElem?_getD, List.getElem?_eq_getElem hi]; rfl
    rw [e]; exact hsn _ (List.getElem_mem hi)
  refine lc_t (xs := s.sn.map V.int) (C.again (S1 := [])) (fun D2 i H' => ∃ qads, PrL K H' qads (fun i => yv R.length x (tH R.length hh) (s.sn.getD i 0)) i ∧ Cur H6 [] H' [(D2, .lst (qads.map V.ref)), (t2, .tup (s.sn.map V.int)), (D, .lst (pads.map V.ref)), (nu, .lst (nads.map V.ref))])
    (fun D H1 D0 C => ⟨[], .nil, C.pick [0, 1, 2, 5] (by decide)⟩) (fun D i H' hi h => by obtain ⟨qads, hQ, C⟩ := h; exact SqT.of (C.get 1 rfl)) ?_ ?_
  · rintro D2 i y H' D20 hy ⟨qads, hQ, C7⟩
    obtain ⟨z, hz, rfl⟩ := int_of hy
    have hi : i < s.sn.length := (List.getElem?_eq_some_iff.mp hz).1
    have ez : s.sn.getD i 0 = z := by rw [List.getD_eq_getElem?_getD, hz]; rfl
    obtain ⟨z0, z1⟩ := sn0 i hi
    rw [ez] at z0 z1
    obtain ⟨pa, hpa, hpp⟩ := hN.get (show z.toNat < R.length + m by omega)
    walk_at "rd"
    refine ⟨rfl, ?_⟩
    walk_at "rd"
    refine r_ixL (SqL.of (C7.get 3 rfl)) (atR z0 hpa) ?_
    refine k_acc (C7.get 0 rfl) (by rw [len_ref, hQ.1]; omega) ?_
    refine mod_r C7 0 rfl (.inr D20) fun H8 C8 r8 => ?_
    have t8 : Tups H' H8 := r8.tupsL (C7.get 0 rfl)
    rw [app_ref] at C8
    refine ⟨_, (hQ.to t8).snoc ?_, C8⟩
    show PrA K H8 pa (yv R.length x (tH R.length hh) (s.sn.getD i 0))
    rw [ez]
    have hpp := (hpp.to C7.ret.tups0).to t8
    rw [numF_at z0] at hpp
    exact hpp
  rintro D2 H7 D20 ⟨qads, hQ, C7⟩
  rw [len_map] at hQ
  have hP := hP.to C7.ret.tups0
  have C := C.and C7
  refine r_cat (C.get 2 rfl) (C.get 0 rfl) (by rw [len_ref, len_ref, hP.1, hQ.1]; omega) ?_
  refine new_r C fun ll H8 ll0 ll00 C8 r8 => ?_
  rw [← List.map_append] at C8
  walk_at "rd"
  have hall : PrL K H8 (pads ++ qads) (keptF R (tH R.length hh) x s.hs s.sn) (R.length + s.sn.length) := PrL.app ((hP.to r8.tups0).congr fun j hj => by unfold keptF; rw [if_pos hj]) ((hQ.to r8.tups0).congr fun j hj => by
    unfold keptF; rw [if_neg (by omega), show R.length + j - R.length = j by omega])
  have f1 : ∀ i, i < R.length → Ht (keptF R (tH R.length hh) x s.hs s.sn i) (3 * (2 * c + 2) + 1) := fun i hi => by
    unfold keptF
    rw [if_pos hi]
    obtain ⟨h0, h1⟩ := hok.2 i hi
    have hl := (G.le4 i hi).2
    have := wr_ht (t := tH R.length hh) (x := x) (m := m) hi (G.ents i hi) hx (s.hs.getD i 0).toNat (by omega)
    exact this.mono (by have : (s.hs.getD i 0).toNat * (2 * c + 2) ≤ 3 * (2 * c + 2) := Nat.mul_le_mul_right _ (by omega)
                        omega)
  have f2 : ∀ i, i < s.sn.length → Ht (keptF R (tH R.length hh) x s.hs s.sn (R.length + i)) c := fun i hi => by
    unfold keptF
    rw [if_neg (by omega), show R.length + i - R.length = i by omega]
    obtain ⟨z0, z1⟩ := sn0 i hi
    have := hx (s.sn.getD i 0).toNat (by omega)
    rw [numF_at z0] at this
    exact this
  refine ⟨ll, rfl, pads ++ qads, keptF R (tH R.length hh) x s.hs s.sn, R.length + s.sn.length, C8.get 0 rfl, hall, fun i hi => ?_, fun i hi => ?_, fun tt H9 r9 htt => ?_⟩
  · by_cases q : i < R.length
    · exact (f1 i q).mono (by omega)
    · have := f2 (i - R.length) (by omega)
      rw [show R.length + (i - R.length) = i by omega] at this
      exact this.mono (by omega)
  · have := sum_ht f1 f2 i (by omega)
    refine this.mono ?_
    exact hcc
  · rw [show tot (keptF R (tH R.length hh) x s.hs s.sn) (R.length + s.sn.length) = keptR R (tH R.length hh) x s.hs s.sn from kept_tot] at htt
    exact k tt H9 (C8.ret.trans r9) htt
theorem ok_kept (T : Txt K mg A) (G_need_world : Gd P w K mg base CX0 1 "need_world" ["value", "part"] [.str "world"] (sp_need_world K A)) (G_need_home : Gd P w K mg base CX0 4 "need_home" ["board", "value"] [] (sp_need_home K A)) (G_need_open_n2 : Gd P w K mg base CX0 2 "need_open" ["board", "part"] [] (sp_need_open K A)) (G_numbers_of : Gd P w K mg base CX0 8 "numbers_of" ["board", "home"] [] (sp_numbers_of K A)) (G_World_hands : Gp P w K mg base CX0 1 A.World "hands" ["self"] (sp_World_hands K A)) (G_all_worths : Gd P w K mg base CX0 4 "all_worths" ["board", "numbers"] [] (sp_all_worths K A)) (G_total_of : Gd P w K mg base CX0 3 "total_of" ["fractions"] [] (sp_total_of K A)) (G_World_walkers : Gp P w K mg base CX0 1 A.World "walkers" ["self"] (sp_World_walkers K A)) : Gd P w K mg base CX0 9 "kept" ["world", "home"] [] (sp_kept K A) := by
  obtain ⟨f, fd, F, hm⟩ := T.f_kept
  exact ⟨⟨f, fd, [], fn_kept F T G_need_world G_need_home G_need_open_n2 G_numbers_of G_World_hands G_all_worths G_total_of G_World_walkers, hm, F.kp, F.binds (ps := ["world", "home"]) (fun _ _ _ _ _ _ us hl => match us, hl with | [_, _], _ => rfl), .nil⟩⟩
theorem kw_kept (T : Txt K mg A) (G_need_world : Gd P w K mg base CX0 1 "need_world" ["value", "part"] [.str "world"] (sp_need_world K A)) (G_need_home : Gd P w K mg base CX0 4 "need_home" ["board", "value"] [] (sp_need_home K A)) (G_need_open_n2 : Gd P w K mg base CX0 2 "need_open" ["board", "part"] [] (sp_need_open K A)) (G_numbers_of : Gd P w K mg base CX0 8 "numbers_of" ["board", "home"] [] (sp_numbers_of K A)) (G_World_hands : Gp P w K mg base CX0 1 A.World "hands" ["self"] (sp_World_hands K A)) (G_all_worths : Gd P w K mg base CX0 4 "all_worths" ["board", "numbers"] [] (sp_all_worths K A)) (G_total_of : Gd P w K mg base CX0 3 "total_of" ["fractions"] [] (sp_total_of K A)) (G_World_walkers : Gp P w K mg base CX0 1 A.World "walkers" ["self"] (sp_World_walkers K A)) : GdK P w K mg base CX0 9 "kept" ["world", "home"] ["home", "world"] (fun _ ws => swap2 ws) (fun _ ws => swap2 ws) (sp_kept K A) := by
  obtain ⟨f, fd, F, hm⟩ := T.f_kept
  refine ⟨f, fd, fn_kept F T G_need_world G_need_home G_need_open_n2 G_numbers_of G_World_hands G_all_worths G_total_of G_World_walkers, hm, F.kp, ?_⟩
  obtain ⟨oc, od, kV, doc, pm, an, cdv, ct, osl, rfl, lk, hcd⟩ := F.ex
  exact ⟨fun s us ws X l1 l2 => match us, ws, l1, l2 with | [], [_, _], _, _ => .of_eq rfl, fun r1 r2 => swap2_rel r2⟩
end
end K67

end

section
set_option Elab.async false
set_option linter.all false
set_option maxRecDepth 100000
set_option maxHeartbeats 2000000
namespace K67
open PySem PySem.Spec PyProof.Rows L2 Nd M94 M67
set_option hygiene false
local macro_rules | `(tactic| walk_at "hg") => `(tactic| first | assumption | exact C.get 0 rfl | exact C.get 1 rfl | exact C.get 2 rfl | exact C.get 3 rfl | exact C.get 4 rfl | exact C.get 5 rfl | exact C.get 6 rfl | exact C.get 7 rfl | exact C.get 8 rfl | exact C.get 9 rfl)
local macro_rules | `(tactic| walk_at "rd1") => `(tactic| first
  | with_reducible refine u_seq ?_ | with_reducible refine u_asg ?_ | ((with_reducible refine' u_var ?q7hv ?_); (case q7hv => exact rfl)) | with_reducible refine u_c ?_ | with_reducible refine u_op ?_ | with_reducible refine u_if ?_ | with_reducible refine u_ret ?_
  | with_reducible refine u_test ?_ | with_reducible refine u_tB ?_ | with_reducible refine u_and ?_ | with_reducible refine u_or ?_ | with_reducible refine u_not ?_ | with_reducible refine u_call ?_ | with_reducible refine u_cb ?_ | with_reducible refine u_cons ?_ | with_reducible refine u_nil ?_
  | with_reducible refine u_gname ?_ | with_reducible refine u_gcons ?_ | with_reducible refine u_gnil ?_ | with_reducible refine u_gsub ?_ | with_reducible refine u_lst ?_ | with_reducible refine u_tup ?_ | with_reducible refine u_un ?_ | with_reducible refine u_ifE ?_
  | with_reducible refine u_drop ?_ | with_reducible refine u_next ?_ | with_reducible refine u_retN ?_ | with_reducible refine u_tf ?_ | with_reducible refine u_fld ?_ | with_reducible refine u_gfld ?_ | with_reducible refine u_par ?_ | with_reducible refine u_par3 ?_ | with_reducible refine u_meth ?_ | with_reducible refine u_prop ?_ | with_reducible refine u_make ?_
  | with_reducible refine u_bm ?_ | with_reducible refine u_bm0 ?_ | with_reducible refine u_sl ?_ | with_reducible refine u_noPart ?_ | with_reducible refine u_part ?_ | with_reducible refine u_chain ?_ | with_reducible refine u_andV ?_ | with_reducible refine u_orV ?_ | with_reducible refine u_notV ?_
  | with_reducible refine u_listRg ?_ | with_reducible refine u_rg1 ?_ | with_reducible refine u_lc2 ?_ | with_reducible refine u_enum ?_ | with_reducible refine u_zip ?_ | with_reducible refine u_for ?_ | with_reducible refine u_lc ?_ | with_reducible refine u_rng1 ?_ | with_reducible refine u_rng2 ?_ | with_reducible refine u_yes ?_ | with_reducible refine u_brk ?_ | with_reducible refine u_cont ?_
  | with_reducible refine r_add ?_ | with_reducible refine r_sub ?_ | with_reducible refine r_lt ?_ | with_reducible refine r_le ?_ | with_reducible refine r_gt ?_ | with_reducible refine r_ge ?_ | with_reducible refine r_eqI ?_ | with_reducible refine r_neI ?_ | with_reducible refine r_neg ?_ | with_reducible refine r_int ?_ | with_reducible refine r_intB ?_ | with_reducible refine r_abs ?_ | with_reducible refine r_isNi ?_ | with_reducible refine r_isNn ?_ | with_reducible refine r_isNr ?_ | with_reducible refine r_isNs ?_ | with_reducible refine r_notN ?_
  | ((with_reducible refine' r_ixL ?q7hs ?q7ha ?_); (case q7hs => exact SqL.of (by walk_at "hg")); (case q7ha => first | exact rfl | exact atI_nat (by assumption)))
  | ((with_reducible refine' r_ixT ?q7hs ?q7ha ?_); (case q7hs => exact SqT.of (by walk_at "hg")); (case q7ha => first | exact rfl | exact atI_nat (by assumption)))
  | ((with_reducible refine' r_len ?q7hs ?_); (case q7hs => exact SqL.of (by walk_at "hg")))
  | ((with_reducible refine' r_lenT ?q7hs ?_); (case q7hs => exact SqT.of (by walk_at "hg")))
  | ((with_reducible refine' r_mod ?q7c ?_); (case q7c => first | decide | omega)) | ((with_reducible refine' r_div ?q7c ?_); (case q7c => first | (constructor <;> decide) | (constructor <;> omega)))
  | ((with_reducible refine' r_mul ?q7c ?_); (case q7c => first | exact .inl ⟨by omega, by omega⟩ | exact .inr ⟨by omega, by omega⟩))
  | ((with_reducible refine' r_pow ?q7c ?_); (case q7c => exact ⟨by omega, by omega, by omega⟩))
  | with_reducible refine b_nT ?_ | with_reducible refine b_nF ?_ | with_reducible refine iteF ?_ | with_reducible refine iteT ?_
  | with_reducible refine k_blA ?_ | with_reducible refine k_int ?_ | with_reducible refine k_two ?_ | with_reducible refine k_three ?_
  | ((with_reducible refine' k_size ?q7hn ?_); (case q7hn => exact Nat.le_of_ble_eq_true rfl))
  | ((with_reducible refine' k_fld ?q7ha ?q7c ?q7n ?q7hl ?_); (case q7ha => walk_at "hg"); (case q7c => walk_at "cls"); (case q7n => walk_at "att"); (case q7hl => exact rfl))
  | ((with_reducible refine' k_put ?q7ha ?q7c ?q7n ?q7hl ?_); (case q7ha => walk_at "hg"); (case q7c => walk_at "cls"); (case q7n => walk_at "att"); (case q7hl => first | decide | exact Nat.lt_of_lt_of_le (Nat.lt_succ_self _) (Nat.le_of_ble_eq_true rfl)))
  | ((with_reducible refine' k_meth ?q7ha ?q7hl ?_); (case q7ha => walk_at "hg"); (case q7hl => exact rfl))
  | ((with_reducible refine' k_prop ?q7ha ?_); (case q7ha => walk_at "hg")))
local macro_rules | `(tactic| walk_at "rd") => `(tactic| repeat walk_at "rd1")
local macro_rules | `(tactic| walk_at "cls") => `(tactic| first | exact T.c_Board | exact T.c_World)
local macro_rules | `(tactic| walk_at "att") => `(tactic| first | exact T.n_Board_homes | exact T.n_Board_places | exact T.n_Board_rows | exact T.n_World_board | exact T.n_World_shown | exact T.n_World_standing | exact T.n_World_won | exact T.n_World_steps)

local macro_rules | `(tactic| walk_at "rdp") => `(tactic| repeat (first | walk_at "rd1" | ((with_reducible refine' r_num ?q7h ?_); (case q7h => assumption)) | ((with_reducible refine' r_den ?q7h ?_); (case q7h => assumption))))
def sp_l_chances (K : PySem.W.Frag) (A : Adr) : Sp := fun vs H Q E => ∃ (r : Addr) (m : Nat), vs = [.ref r, .int m] ∧ ∃ (ads : List Addr) (R : Rows) (rk gd : Nat → Nat), H r = some (.lst (ads.map V.ref)) ∧ RowsAt H ads R ∧ Good R m rk gd ∧ m ≤ 60 ∧
  ∀ (u tl ll : Addr) (rads lads : List Addr) (H' : Hp), Ret [] H H' → H u = none → H tl = none → H ll = none → H' u = some (.tup [.ref tl, .ref ll]) → H' tl = some (.lst (rads.map V.ref)) → TabP K H' rads (fun p j => share R j p) R.length m → tl ∉ rads → (∀ x ∈ rads, H x = none) →
    H' ll = some (.lst (lads.map V.ref)) → PrL K H' lads (lasR (chL R R.length) (chD R R.length)) R.length → Q (.ref u) H'
theorem short_rep (c : Nat) : (List.replicate c (1 : Int)).map V.int ++ [V.int 1] = (List.replicate (c + 1) (1 : Int)).map V.int := by rw [List.replicate_succ', List.map_append]; rfl
theorem fresh_all {H H' : Hp} (r : Ret [] H H') {rads : List Addr} (h : ∀ x ∈ rads, H' x = none) : ∀ x ∈ rads, H x = none := fun x hx => by
  cases e : H x with
  | none => rfl
  | some u => exact absurd (h x hx) (r.keep x (by rw [e]; simp))
section
variable {P : Program} {w : World} {K : PySem.W.Frag} {mg : Str → Option Value} {base : Heap} {A : Adr}
theorem ok_l_chances (T : Txt K mg A) (G_l_short : Gd P w K mg base CX0 1 "_law_short" ["_law_up", "_law_down"] [] (sp_l_short K A)) (G_l_less : Gd P w K mg base CX0 2 "_law_less" ["_law_one_here", "_law_other"] [] (sp_l_less K A)) (G_l_by : Gd P w K mg base CX0 2 "_law_by" ["_law_one_here", "_law_other"] [] (sp_l_by K A)) (G_l_plus : Gd P w K mg base CX0 2 "_law_plus" ["_law_one_here", "_law_other"] [] (sp_l_plus K A)) : Gd P w K mg base CX0 3 "_law_chances" ["_law_rows_here", "_law_homes"] [] (sp_l_chances K A) := by
  obtain ⟨f, fd, F, hm⟩ := T.f_l_chances
  refine ⟨⟨f, fd, [], ?_, hm, F.kp, F.binds (ps := ["_law_rows_here", "_law_homes"]) (fun _ _ _ _ _ _ us hl => match us, hl with | [_, _], _ => rfl), .nil⟩⟩
  refine F.ok sc_l_chances (fun vs H Q E h => by first | (obtain ⟨rfl, _⟩ := h; rfl) | (obtain ⟨_, rfl, _⟩ := h; rfl) | (obtain ⟨_, _, rfl, _⟩ := h; rfl) | (obtain ⟨_, _, _, rfl, _⟩ := h; rfl) | (obtain ⟨_, _, _, _, rfl, _⟩ := h; rfl) | (obtain ⟨_, _, _, _, _, rfl, _⟩ := h; rfl) | (obtain ⟨_, _, _, _, _, _, rfl, _⟩ := h; rfl) | (obtain ⟨_, _, _, _, _, _, _, rfl, _⟩ := h; rfl)) (fun cdv A' outer s H vs Q E hr h => ⟨_, (pss_cons (ps_set (i := 2) sc_l_chances.nd rfl (.inr rfl) (pe_callB (call_lenK K) (by rfl) T.b_len PySem.boot_len (pa_cons (pv 0) pa_nil)))
      (pss_cons (ps_par (i := 5) (j := 6) (by rfl) sc_l_chances.nd rfl rfl (by decide) rfl rfl (pa_cons (pe_lst pa_nil) (pa_cons (pe_op op_mulU (pe_lst (pa_cons (pe_tup (pa_cons pe_int (pa_cons pe_int pa_nil))) pa_nil)) (pv 2)) pa_nil)) (by rfl))
      (pss_cons (ps_for PassesOwn.never rfl (pi_seqK K (pv 0)) (pg_name (i := 3) sc_l_chances.nd rfl (.inr rfl)) (pss_one (ps_expr (pe_bmK K PySem.F.plainAttrs_list PySem.F.slot_list_append PySem.F.type_list_append mt_append (pv 5) (pa_cons (pe_lc (own := [("_law_entry", 11)]) rfl sc_l_chances.nd (pi_range1 (by rfl) T.b_range (pa_cons (pe_op op_addU (pv 2) (pv 1)) pa_nil)) (blkOk_by (N := N_l_chances) (sc := defScope s_l_chances) (own := [("_law_entry", 11)]) (by decide +kernel)) (fun _ _ _ _ _ => (pg_name (i := 11) sc_l_chances.nd rfl (by first | exact .inl rfl | exact .inr rfl))) (fun _ _ _ _ _ => pts_nil) (fun _ _ _ _ _ => (pe_callG G_l_short (hr.mono (by decide)) (by rfl) pass0 (pa_cons (pe_callB (call_lenK K) (by rfl) T.b_len PySem.boot_len (pa_cons (pe_lc (own := [("_law_each", 14)]) rfl sc_l_chances.nd (pi_seqK K (pv 3)) (blkOk_by (own := [("_law_each", 14)]) (by kernel_rfl)) (fun _ _ _ _ _ => (pg_name (i := 14) sc_l_chances.nd rfl (by first | exact .inl rfl | exact .inr rfl))) (fun _ _ _ _ _ => (pts_one (pt_cmpR (op_eqK K hr.units) (pv 14) (pv 11) (nomark _)))) (fun _ _ _ _ _ => pe_int)) pa_nil)) (pa_cons (pe_callB (call_lenK K) (by rfl) T.b_len PySem.boot_len (pa_cons (pv 3) pa_nil)) pa_nil))))) pa_nil)))))
      (pss_cons (ps_for PassesOwn.never rfl (pi_range1 (by rfl) T.b_range (pa_cons (pv 2) pa_nil)) (pg_name (i := 4) sc_l_chances.nd rfl (.inr rfl)) (pss_cons (ps_set (i := 7) sc_l_chances.nd rfl (.inr rfl) (pe_callG G_l_less (hr.mono (by decide)) (by rfl) pass0 (pa_cons (pe_tup (pa_cons pe_int (pa_cons pe_int pa_nil))) (pa_cons (pe_ix (ix_seqK K) (pe_ix (ix_seqK K) (pv 5) (pv 4) (fun _ _ => rfl)) (pv 4) (fun _ _ => rfl)) pa_nil))))
      (pss_cons (ps_set (i := 7) sc_l_chances.nd rfl (.inr rfl) (pe_tup (pa_cons (pe_ix (ix_seqK K) (pv 7) pe_int (fun _ _ => rfl)) (pa_cons (pe_ix (ix_seqK K) (pv 7) pe_int (fun _ _ => rfl)) pa_nil))))
      (pss_cons (ps_setLc (i := 8) (own := [("_law_entry", 11), ("_law_share", 10)]) rfl sc_l_chances.nd rfl rfl (sw_true rfl rfl rfl (by decide +kernel)) (pi_enumK K false (by rfl) T.b_enumerate (pa_cons (pe_ix (ix_seqK K) (pv 5) (pv 4) (fun _ _ => rfl)) pa_nil)) (blkOk_by (N := N_l_chances) (sc := defScope s_l_chances) (own := [("_law_entry", 11), ("_law_share", 10)]) (by decide +kernel)) (fun _ _ _ _ _ => (pg_tupK K (n := 2) rfl (pgs_cons (pg_name (i := 11) sc_l_chances.nd rfl (by first | exact .inl rfl | exact .inr rfl)) (pgs_cons (pg_name (i := 10) sc_l_chances.nd rfl (by first | exact .inl rfl | exact .inr rfl)) pgs_nil)))) (fun _ _ _ _ _ => pts_nil) (fun _ _ _ _ _ => (pe_ifExp (pt_cmpR (op_eqK K hr.units) (pv 11) (pv 4) (nomark _)) (pe_tup (pa_cons pe_int (pa_cons pe_int pa_nil))) (pe_callG G_l_by (hr.mono (by decide)) (by rfl) pass0 (pa_cons (pv 7) (pa_cons (pv 10) pa_nil))))))
      (pss_cons (ps_asg (pe_tup (pa_cons (pv 8) (pa_cons (pe_callG G_l_by (hr.mono (by decide)) (by rfl) pass0 (pa_cons (pv 7) (pa_cons (pe_ix (ix_seqK K) (pv 6) (pv 4) (fun _ _ => rfl)) pa_nil))) pa_nil))) (pg_tupK K (n := 2) rfl (pgs_cons (pg_sub (pv 5) (pv 4) set_list) (pgs_cons (pg_sub (pv 6) (pv 4) set_list) pgs_nil))))
      (pss_one (ps_for PassesOwn.never rfl (pi_range1 (by rfl) T.b_range (pa_cons (pv 2) pa_nil)) (pg_name (i := 9) sc_l_chances.nd rfl (.inl rfl)) (pss_cons (ps_set (i := 10) sc_l_chances.nd rfl (.inr rfl) (pe_ix (ix_seqK K) (pe_ix (ix_seqK K) (pv 5) (pv 9) (fun _ _ => rfl)) (pv 4) (fun _ _ => rfl)))
      (pss_one (ps_if (PW.pt (pw_and (pt_cmpR (op_neK K hr.units) (pv 9) (pv 4) (nomark _)) (pw_and1 (pt_cmpR op_gtI (pe_ix (ix_seqK K) (pv 10) pe_int (fun _ _ => rfl)) pe_int (nomark _))))) (pss_cons (ps_asg (pe_lc (own := [("_law_mine", 12), ("_law_its", 13)]) rfl sc_l_chances.nd (pi_zipK K false false (by rfl) T.b_zip (pa_cons (pe_ix (ix_seqK K) (pv 5) (pv 9) (fun _ _ => rfl)) (pa_cons (pv 8) pa_nil))) (blkOk_by (N := N_l_chances) (sc := defScope s_l_chances) (own := [("_law_mine", 12), ("_law_its", 13)]) (by decide +kernel)) (fun _ _ _ _ _ => (pg_tupK K (n := 2) rfl (pgs_cons (pg_name (i := 12) sc_l_chances.nd rfl (by first | exact .inl rfl | exact .inr rfl)) (pgs_cons (pg_name (i := 13) sc_l_chances.nd rfl (by first | exact .inl rfl | exact .inr rfl)) pgs_nil)))) (fun _ _ _ _ _ => pts_nil) (fun _ _ _ _ _ => (pe_callG G_l_plus (hr.mono (by decide)) (by rfl) pass0 (pa_cons (pv 12) (pa_cons (pe_callG G_l_by (hr.mono (by decide)) (by rfl) pass0 (pa_cons (pv 10) (pa_cons (pv 13) pa_nil))) pa_nil))))) (pg_name (i := 3) sc_l_chances.nd rfl (.inr rfl)))
      (pss_cons (ps_asg (pe_tup (pa_cons pe_int (pa_cons pe_int pa_nil))) (pg_sub (pv 3) (pv 4) set_list))
      (pss_one (ps_asg (pe_tup (pa_cons (pv 3) (pa_cons (pe_callG G_l_plus (hr.mono (by decide)) (by rfl) pass0 (pa_cons (pe_ix (ix_seqK K) (pv 6) (pv 9) (fun _ _ => rfl)) (pa_cons (pe_callG G_l_by (hr.mono (by decide)) (by rfl) pass0 (pa_cons (pv 10) (pa_cons (pe_ix (ix_seqK K) (pv 6) (pv 4) (fun _ _ => rfl)) pa_nil))) pa_nil))) pa_nil))) (pg_tupK K (n := 2) rfl (pgs_cons (pg_sub (pv 5) (pv 9) set_list) (pgs_cons (pg_sub (pv 6) (pv 9) set_list) pgs_nil))))))) pss_nil))))))))))
      (pss_one (ps_ret (pe_tup (pa_cons (pe_lc (own := [("_law_row", 3)]) rfl sc_l_chances.nd (pi_seqK K (pv 5)) (blkOk_by (N := N_l_chances) (sc := defScope s_l_chances) (own := [("_law_row", 3)]) (by decide +kernel)) (fun _ _ _ _ _ => (pg_name (i := 3) sc_l_chances.nd rfl (by first | exact .inl rfl | exact .inr rfl))) (fun _ _ _ _ _ => pts_nil) (fun _ _ _ _ _ => (pe_slice (sl_listK K) (pv 3) (po_some (pv 2)) po_none))) (pa_cons (pv 6) pa_nil))))))))), ?_⟩)
  obtain ⟨r, m, rfl, ads, R, rk, gd, hr0, hR, G, m60, k⟩ := h
  have n5 := G.n5
  have hrl : (ads.map V.ref).length = R.length := by rw [len_ref, hR.1]
  have C : Cur H [] H [(r, .lst (ads.map V.ref))] := Cur.start (by simp) (by simp [hr0])
  walk_at "rd"
  rw [hrl]
  refine new_c C fun tl H1 tl0 C => ?_
  walk_at "rd"
  refine new_c C fun u1 H2 u10 C => ?_
  walk_at "rd"
  refine new_c C fun l1 H3 l10 C => ?_
  walk_at "rd"
  refine r_rep (C.get 0 rfl) (by omega) (by omega) (by simp) ?_
  refine new_c C fun ll H4 ll0 C => ?_
  rw [Int.toNat_natCast, rep_flat] at C
  walk_at "rd"
  have htl4 : tl ≠ ll := C.ne 3 0 rfl rfl (by decide)
  have hu1 : PrA K H4 u1 1 := .inl (C.get 2 rfl)
  have C4 : Cur H [] H4 [(tl, .lst (([] : List Addr).map V.ref)), (ll, .lst ((List.replicate R.length u1).map V.ref)), (r, .lst (ads.map V.ref))] := C.pick [3, 0, 4] (by decide)
  clear C
  refine u_sseqL ?_
  walk_at "rd"
  refine k_seqL (SqL.of (C4.get 2 rfl)) ?_
  have hlas0 : PrL K H4 (List.replicate R.length u1) (lasR (chL R 0) (chD R 0)) R.length := PrL.rep fun i hi => by
    have : lasR (chL R 0) (chD R 0) i = 1 := Rat.mul_inv_cancel _ (cast_ne ((tab_start G).pos (by omega) hi))
    rw [this]; exact hu1
  refine for_l (xs := ads.map V.ref) (fun i σ H' => ∃ (rads : List Addr) (o3 : Option V), σ = [some (.ref r), some (.int m), some (.int R.length), o3, none, some (.ref tl), some (.ref ll), none, none, none, none, none, none, none, none] ∧ TabP K H' rads (tabR (chA R 0) (chD R 0)) i (R.length + m) ∧ tl ∉ rads ∧ ll ∉ rads ∧ (∀ x ∈ rads, H x = none) ∧
    PrL K H' (List.replicate R.length u1) (lasR (chL R 0) (chD R 0)) R.length ∧ Cur H [] H' [(tl, .lst (rads.map V.ref)), (ll, .lst ((List.replicate R.length u1).map V.ref)), (r, .lst (ads.map V.ref))]) ?_ ?_ ?_ ?_
  · exact ⟨[], none, rfl, .nil, by simp, by simp, by simp, hlas0, C4⟩
  · rintro i σ H' hi ⟨rads, o3, rfl, hT, hD, hL, hf, hP, C⟩
    exact SqL.of (C.get 2 rfl)
  · rintro i x σ H' hx ⟨rads, o3, rfl, hT, hD, hL, hf, hP, C⟩
    obtain ⟨ar, har, rfl⟩ := refOf hx
    have hin : i < R.length := by rw [← hR.1]; exact (List.getElem?_eq_some_iff.mp har).1
    have harr : H ar = some (.lst ((row R i).map V.int)) := hR.2 i ar har
    obtain ⟨g1, g4⟩ := G.le4 i hin
    walk_at "rd"
    refine ⟨ty_list (C.get 0 rfl), ?_⟩
    walk_at "rd"
    refine k_rng1 (j := (R.length : Int) + m) (by omega) (by omega) ?_
    refine lc_r (C.again (S1 := [])) (fun D j H5 => ∃ pads, PrL K H5 pads (tabR (chA R 0) (chD R 0) i) j ∧ Cur H' [] H5 [(D, .lst (pads.map V.ref)), (tl, .lst (rads.map V.ref)), (ll, .lst ((List.replicate R.length u1).map V.ref)), (r, .lst (ads.map V.ref))])
      (fun D H1 D0 C => ⟨[], .nil, C⟩) ?_ ?_
    · rintro D j H5 D0 hj ⟨pads, hQ, C5⟩
      have hj2 : j < R.length + m := by omega
      rw [show (0 : Int) + (j : Int) = j by omega]
      have harr5 : H5 ar = some (.lst ((row R i).map V.int)) := (C.ret.trans C5.ret).fr _ _ harr (by simp)
      walk_at "rd"
      refine ⟨rfl, ?_⟩
      walk_at "rd"
      refine u_sseqL ?_
      walk_at "rd"
      refine k_seqL (SqL.of harr5) ?_
      refine lc_l (xs := (row R i).map V.int) (C5.again (S1 := [])) (fun D2 q H6 => Cur H5 [] H6 [(D2, .lst ((List.replicate (((row R i).take q).countP (eqI j)) (1 : Int)).map V.int)), (D, .lst (pads.map V.ref)), (tl, .lst (rads.map V.ref)), (ll, .lst ((List.replicate R.length u1).map V.ref)), (r, .lst (ads.map V.ref))])
        (fun D H1 D0 C => C) (fun D q H6 hi C => SqL.of (C.ret.fr _ _ harr5 (by simp))) ?_ ?_
      · rintro D2 q y H6 D20 hy C6
        obtain ⟨z, hz, rfl⟩ := int_of hy
        walk_at "rd"
        refine ⟨rfl, ?_⟩
        walk_at "rd"
        have hc : ((row R i).take q).countP (eqI j) ≤ 4 := Nat.le_trans List.countP_le_length (by rw [List.length_take]; omega)
        refine b_dec (fun he => ?_) (fun he => ?_)
        · walk_at "rd"
          refine k_acc (C6.get 0 rfl) (by rw [len_map, List.length_replicate]; omega) ?_
          refine mod_c C6 0 rfl (.inr D20) fun H7 C7 => ?_
          rw [Nd.take_one hz, List.countP_append, List.countP_cons_of_pos (by simp [eqI, he]), List.countP_nil, Nat.zero_add, ← short_rep]
          exact C7
        · rw [Nd.take_one hz, List.countP_append, List.countP_cons_of_neg (by simp [eqI, he]), List.countP_nil, Nat.add_zero]
          exact C6
      · rintro D2 H6 D20 C6
        rw [len_map, List.take_length] at C6
        walk_at "rd"
        have harr6 : H6 ar = some (.lst ((row R i).map V.int)) := C6.ret.fr _ _ harr5 (by simp)
        refine r_len (SqL.of (C6.get 0 rfl)) ?_
        walk_at "rd"
        rw [len_map, List.length_replicate, len_map]
        refine ⟨_, _, rfl, by omega, ?_, fun t H7 r7 t0 e7 => ?_⟩
        · rw [Int.natAbs_natCast]
          exact Nat.lt_of_le_of_lt g4 (show 4 < 2 ^ 9000 from Nat.lt_of_lt_of_le (show 4 < 2 ^ 3 by decide) (Nat.pow_le_pow_right (by decide) (by decide)))
        have C7 := C6.call0 r7
        have C57 := C5.and C7
        have t57 : Tups H5 H7 := C7.ret.tups0
        refine k_acc (C57.get 1 rfl) (by rw [len_ref, hQ.1]; omega) ?_
        refine mod_r C57 1 rfl (.inr D0) fun H8 C8 r8 => ?_
        have t8 : Tups H7 H8 := r8.tupsL (C57.get 1 rfl)
        rw [app_ref] at C8
        refine ⟨_, (hQ.to (t57.trans t8)).snoc (PrA.res (t8 _ _ e7) ?_), C8.pick [1, 2, 3, 4] (by decide)⟩
        show tabR (cntA R) (lenD R) i j = _
        unfold tabR
        rw [q_div]; rfl
    · rintro D H5 D0 ⟨pads, hQ, C5⟩
      rw [show ((R.length : Int) + m).toNat = R.length + m by omega] at hQ
      have hT5 := TabP.to0 hT C5.ret
      have hP5 := hP.to C5.ret.tups0
      have hDD : D ≠ tl := C5.ne 0 1 rfl rfl (by decide)
      have hDL : D ≠ ll := C5.ne 0 2 rfl rfl (by decide)
      have D00 := C.fresh D0
      have C5 := C.and C5
      walk_at "rd"
      refine r_app (C5.get 1 rfl) (by rw [len_ref, hT.1]; omega) ?_
      refine mod_r C5 1 rfl (.inr tl0) fun H6 C6 r6 => ?_
      walk_at "rd"
      rw [app_ref] at C6
      have t6 : Tups H5 H6 := r6.tupsL (C5.get 1 rfl)
      refine ⟨rads ++ [D], _, rfl, (TabP.list hT5 r6 (C5.get 1 rfl) hD).snoc ⟨pads, C6.get 0 rfl, hQ.to t6⟩, notSeg hD hDD, notSeg hL hDL, fun y hy => ?_, hP5.to t6, C6.pick [1, 2, 3] (by decide)⟩
      rcases List.mem_append.mp hy with q | q
      · exact hf y q
      · rw [List.mem_singleton.mp q]; exact D00
  · rintro σ H' ⟨rads, o3, rfl, hT, hD, hL, hf, hP, C⟩
    rw [len_ref, hR.1] at hT
    have C : Cur H [] H' [(tl, .lst (rads.map V.ref)), (ll, .lst ((List.replicate R.length u1).map V.ref))] := C.pick [0, 1] (by decide)
    generalize List.replicate R.length u1 = lads at *
    walk_at "rd"
    refine k_rng1 (j := (R.length : Int)) (by omega) (by omega) ?_
    refine for_r (fun g σ H' => ∃ (rads lads : List Addr) (o3 o4 o7 o8 o9 o10 : Option V), σ = [some (.ref r), some (.int m), some (.int R.length), o3, o4, some (.ref tl), some (.ref ll), o7, o8, o9, o10, none, none, none, none] ∧ TabP K H' rads (tabR (chA R g) (chD R g)) R.length (R.length + m) ∧ tl ∉ rads ∧ ll ∉ rads ∧ (∀ x ∈ rads, H x = none) ∧
      PrL K H' lads (lasR (chL R g) (chD R g)) R.length ∧ Cur H [] H' [(tl, .lst (rads.map V.ref)), (ll, .lst (lads.map V.ref))]) ?_ ?_ ?_
    · exact ⟨rads, lads, _, _, _, _, _, _, rfl, hT, hD, hL, hf, hP, C⟩
    · rintro g σ H5 hg ⟨rads, lads, o3, o4, o7, o8, o9, o10, rfl, hT, hD, hL, hf, hP, C⟩
      obtain ⟨T, S, _⟩ := ch_tab G g (by omega)
      have hnw : R.length ≤ R.length + m := by omega
      have hrl5 := hT.1
      have hll5 := hP.1
      obtain ⟨f1, f2⟩ := five (show g ≤ 5 by omega)
      have hTht : ∀ p e, p < R.length → e < R.length + m → Ht (tabR (chA R g) (chD R g) p e) 65 := fun p e hp he => (S.tab T hnw hp he).mono (by omega)
      have hLht : ∀ p, p < R.length → Ht (lasR (chL R g) (chD R g) p) 140 := fun p hp => (S.las T hnw hp).mono (by omega)
      have T1 := T.out hnw hg
      have S1 := S.out T hnw hg
      obtain ⟨f3, f4⟩ := five (show g + 1 ≤ 5 by omega)
      have hTht1 : ∀ p e, p < R.length → e < R.length + m → Ht (tabR (chA R (g + 1)) (chD R (g + 1)) p e) 65 := fun p e hp he => (S1.tab T1 hnw hp he).mono (by omega)
      have hLht1 : ∀ p, p < R.length → Ht (lasR (chL R (g + 1)) (chD R (g + 1)) p) 140 := fun p hp => (S1.las T1 hnw hp).mono (by omega)
      have hby := by_num T hnw hg
      have hbyh := by_ht S T hnw hg (by omega)
      obtain ⟨ib1, ib2⟩ := inv_num hby
      rw [show (0 : Int) + (g : Int) = g by omega]
      obtain ⟨rg, hrg, gads, hg1, hg2⟩ := hT.get hg
      obtain ⟨pg, hpg, hpp⟩ := hg2.get (show g < R.length + m by omega)
      walk_at "rd"
      refine new_r C fun c1 H6 c10 c100 C6 r6 => ?_
      walk_at "rd"
      refine r_ixL (SqL.of (C6.get 1 rfl)) (atRn hrg) ?_
      walk_at "rd"
      refine r_ixL (SqL.of (r6.fr _ _ hg1 (by simp))) (atRn hpg) ?_
      walk_at "rd"
      have hpp6 := hpp.to r6.tups0
      refine ⟨c1, pg, rfl, 1, _, .inl (C6.get 0 rfl), hpp6, ⟨(show Ht 1 1 from ⟨by decide, by decide⟩).mono (by decide), (hTht g g hg (by omega)).mono (by decide)⟩, fun c2 H7 r7 c20 e7 => ?_⟩
      have C7 := C6.call0 r7
      have hq7 : PrA K H7 c2 (1 + -(tabR (chA R g) (chD R g) g g)) := .of e7
      walk_at "rd"
      refine new_r C7 fun by_ H8 by0 by00 C8 r8 => ?_
      walk_at "rd"
      have hbp8 : PrA K H8 by_ (1 + -(tabR (chA R g) (chD R g) g g))⁻¹ := PrA.mk (C8.get 0 rfl) ib1.symm ib2.symm
      have r58 : Ret [] H5 H8 := (r6.trans r7).trans r8
      have C8 : Cur H [] H8 [(tl, .lst (rads.map V.ref)), (ll, .lst (lads.map V.ref))] := C8.pick [2, 3] (by decide)
      have hT8 := TabP.to0 hT r58
      have hP8 := hP.to r58.tups0
      have hg8 : H8 rg = some (.lst (gads.map V.ref)) := r58.fr _ _ hg1 (by simp)
      have hg28 := hg2.to r58.tups0
      clear hT hP hg1 hg2 hpp hpp6 hq7 r6 r7 r8 e7 C6 C7 C
      refine r_ixL (SqL.of (C8.get 0 rfl)) (atRn hrg) ?_
      refine k_enum (k := false) (SqL.of hg8) ?_
      refine lc_e (k := false) (xs := gads.map V.ref) (C8.again (S1 := [])) (fun D j H' => ∃ pads, PrL K H' pads (tabR (chA R (g + 1)) (chD R (g + 1)) g) j ∧ Cur H8 [] H' [(D, .lst (pads.map V.ref)), (tl, .lst (rads.map V.ref)), (ll, .lst (lads.map V.ref))])
        (fun D H1 D0 C => ⟨[], .nil, C⟩) (fun D i H' hi h => by obtain ⟨pads, hQ, C⟩ := h; exact SqL.of (C.ret.fr _ _ hg8 (by simp))) ?_ ?_
      · rintro D j x H9 D0 hx ⟨pads, hQ, C9⟩
        obtain ⟨xa, hxa, rfl⟩ := refOf hx
        have hj : j < R.length + m := by rw [← hg28.1]; exact (List.getElem?_eq_some_iff.mp hxa).1
        refine new_r C9 fun u H10 u0 u00 C10 r10 => ?_
        refine u_gtup (SqT.of (C10.get 0 rfl)) rfl ?_
        walk_at "rd"
        refine ⟨rfl, ?_⟩
        walk_at "rd"
        have eown := own_val (e := j) T hnw hg
        refine b_dec (fun he => ?_) (fun he => ?_)
        · have he' : j = g := by omega
          rw [if_pos he'] at eown
          walk_at "rd"
          refine new_r C10 fun v H11 v0 v00 C11 r11 => ?_
          refine k_acc (C11.get 2 rfl) (by rw [len_ref, hQ.1]; omega) ?_
          refine mod_r C11 2 rfl (.inr D0) fun H12 C12 r12 => ?_
          have t12 : Tups H11 H12 := r12.tupsL (C11.get 2 rfl)
          rw [app_ref] at C12
          refine ⟨_, (hQ.to ((r10.tups0.trans r11.tups0).trans t12)).snoc (PrA.res (q := 0) (t12 _ _ (C11.get 0 rfl)) eown), C12.pick [2, 3, 4] (by decide)⟩
        · have he' : j ≠ g := by omega
          rw [if_neg he'] at eown
          walk_at "rd"
          refine ⟨by_, xa, rfl, _, _, hbp8.to C10.ret.tups0, (hg28.2 j xa hxa).to C10.ret.tups0, ⟨hbyh.mono (by decide), (hTht g j hg hj).mono (by decide)⟩, fun v H11 r11 v0 e11 => ?_⟩
          have C11 := C10.call0 r11
          refine k_acc (C11.get 1 rfl) (by rw [len_ref, hQ.1]; omega) ?_
          refine mod_r C11 1 rfl (.inr D0) fun H12 C12 r12 => ?_
          have t12 : Tups H11 H12 := r12.tupsL (C11.get 1 rfl)
          rw [app_ref] at C12
          refine ⟨_, (hQ.to ((r10.tups0.trans r11.tups0).trans t12)).snoc (PrA.res (t12 _ _ e11) eown), C12.drop⟩
      rintro ow H9 ow0 ⟨oads, hO, C9⟩
      rw [len_ref, hg28.1] at hO
      have r89 : Ret [] H8 H9 := C9.ret
      have ow00 := C8.fresh ow0
      have hT9 := TabP.to0 hT8 r89
      have hP9 := hP8.to r89.tups0
      have hbp9 := hbp8.to r89.tups0
      have howT : ow ∉ rads := TabP.there hT8 ow0
      have C9 := C8.and C9
      clear hT8 hP8 hbp8 hg8 hg28 C8
      obtain ⟨lg, hlg, hlp⟩ := hP9.get hg
      walk_at "rd"
      refine r_ixL (SqL.of (C9.get 2 rfl)) (atRn hlg) ?_
      walk_at "rd"
      refine ⟨by_, lg, rfl, _, _, hbp9, hlp, ⟨hbyh.mono (by decide), (hLht g hg).mono (by decide)⟩, fun nl H10 r10 nl0 e10 => ?_⟩
      have C10 := C9.call0 r10
      walk_at "rd"
      refine new_r C10 fun u H11 u0 u00 C11 r11 => ?_
      refine u_gtup (SqT.of (C11.get 0 rfl)) rfl ?_
      walk_at "rd"
      refine r_setL (C11.get 2 rfl) (ixN_of (by omega) (by rw [len_ref, hrl5]; omega)) ?_
      refine mod_r C11 2 rfl (.inr tl0) fun H12 C12 r12 => ?_
      walk_at "rd"
      refine r_setL (C12.get 3 rfl) (ixN_of (by omega) (by rw [len_ref, hll5]; omega)) ?_
      refine mod_r C12 3 rfl (.inr ll0) fun H13 C13 r13 => ?_
      walk_at "rd"
      rw [Int.toNat_natCast, set_ref, set_ref] at C13
      have t12 : Tups H11 H12 := r12.tupsL (C11.get 2 rfl)
      have t13 : Tups H12 H13 := r13.tupsL (C12.get 3 rfl)
      have t913 : Tups H9 H13 := ((r10.tups0.trans r11.tups0).trans t12).trans t13
      have howtl : ow ≠ tl := C11.ne 1 2 rfl rfl (by decide)
      have howll : ow ≠ ll := C11.ne 1 3 rfl rfl (by decide)
      have hO13 := hO.to t913
      have how13 : H13 ow = some (.lst (oads.map V.ref)) := C13.get 1 rfl
      have hnl13 : PrA K H13 nl (lasR (chL R (g + 1)) (chD R (g + 1)) g) := PrA.res (((r11.tups0.trans t12).trans t13) _ _ e10) (las_own T hnw hg)
      have hT13 : TabP K H13 (rads.set g ow) (mix g 0 (tabR (chA R (g + 1)) (chD R (g + 1))) (tabR (chA R g) (chD R g))) R.length (R.length + m) :=
        (TabP.list (TabP.list (TabP.to0 (TabP.to0 hT9 r10) r11) r12 (C11.get 2 rfl) hD) r13 (C12.get 3 rfl) hL).set ⟨oads, how13, hO13.congr fun j _ => by rw [mix_g]⟩ fun p hp _ j _ => by rw [mix_0 hp]
      have hP13 : PrL K H13 (lads.set g nl) (mix g 0 (lasR (chL R (g + 1)) (chD R (g + 1))) (lasR (chL R g) (chD R g))) R.length := (hP9.to t913).set (by rw [mix_g]; exact hnl13) fun j hj _ => mix_0 hj
      have hf13 : ∀ x ∈ rads.set g ow, H x = none := fun x hx => by
        rcases Nd.mem_set hx with q | q
        · exact hf x q
        · rw [q]; exact ow00
      have hD13 : tl ∉ rads.set g ow := notSet hD howtl
      have hL13 : ll ∉ rads.set g ow := notSet hL howll
      have C13 : Cur H [] H13 [(tl, .lst ((rads.set g ow).map V.ref)), (ll, .lst ((lads.set g nl).map V.ref)), (ow, .lst (oads.map V.ref))] := C13.pick [2, 3, 1] (by decide)
      have hrl13 : (rads.set g ow).length = R.length := hT13.1
      have hgrow : (rads.set g ow)[g]? = some ow := List.getElem?_set_self (by rw [hrl5]; exact hg)
      clear hT9 hP9 hbp9 C9 C10 C11 C12 hO hnl13 hP hD hL hf how13
      generalize rads.set g ow = rads13 at *
      generalize lads.set g nl = lads13 at *
      refine k_rng1 (j := (R.length : Int)) (by omega) (by omega) ?_
      refine for_r (fun pl σ H' => ∃ (rads lads : List Addr) (o3 o9 o10 : Option V), σ = [some (.ref r), some (.int m), some (.int R.length), o3, some (.int g), some (.ref tl), some (.ref ll), some (.ref by_), some (.ref ow), o9, o10, none, none, none, none] ∧
        TabP K H' rads (mix g pl (tabR (chA R (g + 1)) (chD R (g + 1))) (tabR (chA R g) (chD R g))) R.length (R.length + m) ∧ tl ∉ rads ∧ ll ∉ rads ∧ (∀ x ∈ rads, H x = none) ∧
        PrL K H' lads (mix g pl (lasR (chL R (g + 1)) (chD R (g + 1))) (lasR (chL R g) (chD R g))) R.length ∧ PrL K H' oads (tabR (chA R (g + 1)) (chD R (g + 1)) g) (R.length + m) ∧ Cur H [] H' [(tl, .lst (rads.map V.ref)), (ll, .lst (lads.map V.ref)), (ow, .lst (oads.map V.ref))]) ?_ ?_ ?_
      · exact ⟨rads13, lads13, _, _, _, rfl, hT13, hD13, hL13, hf13, hP13, hO13, C13⟩
      · rintro pl σ H14 hpl ⟨rads, lads, o3, o9, o10, rfl, hT, hD, hL, hf, hP, hO, C⟩
        rw [show (0 : Int) + (pl : Int) = pl by omega]
        have hrl14 := hT.1
        have hll14 := hP.1
        obtain ⟨ra, hra, hra2⟩ := hT.get hpl
        obtain ⟨qads, hq1, hq2⟩ := hra2
        obtain ⟨pa, hpa, hpp⟩ := hq2.get (show g < R.length + m by omega)
        walk_at "rd"
        refine r_ixL (SqL.of (C.get 0 rfl)) (atRn hra) ?_
        walk_at "rd"
        refine r_ixL (SqL.of hq1) (atRn hpa) ?_
        walk_at "rd"
        refine b_ndec (fun hne => ?_) (fun he => ?_)
        · have hne' : pl ≠ g := fun z => hne (by omega)
          have hq2 : PrL K H14 qads (tabR (chA R g) (chD R g) pl) (R.length + m) := hq2.congr fun j _ => by rw [mix_k hne']
          rw [mix_k hne'] at hpp
          walk_at "rd"
          refine r_num hpp ?_
          walk_at "rd"
          refine b_dec (fun hpos => ?_) (fun hz => ?_)
          · walk_at "rd"
            refine r_ixL (SqL.of (C.get 0 rfl)) (atRn hra) ?_
            walk_at "rd"
            refine k_zip (k1 := false) (k2 := false) (SqL.of hq1) (SqL.of (C.get 2 rfl)) ?_
            have hrow : ∀ e, tabR (chA R (g + 1)) (chD R (g + 1)) pl e = if e = g then 0 else tabR (chA R g) (chD R g) pl e + tabR (chA R g) (chD R g) pl g * tabR (chA R (g + 1)) (chD R (g + 1)) g e := fun e => row_val (e := e) T hnw hg hpl hne'
            refine lc_z (k1 := false) (k2 := false) (xs := qads.map V.ref) (ys := oads.map V.ref) (by rw [len_ref, len_ref, hq2.1, hO.1]) (C.again (S1 := [])) (fun D j H' => ∃ pads, PrL K H' pads (fun e => tabR (chA R g) (chD R g) pl e + tabR (chA R g) (chD R g) pl g * tabR (chA R (g + 1)) (chD R (g + 1)) g e) j ∧ Cur H14 [] H' [(D, .lst (pads.map V.ref)), (tl, .lst (rads.map V.ref)), (ll, .lst (lads.map V.ref)), (ow, .lst (oads.map V.ref))])
              (fun D H1 D0 C => ⟨[], .nil, C⟩) (fun D i H' hi h => by obtain ⟨pads, hQ, C2⟩ := h; exact ⟨SqL.of (C2.ret.fr _ _ hq1 (by simp)), SqL.of (C2.get 3 rfl)⟩) ?_ ?_
            · rintro D j x y H15 D0 hx hy ⟨pads, hQ, C15⟩
              obtain ⟨xa, hxa, rfl⟩ := refOf hx
              obtain ⟨ya, hya, rfl⟩ := refOf hy
              have hj : j < R.length + m := by rw [← hq2.1]; exact (List.getElem?_eq_some_iff.mp hxa).1
              refine new_r C15 fun u H16 u0 u00 C16 r16 => ?_
              refine u_gtup (SqT.of (C16.get 0 rfl)) rfl ?_
              walk_at "rd"
              refine ⟨rfl, ?_⟩
              walk_at "rd"
              refine ⟨pa, ya, rfl, _, _, hpp.to C16.ret.tups0, (hO.2 j ya hya).to C16.ret.tups0, ⟨(hTht pl g hpl (by omega)).mono (by decide), (hTht1 g j hg hj).mono (by decide)⟩, fun v H17 r17 v0 e17 => ?_⟩
              have C17 := C16.call0 r17
              refine ⟨xa, v, rfl, _, _, (hq2.2 j xa hxa).to C17.ret.tups0, .of e17, ⟨(hTht pl j hpl hj).mono (by decide), (mul_ht (hTht pl g hpl (by omega)) (hTht1 g j hg hj)).mono (by decide)⟩, fun v2 H18 r18 v20 e18 => ?_⟩
              have C18 := C17.call0 r18
              refine k_acc (C18.get 1 rfl) (by rw [len_ref, hQ.1]; omega) ?_
              refine mod_r C18 1 rfl (.inr D0) fun H19 C19 r19 => ?_
              have t19 : Tups H18 H19 := r19.tupsL (C18.get 1 rfl)
              rw [app_ref] at C19
              exact ⟨_, (hQ.to (((r16.tups0.trans r17.tups0).trans r18.tups0).trans t19)).snoc (PrA.res (t19 _ _ e18) rfl), C19.drop⟩
            rintro D H15 D0 ⟨pads, hQ, C15⟩
            rw [len_ref, hq2.1] at hQ
            have r1415 : Ret [] H14 H15 := C15.ret
            have D00 := C.fresh D0
            have hDrads : D ∉ rads := TabP.there hT D0
            have C15 := C.and C15
            walk_at "rd"
            refine new_r C15 fun z H16 z0 z00 C16 r16 => ?_
            walk_at "rd"
            refine r_setL (C16.get 1 rfl) (ixN_of (by omega) (by rw [len_ref, hQ.1]; omega)) ?_
            refine mod_r C16 1 rfl (.inr D00) fun H17 C17 r17 => ?_
            rw [Int.toNat_natCast, set_ref] at C17
            have t17 : Tups H16 H17 := r17.tupsL (C16.get 1 rfl)
            have hnew : PrL K H17 (pads.set g z) (tabR (chA R (g + 1)) (chD R (g + 1)) pl) (R.length + m) := (hQ.to (r16.tups0.trans t17)).set (PrA.res (q := 0) (t17 _ _ (C16.get 0 rfl)) (by rw [hrow, if_pos rfl])) fun j hj _ => by rw [hrow, if_neg hj]
            have t1417 : Tups H14 H17 := (r1415.tups0.trans r16.tups0).trans t17
            have hT17 := TabP.list (TabP.to0 (TabP.to0 hT r1415) r16) r17 (C16.get 1 rfl) hDrads
            have hP17 := hP.to t1417
            have hO17 := hO.to t1417
            have hpp17 := hpp.to t1417
            obtain ⟨la, hla, hlp⟩ := hP17.get hpl
            obtain ⟨lg, hlg, hlgp⟩ := hP17.get hg
            rw [mix_k hne'] at hlp
            rw [mix_g] at hlgp
            have C17 : Cur H [] H17 [(D, .lst ((pads.set g z).map V.ref)), (tl, .lst (rads.map V.ref)), (ll, .lst (lads.map V.ref)), (ow, .lst (oads.map V.ref))] := C17.drop
            walk_at "rd"
            refine r_ixL (SqL.of (C17.get 2 rfl)) (atRn hla) ?_
            walk_at "rd"
            refine r_ixL (SqL.of (C17.get 2 rfl)) (atRn hlg) ?_
            walk_at "rd"
            refine ⟨pa, lg, rfl, _, _, hpp17, hlgp, ⟨(hTht pl g hpl (by omega)).mono (by decide), (hLht1 g hg).mono (by decide)⟩, fun v H18 r18 v0 e18 => ?_⟩
            have C18 := C17.call0 r18
            refine ⟨la, v, rfl, _, _, hlp.to r18.tups0, .of e18, ⟨(hLht pl hpl).mono (by decide), (mul_ht (hTht pl g hpl (by omega)) (hLht1 g hg)).mono (by decide)⟩, fun v2 H19 r19 v20 e19 => ?_⟩
            have C19 := C18.call0 r19
            walk_at "rd"
            refine new_r C19 fun u H20 u0 u00 C20 r20 => ?_
            refine u_gtup (SqT.of (C20.get 0 rfl)) rfl ?_
            walk_at "rd"
            refine r_setL (C20.get 2 rfl) (ixN_of (by omega) (by rw [len_ref, hrl14]; omega)) ?_
            refine mod_r C20 2 rfl (.inr tl0) fun H21 C21 r21 => ?_
            walk_at "rd"
            refine r_setL (C21.get 3 rfl) (ixN_of (by omega) (by rw [len_ref, hll14]; omega)) ?_
            refine mod_r C21 3 rfl (.inr ll0) fun H22 C22 r22 => ?_
            walk_at "rd"
            rw [Int.toNat_natCast, set_ref, set_ref] at C22
            have t21 : Tups H20 H21 := r21.tupsL (C20.get 2 rfl)
            have t22 : Tups H21 H22 := r22.tupsL (C21.get 3 rfl)
            have t1722 : Tups H17 H22 := ((((r18.trans r19).trans r20).tups0).trans t21).trans t22
            have hDtl : D ≠ tl := C20.ne 1 2 rfl rfl (by decide)
            have hDll : D ≠ ll := C20.ne 1 3 rfl rfl (by decide)
            refine ⟨rads.set pl D, lads.set pl v2, _, _, _, rfl, (TabP.list (TabP.list (TabP.to0 hT17 ((r18.trans r19).trans r20)) r21 (C20.get 2 rfl) hD) r22 (C21.get 3 rfl) hL).set ⟨_, C22.get 1 rfl, (hnew.to t1722).congr fun j _ => by rw [mix_s]⟩ fun p hp _ j _ => by rw [mix_ne hp], notSet hD hDtl, notSet hL hDll, fun x hx => ?_, (hP17.to t1722).set (by rw [mix_s]; exact PrA.res (((r20.tups0.trans t21).trans t22) _ _ e19) (las_row T hnw hg hpl hne')) fun j hj _ => (mix_ne hj).symm, hO17.to t1722, C22.pick [2, 3, 4] (by decide)⟩
            rcases Nd.mem_set hx with q | q
            · exact hf x q
            · rw [q]; exact D00
          · have h0 : tabR (chA R g) (chD R g) pl g = 0 := by
              have := tab_num T hnw hpl (show g < R.length + m by omega)
              exact Rat.num_eq_zero.mp (by omega)
            refine ⟨rads, lads, _, _, _, rfl, hT.congr fun p hp j _ => ?_, hD, hL, hf, hP.congr fun p hp => ?_, hO, C⟩
            · by_cases q : p = pl
              · subst q
                rw [mix_k hne', mix_s]
                exact (row_same T hnw hg hpl hne' h0).symm
              · rw [mix_ne q]
            · by_cases q : p = pl
              · subst q
                rw [mix_k hne', mix_s]
                have := las_row (l := chL R g) T hnw hg hpl hne'
                rw [h0] at this
                show lasR (chL R g) (chD R g) p = lasR (outL (chA R g) (chD R g) (chL R g) g) (outD (chA R g) (chD R g) g) p
                rw [this]; grind
              · rw [mix_ne q]
        · have he' : pl = g := by omega
          subst he'
          walk_at "rd"
          refine ⟨rads, lads, _, _, _, rfl, hT.congr fun p hp j _ => ?_, hD, hL, hf, hP.congr fun p hp => ?_, hO, C⟩
          · by_cases q : p = pl
            · subst q; rw [mix_g, mix_g]
            · rw [mix_ne q]
          · by_cases q : p = pl
            · subst q; rw [mix_g, mix_g]
            · rw [mix_ne q]
      · rintro σ H14 ⟨rads, lads, o3, o9, o10, rfl, hT, hD, hL, hf, hP, hO, C⟩
        rw [show ((R.length : Int)).toNat = R.length by omega] at hT hP
        exact ⟨rads, lads, _, _, _, _, _, _, rfl, hT.congr fun p hp j _ => by rw [mix_all hp], hD, hL, hf, hP.congr fun p hp => mix_all hp, C.pick [0, 1] (by decide)⟩
    · rintro σ H5 ⟨rads, lads, o3, o4, o7, o8, o9, o10, rfl, hT, hD, hL, hf, hP, C⟩
      rw [show ((R.length : Int)).toNat = R.length by omega] at hT hP
      walk_at "rd"
      refine u_sseqL ?_
      walk_at "rd"
      refine k_seqL (SqL.of (C.get 0 rfl)) ?_
      refine lc_l (xs := rads.map V.ref) (C.again (S1 := [])) (fun D i H' => ∃ rads2, TabP K H' rads2 (fun p j => share R j p) i m ∧ D ∉ rads2 ∧ (∀ x ∈ rads2, H5 x = none) ∧ Cur H5 [] H' [(D, .lst (rads2.map V.ref)), (tl, .lst (rads.map V.ref)), (ll, .lst (lads.map V.ref))])
        (fun D H1 D0 C => ⟨[], .nil, by simp, by simp, C⟩) (fun D i H' hi h => by obtain ⟨rads2, hT2, hD2, hf2, C2⟩ := h; exact SqL.of (C2.get 1 rfl)) ?_ ?_
      · rintro D i x H6 D0 hx ⟨rads2, hT2, hD2, hf2, C6⟩
        obtain ⟨ra, hra, rfl⟩ := refOf hx
        have hin : i < R.length := by rw [← hT.1]; exact (List.getElem?_eq_some_iff.mp hra).1
        obtain ⟨pads, hp1, hp2⟩ := (TabP.to0 hT C6.ret).2 i ra hra
        walk_at "rd"
        refine ⟨rfl, ?_⟩
        walk_at "rd"
        refine r_slL (SqL.of hp1) ?_
        refine new_r C6 fun l H7 l0 l00 C7 r7 => ?_
        rw [cut_from (by omega), Int.toNat_natCast, ← List.map_drop] at C7
        have hDl : l ≠ D := C7.ne 0 1 rfl rfl (by decide)
        refine k_acc (C7.get 1 rfl) (by rw [len_ref, hT2.1]; omega) ?_
        refine mod_r C7 1 rfl (.inr D0) fun H8 C8 r8 => ?_
        have t8 : Tups H7 H8 := r8.tupsL (C7.get 1 rfl)
        rw [app_ref] at C8
        have hdr := (hp2.drop (m := R.length) (by omega))
        rw [show R.length + m - R.length = m by omega] at hdr
        refine ⟨rads2 ++ [l], (TabP.list (TabP.to0 hT2 r7) r8 (C7.get 1 rfl) hD2).snoc ⟨_, C8.get 0 rfl, (hdr.to (r7.tups0.trans t8)).congr fun j _ => rfl⟩, notSeg hD2 hDl, fun y hy => ?_, C8.drop⟩
        rcases List.mem_append.mp hy with q | q
        · exact hf2 y q
        · rw [List.mem_singleton.mp q]; exact l0
      · rintro D H6 D0 ⟨rads2, hT2, hD2, hf2, C6⟩
        rw [len_ref, hT.1] at hT2
        have hP6 := hP.to C6.ret.tups0
        have hf3 := fresh_all C.ret hf2
        have D00 := C.fresh D0
        have C6 := C.and C6
        walk_at "rd"
        refine new_r C6 fun u H7 u0 u00 C7 r7 => ?_
        exact k u D ll rads2 lads H7 C7.ret u0 D00 ll0 (C7.get 0 rfl) (C7.get 1 rfl) (TabP.to0 hT2 r7) hD2 hf3 (C7.get 3 rfl) (hP6.to r7.tups0)
end
end K67

end

section
set_option Elab.async false
set_option linter.all false
set_option maxRecDepth 100000
set_option maxHeartbeats 2000000
namespace K67
open PySem PySem.Spec PyProof.Rows L2 Nd M94 M67
set_option hygiene false
local macro_rules | `(tactic| walk_at "hg") => `(tactic| first | assumption | exact C.get 0 rfl | exact C.get 1 rfl | exact C.get 2 rfl | exact C.get 3 rfl | exact C.get 4 rfl | exact C.get 5 rfl | exact C.get 6 rfl | exact C.get 7 rfl | exact C.get 8 rfl | exact C.get 9 rfl)
local macro_rules | `(tactic| walk_at "rd1") => `(tactic| first
  | with_reducible refine u_seq ?_ | with_reducible refine u_asg ?_ | ((with_reducible refine' u_var ?q7hv ?_); (case q7hv => exact rfl)) | with_reducible refine u_c ?_ | with_reducible refine u_op ?_ | with_reducible refine u_if ?_ | with_reducible refine u_ret ?_
  | with_reducible refine u_test ?_ | with_reducible refine u_tB ?_ | with_reducible refine u_and ?_ | with_reducible refine u_or ?_ | with_reducible refine u_not ?_ | with_reducible refine u_call ?_ | with_reducible refine u_cb ?_ | with_reducible refine u_cons ?_ | with_reducible refine u_nil ?_
  | with_reducible refine u_gname ?_ | with_reducible refine u_gcons ?_ | with_reducible refine u_gnil ?_ | with_reducible refine u_gsub ?_ | with_reducible refine u_lst ?_ | with_reducible refine u_tup ?_ | with_reducible refine u_un ?_ | with_reducible refine u_ifE ?_
  | with_reducible refine u_drop ?_ | with_reducible refine u_next ?_ | with_reducible refine u_retN ?_ | with_reducible refine u_tf ?_ | with_reducible refine u_fld ?_ | with_reducible refine u_gfld ?_ | with_reducible refine u_par ?_ | with_reducible refine u_par3 ?_ | with_reducible refine u_meth ?_ | with_reducible refine u_prop ?_ | with_reducible refine u_make ?_
  | with_reducible refine u_bm ?_ | with_reducible refine u_bm0 ?_ | with_reducible refine u_sl ?_ | with_reducible refine u_noPart ?_ | with_reducible refine u_part ?_ | with_reducible refine u_chain ?_ | with_reducible refine u_andV ?_ | with_reducible refine u_orV ?_ | with_reducible refine u_notV ?_
  | with_reducible refine u_listRg ?_ | with_reducible refine u_rg1 ?_ | with_reducible refine u_lc2 ?_ | with_reducible refine u_enum ?_ | with_reducible refine u_zip ?_ | with_reducible refine u_for ?_ | with_reducible refine u_lc ?_ | with_reducible refine u_rng1 ?_ | with_reducible refine u_rng2 ?_ | with_reducible refine u_yes ?_ | with_reducible refine u_brk ?_ | with_reducible refine u_cont ?_
  | with_reducible refine r_add ?_ | with_reducible refine r_sub ?_ | with_reducible refine r_lt ?_ | with_reducible refine r_le ?_ | with_reducible refine r_gt ?_ | with_reducible refine r_ge ?_ | with_reducible refine r_eqI ?_ | with_reducible refine r_neI ?_ | with_reducible refine r_neg ?_ | with_reducible refine r_int ?_ | with_reducible refine r_intB ?_ | with_reducible refine r_abs ?_ | with_reducible refine r_isNi ?_ | with_reducible refine r_isNn ?_ | with_reducible refine r_isNr ?_ | with_reducible refine r_isNs ?_ | with_reducible refine r_notN ?_
  | ((with_reducible refine' r_ixL ?q7hs ?q7ha ?_); (case q7hs => exact SqL.of (by walk_at "hg")); (case q7ha => first | exact rfl | exact atI_nat (by assumption)))
  | ((with_reducible refine' r_ixT ?q7hs ?q7ha ?_); (case q7hs => exact SqT.of (by walk_at "hg")); (case q7ha => first | exact rfl | exact atI_nat (by assumption)))
  | ((with_reducible refine' r_len ?q7hs ?_); (case q7hs => exact SqL.of (by walk_at "hg")))
  | ((with_reducible refine' r_lenT ?q7hs ?_); (case q7hs => exact SqT.of (by walk_at "hg")))
  | ((with_reducible refine' r_mod ?q7c ?_); (case q7c => first | decide | omega)) | ((with_reducible refine' r_div ?q7c ?_); (case q7c => first | (constructor <;> decide) | (constructor <;> omega)))
  | ((with_reducible refine' r_mul ?q7c ?_); (case q7c => first | exact .inl ⟨by omega, by omega⟩ | exact .inr ⟨by omega, by omega⟩))
  | ((with_reducible refine' r_pow ?q7c ?_); (case q7c => exact ⟨by omega, by omega, by omega⟩))
  | with_reducible refine b_nT ?_ | with_reducible refine b_nF ?_ | with_reducible refine iteF ?_ | with_reducible refine iteT ?_
  | with_reducible refine k_blA ?_ | with_reducible refine k_int ?_ | with_reducible refine k_two ?_ | with_reducible refine k_three ?_
  | ((with_reducible refine' k_size ?q7hn ?_); (case q7hn => exact Nat.le_of_ble_eq_true rfl))
  | ((with_reducible refine' k_fld ?q7ha ?q7c ?q7n ?q7hl ?_); (case q7ha => walk_at "hg"); (case q7c => walk_at "cls"); (case q7n => walk_at "att"); (case q7hl => exact rfl))
  | ((with_reducible refine' k_put ?q7ha ?q7c ?q7n ?q7hl ?_); (case q7ha => walk_at "hg"); (case q7c => walk_at "cls"); (case q7n => walk_at "att"); (case q7hl => first | decide | exact Nat.lt_of_lt_of_le (Nat.lt_succ_self _) (Nat.le_of_ble_eq_true rfl)))
  | ((with_reducible refine' k_meth ?q7ha ?q7hl ?_); (case q7ha => walk_at "hg"); (case q7hl => exact rfl))
  | ((with_reducible refine' k_prop ?q7ha ?_); (case q7ha => walk_at "hg")))
local macro_rules | `(tactic| walk_at "rd") => `(tactic| repeat walk_at "rd1")
local macro_rules | `(tactic| walk_at "cls") => `(tactic| first | exact T.c_Board | exact T.c_World)
local macro_rules | `(tactic| walk_at "att") => `(tactic| first | exact T.n_Board_homes | exact T.n_Board_places | exact T.n_Board_rows | exact T.n_World_board | exact T.n_World_shown | exact T.n_World_standing | exact T.n_World_won | exact T.n_World_steps)

def sp_l_due (K : PySem.W.Frag) (A : Adr) : Sp := fun vs H Q E => ∃ (r tl w : Addr) (h : Nat), vs = [.ref r, .ref tl, .int h, .ref w] ∧ ∃ (ads rads : List Addr) (R : Rows) (m : Nat) (rk gd : Nat → Nat) (a : WA) (s : WS) (c : Nat), w = a.w ∧ H r = some (.lst (ads.map V.ref)) ∧ RowsAt H ads R ∧ H tl = some (.lst (rads.map V.ref)) ∧ TabP K H rads (fun p j => share R j p) R.length m ∧
  Has H (wL A a s) ∧ Good R m rk gd ∧ HandsOk R s.hs ∧ (∀ y ∈ s.sn, XOk R m y) ∧ h < m ∧ s.sn.length ≤ 40 ∧ (∀ j, j < R.length + m → Ht (yv R.length (share R h) (tH R.length h) (j : Int)) c) ∧ R.length * (3 * (2 * c + 2)) + s.sn.length * (c + 1) + 1 ≤ 4500 ∧ c ≤ 400 ∧
  ∀ t H', Ret [] H H' → PrA K H' t (keptR R (tH R.length h) (share R h) s.hs s.sn) → Q (.ref t) H'
theorem take_snoc2 {f : Int → Rat} {l : List Int} {k : Nat} {e : Int} (h : l[k]? = some e) : lsum f (l.take (k + 1)) = lsum f (l.take k) + f e := by
  rw [take_snoc h, lsum_app]
  show _ + (f e + 0) = _
  grind
/-- the number behind an entry: out of the table, or whether it is the home asked *-/
def thereT (K : PySem.W.Frag) : TE := tIf (tTest (tOp rLtI (tVar 5) (tCB (cLen K) (tCons (tVar 0) tNil)))) (tOp (rIx K) (tOp (rIx K) (tVar 1) (tVar 5)) (tVar 2))
  (tTup (tCons (tCB cInt (tCons (tOp (rEqU K) (tVar 5) (tOp rAddU (tCB (cLen K) (tCons (tVar 0) tNil)) (tVar 2))) tNil)) (tCons (tC (.int 1)) tNil)))
theorem there_ok {K : PySem.W.Frag} {σ : L2.St} {H : Hp} {Q : VK} {r tl : Addr} {ads rads : List Addr} {R : Rows} {m hh : Nat} {e : Int} (h0 : σ[0]? = some (some (.ref r))) (h1 : σ[1]? = some (some (.ref tl))) (h2 : σ[2]? = some (some (.int hh))) (h5 : σ[5]? = some (some (.int e)))
    (hr : H r = some (.lst (ads.map V.ref))) (hrl : ads.length = R.length) (htl : H tl = some (.lst (rads.map V.ref))) (hT : TabP K H rads (fun p j => share R j p) R.length m) (hm : hh < m) (e0 : 0 ≤ e) (k : ∀ y H', Ret [] H H' → PrA K H' y (yv R.length (share R hh) (tH R.length hh) e) → Q (.ref y) H') : thereT K σ H Q := by
  have C : Cur H [] H [] := Cur.start (by simp) (by simp)
  unfold thereT
  refine u_ifE ?_
  refine u_test ?_
  refine u_op ?_
  refine u_var h5 ?_
  refine u_cb ?_
  refine u_cons ?_
  refine u_var h0 ?_
  refine u_nil ?_
  refine r_len (SqL.of hr) ?_
  rw [len_ref, hrl]
  refine r_lt ?_
  refine k_blA ?_
  refine b_dec (fun hlt => ?_) (fun hge => ?_)
  · obtain ⟨re, hre, qads, hq1, hq2⟩ := hT.get (show e.toNat < R.length by omega)
    obtain ⟨pe, hpe, hpp⟩ := hq2.get hm
    refine u_op ?_
    refine u_op ?_
    refine u_var h1 ?_
    refine u_var h5 ?_
    refine r_ixL (SqL.of htl) (atR e0 hre) ?_
    refine u_var h2 ?_
    refine r_ixL (SqL.of hq1) (atRn hpe) ?_
    refine k pe H .refl ?_
    have : yv R.length (share R hh) (tH R.length hh) e = share R hh e.toNat := by unfold yv; rw [if_pos hlt]
    rw [this]; exact hpp
  · refine u_tup ?_
    refine u_cons ?_
    refine u_cb ?_
    refine u_cons ?_
    refine u_op ?_
    refine u_var h5 ?_
    refine u_op ?_
    refine u_cb ?_
    refine u_cons ?_
    refine u_var h0 ?_
    refine u_nil ?_
    refine r_len (SqL.of hr) ?_
    rw [len_ref, hrl]
    refine u_var h2 ?_
    refine r_add ?_
    refine r_eqI ?_
    refine u_nil ?_
    refine r_intB ?_
    refine u_cons ?_
    refine u_c ?_
    refine u_nil ?_
    refine k_size (by simp) ?_
    refine new_r C fun y H1 y0 y00 C1 r1 => k y H1 r1 ?_
    have hv : yv R.length (share R hh) (tH R.length hh) e = if e = (R.length : Int) + hh then 1 else 0 := by unfold yv tH; rw [if_neg hge]
    rw [hv]
    by_cases q : e = (R.length : Int) + hh
    · have := C1.get 0 rfl
      rw [if_pos (decide_eq_true q)] at this
      rw [if_pos q]; exact .inl this
    · have := C1.get 0 rfl
      rw [if_neg (by simpa using q)] at this
      rw [if_neg q]; exact .inl this
section
variable {P : Program} {w : World} {K : PySem.W.Frag} {mg : Str → Option Value} {base : Heap} {A : Adr}
theorem ok_l_due (T : Txt K mg A) (G_World_hands : Gp P w K mg base CX0 1 A.World "hands" ["self"] (sp_World_hands K A)) (G_l_plus : Gd P w K mg base CX0 2 "_law_plus" ["_law_one_here", "_law_other"] [] (sp_l_plus K A)) (G_l_less : Gd P w K mg base CX0 2 "_law_less" ["_law_one_here", "_law_other"] [] (sp_l_less K A)) (G_World_walkers : Gp P w K mg base CX0 1 A.World "walkers" ["self"] (sp_World_walkers K A)) : Gd P w K mg base CX0 3 "_law_due" ["_law_rows_here", "_law_table", "_law_home", "_law_world"] [] (sp_l_due K A) := by
  obtain ⟨f, fd, F, hm⟩ := T.f_l_due
  refine ⟨⟨f, fd, [], ?_, hm, F.kp, F.binds (ps := ["_law_rows_here", "_law_table", "_law_home", "_law_world"]) (fun _ _ _ _ _ _ us hl => match us, hl with | [_, _, _, _], _ => rfl), .nil⟩⟩
  refine F.ok sc_l_due (fun vs H Q E h => by first | (obtain ⟨rfl, _⟩ := h; rfl) | (obtain ⟨_, rfl, _⟩ := h; rfl) | (obtain ⟨_, _, rfl, _⟩ := h; rfl) | (obtain ⟨_, _, _, rfl, _⟩ := h; rfl) | (obtain ⟨_, _, _, _, rfl, _⟩ := h; rfl) | (obtain ⟨_, _, _, _, _, rfl, _⟩ := h; rfl) | (obtain ⟨_, _, _, _, _, _, rfl, _⟩ := h; rfl) | (obtain ⟨_, _, _, _, _, _, _, rfl, _⟩ := h; rfl)) (fun cdv A' outer s H vs Q E hr h => ⟨_, (pss_cons (ps_set (i := 4) sc_l_due.nd rfl (.inl rfl) (pe_tup (pa_cons pe_int (pa_cons pe_int pa_nil))))
      (pss_cons (ps_for PassesOwn.never rfl (pi_enumK K true (by rfl) T.b_enumerate (pa_cons (pe_propG G_World_hands T.c_World (hr.mono (by decide)) pass0 (pv 3)) pa_nil)) (pg_tupK K (n := 2) rfl (pgs_cons (pg_name (i := 6) sc_l_due.nd rfl (.inl rfl)) (pgs_cons (pg_name (i := 7) sc_l_due.nd rfl (.inl rfl)) pgs_nil))) (pss_one (ps_for PassesOwn.never rfl (pi_seqK K (pe_slice (sl_listK K) (pe_ix (ix_seqK K) (pv 0) (pv 6) (fun _ _ => rfl)) po_none (po_some (pv 7)))) (pg_name (i := 5) sc_l_due.nd rfl (.inl rfl)) (pss_cons (ps_set (i := 8) sc_l_due.nd rfl (.inl rfl) (pe_ifExp (pt_cmpR op_ltI (pv 5) (pe_callB (call_lenK K) (by rfl) T.b_len PySem.boot_len (pa_cons (pv 0) pa_nil)) (nomark _)) (pe_ix (ix_seqK K) (pe_ix (ix_seqK K) (pv 1) (pv 5) (fun _ _ => rfl)) (pv 2) (fun _ _ => rfl)) (pe_tup (pa_cons (pe_callTy call_intU (by rfl) T.b_int (by decide +kernel) (pa_cons (pe_cmpR (op_eqK K hr.units) (pv 5) (pe_op op_addU (pe_callB (call_lenK K) (by rfl) T.b_len PySem.boot_len (pa_cons (pv 0) pa_nil)) (pv 2)) (nomark _)) pa_nil)) (pa_cons pe_int pa_nil)))))
      (pss_one (ps_set (i := 4) sc_l_due.nd rfl (.inl rfl) (pe_callG G_l_plus (hr.mono (by decide)) (by rfl) pass0 (pa_cons (pv 4) (pa_cons (pe_callG G_l_less (hr.mono (by decide)) (by rfl) pass0 (pa_cons (pe_ix (ix_seqK K) (pe_ix (ix_seqK K) (pv 1) (pv 6) (fun _ _ => rfl)) (pv 2) (fun _ _ => rfl)) (pa_cons (pv 8) pa_nil))) pa_nil)))))))))
      (pss_cons (ps_for PassesOwn.never rfl (pi_seqK K (pe_propG G_World_walkers T.c_World (hr.mono (by decide)) pass0 (pv 3))) (pg_name (i := 5) sc_l_due.nd rfl (.inl rfl)) (pss_one (ps_set (i := 4) sc_l_due.nd rfl (.inl rfl) (pe_callG G_l_plus (hr.mono (by decide)) (by rfl) pass0 (pa_cons (pv 4) (pa_cons (pe_ifExp (pt_cmpR op_ltI (pv 5) (pe_callB (call_lenK K) (by rfl) T.b_len PySem.boot_len (pa_cons (pv 0) pa_nil)) (nomark _)) (pe_ix (ix_seqK K) (pe_ix (ix_seqK K) (pv 1) (pv 5) (fun _ _ => rfl)) (pv 2) (fun _ _ => rfl)) (pe_tup (pa_cons (pe_callTy call_intU (by rfl) T.b_int (by decide +kernel) (pa_cons (pe_cmpR (op_eqK K hr.units) (pv 5) (pe_op op_addU (pe_callB (call_lenK K) (by rfl) T.b_len PySem.boot_len (pa_cons (pv 0) pa_nil)) (pv 2)) (nomark _)) pa_nil)) (pa_cons pe_int pa_nil)))) pa_nil))))))
      (pss_one (ps_ret (pv 4)))))), ?_⟩)
  obtain ⟨r, tl, w, hh, rfl, ads, rads, R, m, rk, gd, a, s, c, rfl, hr0, hR, htl, hT, hW, G, hok, hsn, hm, sn40, hx, hcc, c400, k⟩ := h
  have n5 := G.n5
  have C : Cur H [] H [] := Cur.start (by simp) (by simp)
  have hrl : (ads.map V.ref).length = R.length := by rw [len_ref, hR.1]
  have numb : ∀ e : Int, 0 ≤ e → e < (R.length : Int) + m → Ht (yv R.length (share R hh) (tH R.length hh) e) c := fun e e0 e1 => by
    have := hx e.toNat (by omega)
    rwa [Int.toNat_of_nonneg e0] at this
  walk_at "rd"
  refine new_r C fun f0 H1 f00 f01 C1 r1 => ?_
  have hw1 : H1 a.w = some (wObj A a s.k) := (hW.to0 r1).2 (a.w, _) (by simp)
  walk_at "rd"
  refine ⟨a.w, rfl, a, s, rfl, hW.to0 r1, fun th H2 r2 th0 hth => ?_⟩
  have C2 := C1.call0n r2 th0 hth
  have hf2 : PrA K H2 f0 0 := .inl (C2.get 1 rfl)
  refine k_enum (k := true) (SqT.of (C2.get 0 rfl)) ?_
  have C2 : Cur H [] H2 [] := C2.pick [] (by decide)
  have hth' : ∀ {H' : Hp}, Ret [] H2 H' → H' th = some (.tup (s.hs.map V.int)) := fun r => r.tups0 _ _ hth
  refine for_e (k := true) (xs := s.hs.map V.int) (fun i σ H' => ∃ (f : Addr) (q : Rat) (o5 o6 o7 o8 : Option V), σ = [some (.ref r), some (.ref tl), some (.int hh), some (.ref a.w), some (.ref f), o5, o6, o7, o8] ∧ PrA K H' f q ∧ q = sumR (fun p => wr R (tH R.length hh) (share R hh) p (s.hs.getD p 0).toNat) i ∧ Ht q (i * (3 * (2 * c + 2)) + 1) ∧ Ret [] H2 H') ?_ ?_ ?_ ?_
  · exact ⟨f0, 0, _, _, _, _, rfl, hf2, rfl, ⟨by simp, by simp⟩, .refl⟩
  · rintro i σ H' hi ⟨f, q, o5, o6, o7, o8, rfl, hf, hq, hqh, r'⟩
    exact SqT.of (hth' r')
  · rintro i x σ H' hxi ⟨f, q, o5, o6, o7, o8, rfl, hf, hq, hqh, r'⟩
    obtain ⟨hd, hhd, rfl⟩ := int_of hxi
    have hin : i < R.length := by rw [← hok.1]; exact (List.getElem?_eq_some_iff.mp hhd).1
    obtain ⟨h0, h1⟩ := hok.2 i hin
    have ehd : s.hs.getD i 0 = hd := by rw [List.getD_eq_getElem?_getD, hhd]; rfl
    rw [ehd] at h0 h1
    obtain ⟨ar, har⟩ : ∃ y, ads[i]? = some y := ⟨_, List.getElem?_eq_getElem (by rw [hR.1]; exact hin)⟩
    have CC : Cur H' [] H' [] := Cur.start (by simp) (by simp)
    refine new_r CC fun u H3 u0 u00 C3 r3 => ?_
    have r03 : Ret [] H H3 := ((r1.trans r2).trans r').trans r3
    have har3 : H3 ar = some (.lst ((row R i).map V.int)) := r03.fr _ _ (hR.2 i ar har) (by simp)
    have hr3 : H3 r = some (.lst (ads.map V.ref)) := r03.fr _ _ hr0 (by simp)
    refine u_gtup (SqT.of (C3.get 0 rfl)) rfl ?_
    walk_at "rd"
    refine u_sseqL ?_
    walk_at "rd"
    refine r_ixL (SqL.of hr3) (atRn har) ?_
    walk_at "rd"
    refine r_slL (SqL.of har3) ?_
    refine new_r C3 fun sl H4 sl0 sl00 C4 r4 => ?_
    rw [cut_to h0, ← List.map_take] at C4
    refine k_seqL (SqL.of (C4.get 0 rfl)) ?_
    have hl4 := (G.le4 i hin).2
    have hsl := C4.get 0 rfl
    refine for_l (xs := ((row R i).take hd.toNat).map V.int) (fun j σ H' => ∃ (f : Addr) (q2 : Rat) (o5 o8 : Option V), σ = [some (.ref r), some (.ref tl), some (.int hh), some (.ref a.w), some (.ref f), o5, some (.int i), some (.int hd), o8] ∧ PrA K H' f q2 ∧ q2 = q + wr R (tH R.length hh) (share R hh) i j ∧ Ht q2 (i * (3 * (2 * c + 2)) + j * (2 * c + 2) + 1) ∧ Ret [] H4 H') ?_ ?_ ?_ ?_
    · exact ⟨f, q, _, _, rfl, (hf.to r3.tups0).to r4.tups0, by rw [wr_none]; grind, hqh.mono (by omega), .refl⟩
    · rintro j σ H5 hj ⟨f, q2, o5, o8, rfl, hf, hq2, hqh2, r5⟩
      exact SqL.of (r5.fr _ _ hsl (by simp))
    · rintro j y σ H5 hy ⟨f, q2, o5, o8, rfl, hf, hq2, hqh2, r5⟩
      obtain ⟨e, he, rfl⟩ := int_of hy
      have hjd : j < hd.toNat := by
        have := (List.getElem?_eq_some_iff.mp he).1
        rw [List.length_take] at this; omega
      rw [List.getElem?_take_of_lt hjd] at he
      obtain ⟨e0, e1⟩ := G.ents i hin e (List.mem_of_getElem? he)
      have r05 : Ret [] H H5 := (r03.trans r4).trans r5
      have hr5 : H5 r = some (.lst (ads.map V.ref)) := r05.fr _ _ hr0 (by simp)
      have htl5 : H5 tl = some (.lst (rads.map V.ref)) := r05.fr _ _ htl (by simp)
      have hT5 := TabP.to0 hT r05
      obtain ⟨ri, hri, iads, hi1, hi2⟩ := hT5.get hin
      obtain ⟨pi, hpi, hpip⟩ := hi2.get hm
      have C5 : Cur H5 [] H5 [] := Cur.start (by simp) (by simp)
      have b1 := numb i (by omega) (by omega)
      have b2 := numb e e0 e1
      have hji : j * (2 * c + 2) ≤ 3 * (2 * c + 2) := Nat.mul_le_mul_right _ (by omega)
      have hii : (i + 1) * (3 * (2 * c + 2)) ≤ R.length * (3 * (2 * c + 2)) := Nat.mul_le_mul_right _ (by omega)
      have hii2 : (i + 1) * (3 * (2 * c + 2)) = i * (3 * (2 * c + 2)) + 3 * (2 * c + 2) := Nat.succ_mul _ _
      have hjj2 : (j + 1) * (2 * c + 2) = j * (2 * c + 2) + (2 * c + 2) := Nat.succ_mul _ _
      have hdiff : Ht (share R hh i + -(yv R.length (share R hh) (tH R.length hh) e)) (2 * c + 1) := by
        have b1' : Ht (share R hh i) c := by
          unfold yv at b1
          rw [if_pos (by omega), Int.toNat_natCast] at b1
          exact b1
        exact (add_ht b1' (neg_ht b2)).mono (by omega)
      (with_reducible refine u_gname ?_)
      (with_reducible refine u_seq ?_)
      (with_reducible refine u_asg ?_)
      refine there_ok (hh := hh) (m := m) (R := R) (e := e) rfl rfl rfl rfl hr5 hR.1 htl5 hT5 hm e0 fun y H6 r6 hy6 => ?_
      walk_at "rd"
      have hi16 : H6 ri = some (.lst (iads.map V.ref)) := r6.fr _ _ hi1 (by simp)
      refine r_ixL (SqL.of (r6.fr _ _ htl5 (by simp))) (atRn hri) ?_
      walk_at "rd"
      refine r_ixL (SqL.of hi16) (atRn hpi) ?_
      walk_at "rd"
      have b1' : Ht (share R hh i) c := by
        unfold yv at b1
        rw [if_pos (by omega), Int.toNat_natCast] at b1
        exact b1
      refine ⟨pi, y, rfl, _, _, hpip.to r6.tups0, hy6, ⟨b1'.mono (by omega), b2.mono (by omega)⟩, fun v H7 r7 v0 e7 => ?_⟩
      refine ⟨f, v, rfl, _, _, (hf.to r6.tups0).to r7.tups0, .of e7, ⟨hqh2.mono (by omega), hdiff.mono (by omega)⟩, fun v2 H8 r8 v20 e8 => ?_⟩
      walk_at "rd"
      refine ⟨v2, _, _, _, rfl, .of e8, ?_, ?_, ((r5.trans r6).trans r7).trans r8⟩
      · rw [wr_step he, hq2]
        show q + wr R (tH R.length hh) (share R hh) i j + (share R hh i + -yv R.length (share R hh) (tH R.length hh) e) = _
        grind
      · exact (add_ht hqh2 hdiff).mono (by omega)
    · rintro σ H5 ⟨f, q2, o5, o8, rfl, hf, hq2, hqh2, r5⟩
      rw [len_map, List.length_take, Nat.min_eq_left (by omega)] at hq2 hqh2
      refine ⟨f, q2, _, _, _, _, rfl, hf, ?_, hqh2.mono ?_, ((r'.trans r3).trans r4).trans r5⟩
      · show q2 = sumR _ i + wr R (tH R.length hh) (share R hh) i (s.hs.getD i 0).toNat
        rw [hq2, hq, ehd]
      · have hji : hd.toNat * (2 * c + 2) ≤ 3 * (2 * c + 2) := Nat.mul_le_mul_right _ (by omega)
        have hii2 : (i + 1) * (3 * (2 * c + 2)) = i * (3 * (2 * c + 2)) + 3 * (2 * c + 2) := Nat.succ_mul _ _
        omega
  · rintro σ H3 ⟨f, q, o5, o6, o7, o8, rfl, hf, hq, hqh, r'⟩
    rw [len_map, hok.1] at hq hqh
    have r03 : Ret [] H H3 := (r1.trans r2).trans r'
    have hw3 : H3 a.w = some (wObj A a s.k) := (hW.to0 r03).2 (a.w, _) (by simp)
    walk_at "rd"
    refine u_sseqT ?_
    walk_at "rd"
    refine ⟨a.w, rfl, a, s, rfl, hW.to0 r03, fun tw H4 r4 tw0 htw => ?_⟩
    refine k_seqT (SqT.of htw) ?_
    refine for_t (xs := s.sn.map V.int) (fun i σ H' => ∃ (f : Addr) (q2 : Rat) (o5 : Option V), σ = [some (.ref r), some (.ref tl), some (.int hh), some (.ref a.w), some (.ref f), o5, o6, o7, o8] ∧ PrA K H' f q2 ∧ q2 = q + lsum (yv R.length (share R hh) (tH R.length hh)) (s.sn.take i) ∧ Ht q2 (R.length * (3 * (2 * c + 2)) + i * (c + 1) + 1) ∧ Ret [] H4 H') ?_ ?_ ?_ ?_
    · exact ⟨f, q, _, rfl, hf.to r4.tups0, by rw [List.take_zero]; show q = q + 0; grind, hqh.mono (by omega), .refl⟩
    · rintro i σ H5 hi ⟨f, q2, o5, rfl, hf, hq2, hqh2, r5⟩
      exact SqT.of (r5.tups0 _ _ htw)
    · rintro i y σ H5 hy ⟨f, q2, o5, rfl, hf, hq2, hqh2, r5⟩
      obtain ⟨e, he, rfl⟩ := int_of hy
      have hi : i < s.sn.length := (List.getElem?_eq_some_iff.mp he).1
      obtain ⟨e0, e1⟩ := hsn e (List.mem_of_getElem? he)
      have r05 : Ret [] H H5 := (r03.trans r4).trans r5
      have hr5 : H5 r = some (.lst (ads.map V.ref)) := r05.fr _ _ hr0 (by simp)
      have htl5 : H5 tl = some (.lst (rads.map V.ref)) := r05.fr _ _ htl (by simp)
      have hT5 := TabP.to0 hT r05
      have b2 := numb e e0 e1
      have hii : (i + 1) * (c + 1) ≤ s.sn.length * (c + 1) := Nat.mul_le_mul_right _ (by omega)
      have hii2 : (i + 1) * (c + 1) = i * (c + 1) + (c + 1) := Nat.succ_mul _ _
      (with_reducible refine u_gname ?_)
      (with_reducible refine u_asg ?_)
      (with_reducible refine u_call ?_)
      (with_reducible refine u_cons ?_)
      refine u_var rfl ?_
      (with_reducible refine u_cons ?_)
      refine there_ok (hh := hh) (m := m) (R := R) (e := e) rfl rfl rfl rfl hr5 hR.1 htl5 hT5 hm e0 fun y H6 r6 hy6 => ?_
      walk_at "rd"
      refine ⟨f, y, rfl, _, _, hf.to r6.tups0, hy6, ⟨hqh2.mono (by omega), b2.mono (by omega)⟩, fun v2 H8 r8 v20 e8 => ?_⟩
      walk_at "rd"
      refine ⟨v2, _, _, rfl, .of e8, ?_, ?_, (r5.trans r6).trans r8⟩
      · rw [take_snoc2 he, hq2]
        show q + lsum (yv R.length (share R hh) (tH R.length hh)) (s.sn.take i) + yv R.length (share R hh) (tH R.length hh) e = _
        grind
      · exact (add_ht hqh2 b2).mono (by omega)
    · rintro σ H5 ⟨f, q2, o5, rfl, hf, hq2, hqh2, r5⟩
      rw [len_map, List.take_length] at hq2
      walk_at "rd"
      refine k f H5 ((r03.trans r4).trans r5) ?_
      have : keptR R (tH R.length hh) (share R hh) s.hs s.sn = q2 := by rw [hq2, hq]; rfl
      rw [this]; exact hf
end
end K67

end

section
set_option Elab.async false
set_option linter.all false
set_option maxRecDepth 100000
set_option maxHeartbeats 2000000
namespace K67
open PySem PySem.Spec PyProof.Rows L2 Nd M94 M67
set_option hygiene false
local macro_rules | `(tactic| walk_at "hg") => `(tactic| first | assumption | exact C.get 0 rfl | exact C.get 1 rfl | exact C.get 2 rfl | exact C.get 3 rfl | exact C.get 4 rfl | exact C.get 5 rfl | exact C.get 6 rfl | exact C.get 7 rfl | exact C.get 8 rfl | exact C.get 9 rfl)
local macro_rules | `(tactic| walk_at "rd1") => `(tactic| first
  | with_reducible refine u_seq ?_ | with_reducible refine u_asg ?_ | ((with_reducible refine' u_var ?q7hv ?_); (case q7hv => exact rfl)) | with_reducible refine u_c ?_ | with_reducible refine u_op ?_ | with_reducible refine u_if ?_ | with_reducible refine u_ret ?_
  | with_reducible refine u_test ?_ | with_reducible refine u_tB ?_ | with_reducible refine u_and ?_ | with_reducible refine u_or ?_ | with_reducible refine u_not ?_ | with_reducible refine u_call ?_ | with_reducible refine u_cb ?_ | with_reducible refine u_cons ?_ | with_reducible refine u_nil ?_
  | with_reducible refine u_gname ?_ | with_reducible refine u_gcons ?_ | with_reducible refine u_gnil ?_ | with_reducible refine u_gsub ?_ | with_reducible refine u_lst ?_ | with_reducible refine u_tup ?_ | with_reducible refine u_un ?_ | with_reducible refine u_ifE ?_
  | with_reducible refine u_drop ?_ | with_reducible refine u_next ?_ | with_reducible refine u_retN ?_ | with_reducible refine u_tf ?_ | with_reducible refine u_fld ?_ | with_reducible refine u_gfld ?_ | with_reducible refine u_par ?_ | with_reducible refine u_par3 ?_ | with_reducible refine u_meth ?_ | with_reducible refine u_prop ?_ | with_reducible refine u_make ?_
  | with_reducible refine u_bm ?_ | with_reducible refine u_bm0 ?_ | with_reducible refine u_sl ?_ | with_reducible refine u_noPart ?_ | with_reducible refine u_part ?_ | with_reducible refine u_chain ?_ | with_reducible refine u_andV ?_ | with_reducible refine u_orV ?_ | with_reducible refine u_notV ?_
  | with_reducible refine u_listRg ?_ | with_reducible refine u_rg1 ?_ | with_reducible refine u_lc2 ?_ | with_reducible refine u_enum ?_ | with_reducible refine u_zip ?_ | with_reducible refine u_for ?_ | with_reducible refine u_lc ?_ | with_reducible refine u_rng1 ?_ | with_reducible refine u_rng2 ?_ | with_reducible refine u_yes ?_ | with_reducible refine u_brk ?_ | with_reducible refine u_cont ?_
  | with_reducible refine r_add ?_ | with_reducible refine r_sub ?_ | with_reducible refine r_lt ?_ | with_reducible refine r_le ?_ | with_reducible refine r_gt ?_ | with_reducible refine r_ge ?_ | with_reducible refine r_eqI ?_ | with_reducible refine r_neI ?_ | with_reducible refine r_neg ?_ | with_reducible refine r_int ?_ | with_reducible refine r_intB ?_ | with_reducible refine r_abs ?_ | with_reducible refine r_isNi ?_ | with_reducible refine r_isNn ?_ | with_reducible refine r_isNr ?_ | with_reducible refine r_isNs ?_ | with_reducible refine r_notN ?_
  | ((with_reducible refine' r_ixL ?q7hs ?q7ha ?_); (case q7hs => exact SqL.of (by walk_at "hg")); (case q7ha => first | exact rfl | exact atI_nat (by assumption)))
  | ((with_reducible refine' r_ixT ?q7hs ?q7ha ?_); (case q7hs => exact SqT.of (by walk_at "hg")); (case q7ha => first | exact rfl | exact atI_nat (by assumption)))
  | ((with_reducible refine' r_len ?q7hs ?_); (case q7hs => exact SqL.of (by walk_at "hg")))
  | ((with_reducible refine' r_lenT ?q7hs ?_); (case q7hs => exact SqT.of (by walk_at "hg")))
  | ((with_reducible refine' r_mod ?q7c ?_); (case q7c => first | decide | omega)) | ((with_reducible refine' r_div ?q7c ?_); (case q7c => first | (constructor <;> decide) | (constructor <;> omega)))
  | ((with_reducible refine' r_mul ?q7c ?_); (case q7c => first | exact .inl ⟨by omega, by omega⟩ | exact .inr ⟨by omega, by omega⟩))
  | ((with_reducible refine' r_pow ?q7c ?_); (case q7c => exact ⟨by omega, by omega, by omega⟩))
  | with_reducible refine b_nT ?_ | with_reducible refine b_nF ?_ | with_reducible refine iteF ?_ | with_reducible refine iteT ?_
  | with_reducible refine k_blA ?_ | with_reducible refine k_int ?_ | with_reducible refine k_two ?_ | with_reducible refine k_three ?_
  | ((with_reducible refine' k_size ?q7hn ?_); (case q7hn => exact Nat.le_of_ble_eq_true rfl))
  | ((with_reducible refine' k_fld ?q7ha ?q7c ?q7n ?q7hl ?_); (case q7ha => walk_at "hg"); (case q7c => walk_at "cls"); (case q7n => walk_at "att"); (case q7hl => exact rfl))
  | ((with_reducible refine' k_put ?q7ha ?q7c ?q7n ?q7hl ?_); (case q7ha => walk_at "hg"); (case q7c => walk_at "cls"); (case q7n => walk_at "att"); (case q7hl => first | decide | exact Nat.lt_of_lt_of_le (Nat.lt_succ_self _) (Nat.le_of_ble_eq_true rfl)))
  | ((with_reducible refine' k_meth ?q7ha ?q7hl ?_); (case q7ha => walk_at "hg"); (case q7hl => exact rfl))
  | ((with_reducible refine' k_prop ?q7ha ?_); (case q7ha => walk_at "hg")))
local macro_rules | `(tactic| walk_at "rd") => `(tactic| repeat walk_at "rd1")
local macro_rules | `(tactic| walk_at "cls") => `(tactic| first | exact T.c_Board | exact T.c_World)
local macro_rules | `(tactic| walk_at "att") => `(tactic| first | exact T.n_Board_homes | exact T.n_Board_places | exact T.n_Board_rows | exact T.n_World_board | exact T.n_World_shown | exact T.n_World_standing | exact T.n_World_won | exact T.n_World_steps)

def sp_law (K : PySem.W.Frag) (A : Adr) : Sp := fun vs H Q E => ∃ (a : Addr), vs = [.ref a] ∧ ∃ ns : List Int, SqL K H a (ns.map V.int) ∧ ns.length ≤ 63 ∧ ∀ H', Q (.bl true) H'
theorem bok_of {R : Rows} {m : Nat} {rk gd : Nat → Nat} (G : Good R m rk gd) (h9 : m ≤ 9) : BOk R m :=
  ⟨G.n1, by have := G.n5; omega, fun p hp => ⟨(G.le4 p hp).1, by have := (G.le4 p hp).2; omega⟩, fun p hp x hx => G.ents p hp x hx, G.m1, h9⟩
theorem own_mid {A : Adr} {a : WA} {s s' : WS} {H0 H H' : Hp} {S : List Addr} {x : Addr × HO} {L : List (Addr × HO)} (C : Cur H0 S H (x :: (wL A a s ++ L))) (hm : ∀ x ∈ wS a, x ∈ S ∨ H0 x = none) (r : Ret (wS a) H H') (h : ∀ q ∈ wL A a s', H' q.1 = some q.2) : Cur H0 S H' (x :: (wL A a s' ++ L)) :=
  (callApp (L1 := wL A a s) (L1' := wL A a s') (C.perm List.perm_middle.symm) r hm rfl h).perm List.perm_middle
theorem cur_join {H0 H : Hp} {S : List Addr} {L1 L2 : List (Addr × HO)} (C : Cur H0 S H L2) (h : Has H L1) (d : ∀ p ∈ L1, p.1 ∉ L2.map (·.1)) : Cur H0 S H (L1 ++ L2) where
  nd := by
    rw [List.map_append]
    refine List.nodup_append.mpr ⟨h.1, C.nd, fun x hx y hy e => ?_⟩
    obtain ⟨p, hp, rfl⟩ := List.mem_map.mp hx
    exact d p hp (e ▸ hy)
  own := fun p hp => (List.mem_append.mp hp).elim (h.2 p) (C.own p)
  ret := C.ret
theorem kept_ht {R : Rows} {m c : Nat} {rk gd : Nat → Nat} {t : Int → Rat} {x : Nat → Rat} {hs sn : List Int} (G : Good R m rk gd) (hok : HandsOk R hs) (hsn : ∀ y ∈ sn, XOk R m y) (hx : ∀ j, j < R.length + m → Ht (numF R.length t x j) c) : Ht (keptR R t x hs sn) (R.length * (3 * (2 * c + 2) + 2) + sn.length * (c + 1) + 1) := by
  have f1 : ∀ i, i < R.length → Ht (keptF R t x hs sn i) (3 * (2 * c + 2) + 1) := fun i hi => by
    unfold keptF
    rw [if_pos hi]
    obtain ⟨h0, h1⟩ := hok.2 i hi
    have hl := (G.le4 i hi).2
    have := wr_ht (t := t) (x := x) (m := m) hi (G.ents i hi) hx (hs.getD i 0).toNat (by omega)
    exact this.mono (by have : (hs.getD i 0).toNat * (2 * c + 2) ≤ 3 * (2 * c + 2) := Nat.mul_le_mul_right _ (by omega)
                        omega)
  have f2 : ∀ i, i < sn.length → Ht (keptF R t x hs sn (R.length + i)) c := fun i hi => by
    unfold keptF
    rw [if_neg (by omega), show R.length + i - R.length = i by omega]
    have e : sn.getD i 0 = sn[i] := by rw [List.getD_eq_getElem?_getD, List.getElem?_eq_getElem hi]; rfl
    obtain ⟨z0, z1⟩ := hsn _ (List.getElem_mem hi)
    rw [← e] at z0 z1
    have := hx (sn.getD i 0).toNat (by omega)
    rw [numF_at z0] at this
    exact this
  rw [← kept_tot]
  exact sum_ht f1 f2 (R.length + sn.length) (Nat.le_refl _)
/-- a draw, with what it leaves said -/
theorem use_draw {K : PySem.W.Frag} {A : Adr} {H0 H : Hp} {S : List Addr} {L : List (Addr × HO)} {b c : Addr} {cells : List Int} {at_ lf m : Int} {Q : VK} {E : XK} (C : Cur H0 S H L) (i j : Nat) (hi : L[i]? = some (b, .lst [.ref c, .int at_, .int lf])) (hj : L[j]? = some (c, .lst (cells.map V.int))) (hij : i ≠ j)
    (mb : b ∈ S ∨ H0 b = none) (hcl : cells.length ≤ 60) (h0 : 0 ≤ at_) (h1 : at_ < 4194304) (hl : 0 ≤ lf) (m1 : 1 ≤ m) (m2 : m < 1000000)
    (k : ∀ d at' lf' H', 0 ≤ d → d < m → at_ ≤ at' → at' ≤ at_ + 1 → 0 ≤ lf' → Tups H H' → Cur H0 S H' (L.set i (b, .lst [.ref c, .int at', .int lf'])) → Q (.int d) H') : sp_l_ledger K A [.ref b, .int m] H Q E :=
  ⟨b, m, rfl, c, cells, at_, lf, C.get i hi, C.get j hj, C.ne i j hi hj hij, hcl, h0, h1, hl, m1, m2, fun d at' lf' H' a1 a2 a3 a4 a5 r e => k d at' lf' H' a1 a2 a3 a4 a5 (r.tupsL (C.get i hi)) (C.call1 i hi mb r e)⟩
variable {P : Program} {w : World} {K : PySem.W.Frag} {mg : Str → Option Value} {base : Heap} {A : Adr}
theorem ok_law {f : Addr} {fd : FuncData} (F : Fun K "law" "law" s_law f fd) (T : Txt K mg A) (G_l_steward : Gd P w K mg base CX0 1 "_law_steward" ["_law_script"] [] (sp_l_steward K A)) (G_l_ledger : Gd P w K mg base CX0 1 "_law_ledger" ["_law_steward_here", "_law_many"] [] (sp_l_ledger K A)) (G_l_one : Gd P w K mg base CX0 2 "_law_one" ["_law_steward_here", "_law_some"] [] (sp_l_one K A)) (G_l_rows : Gd P w K mg base CX0 3 "_law_rows" ["_law_steward_here", "_law_places", "_law_homes"] [] (sp_l_rows K A)) (G_World_init : Gm P w K mg base CX0 4 "World" A.World ["self", "board", "hands"] [] (sp_World_init K A)) (G_Board_init : Gm P w K mg base CX0 4 "Board" A.Board ["self", "homes", "rows"] [] (sp_Board_init K A)) (G_l_chances : Gd P w K mg base CX0 3 "_law_chances" ["_law_rows_here", "_law_homes"] [] (sp_l_chances K A)) (G_kept : Gd P w K mg base CX0 9 "kept" ["world", "home"] [] (sp_kept K A)) (G_l_due : Gd P w K mg base CX0 3 "_law_due" ["_law_rows_here", "_law_table", "_law_home", "_law_world"] [] (sp_l_due K A)) (G_World_walkers : Gp P w K mg base CX0 1 A.World "walkers" ["self"] (sp_World_walkers K A)) (G_l_plus : Gd P w K mg base CX0 2 "_law_plus" ["_law_one_here", "_law_other"] [] (sp_l_plus K A)) (G_World_play : Gv P w K mg base CX0 7 A.World "play" ["self", "place", "most"] [] (sp_World_play K A)) (G_World_enter : Gv P w K mg base CX0 4 A.World "enter" ["self", "place"] [] (sp_World_enter K A)) (G_World_advance : Gv P w K mg base CX0 5 A.World "advance" ["self", "walker"] [] (sp_World_advance K A)) (GK_kept : GdK P w K mg base CX0 9 "kept" ["world", "home"] ["home", "world"] (fun _ ws => swap2 ws) (fun _ ws => swap2 ws) (sp_kept K A)) (G_World_led : Gv P w K mg base CX0 7 A.World "led" ["self", "walker", "most"] [] (sp_World_led K A)) (G_World_hands : Gp P w K mg base CX0 1 A.World "hands" ["self"] (sp_World_hands K A)) (G_World_wins : Gp P w K mg base CX0 1 A.World "wins" ["self"] (sp_World_wins K A)) : FnG P w K mg base CX0 10 f fd ["_law_script"] (sp_law K A) := by
  refine okG F sc_law (fun vs H Q E h => by first | (obtain ⟨rfl, _⟩ := h; rfl) | (obtain ⟨_, rfl, _⟩ := h; rfl) | (obtain ⟨_, _, rfl, _⟩ := h; rfl) | (obtain ⟨_, _, _, rfl, _⟩ := h; rfl) | (obtain ⟨_, _, _, _, rfl, _⟩ := h; rfl) | (obtain ⟨_, _, _, _, _, rfl, _⟩ := h; rfl) | (obtain ⟨_, _, _, _, _, _, rfl, _⟩ := h; rfl) | (obtain ⟨_, _, _, _, _, _, _, rfl, _⟩ := h; rfl)) (fun cdv A' outer s H vs Q E hgd hr h => ⟨_, (pss_cons (ps_set (i := 1) sc_law.nd rfl (.inr rfl) (pe_callG G_l_steward (hr.mono (by decide)) (by rfl) pass0 (pa_cons (pv 0) pa_nil)))
      (pss_cons (ps_for PassesOwn.never rfl (pi_range1 (by rfl) T.b_range (pa_cons pe_int pa_nil)) (pg_name (i := 2) sc_law.nd rfl (.inl rfl)) (pss_cons (ps_asg (pe_tup (pa_cons (pe_callG G_l_one (hr.mono (by decide)) (by rfl) pass0 (pa_cons (pv 1) (pa_cons (pe_lst (pa_cons pe_int (pa_cons pe_int (pa_cons pe_int (pa_cons pe_int pa_nil))))) pa_nil))) (pa_cons (pe_op op_addU pe_int (pe_callG G_l_ledger (hr.mono (by decide)) (by rfl) pass0 (pa_cons (pv 1) (pa_cons pe_int pa_nil)))) pa_nil))) (pg_tupK K (n := 2) rfl (pgs_cons (pg_name (i := 8) sc_law.nd rfl (.inr rfl)) (pgs_cons (pg_name (i := 9) sc_law.nd rfl (.inl rfl)) pgs_nil))))
      (pss_cons (ps_set (i := 3) sc_law.nd rfl (.inl rfl) (pe_callG G_l_rows (hr.mono (by decide)) (by rfl) pass0 (pa_cons (pv 1) (pa_cons (pv 8) (pa_cons (pv 9) pa_nil)))))
      (pss_cons (ps_par (i := 10) (j := 11) (by rfl) sc_law.nd rfl rfl (by decide) rfl rfl (pa_cons (pe_ix (ix_seqK K) (pe_callG G_l_chances (hr.mono (by decide)) (by rfl) pass0 (pa_cons (pv 3) (pa_cons (pv 9) pa_nil))) pe_int (fun _ _ => rfl)) (pa_cons (pe_makeG G_World_init (hr.mono (by decide)) (by rfl) pass0 (pa_cons (pe_makeG G_Board_init (hr.mono (by decide)) (by rfl) pass0 (pa_cons (pv 9) (pa_cons (pv 3) pa_nil))) (pa_cons (pe_lc (own := [("_law_row", 19)]) rfl sc_law.nd (pi_seqK K (pv 3)) (blkOk_by (N := N_law) (sc := defScope s_law) (own := [("_law_row", 19)]) (by decide +kernel)) (fun _ _ _ _ _ => (pg_name (i := 19) sc_law.nd rfl (by first | exact .inl rfl | exact .inr rfl))) (fun _ _ _ _ _ => pts_nil) (fun _ _ _ _ _ => (pe_callG G_l_ledger (hr.mono (by decide)) (by rfl) pass0 (pa_cons (pv 1) (pa_cons (pe_callB (call_lenK K) (by rfl) T.b_len PySem.boot_len (pa_cons (pv 19) pa_nil)) pa_nil))))) pa_nil))) pa_nil)) (by rfl))
      (pss_cons (ps_par (i := 12) (j := 13) (by rfl) sc_law.nd rfl rfl (by decide) rfl rfl (pa_cons (pe_callG G_l_ledger (hr.mono (by decide)) (by rfl) pass0 (pa_cons (pv 1) (pa_cons (pv 9) pa_nil))) (pa_cons (pe_lst pa_nil) pa_nil)) (by rfl))
      (pss_cons (ps_set (i := 4) sc_law.nd rfl (.inl rfl) (pe_callG G_kept (hr.mono (by decide)) (by rfl) pass0 (pa_cons (pv 11) (pa_cons (pv 12) pa_nil))))
      (pss_cons (ps_if (pt_cmpR (op_neK K hr.units) (pv 4) (pe_callG G_l_due (hr.mono (by decide)) (by rfl) pass0 (pa_cons (pv 3) (pa_cons (pv 10) (pa_cons (pv 12) (pa_cons (pv 11) pa_nil))))) (nomark _)) (pss_one (ps_ret pe_bl)) pss_nil)
      (pss_cons (ps_set (i := 5) sc_law.nd rfl (.inl rfl) (pv 4))
      (pss_cons (ps_for PassesOwn.never rfl (pi_range1 (by rfl) T.b_range (pa_cons (pe_callG G_l_one (hr.mono (by decide)) (by rfl) pass0 (pa_cons (pv 1) (pa_cons (pe_lst (pa_cons pe_int (pa_cons pe_int (pa_cons pe_int pa_nil)))) pa_nil))) pa_nil)) (pg_name (i := 6) sc_law.nd rfl (.inl rfl)) (pss_cons (ps_setLc (i := 14) (own := [("_law_walker", 16), ("_law_spot", 17)]) rfl sc_law.nd rfl rfl (sw_true rfl rfl rfl (by decide +kernel)) (pi_enumK K true (by rfl) T.b_enumerate (pa_cons (pe_propG G_World_walkers T.c_World (hr.mono (by decide)) pass0 (pv 11)) pa_nil)) (blkOk_by (N := N_law) (sc := defScope s_law) (own := [("_law_walker", 16), ("_law_spot", 17)]) (by decide +kernel)) (fun _ _ _ _ _ => (pg_tupK K (n := 2) rfl (pgs_cons (pg_name (i := 16) sc_law.nd rfl (by first | exact .inl rfl | exact .inr rfl)) (pgs_cons (pg_name (i := 17) sc_law.nd rfl (by first | exact .inl rfl | exact .inr rfl)) pgs_nil)))) (fun _ _ _ _ _ => (pts_one (pt_cmpR op_ltI (pv 17) (pv 8) (nomark _)))) (fun _ _ _ _ _ => (pv 16)))
      (pss_cons (ps_if (PW.pt (pw_or (pt_cmpR (op_eqK K hr.units) (pv 14) (pe_lst pa_nil) (nomark _)) (pw_or1 (pt_cmpR (op_eqK K hr.units) (pe_callG G_l_ledger (hr.mono (by decide)) (by rfl) pass0 (pa_cons (pv 1) (pa_cons pe_int pa_nil))) pe_int (nomark _))))) (pss_cons (ps_set (i := 18) sc_law.nd rfl (.inl rfl) (pe_callG G_l_ledger (hr.mono (by decide)) (by rfl) pass0 (pa_cons (pv 1) (pa_cons (pv 8) pa_nil))))
      (pss_cons (ps_expr (pe_bmK K PySem.F.plainAttrs_list PySem.F.slot_list_append PySem.F.type_list_append mt_append (pv 13) (pa_cons (pv 18) pa_nil)))
      (pss_cons (ps_set (i := 5) sc_law.nd rfl (.inl rfl) (pe_callG G_l_plus (hr.mono (by decide)) (by rfl) pass0 (pa_cons (pv 5) (pa_cons (pe_ix (ix_seqK K) (pe_ix (ix_seqK K) (pv 10) (pv 18) (fun _ _ => rfl)) (pv 12) (fun _ _ => rfl)) pa_nil))))
      (pss_one (ps_if (pt_cmpR (op_eqK K hr.units) (pe_callG G_l_ledger (hr.mono (by decide)) (by rfl) pass0 (pa_cons (pv 1) (pa_cons pe_int pa_nil))) pe_int (nomark _)) (pss_one (ps_expr (pe_methG G_World_play T.c_World (hr.mono (by decide)) pass0 (pv 11) (pa_cons (pv 18) (pa_cons pe_int pa_nil))))) (pss_one (ps_expr (pe_methG G_World_enter T.c_World (hr.mono (by decide)) pass0 (pv 11) (pa_cons (pv 18) pa_nil))))))))) (pss_one (ps_expr (pe_methG G_World_advance T.c_World (hr.mono (by decide)) pass0 (pv 11) (pa_cons (pe_callG G_l_one (hr.mono (by decide)) (by rfl) pass0 (pa_cons (pv 1) (pa_cons (pv 14) pa_nil))) pa_nil)))))
      (pss_cons (ps_set (i := 15) sc_law.nd rfl (.inl rfl) (pe_ifExp (pt_cmpR op_gtI (pv 6) pe_int (nomark _)) (pe_callG G_kept (hr.mono (by decide)) (by rfl) pass0 (pa_cons (pv 11) (pa_cons (pv 12) pa_nil))) (pe_callGK GK_kept (hr.mono (by decide)) (by rfl) pass0 (pk_cons (pv 12) (pk_cons (pv 11) pk_nil)))))
      (pss_one (ps_if (PW.pt (pw_or (pt_cmpR (op_neK K hr.units) (pe_callB (cr_reprK K hgd (r100 hr)) (by rfl) T.b_repr (by decide +kernel) (pa_cons (pv 15) pa_nil)) (pe_callB (cr_reprK K hgd (r100 hr)) (by rfl) T.b_repr (by decide +kernel) (pa_cons (pv 5) pa_nil)) (nomark _)) (pw_or1 (pt_cmpR (op_neK K hr.units) (pv 5) (pe_callG G_l_due (hr.mono (by decide)) (by rfl) pass0 (pa_cons (pv 3) (pa_cons (pv 10) (pa_cons (pv 12) (pa_cons (pv 11) pa_nil))))) (nomark _))))) (pss_one (ps_ret pe_bl)) pss_nil))))))
      (pss_cons (ps_for PassesOwn.never rfl (pi_enumK K true (by rfl) T.b_enumerate (pa_cons (pe_propG G_World_walkers T.c_World (hr.mono (by decide)) pass0 (pv 11)) pa_nil)) (pg_tupK K (n := 2) rfl (pgs_cons (pg_name (i := 16) sc_law.nd rfl (.inl rfl)) (pgs_cons (pg_name (i := 17) sc_law.nd rfl (.inl rfl)) pgs_nil))) (pss_one (ps_if (pt_cmpR op_ltI (pv 17) (pv 8) (nomark _)) (pss_one (ps_expr (pe_methG G_World_led T.c_World (hr.mono (by decide)) pass0 (pv 11) (pa_cons (pv 16) (pa_cons pe_int pa_nil))))) pss_nil)))
      (pss_cons (ps_set (i := 7) sc_law.nd rfl (.inl rfl) (pe_callG G_kept (hr.mono (by decide)) (by rfl) pass0 (pa_cons (pe_makeG G_World_init (hr.mono (by decide)) (by rfl) pass0 (pa_cons (pe_fldK K (pv 11) rfl) (pa_cons (pe_propG G_World_hands T.c_World (hr.mono (by decide)) pass0 (pv 11)) pa_nil))) (pa_cons (pv 12) pa_nil))))
      (pss_one (ps_if (PW.pt (pw_or (pt_cmpR (op_neK K hr.units) (pe_callG G_kept (hr.mono (by decide)) (by rfl) pass0 (pa_cons (pv 11) (pa_cons (pv 12) pa_nil))) (pv 5) (nomark _)) (pw_or (pt_cmpR (op_neK K hr.units) (pe_callG G_l_plus (hr.mono (by decide)) (by rfl) pass0 (pa_cons (pv 7) (pa_cons (pe_tup (pa_cons (pe_ix (ix_seqK K) (pe_propG G_World_wins T.c_World (hr.mono (by decide)) pass0 (pv 11)) (pv 12) (fun _ _ => rfl)) (pa_cons pe_int pa_nil))) pa_nil))) (pv 5) (nomark _)) (pw_or1 (pt_cmpR (op_neK K hr.units) (pe_callB (call_lenK K) (by rfl) T.b_len PySem.boot_len (pa_cons (pv 13) pa_nil)) (pe_callB (cr_sumTK K rfl) (by rfl) T.b_sum (by decide +kernel) (pa_cons (pe_propG G_World_wins T.c_World (hr.mono (by decide)) pass0 (pv 11)) pa_nil)) (nomark _)))))) (pss_one (ps_ret pe_bl)) pss_nil)))))))))))))
      (pss_one (ps_ret pe_bl)))), ?_⟩)
  obtain ⟨a, rfl, ns, hS, hl, k⟩ := h
  have C : Cur H [] H [] := Cur.start (by simp) (by simp)
  walk_at "rd"
  refine ⟨a, rfl, ns, hS, hl, fun b c cells H1 r1 b0 c0 hbc hb hc hcl => ?_⟩
  have C : Cur H [] H1 [(b, bail c 0 0), (c, HO.lst (cells.map V.int))] := ((C.call0 r1).add (by simp) hc).add (by simp [hbc]) hb
  have hW1 := has_of C
  walk_at "rd"
  refine k_rng1 (j := 2) (by omega) (by omega) ?_
  refine for_r (fun i σ H' => ∃ (at' lf' : Int) (o2 o3 o4 o5 o6 o7 o8 o9 o10 o11 o12 o13 o14 o15 o16 o17 o18 : Option V), σ = [some (.ref a), some (.ref b), o2, o3, o4, o5, o6, o7, o8, o9, o10, o11, o12, o13, o14, o15, o16, o17, o18, none] ∧ 0 ≤ at' ∧ at' ≤ 1000000 * i ∧ 0 ≤ lf' ∧
    Has H' [(b, bail c at' lf'), (c, HO.lst (cells.map V.int))]) ⟨0, 0, _, _, _, _, _, _, _, _, _, _, _, _, _, _, _, _, _, rfl, Int.le_refl _, by omega, Int.le_refl _, hW1⟩ ?_ ?_
  · rintro tn σ H' hi ⟨at', lf', o2, o3, o4, o5, o6, o7, o8, o9, o10, o11, o12, o13, o14, o15, o16, o17, o18, rfl, a0, a1, l0, hW⟩
    have hi2 : tn < 2 := hi
    have C : Cur H' [b] H' [(b, bail c at' lf'), (c, HO.lst (cells.map V.int))] := hW.cur
    walk_at "rd"
    refine new_c C fun dl H2 dl0 C => ?_
    walk_at "rd"
    refine ⟨b, dl, rfl, c, cells, at', lf', [3, 1, 2, 4], C.get 1 rfl, C.get 2 rfl, C.ne 1 2 rfl rfl (by decide), C.get 0 rfl, C.ne 1 0 rfl rfl (by decide), hcl, by omega, by omega, l0, by decide, by decide, fun dn at1 lf1 H3 hdn a1' a2' a3' r3 e3 => ?_⟩
    have C := (C.call1 1 rfl (.inl (by simp)) r3 e3).drop
    obtain ⟨n, rfl, hn1, hn4⟩ : ∃ n : Nat, dn = (n : Int) ∧ 1 ≤ n ∧ n ≤ 4 := by
      simp only [List.mem_cons, List.not_mem_nil, or_false] at hdn
      exact ⟨dn.toNat, by omega, by omega, by omega⟩
    walk_at "rd"
    refine use_crook C 0 1 rfl rfl (by decide) (.inl (by simp)) hcl (by omega) (by omega) a3' (by decide) (by decide) fun dh at2 lf2 H4 d0 d1 b0' b1 b2 C => ?_
    obtain ⟨m, hm, hm1, hm9⟩ : ∃ m : Nat, 1 + dh = (m : Int) ∧ 1 ≤ m ∧ m ≤ 3 := ⟨(1 + dh).toNat, by omega, by omega, by omega⟩
    walk_at "rd"
    refine new_c C fun t H5 t0 C => ?_
    refine u_gtup (SqT.of (C.get 0 rfl)) rfl ?_
    have C := C.drop
    have C7 := C
    walk_at "rd"
    rw [hm]
    refine ⟨b, n, m, rfl, c, cells, at2, lf2, has_of C, hn1, by omega, hm1, by omega, hcl, by omega, by omega, b2, fun r ads R rk gd at3 lf3 H6 hRl G c0' c1 c2 r6 hb6 hr0 hr6 had hRA => ?_⟩
    have hbads : b ∉ ads := fun z => by have h1 := had b z; rw [C.get 0 rfl] at h1; cases h1
    subst hRl
    have C := C7.call1n 0 rfl (.inl (by simp)) r6 hb6 hr0 hr6
    have C : Cur H6 [b] H6 [(r, HO.lst (ads.map V.ref)), (b, bail c at3 lf3), (c, HO.lst (cells.map V.int))] := C.again
    walk_at "rd"
    refine ⟨r, m, rfl, ads, R, rk, gd, C.get 0 rfl, hRA, G, by omega, fun u tl ll rads lads H7 r7 u0 tl0 ll0 hu htl hT htn hfr _ _ => ?_⟩
    have hbrads : b ∉ rads := fun z => by have h1 := hfr b z; rw [C.get 1 rfl] at h1; cases h1
    have C := (C.call0n r7 tl0 htl).again (S1 := [b])
    have hRA7 : RowsAt H7 ads R := hRA.to r7 (by simp)
    refine r_ixT (SqT.of hu) rfl ?_
    walk_at "rd"
    refine make_c C fun x dx H8 x0 dx0 C => ?_
    have nbR : ∀ y ∈ rads, y ∉ [b] := fun y hy z => hbrads (List.mem_singleton.mp z ▸ hy)
    have nbA : ∀ y ∈ ads, y ∉ [b] := fun y hy z => hbads (List.mem_singleton.mp z ▸ hy)
    have nbT : ∀ s ∈ [b], ∀ xs, H7 s ≠ some (.tup xs) := fun s hs xs e => by
      have h1 := r7.fr b _ hb6 (by simp)
      rw [List.mem_singleton.mp hs, h1] at e; cases e
    refine ⟨x, r, m, rfl, dx, ads, R, C.get 0 rfl, C.get 3 rfl, hRA7.to C.ret nbA, bok_of G (by omega), fun t2 tads H9 r9 t20 hx9 ht9 hTR => ⟨rfl, ?_⟩⟩
    have C := C.call1n 0 rfl (.inr x0) r9 hx9 t20 ht9
    have C : Cur H7 [b] H9 [(b, bail c at3 lf3), (c, HO.lst (cells.map V.int)), (x, HO.ins A.Board dx [("homes", .int m), ("places", .int R.length), ("rows", .ref t2)]), (t2, HO.tup (tads.map V.ref)), (r, HO.lst (ads.map V.ref)), (tl, HO.lst (rads.map V.ref))] := C.pick [5, 6, 1, 0, 4, 3] (by decide)
    walk_at "rd"
    refine u_sseqL ?_
    walk_at "rd"
    refine k_seqL (SqL.of (C.get 4 rfl)) ?_
    refine lc_l (xs := ads.map V.ref) (C.again (S1 := [b])) (fun D j H' => ∃ (hs : List Int) (at4 lf4 : Int), hs.length = j ∧ (∀ p, p < j → 0 ≤ hs.getD p 0 ∧ hs.getD p 0 < ((row R p).length : Int)) ∧ at3 ≤ at4 ∧ at4 ≤ at3 + j ∧ 0 ≤ lf4 ∧
      Cur H9 [b] H' [(D, HO.lst (hs.map V.int)), (b, bail c at4 lf4), (c, HO.lst (cells.map V.int)), (x, HO.ins A.Board dx [("homes", .int m), ("places", .int R.length), ("rows", .ref t2)]), (t2, HO.tup (tads.map V.ref)), (r, HO.lst (ads.map V.ref)), (tl, HO.lst (rads.map V.ref))]) (fun D H1 D0 C => ⟨[], at3, lf3, rfl, by simp, Int.le_refl _, by omega, c2, C⟩) (fun D j H' hj h => ?_) (fun D j y H' D0 hy h => ?_) (fun hh H10 hh0 h => ?_)
    · obtain ⟨hs, at4, lf4, _, _, _, _, _, C⟩ := h
      exact SqL.of (C.get 5 rfl)
    · obtain ⟨hs, at4, lf4, hsl, hsb, e0, e1, e2, C2⟩ := h
      obtain ⟨ra, hra, rfl⟩ := refOf hy
      have hjR : j < R.length := by rw [← hRA.1]; exact (List.getElem?_eq_some_iff.mp hra).1
      have hrow := (hRA7.to (C.ret.trans C2.ret) nbA).2 j ra hra
      have hle := G.le4 j hjR
      have hR5 := G.n5
      walk_at "rd"
      refine ⟨rfl, ?_⟩
      walk_at "rd"
      refine use_crook C2 1 2 rfl rfl (by decide) (.inl (by simp)) hcl (by omega) (by omega) e2 (by rw [len_map]; omega) (by rw [len_map]; omega) fun d at5 lf5 H7 d0 d1 f0 f1 f2 C => ?_
      rw [len_map] at d1
      refine k_acc (C.get 0 rfl) (by rw [len_map]; omega) ?_
      refine mod_c C 0 rfl (.inr D0) fun H8 C => ?_
      refine ⟨hs ++ [d], at5, lf5, by simp [hsl], fun p hp => ?_, by omega, by omega, f2, by rw [List.map_append]; exact C⟩
      rw [List.getD_eq_getElem?_getD]
      by_cases q : p < j
      · rw [List.getElem?_append_left (by omega), ← List.getD_eq_getElem?_getD]; exact hsb p q
      · obtain rfl : p = j := by omega
        rw [List.getElem?_append_right (by omega), show p - hs.length = 0 by omega]; exact ⟨d0, d1⟩
    · obtain ⟨hs0, at4, lf4, hsl, hsb, e0, e1, e2, C2⟩ := h
      rw [List.length_map, hRA.1] at hsl e1 hsb
      have hok : HandsOk R hs0 := ⟨hsl, hsb⟩
      have hR5 := G.n5
      have hh00 := C.fresh hh0
      have r910 : Ret [b] H9 H10 := C2.ret
      have nbT9 : ∀ s ∈ [b], ∀ xs, H9 s ≠ some (.tup xs) := fun s hs xs e => by
        rw [List.mem_singleton.mp hs, C.get 0 rfl] at e; cases e
      have hTR10 : TRows H10 tads R := hTR.to r910 nbT9
      have C : Cur H7 [b] H10 [(hh, HO.lst (hs0.map V.int)), (b, bail c at4 lf4), (c, HO.lst (cells.map V.int)), (x, HO.ins A.Board dx [("homes", .int m), ("places", .int R.length), ("rows", .ref t2)]), (t2, HO.tup (tads.map V.ref)), (r, HO.lst (ads.map V.ref)), (tl, HO.lst (rads.map V.ref))] := ⟨C2.nd, C2.own, C.ret.trans r910⟩
      walk_at "rd"
      have C10 := C
      refine make_c (C10.again (S1 := [])) fun w dw H11 w0 dw0 C => ?_
      refine ⟨w, x, hh, rfl, ⟨w, dw, 0, 0, 0, x, dx, t2⟩, R, m, tads, hs0, false, rfl, rfl, has_of (C.pick [0, 2, 5, 6] (by decide)), hTR10.to C.ret (by simp), hok, lenOk_of G, by omega, by omega, fun sh st wo H12 r12 f1 f2 f3 hW12 => ⟨rfl, ?_⟩⟩
      have g1 := C10.fresh (C.fresh f1)
      have g2 := C10.fresh (C.fresh f2)
      have g3 := C10.fresh (C.fresh f3)
      have w0' := C10.fresh w0
      have r1112 : TRows H12 tads R := (hTR10.to C.ret (by simp)).to r12 (fun s hs xs e => by rw [List.mem_singleton.mp hs, C.get 0 rfl] at e; cases e)
      have C2 := C.call1 0 rfl (.inr w0) r12 (hW12.2 (w, _) List.mem_cons_self)
      have C3 := cur_join C2.drop hW12 (fun p hp => by
        simp only [wL, List.mem_cons, List.not_mem_nil, or_false] at hp
        rcases hp with rfl | rfl | rfl | rfl
        · exact (List.nodup_cons.mp C2.nd).1
        · exact fun z => C.out f1 (List.mem_cons_of_mem _ z)
        · exact fun z => C.out f2 (List.mem_cons_of_mem _ z)
        · exact fun z => C.out f3 (List.mem_cons_of_mem _ z))
      have C := C10.and C3
      generalize hwa : (⟨w, dw, sh, st, wo, x, dx, t2⟩ : WA) = wa at *
      have ew : w = wa.w := by rw [← hwa]
      have C : Cur H7 [b] H12 ((b, bail c at4 lf4) :: (wL A wa ⟨hs0, [], List.replicate m 0, 0⟩ ++ ((c, HO.lst (cells.map V.int)) :: (bL A wa R m tads ++ [(r, HO.lst (ads.map V.ref)), (tl, HO.lst (rads.map V.ref))])))) := by
        subst hwa
        exact C.pick [6, 0, 1, 2, 3, 7, 8, 9, 10, 11] (by decide)
      have hfw : ∀ y ∈ wS wa, H7 y = none := fun y hy => by
        subst hwa
        simp only [wS, List.mem_cons, List.not_mem_nil, or_false] at hy
        rcases hy with rfl | rfl | rfl | rfl <;> assumption
      clear C2 C3 C10 hwa
      have hat : at4 ≤ at' + 200 := by omega
      have hat0 : 0 ≤ at4 := by omega
      clear e0 e1 c0' c1 b0' b1 a1' a2' hsb hdn
      walk_at "rd"
      refine use_draw C 0 5 rfl rfl (by decide) (.inl (by simp)) hcl (by omega) (by omega) e2 (by omega) (by omega) fun dhm at5 lf5 H13 h0 h1 i0 i1 i2 t1213 C => ?_
      obtain ⟨h, rfl, hm'⟩ : ∃ h : Nat, dhm = (h : Int) ∧ h < m := ⟨dhm.toNat, by omega, by omega⟩
      have hTR13 : TRows H13 tads R := ⟨r1112.1, fun i a e => t1213 _ _ (r1112.2 i a e)⟩
      walk_at "rd"
      refine new_r C fun en H14 en0 en00 C r14 => ?_
      have hTR14 : TRows H14 tads R := hTR13.to r14 (by simp)
      have r714 : Ret [b] H7 H14 := C.ret
      have hT14 : TabP K H14 rads (fun p j => share R j p) R.length m := hT.to r714 nbR nbT
      have hRA14 : RowsAt H14 ads R := hRA7.to r714 nbA
      have hSR : ∀ y ∈ rads, y ∉ (b :: en :: wS wa) := fun y hy z => by
        obtain ⟨q, hq⟩ := List.mem_iff_getElem?.mp hy
        obtain ⟨pads, e, _⟩ := hT.2 q y hq
        rcases List.mem_cons.mp z with z | z
        · exact hbrads (z ▸ hy)
        · rcases List.mem_cons.mp z with z | z
          · rw [z, en0] at e; cases e
          · rw [hfw y z] at e; cases e
      have hSA : ∀ y ∈ ads, y ∉ (b :: en :: wS wa) := fun y hy z => by
        obtain ⟨q, hq⟩ := List.mem_iff_getElem?.mp hy
        have e := hRA7.2 q y hq
        rcases List.mem_cons.mp z with z | z
        · exact hbads (z ▸ hy)
        · rcases List.mem_cons.mp z with z | z
          · rw [z, en0] at e; cases e
          · rw [hfw y z] at e; cases e
      have C : Cur H14 (b :: en :: wS wa) H14 ((b, bail c at5 lf5) :: (wL A wa ⟨hs0, [], List.replicate m 0, 0⟩ ++ ((c, HO.lst (cells.map V.int)) :: (bL A wa R m tads ++ [(en, HO.lst (([] : List Int).map V.int)), (r, HO.lst (ads.map V.ref)), (tl, HO.lst (rads.map V.ref))])))) := (C.pick [1, 2, 3, 4, 5, 6, 7, 8, 0, 9, 10] (by decide)).again
      have hST : ∀ s ∈ (b :: en :: wS wa), ∀ xs, H14 s ≠ some (.tup xs) := fun s hs xs e => by
        simp only [wS, List.mem_cons, List.not_mem_nil, or_false] at hs
        rcases hs with rfl | rfl | rfl | rfl | rfl | rfl
        · rw [C.get 0 rfl] at e; cases e
        · rw [C.get 8 rfl] at e; cases e
        · rw [C.get 1 rfl] at e; cases e
        · rw [C.get 2 rfl] at e; cases e
        · rw [C.get 3 rfl] at e; cases e
        · rw [C.get 4 rfl] at e; cases e
      have hwm : ∀ y ∈ wS wa, y ∈ (b :: en :: wS wa) ∨ H14 y = none := fun y hy => .inl (List.mem_cons_of_mem _ (List.mem_cons_of_mem _ hy))
      have hsok0 : SOk R m ⟨hs0, [], List.replicate m 0, 0⟩ := ⟨hok, by simp, by simp, fun j hj => by show (List.replicate m (0 : Int)).getD j 0 = ((M94.cnt [] (R.length + j) : Nat) : Int); simp [M94.cnt, List.getD_eq_getElem?_getD, List.getElem?_replicate, hj], by simp⟩
      have hSol := share_sol G hm'
      have hc33 : ∀ j, j < R.length + m → Ht (numF R.length (tH R.length h) (share R h) j) 33 := fun j hj => (share_num G hm' hj).mono (by
        have : 2 ^ (R.length + 1) ≤ 2 ^ 5 := Nat.pow_le_pow_right (by decide) (by omega)
        omega)
      have hbig : ∀ k : Nat, k ≤ 16 → R.length * (3 * (2 * 33 + 2) + 2) + k * (33 + 1) + 1 ≤ 1400 := fun k hk => by omega
      have hTat : ∀ {H' : Hp}, Ret (b :: en :: wS wa) H14 H' → TRows H' tads R := fun r => hTR14.to r hST
      have hRat : ∀ {H' : Hp}, Ret (b :: en :: wS wa) H14 H' → RowsAt H' ads R := fun r => hRA14.to r hSA
      have hTabat : ∀ {H' : Hp}, Ret (b :: en :: wS wa) H14 H' → TabP K H' rads (fun p j => share R j p) R.length m := fun r => hT14.to r hSR hST
      clear hT14 hRA14 hTR14 hTR13 r714 r14 t1213 hT hRA7 hRA hfw hfr r1112 nbR nbA nbT nbT9 r910 C2 r7 r9 hTR
      have hbS : b ∈ (b :: en :: wS wa) := by simp
      have henS : en ∈ (b :: en :: wS wa) := by simp
      generalize b :: en :: wS wa = SS at *
      walk_at "rd"
      have hsol0 : ∀ y ∈ ([] : List Int), XOk R m y := by simp
      refine ⟨w, h, rfl, wa, _, R, m, rk, gd, tads, share R h, 33, ew, has_of (C.pick [1, 2, 3, 4, 6, 7] (by decide)), hTat C.ret, G, hok, hsol0, by simp, by omega, hm', hSol, hc33, by have := hbig 0 (by omega); simp; omega, by decide, fun fi H15 r15 hfi => ?_⟩
      have C := C.call0 r15
      walk_at "rd"
      refine ⟨r, tl, w, h, rfl, ads, rads, R, m, rk, gd, wa, _, 33, ew, C.get 9 rfl, hRat C.ret, C.get 10 rfl, hTabat C.ret, has_of (C.pick [1, 2, 3, 4] (by decide)), G, hok, hsol0, hm', by simp, hc33, by have := hbig 0 (by omega); simp; omega, by decide, fun du0 H16 r16 hdu0 => ?_⟩
      have C := C.call0 r16
      have hfi := hfi.to r16.tups0
      refine r_nePr hfi hdu0 ?_
      walk_at "rd"
      refine b_f (by simp) ?_
      walk_at "rd"
      refine new_r C fun l3 H17 l30 l300 C r17 => ?_
      have hfi := hfi.to r17.tups0
      walk_at "rd"
      refine ⟨b, l3, rfl, c, cells, at5, lf5, [8, 3, 15], C.get 1 rfl, C.get 6 rfl, C.ne 1 6 rfl rfl (by decide), C.get 0 rfl, C.ne 1 0 rfl rfl (by decide), hcl, by omega, by omega, i2, by decide, by decide, fun dl at6 lf6 H18 hdl j0 j1 j2 r18 e18 => ?_⟩
      have t18 : Tups H17 H18 := r18.tupsL (C.get 1 rfl)
      have hfi := hfi.to t18
      have C := (C.call1 1 rfl (.inl hbS) r18 e18).drop
      have hdl2 : 0 ≤ dl ∧ dl ≤ 15 := by
        simp only [List.mem_cons, List.not_mem_nil, or_false] at hdl
        omega
      refine k_rng1 (j := dl) (by omega) (by omega) ?_
      have CK := C
      subst ew
      have C := CK
      clear CK
      let LL : Int → Int → WS → List Int → List (Addr × HO) := fun at_ lf s es => (b, bail c at_ lf) :: (wL A wa s ++ ((c, HO.lst (cells.map V.int)) :: (bL A wa R m tads ++ [(en, HO.lst (es.map V.int)), (r, HO.lst (ads.map V.ref)), (tl, HO.lst (rads.map V.ref))])))
      let kR : WS → Rat := fun s => keptR R (tH R.length h) (share R h) s.hs s.sn
      refine for_r (fun i σ H' => ∃ (at7 lf7 : Int) (s : WS) (es : List Int) (du : Addr) (o6 o14 o15 o18 : Option V), σ = [some (.ref a), some (.ref b), some (.int (0 + (tn : Int))), some (.ref r), some (.ref fi), some (.ref du), o6, o7, some (.int R.length), some (.int m), some (.ref tl), some (.ref wa.w), some (.int h), some (.ref en), o14, o15, o16, o17, o18, none] ∧
        at6 ≤ at7 ∧ at7 ≤ at6 + 3 * i ∧ 0 ≤ lf7 ∧ SOk R m s ∧ s.sn.length ≤ i ∧ es.length = s.sn.length ∧ PrA K H' du (kR s) ∧ Cur H14 SS H' (LL at7 lf7 s es)) ?_ ?_ ?_
      · exact ⟨at6, lf6, _, [], fi, _, _, _, _, rfl, Int.le_refl _, by omega, j2, hsok0, by simp, rfl, hfi, C⟩
      · rintro i σ H19 hi ⟨at7, lf7, s, es, du, o6, o14, o15, o18, rfl, k0, k1, k2, ok, hsl, hel, hdu, C⟩
        have hi15 : i < 15 := by omega
        have hW19 : Has H19 (wL A wa s) := has_of (C.pick [1, 2, 3, 4] (by decide))
        walk_at "rd"
        refine ⟨wa.w, rfl, wa, s, rfl, hW19, fun tw H20 r20 tw0 htw => ?_⟩
        have C := C.call0n r20 tw0 htw
        have hdu := hdu.to r20.tups0
        walk_at "rd"
        refine k_enum (k := true) (SqT.of htw) ?_
        refine lc_e (k := true) (xs := s.sn.map V.int) (C.again (S1 := [])) (fun D j H' => ∃ os : List Int, (∀ z ∈ os, 0 ≤ z ∧ z < (s.sn.length : Int) ∧ s.sn.getD z.toNat 0 < (R.length : Int)) ∧ os.length ≤ j ∧ Cur H20 [] H' ((D, HO.lst (os.map V.int)) :: (tw, HO.tup (s.sn.map V.int)) :: LL at7 lf7 s es))
          (fun D H1 D0 C => ⟨[], by simp, by simp, C⟩) (fun D i H' hi h => by obtain ⟨os, _, _, C⟩ := h; exact SqT.of (C.get 1 rfl)) ?_ ?_
        · rintro D j y H21 D0 hy ⟨os, ho1, ho2, C21⟩
          obtain ⟨z, hz, rfl⟩ := int_of hy
          have hj : j < s.sn.length := (List.getElem?_eq_some_iff.mp hz).1
          refine new_r C21 fun u H22 u0 u00 C22 r22 => ?_
          refine u_gtup (SqT.of (C22.get 0 rfl)) rfl ?_
          walk_at "rd"
          refine ⟨rfl, ?_⟩
          walk_at "rd"
          refine b_dec (fun hlt => ?_) (fun hge => ?_)
          · walk_at "rd"
            refine k_acc (C22.get 1 rfl) (by rw [len_map]; omega) ?_
            refine mod_r C22 1 rfl (.inr D0) fun H23 C23 r23 => ?_
            refine ⟨os ++ [(j : Int)], fun q hq => ?_, by simp; omega, by rw [List.map_append]; exact C23.drop⟩
            rcases List.mem_append.mp hq with q1 | q1
            · exact ho1 q q1
            · rw [List.mem_singleton.mp q1]
              exact ⟨by omega, by omega, by rw [Int.toNat_natCast, List.getD_eq_getElem?_getD, hz]; exact hlt⟩
          · exact ⟨os, ho1, by omega, C22.drop⟩
        rintro D H21 D0 ⟨os, ho1, ho2, C21⟩
        rw [len_map] at ho2
        have hdu := hdu.to C21.ret.tups0
        have D00 := C.fresh D0
        have C := C.and C21
        have C : Cur H14 SS H21 ((b, bail c at7 lf7) :: (wL A wa s ++ ((c, HO.lst (cells.map V.int)) :: (bL A wa R m tads ++ [(en, HO.lst (es.map V.int)), (r, HO.lst (ads.map V.ref)), (tl, HO.lst (rads.map V.ref)), (D, HO.lst (os.map V.int))])))) := C.pick [2, 3, 4, 5, 6, 7, 8, 9, 10, 11, 12, 0] (by decide)
        (with_reducible refine u_gname ?_)
        (with_reducible refine u_seq ?_)
        have hkb : Ht (kR s) 1400 := (kept_ht G ok.hok ok.xs hc33).mono (hbig _ (by omega))
        refine cutS (fun σ' H' => ∃ (at8 lf8 : Int) (s' : WS) (es' : List Int) (du' : Addr) (o18' : Option V), σ' = [some (.ref a), some (.ref b), some (.int (0 + (tn : Int))), some (.ref r), some (.ref fi), some (.ref du'), some (.int (0 + (i : Int))), o7, some (.int R.length), some (.int m), some (.ref tl), some (.ref wa.w), some (.int h), some (.ref en), some (.ref D), o15, o16, o17, o18', none] ∧
          at7 ≤ at8 ∧ at8 ≤ at7 + 3 ∧ 0 ≤ lf8 ∧ SOk R m s' ∧ s'.sn.length ≤ i + 1 ∧ es'.length = s'.sn.length ∧ PrA K H' du' (kR s') ∧ Cur H14 SS H' (LL at8 lf8 s' es')) (fun nx0 hnx => ?_) ?_
        · (with_reducible refine u_if ?_)
          refine cutT (fun v H' => ∃ (at8 lf8 : Int), at7 ≤ at8 ∧ at8 ≤ at7 + 1 ∧ 0 ≤ lf8 ∧ (v = false → os ≠ []) ∧ PrA K H' du (kR s) ∧
            Cur H14 SS H' ((b, bail c at8 lf8) :: (wL A wa s ++ ((c, HO.lst (cells.map V.int)) :: (bL A wa R m tads ++ [(en, HO.lst (es.map V.int)), (r, HO.lst (ads.map V.ref)), (tl, HO.lst (rads.map V.ref)), (D, HO.lst (os.map V.int))]))))) (fun Q0 hQ0 => ?_) ?_
          · walk_at "rd"
            refine new_r C fun e0 H22 e00 e01 C22 r22 => ?_
            refine r_eqL (ns := os) (ms := []) (SqL.of (C22.get 12 rfl)) (SqL.of (C22.get 0 rfl)) ?_
            walk_at "rd"
            have C22 := C22.drop
            have hdu := hdu.to r22.tups0
            refine b_dec (fun hos => ?_) (fun hos => ?_)
            · exact hQ0 _ _ ⟨at7, lf7, by omega, by omega, k2, fun z => (nomatch z), hdu, C22⟩
            · walk_at "rd"
              refine use_draw C22 0 5 rfl rfl (by decide) (.inl hbS) hcl (by omega) (by omega) k2 (by decide) (by decide) fun d at8 lf8 H23 d0 d1 u0 u1 u2 t23 C23 => ?_
              walk_at "rd"
              exact hQ0 _ _ ⟨at8, lf8, u0, u1, u2, fun _ => hos, hdu.to t23, C23⟩
          rintro v H22 ⟨at8, lf8, u0, u1, u2, hvo, hdu, C⟩
          cases v with
          | true =>
            refine iteT ?_
            walk_at "rd"
            refine use_draw C 0 5 rfl rfl (by decide) (.inl hbS) hcl (by omega) (by omega) u2 (by omega) (by omega) fun dp at9 lf9 H23 p0 p1 v0 v1 v2 t23 C => ?_
            obtain ⟨p, rfl, hp⟩ : ∃ p : Nat, dp = (p : Int) ∧ p < R.length := ⟨dp.toNat, by omega, by omega⟩
            have hdu := hdu.to t23
            walk_at "rd"
            refine ⟨ty_list (C.get 8 rfl), ?_⟩
            walk_at "rd"
            refine r_app (C.get 8 rfl) (by rw [len_map]; omega) ?_
            refine mod_r C 8 rfl (.inl henS) fun H24 C24 r24 => ?_
            have t24 : Tups H23 H24 := r24.tupsL (C.get 8 rfl)
            have hdu := hdu.to t24
            have C : Cur H14 SS H24 (LL at9 lf9 s (es ++ [(p : Int)])) := by
              show Cur H14 SS H24 ((b, bail c at9 lf9) :: (wL A wa s ++ ((c, HO.lst (cells.map V.int)) :: (bL A wa R m tads ++ [(en, HO.lst ((es ++ [(p : Int)]).map V.int)), (r, HO.lst (ads.map V.ref)), (tl, HO.lst (rads.map V.ref))]))))
              rw [List.map_append]
              exact C24.pick [0, 1, 2, 3, 4, 5, 6, 7, 8, 9, 10] (by decide)
            obtain ⟨rp, hrp, qads, hq1, hq2⟩ := (hTabat C.ret).get hp
            obtain ⟨ph, hph, hphp⟩ := hq2.get hm'
            have hsh : Ht (share R h p) 33 := by have := hc33 p (by omega); rwa [numF_in hp] at this
            walk_at "rd"
            refine r_ixL (SqL.of (C.get 10 rfl)) (atRn hrp) ?_
            walk_at "rd"
            refine r_ixL (SqL.of hq1) (atRn hph) ?_
            walk_at "rd"
            refine ⟨du, ph, rfl, _, _, hdu, hphp, ⟨hkb.mono (by decide), hsh.mono (by decide)⟩, fun du2 H25 r25 du20 e25 => ?_⟩
            have C := C.call0 r25
            let s1 : WS := { s with sn := s.sn ++ [(p : Int)] }
            have hk1 : kR s1 = kR s + share R h p := kept_enter hp
            have hdu2 : PrA K H25 du2 (kR s1) := PrA.res e25 hk1
            have ok1 : SOk R m s1 := sok_enter G ok hp (by omega)
            have hl1 : s1.sn.length = s.sn.length + 1 := by show (s.sn ++ [(p : Int)]).length = _; simp
            have hsn1 : s1.sn[s.sn.length]? = some (p : Int) := by show (s.sn ++ [(p : Int)])[s.sn.length]? = _; simp
            walk_at "rd"
            refine use_draw C 0 5 rfl rfl (by decide) (.inl hbS) hcl (by omega) (by omega) v2 (by decide) (by decide) fun d at10 lf10 H26 d0 d1 w0 w1 w2 t26 C => ?_
            have hdu2 := hdu2.to t26
            have hWT : Has H26 (wL A wa s ++ bL A wa R m tads) := has_of (C.pick [1, 2, 3, 4, 6, 7] (by decide))
            have tW : ∀ {H' : Hp}, Ret (wS wa) H26 H' → Tups H26 H' := fun r => r.tups (notTup hWT)
            walk_at "rd"
            refine b_dec (fun hz => ?_) (fun hz => ?_)
            · walk_at "rd"
              refine ⟨wa.w, p, rfl, wa, s, R, m, rk, gd, tads, rfl, hWT, hTat C.ret, wok_of G ok, G, by omega, hp, by omega, fun v H27 r27 h27 => ?_⟩
              have C := own_mid C hwm r27 h27
              walk_at "rd"
              refine hnx _ _ ⟨at10, lf10, ledTo R s1 s.sn.length p, es ++ [(p : Int)], du2, _, rfl, by omega, by omega, w2, (sok_led G ok1 hsn1 hp).1, ?_, ?_, ?_, C⟩
              · show (s1.sn.set _ _).length ≤ _; rw [List.length_set, hl1]; omega
              · show _ = (s1.sn.set _ _).length; rw [List.length_set, hl1]; simp [hel]
              · have := led_kept G hSol 10000 s1.hs s1.sn p ok1.hok ⟨by omega, by omega⟩ hsn1
                have e : kR (ledTo R s1 s.sn.length p) = kR s1 := this
                rw [e]; exact hdu2.to (tW r27)
            · walk_at "rd"
              refine ⟨wa.w, p, rfl, wa, s, R, m, tads, rfl, hWT, by omega, by omega, by omega, fun H27 r27 h27 => ?_⟩
              have C := own_mid C hwm r27 h27
              walk_at "rd"
              exact hnx _ _ ⟨at10, lf10, s1, es ++ [(p : Int)], du2, _, rfl, by omega, by omega, w2, ok1, by omega, by rw [hl1]; simp [hel], hdu2.to (tW r27), C⟩
          | false =>
            refine iteF ?_
            have hone := hvo rfl
            have hol : 1 ≤ os.length := by
              cases os with
              | nil => exact absurd rfl hone
              | cons _ _ => simp
            walk_at "rd"
            refine ⟨b, D, rfl, c, cells, at8, lf8, os, C.get 0 rfl, C.get 5 rfl, C.ne 0 5 rfl rfl (by decide), C.get 11 rfl, C.ne 0 11 rfl rfl (by decide), hcl, by omega, by omega, u2, hol, by omega, fun d at9 lf9 H23 hd v0 v1 v2 r23 e23 => ?_⟩
            have hdu := hdu.to (r23.tupsL (C.get 0 rfl))
            have C := C.call1 0 rfl (.inl hbS) r23 e23
            obtain ⟨z0, z1, z2⟩ := ho1 d hd
            obtain ⟨q, hq⟩ : ∃ q, s.sn[d.toNat]? = some q := ⟨_, List.getElem?_eq_getElem (by omega)⟩
            have hqd : s.sn.getD d.toNat 0 = q := by rw [List.getD_eq_getElem?_getD, hq]; rfl
            rw [hqd] at z2
            obtain ⟨q0, q1⟩ := ok.xs q (List.mem_of_getElem? hq)
            obtain ⟨p, rfl⟩ : ∃ p : Nat, q = (p : Int) := ⟨q.toNat, by omega⟩
            have hp : p < R.length := by omega
            have hWT : Has H23 (wL A wa s ++ bL A wa R m tads) := has_of (C.pick [1, 2, 3, 4, 6, 7] (by decide))
            refine ⟨wa.w, d, rfl, wa, s, R, m, tads, p, rfl, hWT, hTat C.ret, wok_of G ok, z0, hq, hp, fun H24 r24 h24 => ?_⟩
            have C := own_mid C hwm r24 h24
            walk_at "rd"
            refine hnx _ _ ⟨at9, lf9, sent R s d.toNat p, es, du, _, rfl, by omega, by omega, v2, sok_sent G ok hq hp, ?_, ?_, ?_, C.pick [0, 1, 2, 3, 4, 5, 6, 7, 8, 9, 10] (by decide)⟩
            · show (s.sn.set _ _).length ≤ _; rw [List.length_set]; omega
            · show _ = (s.sn.set _ _).length; rw [List.length_set]; exact hel
            · have e : kR (sent R s d.toNat p) = kR s := kept_fire G hSol ok.hok hp hq
              rw [e]; exact hdu.to (r24.tups (notTup hWT))
        · rintro σ' H22 ⟨at8, lf8, s', es', du', o18', rfl, u0, u1, u2, ok', hsl', hel', hdu', C⟩
          clear hdu ok hsl hel hkb hW19 ho1 ho2
          have hWT : Has H22 (wL A wa s' ++ bL A wa R m tads) := has_of (C.pick [1, 2, 3, 4, 6, 7] (by decide))
          have hkb : Ht (kR s') 1400 := (kept_ht G ok'.hok ok'.xs hc33).mono (hbig _ (by omega))
          have hcc := hbig s'.sn.length (by omega)
          (with_reducible refine u_seq ?_)
          (with_reducible refine u_asg ?_)
          refine cutQ (fun v H' => ∃ t, v = .ref t ∧ Ret [] H22 H' ∧ PrA K H' t (kR s')) (fun Q0 hQ0 => ?_) ?_
          · walk_at "rd"
            refine b_dec (fun hz => ?_) (fun hz => ?_)
            · walk_at "rd"
              exact ⟨wa.w, h, rfl, wa, s', R, m, rk, gd, tads, share R h, 33, rfl, hWT, hTat C.ret, G, ok'.hok, ok'.xs, by omega, by omega, hm', hSol, hc33, by omega, by decide, fun t H23 r23 ht => hQ0 _ _ ⟨t, rfl, r23, ht⟩⟩
            · refine u_kw0 ?_
              walk_at "rd"
              exact ⟨rfl, rfl, wa.w, h, rfl, wa, s', R, m, rk, gd, tads, share R h, 33, rfl, hWT, hTat C.ret, G, ok'.hok, ok'.xs, by omega, by omega, hm', hSol, hc33, by omega, by decide, fun t H23 r23 ht => hQ0 _ _ ⟨t, rfl, r23, ht⟩⟩
          rintro v H23 ⟨t, rfl, r23, ht⟩
          have C := C.call0 r23
          have hdu' := hdu'.to r23.tups0
          walk_at "rd"
          refine r_reprPr ht hkb (by decide) (by decide) ?_
          walk_at "rd"
          refine r_reprPr hdu' hkb (by decide) (by decide) ?_
          refine r_neS ?_
          walk_at "rd"
          refine ⟨r, tl, wa.w, h, rfl, ads, rads, R, m, rk, gd, wa, s', 33, rfl, C.get 9 rfl, hRat C.ret, C.get 10 rfl, hTabat C.ret, has_of (C.pick [1, 2, 3, 4] (by decide)), G, ok'.hok, ok'.xs, hm', by omega, hc33, by omega, by decide, fun du3 H24 r24 hdu3 => ?_⟩
          have C := C.call0 r24
          have hdu' := hdu'.to r24.tups0
          refine r_nePr hdu' hdu3 ?_
          walk_at "rd"
          refine b_f (by simp [kR]) ?_
          walk_at "rd"
          exact ⟨at8, lf8, s', es', du', _, _, _, _, rfl, by omega, by omega, u2, ok', hsl', hel', hdu', C⟩
      · rintro σ H19 ⟨at7, lf7, s, es, du, o6, o14, o15, o18, rfl, k0, k1, k2, ok, hsl, hel, hdu, C⟩
        have hW19 : Has H19 (wL A wa s) := has_of (C.pick [1, 2, 3, 4] (by decide))
        have hdl15 : dl.toNat ≤ 15 := by omega
        walk_at "rd"
        refine ⟨wa.w, rfl, wa, s, rfl, hW19, fun tw H20 r20 tw0 htw => ?_⟩
        have C := C.call0n r20 tw0 htw
        have hdu := hdu.to r20.tups0
        refine k_enum (k := true) (SqT.of htw) ?_
        refine for_e (k := true) (xs := s.sn.map V.int) (fun i σ H' => ∃ (s2 : WS) (o16 o17 : Option V), σ = [some (.ref a), some (.ref b), some (.int (0 + (tn : Int))), some (.ref r), some (.ref fi), some (.ref du), o6, o7, some (.int R.length), some (.int m), some (.ref tl), some (.ref wa.w), some (.int h), some (.ref en), o14, o15, o16, o17, o18, none] ∧
          SOk R m s2 ∧ s2.sn.length = s.sn.length ∧ (∀ j, j < i → (R.length : Int) ≤ s2.sn.getD j 0) ∧ (∀ j, i ≤ j → s2.sn.getD j 0 = s.sn.getD j 0) ∧ kR s2 = kR s ∧ PrA K H' du (kR s) ∧
          Cur H14 SS H' ((b, bail c at7 lf7) :: (wL A wa s2 ++ ((c, HO.lst (cells.map V.int)) :: (bL A wa R m tads ++ [(en, HO.lst (es.map V.int)), (r, HO.lst (ads.map V.ref)), (tl, HO.lst (rads.map V.ref)), (tw, HO.tup (s.sn.map V.int))]))))) ?_ ?_ ?_ ?_
        · exact ⟨s, _, _, rfl, ok, rfl, fun j hj => absurd hj (Nat.not_lt_zero _), fun j _ => rfl, rfl, hdu, C.pick [1, 2, 3, 4, 5, 6, 7, 8, 9, 10, 11, 0] (by decide)⟩
        · rintro i σ H' hi ⟨s2, o16, o17, rfl, ok2, hl2, hlo, hhi, hk2, hdu, C⟩
          exact SqT.of (C.get 11 rfl)
        · rintro i y σ H21 hy ⟨s2, o16, o17, rfl, ok2, hl2, hlo, hhi, hk2, hdu, C⟩
          obtain ⟨z, hz, rfl⟩ := int_of hy
          have hi : i < s.sn.length := (List.getElem?_eq_some_iff.mp hz).1
          have hzd : s2.sn.getD i 0 = z := by rw [hhi i (Nat.le_refl _), List.getD_eq_getElem?_getD, hz]; rfl
          have hz2 : s2.sn[i]? = some z := by
            rw [List.getElem?_eq_getElem (by omega), ← hzd, List.getD_eq_getElem?_getD, List.getElem?_eq_getElem (by omega)]; rfl
          refine new_r C fun u H22 u0 u00 C22 r22 => ?_
          refine u_gtup (SqT.of (C22.get 0 rfl)) rfl ?_
          have hdu := hdu.to r22.tups0
          have C := C22.drop
          walk_at "rd"
          refine b_dec (fun hlt => ?_) (fun hge => ?_)
          · obtain ⟨q0, q1⟩ := ok2.xs z (List.mem_of_getElem? hz2)
            obtain ⟨p, rfl⟩ : ∃ p : Nat, z = (p : Int) := ⟨z.toNat, by omega⟩
            have hp : p < R.length := by omega
            have hWT : Has H22 (wL A wa s2 ++ bL A wa R m tads) := has_of (C.pick [1, 2, 3, 4, 6, 7] (by decide))
            walk_at "rd"
            refine ⟨wa.w, i, rfl, wa, s2, R, m, rk, gd, tads, p, rfl, hWT, hTat C.ret, wok_of G ok2, G, by omega, by omega, by rw [Int.toNat_natCast]; exact hz2, hp, fun v H23 r23 h23 => ?_⟩
            rw [Int.toNat_natCast] at h23
            have C := own_mid C hwm r23 h23
            obtain ⟨ok3, hhome⟩ := sok_led G ok2 hz2 hp
            walk_at "rd"
            refine ⟨ledTo R s2 i p, _, _, rfl, ok3, ?_, fun j hj => ?_, fun j hj => ?_, ?_, hdu.to (r23.tups (notTup hWT)), C⟩
            · show (s2.sn.set i _).length = _; rw [List.length_set]; exact hl2
            · show (R.length : Int) ≤ (s2.sn.set i (play R 10000 s2.hs p).2.1).getD j 0
              by_cases e : j = i
              · subst e; rw [M94.getD_set_self (by omega)]; exact hhome
              · rw [getD_set_ne (Ne.symm e)]; exact hlo j (by omega)
            · show (s2.sn.set i (play R 10000 s2.hs p).2.1).getD j 0 = _
              rw [getD_set_ne (by omega)]; exact hhi j (by omega)
            · have := led_kept G hSol 10000 s2.hs s2.sn p ok2.hok ⟨by omega, by omega⟩ hz2
              exact Eq.trans this hk2
          · walk_at "rd"
            refine ⟨s2, _, _, rfl, ok2, hl2, fun j hj => ?_, fun j hj => hhi j (by omega), hk2, hdu, C⟩
            by_cases e : j = i
            · subst e; rw [hzd]; omega
            · exact hlo j (by omega)
        · rintro σ H21 ⟨s2, o16, o17, rfl, ok2, hl2, hlo, hhi, hk2, hdu, C⟩
          rw [len_map] at hlo
          have hall : ∀ y ∈ s2.sn, (R.length : Int) ≤ y := fun y hy => by
            obtain ⟨q, hq⟩ := List.mem_iff_getElem?.mp hy
            have hql : q < s2.sn.length := (List.getElem?_eq_some_iff.mp hq).1
            have := hlo q (by omega)
            rw [List.getD_eq_getElem?_getD, hq] at this
            exact this
          have hW21 : Has H21 (wL A wa s2) := has_of (C.pick [1, 2, 3, 4] (by decide))
          walk_at "rd"
          refine ⟨wa.w, rfl, wa, s2, rfl, hW21, fun th H22 r22 th0 hth => ?_⟩
          have C := C.call0n r22 th0 hth
          have hdu := hdu.to r22.tups0
          walk_at "rd"
          have C22 := C
          have hT22 := hTat C.ret
          refine make_c (C22.again (S1 := [])) fun w2 dw2 H23 w20 dw20 C => ?_
          have t23 : Tups H22 H23 := C.ret.tups0
          refine ⟨w2, wa.B, th, rfl, ⟨w2, dw2, 0, 0, 0, wa.B, wa.dB, wa.t⟩, R, m, tads, s2.hs, true, rfl, rfl, has_of (C.pick [0, 2, 9, 10] (by decide)), hT22.to C.ret (by simp), ok2.hok, lenOk_of G, by omega, by omega, fun sh st wo H24 r24 f1 f2 f3 hW24 => ⟨rfl, ?_⟩⟩
          have t24 : Tups H23 H24 := r24.tups (fun s hs xs e => by rw [List.mem_singleton.mp hs, C.get 0 rfl] at e; cases e)
          have hT24 : TRows H24 tads R := ⟨hT22.1, fun i a e => t24 _ _ (t23 _ _ (hT22.2 i a e))⟩
          have C2 := C.call1 0 rfl (.inr w20) r24 (hW24.2 (w2, _) List.mem_cons_self)
          have C3 := cur_join C2.drop hW24 (fun p hp => by
            simp only [wL, List.mem_cons, List.not_mem_nil, or_false] at hp
            rcases hp with rfl | rfl | rfl | rfl
            · exact (List.nodup_cons.mp C2.nd).1
            · exact fun z => C.out f1 (List.mem_cons_of_mem _ z)
            · exact fun z => C.out f2 (List.mem_cons_of_mem _ z)
            · exact fun z => C.out f3 (List.mem_cons_of_mem _ z))
          have hdu := hdu.to (t23.trans t24)
          have C := C22.and C3
          have hWk : Has H24 (wL A (⟨w2, dw2, sh, st, wo, wa.B, wa.dB, wa.t⟩ : WA) ⟨s2.hs, [], List.replicate m 0, 0⟩ ++ bL A (⟨w2, dw2, sh, st, wo, wa.B, wa.dB, wa.t⟩ : WA) R m tads) := has_of (C.pick [0, 1, 2, 3, 12, 13] (by decide))
          have C : Cur H14 SS H24 ((b, bail c at7 lf7) :: (wL A wa s2 ++ ((c, HO.lst (cells.map V.int)) :: (bL A wa R m tads ++ [(en, HO.lst (es.map V.int)), (r, HO.lst (ads.map V.ref)), (tl, HO.lst (rads.map V.ref))])))) := C.pick [6, 7, 8, 9, 10, 11, 12, 13, 14, 15, 16] (by decide)
          clear C2 C3 C22
          have hcc := hbig s2.sn.length (by omega)
          have hc0 := hbig 0 (by omega)
          walk_at "rd"
          refine ⟨w2, h, rfl, _, _, R, m, rk, gd, tads, share R h, 33, rfl, hWk, hT24, G, ok2.hok, hsol0, by simp, by omega, hm', hSol, hc33, by simp; omega, by decide, fun k0' H25 r25 hk0 => ?_⟩
          have C := C.call0 r25
          have hdu := hdu.to r25.tups0
          have hWT : Has H25 (wL A wa s2 ++ bL A wa R m tads) := has_of (C.pick [1, 2, 3, 4, 6, 7] (by decide))
          walk_at "rd"
          refine ⟨wa.w, h, rfl, wa, s2, R, m, rk, gd, tads, share R h, 33, rfl, hWT, hTat C.ret, G, ok2.hok, ok2.xs, by omega, by omega, hm', hSol, hc33, by omega, by decide, fun k1' H26 r26 hk1 => ?_⟩
          have C := C.call0 r26
          have hdu := hdu.to r26.tups0
          have hk0 := hk0.to r26.tups0
          walk_at "rd"
          refine r_nePr hk1 hdu ?_
          walk_at "rd"
          refine b_f (by simp only [Bool.not_eq_false', decide_eq_true_eq]; exact hk2) ?_
          walk_at "rd"
          refine ⟨wa.w, rfl, wa, s2, rfl, has_of (C.pick [1, 2, 3, 4] (by decide)), fun tq H27 r27 tq0 htq => ?_⟩
          have C := C.call0 r27
          have hdu := hdu.to r27.tups0
          have hk0 := hk0.to r27.tups0
          have hwl := ok2.wl
          walk_at "rd"
          refine r_ixT (SqT.of htq) (atI_int (ns := s2.won) (i := (h : Int)) (by omega) (by omega)) ?_
          have hwn : s2.won[((h : Int)).toNat]'(by omega) = s2.won.getD h 0 := getD_get (i := h) (by omega)
          rw [hwn]
          walk_at "rd"
          refine new_r C fun pw H28 pw0 pw00 C28 r28 => ?_
          have hpw : PrA K H28 pw ((s2.won.getD h 0 : Int) : Rat) := PrA.mk (C28.get 0 rfl) (Rat.num_intCast _).symm (by rw [Rat.den_intCast]; rfl)
          have C := C28.drop
          have hdu := hdu.to r28.tups0
          have hk0 := hk0.to r28.tups0
          walk_at "rd"
          have hwon : (s2.won.getD h 0).natAbs < 2 ^ 9 ∧ 0 ≤ s2.won.getD h 0 := by
            have := ok2.won h hm'
            have h2 : M94.cnt s2.sn (R.length + h) ≤ s2.sn.length := List.count_le_length
            omega
          have hb0 : Ht (keptR R (tH R.length h) (share R h) s2.hs []) 1400 := (kept_ht G ok2.hok hsol0 hc33).mono hc0
          refine ⟨k0', pw, rfl, _, _, hk0, hpw, ⟨hb0.mono (by decide), (show Ht ((s2.won.getD h 0 : Int) : Rat) 9 from ⟨by rw [Rat.num_intCast]; exact hwon.1, by rw [Rat.den_intCast]; decide⟩).mono (by decide)⟩, fun k2' H29 r29 k20 hk2' => ?_⟩
          have C := C.call0 r29
          have hdu := hdu.to r29.tups0
          walk_at "rd"
          refine r_nePr (PrA.of hk2') hdu ?_
          walk_at "rd"
          refine b_f (by
            simp only [Bool.not_eq_false', decide_eq_true_eq]
            exact (kept_home ok2 hm' hall).symm.trans hk2) ?_
          walk_at "rd"
          refine ⟨wa.w, rfl, wa, s2, rfl, has_of (C.pick [1, 2, 3, 4] (by decide)), fun tq2 H30 r30 tq20 htq2 => ?_⟩
          have C := C.call0 r30
          walk_at "rd"
          refine r_sumT (SqT.of htq2) ?_
          walk_at "rd"
          refine b_f (by rw [wins_all ok2 hall, len_map]; simp; omega) ?_
          walk_at "rd"
          refine ⟨at7, lf7, _, _, _, _, _, _, _, _, _, _, _, _, _, _, _, _, _, rfl, by omega, by omega, k2, has_of (C.pick [0, 5] (by decide))⟩
  · rintro σ H' ⟨at', lf', o2, o3, o4, o5, o6, o7, o8, o9, o10, o11, o12, o13, o14, o15, o16, o17, o18, rfl, a0, a1, l0, hW⟩
    walk_at "rd"
    exact k H'
end K67

end

section
set_option Elab.async false
set_option linter.all false
set_option maxRecDepth 100000
set_option maxHeartbeats 1000000
namespace K67
open PySem PySem.Spec PyProof.Rows L2 Nd
def sp_law' (K : PySem.W.Frag) : Sp := fun vs H Q E => ∃ (a : Addr), vs = [.ref a] ∧ ∃ ns : List Int, SqL K H a (ns.map V.int) ∧ ns.length ≤ 63 ∧ ∀ H', Q (.bl true) H'
theorem law_in (K : PySem.W.Frag) (H : Hp) (a : Addr) (ns : List Int) (hl : ns.length ≤ 63) (hO : Only H) (hS : SqL K H a (ns.map V.int)) : sp_law' K [.ref a] H (fun v _ => v = .bl true) fun _ _ _ => False := ⟨a, rfl, ns, hS, hl, fun _ => rfl⟩
theorem kit_me {K : PySem.W.Frag} {C : Addr} : PySem.W.kitOne K (.ref C) (.ref C) = some true := by
  unfold PySem.W.kitOne
  exact if_pos (beq_self_eq_true _)
theorem fin_law {P : Program} {w : World} {K : PySem.W.Frag} {mg : Str → Option Value} {h : Heap} {fa : Addr} {A : Adr} (X : K.In h) (hfa : mg "law" = some (.ref fa)) (T : Txt K mg A) :
    ∃ fd : FuncData, (∀ (s : Shared) (u : Value), BindsTo s fd ⟨[u], []⟩ [("_law_script", u)]) ∧ ∀ base : Heap, K.In base → base.Ns mainGlobals mg → FnG P w K mg base CX0 10 fa fd ["_law_script"] (sp_law' K) := by
  obtain ⟨f, fd, F, hm⟩ := T.f_law
  obtain rfl : fa = f := by have := hfa.symm.trans hm; injection this with e; injection e
  refine ⟨fd, ?_, fun base hb hn => ?_⟩
  · obtain ⟨oc, od, kV, doc, pm, an, cdv, ct, osl, rfl, lk, hcd⟩ := F.ex
    exact fun s u => BindsTo.of_eq rfl
  have G_l_steward := ok_l_steward (P := P) (w := w) (base := base) T 
  have G_l_ledger := ok_l_ledger (P := P) (w := w) (base := base) T 
  have G_l_one := ok_l_one (P := P) (w := w) (base := base) T G_l_ledger
  have G_l_rows := ok_l_rows (P := P) (w := w) (base := base) T G_l_one G_l_ledger
  have G_need_board := ok_need_board (P := P) (w := w) (base := base) T 
  have G_is_integer := ok_is_integer (P := P) (w := w) (base := base) T 
  have G_is_within := ok_is_within (P := P) (w := w) (base := base) T G_is_integer
  have G_need_hands := ok_need_hands (P := P) (w := w) (base := base) T G_is_within
  have G_World_init := ok_World_init (P := P) (w := w) (base := base) T G_need_board G_need_hands
  have G_do_fit := ok_do_fit (P := P) (w := w) (base := base) T G_is_within
  have G_are_rows := ok_are_rows (P := P) (w := w) (base := base) T 
  have G_Board_init := ok_Board_init (P := P) (w := w) (base := base) T G_is_within G_do_fit G_are_rows
  have G_l_short := ok_l_short (P := P) (w := w) (base := base) T 
  have G_l_less := ok_l_less (P := P) (w := w) (base := base) T G_l_short
  have G_l_by := ok_l_by (P := P) (w := w) (base := base) T G_l_short
  have G_l_plus := ok_l_plus (P := P) (w := w) (base := base) T G_l_short
  have G_l_chances := ok_l_chances (P := P) (w := w) (base := base) T G_l_short G_l_less G_l_by G_l_plus
  have G_need_world := ok_need_world (P := P) (w := w) (base := base) T 
  have G_need_number := ok_need_number (P := P) (w := w) (base := base) T G_is_within
  have G_need_home := ok_need_home (P := P) (w := w) (base := base) T G_need_number
  have G_shut_in := ok_shut_in (P := P) (w := w) (base := base) T 
  have G_need_open_n2 := ok_need_open_n2 (P := P) (w := w) (base := base) T G_shut_in
  have G_ends_of := ok_ends_of (P := P) (w := w) (base := base) T 
  have G_turned := ok_turned (P := P) (w := w) (base := base) T 
  have G_least_pair := ok_least_pair (P := P) (w := w) (base := base) T 
  have G_times := ok_times (P := P) (w := w) (base := base) T G_least_pair
  have G_over := ok_over (P := P) (w := w) (base := base) T G_times G_least_pair
  have G_both := ok_both (P := P) (w := w) (base := base) T G_least_pair
  have G_lessened := ok_lessened (P := P) (w := w) (base := base) T G_turned G_over G_both G_times
  have G_solved := ok_solved (P := P) (w := w) (base := base) T G_lessened G_over
  have G_equation_of := ok_equation_of (P := P) (w := w) (base := base) T G_both G_times
  have G_numbers_for := ok_numbers_for (P := P) (w := w) (base := base) T G_solved G_equation_of
  have G_shares_in := ok_shares_in (P := P) (w := w) (base := base) T G_numbers_for G_ends_of
  have G_numbers_of := ok_numbers_of (P := P) (w := w) (base := base) T G_ends_of G_shares_in
  have G_World_hands := ok_World_hands (P := P) (w := w) (base := base) T 
  have G_row_worths := ok_row_worths (P := P) (w := w) (base := base) T G_both G_turned
  have G_all_worths := ok_all_worths (P := P) (w := w) (base := base) T G_row_worths
  have G_total_of := ok_total_of (P := P) (w := w) (base := base) T G_both
  have G_World_walkers := ok_World_walkers (P := P) (w := w) (base := base) T 
  have G_kept := ok_kept (P := P) (w := w) (base := base) T G_need_world G_need_home G_need_open_n2 G_numbers_of G_World_hands G_all_worths G_total_of G_World_walkers
  have GK_kept := kw_kept (P := P) (w := w) (base := base) T G_need_world G_need_home G_need_open_n2 G_numbers_of G_World_hands G_all_worths G_total_of G_World_walkers
  have G_l_due := ok_l_due (P := P) (w := w) (base := base) T G_World_hands G_l_plus G_l_less G_World_walkers
  have G_World_take := ok_World_take (P := P) (w := w) (base := base) T 
  have G_World_copy := ok_World_copy (P := P) (w := w) (base := base) T G_World_init G_World_take
  have G_World_sent := ok_World_sent (P := P) (w := w) (base := base) T 
  have G_World_sent_home := ok_World_sent_home (P := P) (w := w) (base := base) T G_World_sent G_World_take
  have G_World_enter := ok_World_enter (P := P) (w := w) (base := base) T G_need_number
  have G_World_play := ok_World_play (P := P) (w := w) (base := base) T G_need_number G_World_copy G_World_sent_home G_World_enter
  have G_World_need_out := ok_World_need_out (P := P) (w := w) (base := base) T G_need_number
  have G_World_need_away := ok_World_need_away (P := P) (w := w) (base := base) T 
  have G_World_advance := ok_World_advance (P := P) (w := w) (base := base) T G_World_need_out G_World_need_away G_World_sent
  have G_World_led := ok_World_led (P := P) (w := w) (base := base) T G_World_need_out G_need_number G_World_need_away G_World_sent_home G_World_copy
  have G_World_wins := ok_World_wins (P := P) (w := w) (base := base) T 
  exact ok_law F T G_l_steward G_l_ledger G_l_one G_l_rows G_World_init G_Board_init G_l_chances G_kept G_l_due G_World_walkers G_l_plus G_World_play G_World_enter G_World_advance GK_kept G_World_led G_World_hands G_World_wins
end K67

end

section
set_option Elab.async false
set_option linter.all false
set_option maxRecDepth 100000
open PySem PySem.W PyProof.Rows
set_option maxHeartbeats 0 in
theorem PySem.Challenge.cw_nodice_k67_what_steps_keep_holds : PySem.Challenge.rw_nodice_k67_what_steps_keep.Holds := by
  w_on; o_law; k_head; (case hw => w_witness2)
  k_fill
  refine Nd.walk_G (l := PySem.Challenge.rw_nodice_k67_what_steps_keep) (n := 63) (k := 10) (x := "_law_script") (sp := K67.sp_law') rfl (by decide) rfl ⟨rfl, by decide, by decide⟩ (fun w h Y => PySem.W.kIn_of Y) ?F K67.law_in
  case F =>
    intro w mg fa h KX G hmg
    refine' K67.fin_law KX hmg (K67.txt_mk
      (g_Board := PySem.W.mg_of KX G ?g_Board)
      (g_World := PySem.W.mg_of KX G ?g_World)
      (c_Board := ⟨?pg_Board, ?hd_Board, ?po_Board, ?sa_Board⟩)
      (n_Board_homes := ?n_Board_homes)
      (n_Board_places := ?n_Board_places)
      (n_Board_rows := ?n_Board_rows)
      (c_World := ⟨?pg_World, ?hd_World, ?po_World, ?sa_World⟩)
      (n_World_board := ?n_World_board)
      (n_World_shown := ?n_World_shown)
      (n_World_standing := ?n_World_standing)
      (n_World_won := ?n_World_won)
      (n_World_steps := ?n_World_steps)
      (f_law := Nd.tx_fn KX G ?a_law ?l_law ?c_law ?k_law)
      (f_l_steward := Nd.tx_fn KX G ?a_l_steward ?l_l_steward ?c_l_steward ?k_l_steward)
      (f_l_ledger := Nd.tx_fn KX G ?a_l_ledger ?l_l_ledger ?c_l_ledger ?k_l_ledger)
      (f_l_one := Nd.tx_fn KX G ?a_l_one ?l_l_one ?c_l_one ?k_l_one)
      (f_l_rows := Nd.tx_fn KX G ?a_l_rows ?l_l_rows ?c_l_rows ?k_l_rows)
      (v_World_init := Nd.tx_init KX G ?h_World_init ?a_World_init ?i_World_init ?l_World_init ?c_World_init ?k_World_init ?m_World_init ?e_World_init)
      (f_need_board := Nd.tx_fnD (by simp) KX G ?a_need_board ?l_need_board ?c_need_board ?k_need_board ?d_need_board ?o_need_board ?v_need_board)
      (f_need_hands := Nd.tx_fn KX G ?a_need_hands ?l_need_hands ?c_need_hands ?k_need_hands)
      (f_is_within := Nd.tx_fn KX G ?a_is_within ?l_is_within ?c_is_within ?k_is_within)
      (f_is_integer := Nd.tx_fn KX G ?a_is_integer ?l_is_integer ?c_is_integer ?k_is_integer)
      (v_Board_init := Nd.tx_init KX G ?h_Board_init ?a_Board_init ?i_Board_init ?l_Board_init ?c_Board_init ?k_Board_init ?m_Board_init ?e_Board_init)
      (f_do_fit := Nd.tx_fn KX G ?a_do_fit ?l_do_fit ?c_do_fit ?k_do_fit)
      (f_are_rows := Nd.tx_fn KX G ?a_are_rows ?l_are_rows ?c_are_rows ?k_are_rows)
      (f_l_chances := Nd.tx_fn KX G ?a_l_chances ?l_l_chances ?c_l_chances ?k_l_chances)
      (f_l_short := Nd.tx_fn KX G ?a_l_short ?l_l_short ?c_l_short ?k_l_short)
      (f_l_less := Nd.tx_fn KX G ?a_l_less ?l_l_less ?c_l_less ?k_l_less)
      (f_l_by := Nd.tx_fn KX G ?a_l_by ?l_l_by ?c_l_by ?k_l_by)
      (f_l_plus := Nd.tx_fn KX G ?a_l_plus ?l_l_plus ?c_l_plus ?k_l_plus)
      (f_kept := Nd.tx_fn KX G ?a_kept ?l_kept ?c_kept ?k_kept)
      (f_need_world := Nd.tx_fnD (by simp) KX G ?a_need_world ?l_need_world ?c_need_world ?k_need_world ?d_need_world ?o_need_world ?v_need_world)
      (f_need_home := Nd.tx_fn KX G ?a_need_home ?l_need_home ?c_need_home ?k_need_home)
      (f_need_number := Nd.tx_fn KX G ?a_need_number ?l_need_number ?c_need_number ?k_need_number)
      (f_need_open := Nd.tx_fnD (by simp) KX G ?a_need_open ?l_need_open ?c_need_open ?k_need_open ?d_need_open ?o_need_open ?v_need_open)
      (f_shut_in := Nd.tx_fn KX G ?a_shut_in ?l_shut_in ?c_shut_in ?k_shut_in)
      (f_numbers_of := Nd.tx_fn KX G ?a_numbers_of ?l_numbers_of ?c_numbers_of ?k_numbers_of)
      (f_ends_of := Nd.tx_fn KX G ?a_ends_of ?l_ends_of ?c_ends_of ?k_ends_of)
      (f_shares_in := Nd.tx_fn KX G ?a_shares_in ?l_shares_in ?c_shares_in ?k_shares_in)
      (f_numbers_for := Nd.tx_fn KX G ?a_numbers_for ?l_numbers_for ?c_numbers_for ?k_numbers_for)
      (f_solved := Nd.tx_fn KX G ?a_solved ?l_solved ?c_solved ?k_solved)
      (f_lessened := Nd.tx_fn KX G ?a_lessened ?l_lessened ?c_lessened ?k_lessened)
      (f_turned := Nd.tx_fn KX G ?a_turned ?l_turned ?c_turned ?k_turned)
      (f_over := Nd.tx_fn KX G ?a_over ?l_over ?c_over ?k_over)
      (f_times := Nd.tx_fn KX G ?a_times ?l_times ?c_times ?k_times)
      (f_least_pair := Nd.tx_fn KX G ?a_least_pair ?l_least_pair ?c_least_pair ?k_least_pair)
      (f_both := Nd.tx_fn KX G ?a_both ?l_both ?c_both ?k_both)
      (f_equation_of := Nd.tx_fn KX G ?a_equation_of ?l_equation_of ?c_equation_of ?k_equation_of)
      (v_World_hands := Nd.tx_prop ?a_World_hands ?g_World_hands ?t_World_hands ?r_World_hands ?l_World_hands ?c_World_hands ?k_World_hands)
      (f_all_worths := Nd.tx_fn KX G ?a_all_worths ?l_all_worths ?c_all_worths ?k_all_worths)
      (f_row_worths := Nd.tx_fn KX G ?a_row_worths ?l_row_worths ?c_row_worths ?k_row_worths)
      (f_total_of := Nd.tx_fn KX G ?a_total_of ?l_total_of ?c_total_of ?k_total_of)
      (v_World_walkers := Nd.tx_prop ?a_World_walkers ?g_World_walkers ?t_World_walkers ?r_World_walkers ?l_World_walkers ?c_World_walkers ?k_World_walkers)
      (f_l_due := Nd.tx_fn KX G ?a_l_due ?l_l_due ?c_l_due ?k_l_due)
      (v_World_play := Nd.tx_meth ?a_World_play ?i_World_play ?l_World_play ?c_World_play ?k_World_play)
      (v_World_copy := Nd.tx_meth ?a_World_copy ?i_World_copy ?l_World_copy ?c_World_copy ?k_World_copy)
      (v_World_take := Nd.tx_meth ?a_World_take ?i_World_take ?l_World_take ?c_World_take ?k_World_take)
      (v_World_sent_home := Nd.tx_meth ?a_World_sent_home ?i_World_sent_home ?l_World_sent_home ?c_World_sent_home ?k_World_sent_home)
      (v_World_sent := Nd.tx_meth ?a_World_sent ?i_World_sent ?l_World_sent ?c_World_sent ?k_World_sent)
      (v_World_enter := Nd.tx_meth ?a_World_enter ?i_World_enter ?l_World_enter ?c_World_enter ?k_World_enter)
      (v_World_advance := Nd.tx_meth ?a_World_advance ?i_World_advance ?l_World_advance ?c_World_advance ?k_World_advance)
      (v_World_need_out := Nd.tx_meth ?a_World_need_out ?i_World_need_out ?l_World_need_out ?c_World_need_out ?k_World_need_out)
      (v_World_need_away := Nd.tx_meth ?a_World_need_away ?i_World_need_away ?l_World_need_away ?c_World_need_away ?k_World_need_away)
      (v_World_led := Nd.tx_meth ?a_World_led ?i_World_led ?l_World_led ?c_World_led ?k_World_led)
      (v_World_wins := Nd.tx_prop ?a_World_wins ?g_World_wins ?t_World_wins ?r_World_wins ?l_World_wins ?c_World_wins ?k_World_wins)
      (b_abs := PySem.W.mg_none_of KX G ?b_abs)
      (b_all := PySem.W.mg_none_of KX G ?b_all)
      (b_any := PySem.W.mg_none_of KX G ?b_any)
      (b_bool := PySem.W.mg_none_of KX G ?b_bool)
      (b_enumerate := PySem.W.mg_none_of KX G ?b_enumerate)
      (b_int := PySem.W.mg_none_of KX G ?b_int)
      (b_isinstance := PySem.W.mg_none_of KX G ?b_isinstance)
      (b_len := PySem.W.mg_none_of KX G ?b_len)
      (b_list := PySem.W.mg_none_of KX G ?b_list)
      (b_range := PySem.W.mg_none_of KX G ?b_range)
      (b_repr := PySem.W.mg_none_of KX G ?b_repr)
      (b_sum := PySem.W.mg_none_of KX G ?b_sum)
      (b_tuple := PySem.W.mg_none_of KX G ?b_tuple)
      (b_zip := PySem.W.mg_none_of KX G ?b_zip)
      (k_MOST_HOMES := Nd.tx_int KX G ?x_MOST_HOMES)
      (k_MOST_PLACES := Nd.tx_int KX G ?x_MOST_PLACES)
      (k_MOST_ROW := Nd.tx_int KX G ?x_MOST_ROW)
      (k_MOST_STEPS := Nd.tx_int KX G ?x_MOST_STEPS)
      (k_MOST_WALKERS := Nd.tx_int KX G ?x_MOST_WALKERS)
      (k_NOUGHT := Nd.tx_tup KX G ?x_NOUGHT ?l_NOUGHT ?c_NOUGHT ?d_NOUGHT ?z_NOUGHT ?v_NOUGHT)
      (k_ONE := Nd.tx_tup KX G ?x_ONE ?l_ONE ?c_ONE ?d_ONE ?z_ONE ?v_ONE)
      (s_Board := ⟨⟨?pg2Board, ?hd2Board, ?po2Board, ?sa2Board⟩, ?ic1Board, ?ic2Board, ?ic3Board, ?ic4Board, ?ic5Board⟩)
      (s_World := ⟨⟨?pg2World, ?hd2World, ?po2World, ?sa2World⟩, ?ic1World, ?ic2World, ?ic3World, ?ic4World, ?ic5World⟩)
      (g_gcd := PySem.W.mg_of KX G ?ggcd))
    (case g_Board => k_is)
    (case g_World => k_is)
    (case pg_Board => k_is)
    (case hd_Board => k_is)
    (case po_Board => k_is)
    (case sa_Board => k_is)
    (case n_Board_homes => k_is)
    (case n_Board_places => k_is)
    (case n_Board_rows => k_is)
    (case pg_World => k_is)
    (case hd_World => k_is)
    (case po_World => k_is)
    (case sa_World => k_is)
    (case n_World_board => k_is)
    (case n_World_shown => k_is)
    (case n_World_standing => k_is)
    (case n_World_won => k_is)
    (case n_World_steps => k_is)
    (case a_law => k_is)
    (case l_law => k_is)
    (case c_law => k_is)
    (case k_law => k_is)
    (case a_l_steward => k_is)
    (case l_l_steward => k_is)
    (case c_l_steward => k_is)
    (case k_l_steward => k_is)
    (case a_l_ledger => k_is)
    (case l_l_ledger => k_is)
    (case c_l_ledger => k_is)
    (case k_l_ledger => k_is)
    (case a_l_one => k_is)
    (case l_l_one => k_is)
    (case c_l_one => k_is)
    (case k_l_one => k_is)
    (case a_l_rows => k_is)
    (case l_l_rows => k_is)
    (case c_l_rows => k_is)
    (case k_l_rows => k_is)
    (case h_World_init => k_is)
    (case a_World_init => k_is)
    (case i_World_init => k_is)
    (case l_World_init => k_is)
    (case c_World_init => k_is)
    (case k_World_init => k_is)
    (case m_World_init => k_is)
    (case e_World_init => k_is)
    (case a_need_board => k_is)
    (case l_need_board => k_is)
    (case c_need_board => k_is)
    (case k_need_board => k_is)
    (case d_need_board => k_is)
    (case o_need_board => rfl)
    (case v_need_board => repeat (first | exact .nil | refine .cons ⟨_, rfl⟩ ?_ | refine .cons rfl ?_))
    (case a_need_hands => k_is)
    (case l_need_hands => k_is)
    (case c_need_hands => k_is)
    (case k_need_hands => k_is)
    (case a_is_within => k_is)
    (case l_is_within => k_is)
    (case c_is_within => k_is)
    (case k_is_within => k_is)
    (case a_is_integer => k_is)
    (case l_is_integer => k_is)
    (case c_is_integer => k_is)
    (case k_is_integer => k_is)
    (case h_Board_init => k_is)
    (case a_Board_init => k_is)
    (case i_Board_init => k_is)
    (case l_Board_init => k_is)
    (case c_Board_init => k_is)
    (case k_Board_init => k_is)
    (case m_Board_init => k_is)
    (case e_Board_init => k_is)
    (case a_do_fit => k_is)
    (case l_do_fit => k_is)
    (case c_do_fit => k_is)
    (case k_do_fit => k_is)
    (case a_are_rows => k_is)
    (case l_are_rows => k_is)
    (case c_are_rows => k_is)
    (case k_are_rows => k_is)
    (case a_l_chances => k_is)
    (case l_l_chances => k_is)
    (case c_l_chances => k_is)
    (case k_l_chances => k_is)
    (case a_l_short => k_is)
    (case l_l_short => k_is)
    (case c_l_short => k_is)
    (case k_l_short => k_is)
    (case a_l_less => k_is)
    (case l_l_less => k_is)
    (case c_l_less => k_is)
    (case k_l_less => k_is)
    (case a_l_by => k_is)
    (case l_l_by => k_is)
    (case c_l_by => k_is)
    (case k_l_by => k_is)
    (case a_l_plus => k_is)
    (case l_l_plus => k_is)
    (case c_l_plus => k_is)
    (case k_l_plus => k_is)
    (case a_kept => k_is)
    (case l_kept => k_is)
    (case c_kept => k_is)
    (case k_kept => k_is)
    (case a_need_world => k_is)
    (case l_need_world => k_is)
    (case c_need_world => k_is)
    (case k_need_world => k_is)
    (case d_need_world => k_is)
    (case o_need_world => rfl)
    (case v_need_world => repeat (first | exact .nil | refine .cons ⟨_, rfl⟩ ?_ | refine .cons rfl ?_))
    (case a_need_home => k_is)
    (case l_need_home => k_is)
    (case c_need_home => k_is)
    (case k_need_home => k_is)
    (case a_need_number => k_is)
    (case l_need_number => k_is)
    (case c_need_number => k_is)
    (case k_need_number => k_is)
    (case a_need_open => k_is)
    (case l_need_open => k_is)
    (case c_need_open => k_is)
    (case k_need_open => k_is)
    (case d_need_open => k_is)
    (case o_need_open => rfl)
    (case v_need_open => repeat (first | exact .nil | refine .cons ⟨_, rfl⟩ ?_ | refine .cons rfl ?_))
    (case a_shut_in => k_is)
    (case l_shut_in => k_is)
    (case c_shut_in => k_is)
    (case k_shut_in => k_is)
    (case a_numbers_of => k_is)
    (case l_numbers_of => k_is)
    (case c_numbers_of => k_is)
    (case k_numbers_of => k_is)
    (case a_ends_of => k_is)
    (case l_ends_of => k_is)
    (case c_ends_of => k_is)
    (case k_ends_of => k_is)
    (case a_shares_in => k_is)
    (case l_shares_in => k_is)
    (case c_shares_in => k_is)
    (case k_shares_in => k_is)
    (case a_numbers_for => k_is)
    (case l_numbers_for => k_is)
    (case c_numbers_for => k_is)
    (case k_numbers_for => k_is)
    (case a_solved => k_is)
    (case l_solved => k_is)
    (case c_solved => k_is)
    (case k_solved => k_is)
    (case a_lessened => k_is)
    (case l_lessened => k_is)
    (case c_lessened => k_is)
    (case k_lessened => k_is)
    (case a_turned => k_is)
    (case l_turned => k_is)
    (case c_turned => k_is)
    (case k_turned => k_is)
    (case a_over => k_is)
    (case l_over => k_is)
    (case c_over => k_is)
    (case k_over => k_is)
    (case a_times => k_is)
    (case l_times => k_is)
    (case c_times => k_is)
    (case k_times => k_is)
    (case a_least_pair => k_is)
    (case l_least_pair => k_is)
    (case c_least_pair => k_is)
    (case k_least_pair => k_is)
    (case a_both => k_is)
    (case l_both => k_is)
    (case c_both => k_is)
    (case k_both => k_is)
    (case a_equation_of => k_is)
    (case l_equation_of => k_is)
    (case c_equation_of => k_is)
    (case k_equation_of => k_is)
    (case a_World_hands => k_is)
    (case g_World_hands => k_is)
    (case t_World_hands => k_is)
    (case r_World_hands => k_is)
    (case l_World_hands => k_is)
    (case c_World_hands => k_is)
    (case k_World_hands => k_is)
    (case a_all_worths => k_is)
    (case l_all_worths => k_is)
    (case c_all_worths => k_is)
    (case k_all_worths => k_is)
    (case a_row_worths => k_is)
    (case l_row_worths => k_is)
    (case c_row_worths => k_is)
    (case k_row_worths => k_is)
    (case a_total_of => k_is)
    (case l_total_of => k_is)
    (case c_total_of => k_is)
    (case k_total_of => k_is)
    (case a_World_walkers => k_is)
    (case g_World_walkers => k_is)
    (case t_World_walkers => k_is)
    (case r_World_walkers => k_is)
    (case l_World_walkers => k_is)
    (case c_World_walkers => k_is)
    (case k_World_walkers => k_is)
    (case a_l_due => k_is)
    (case l_l_due => k_is)
    (case c_l_due => k_is)
    (case k_l_due => k_is)
    (case a_World_play => k_is)
    (case i_World_play => k_is)
    (case l_World_play => k_is)
    (case c_World_play => k_is)
    (case k_World_play => k_is)
    (case a_World_copy => k_is)
    (case i_World_copy => k_is)
    (case l_World_copy => k_is)
    (case c_World_copy => k_is)
    (case k_World_copy => k_is)
    (case a_World_take => k_is)
    (case i_World_take => k_is)
    (case l_World_take => k_is)
    (case c_World_take => k_is)
    (case k_World_take => k_is)
    (case a_World_sent_home => k_is)
    (case i_World_sent_home => k_is)
    (case l_World_sent_home => k_is)
    (case c_World_sent_home => k_is)
    (case k_World_sent_home => k_is)
    (case a_World_sent => k_is)
    (case i_World_sent => k_is)
    (case l_World_sent => k_is)
    (case c_World_sent => k_is)
    (case k_World_sent => k_is)
    (case a_World_enter => k_is)
    (case i_World_enter => k_is)
    (case l_World_enter => k_is)
    (case c_World_enter => k_is)
    (case k_World_enter => k_is)
    (case a_World_advance => k_is)
    (case i_World_advance => k_is)
    (case l_World_advance => k_is)
    (case c_World_advance => k_is)
    (case k_World_advance => k_is)
    (case a_World_need_out => k_is)
    (case i_World_need_out => k_is)
    (case l_World_need_out => k_is)
    (case c_World_need_out => k_is)
    (case k_World_need_out => k_is)
    (case a_World_need_away => k_is)
    (case i_World_need_away => k_is)
    (case l_World_need_away => k_is)
    (case c_World_need_away => k_is)
    (case k_World_need_away => k_is)
    (case a_World_led => k_is)
    (case i_World_led => k_is)
    (case l_World_led => k_is)
    (case c_World_led => k_is)
    (case k_World_led => k_is)
    (case a_World_wins => k_is)
    (case g_World_wins => k_is)
    (case t_World_wins => k_is)
    (case r_World_wins => k_is)
    (case l_World_wins => k_is)
    (case c_World_wins => k_is)
    (case k_World_wins => k_is)
    (case b_abs => k_is)
    (case b_all => k_is)
    (case b_any => k_is)
    (case b_bool => k_is)
    (case b_enumerate => k_is)
    (case b_int => k_is)
    (case b_isinstance => k_is)
    (case b_len => k_is)
    (case b_list => k_is)
    (case b_range => k_is)
    (case b_repr => k_is)
    (case b_sum => k_is)
    (case b_tuple => k_is)
    (case b_zip => k_is)
    (case x_MOST_HOMES => k_is)
    (case x_MOST_PLACES => k_is)
    (case x_MOST_ROW => k_is)
    (case x_MOST_STEPS => k_is)
    (case x_MOST_WALKERS => k_is)
    (case x_NOUGHT => k_is)
    (case l_NOUGHT => k_is)
    (case c_NOUGHT => rfl)
    (case d_NOUGHT => rfl)
    (case v_NOUGHT => repeat (first | exact .nil | refine .cons ⟨_, rfl⟩ ?_ | refine .cons rfl ?_))
    (case z_NOUGHT => exact Nat.le_of_ble_eq_true rfl)
    (case x_ONE => k_is)
    (case l_ONE => k_is)
    (case c_ONE => rfl)
    (case d_ONE => rfl)
    (case v_ONE => repeat (first | exact .nil | refine .cons ⟨_, rfl⟩ ?_ | refine .cons rfl ?_))
    (case z_ONE => exact Nat.le_of_ble_eq_true rfl)
    (case pg2Board => k_is)
    (case hd2Board => k_is)
    (case po2Board => k_is)
    (case sa2Board => k_is)
    (case ic1Board => k_is)
    (case ic2Board => k_is)
    (case ic3Board => k_is)
    (case ic4Board => k_is)
    (case ic5Board => exact K67.kit_me)
    (case pg2World => k_is)
    (case hd2World => k_is)
    (case po2World => k_is)
    (case sa2World => k_is)
    (case ic1World => k_is)
    (case ic2World => k_is)
    (case ic3World => k_is)
    (case ic4World => k_is)
    (case ic5World => exact K67.kit_me)
    (case ggcd => k_is)
#print axioms PySem.Challenge.cw_nodice_k67_what_steps_keep_holds

end
