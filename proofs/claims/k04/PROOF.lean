import PyProof.Rows.All
import Wide.All
import OpenK.AllK
import Wide.FinOn
import HandS.ForMost
import HandS.ForExc
import HandS.Conv
import HandS.IsInst
import HandS.Wide
import HandS.Flow
import HandS.ExcInit
import HandS.ExcField
import HandS.ExcIs
import HandS.TryMany
import HandS.Steps
import HandS.More
import HandS.Sort
import PySem.Challenge.RW_kinhearth_k04_rounds_part_the_sections
set_option Elab.async false
set_option linter.all false
set_option maxRecDepth 100000
set_option maxHeartbeats 4000000
/-! B0: words over HandS that all the laws here share -/
namespace Kin
open PySem PySem.Spec PyProof.Rows L2

/-! ### heaps: facts carried over new objects and stores -/
theorem upd_new {H : Hp} {p a : Addr} {o u : HO} (np : H p = none) (h : H a = some u) : upd H p o a = some u := by
  rw [upd_ne (ne_of_none h np)]
  exact h
theorem upd_old {H : Hp} {p a : Addr} {o u : HO} (ne : a ≠ p) (h : H a = some u) : upd H p o a = some u := by
  rw [upd_ne ne]
  exact h
theorem sameAt {H H' : Hp} (s : Same H H') {a : Addr} {o : HO} (h : H a = some o) : H' a = some o := s a o h
theorem same_new {H0 H : Hp} {p : Addr} {o : HO} (s : Same H0 H) (f : H0 p = none) : Same H0 (upd H p o) := fun b x e => by
  rw [upd_ne (ne_of_none e f)]
  exact s b x e
theorem same_seqT {K : PySem.W.Frag} {H H' : Hp} {a : Addr} {xs : List V} (e : Same H H') (h : SqT K H a xs) : SqT K H' a xs := by
  rcases h with (h | ⟨o, h⟩) | h
  · exact .inl (.inl (e _ _ h))
  · exact .inl (.inr ⟨o, e _ _ h⟩)
  · exact .inr h
/-- a list or a tuple -/
def Sq (K : PySem.W.Frag) (H : Hp) (a : Addr) (xs : List V) : Prop := SqL K H a xs ∨ SqT K H a xs
theorem same_sq {K : PySem.W.Frag} {H H' : Hp} {a : Addr} {xs : List V} (e : Same H H') (h : Sq K H a xs) : Sq K H' a xs := by
  rcases h with h | h
  · exact .inl (e.seq h)
  · exact .inr (same_seqT e h)
theorem sqL_old {K : PySem.W.Frag} {H : Hp} {p a : Addr} {o : HO} {xs : List V} (ne : a ≠ p) (h : SqL K H a xs) : SqL K (upd H p o) a xs := by
  rcases h with (h | ⟨q, h⟩) | h
  · exact .inl (.inl (upd_old ne h))
  · exact .inl (.inr ⟨q, upd_old ne h⟩)
  · exact .inr h
theorem sqT_old {K : PySem.W.Frag} {H : Hp} {p a : Addr} {o : HO} {xs : List V} (ne : a ≠ p) (h : SqT K H a xs) : SqT K (upd H p o) a xs := by
  rcases h with (h | ⟨q, h⟩) | h
  · exact .inl (.inl (upd_old ne h))
  · exact .inl (.inr ⟨q, upd_old ne h⟩)
  · exact .inr h
theorem free_ne {H : Hp} {a b : Addr} {o : HO} (h : H a = some o) (n : H b = none) : b ≠ a := fun e => by
  rw [e, h] at n
  cases n
theorem lst_sz {xs : List V} {n : Nat} (h : xs.length ≤ n) (hn : n ≤ 100000) : xs.length ≤ sizeLine := Nat.le_trans h (Nat.le_trans hn (by decide))
theorem sz_le {n : Nat} (h : n ≤ 100000) : n ≤ sizeLine := Nat.le_trans h (by decide)
theorem sz_lt {n : Nat} (h : n < 100000) : n < sizeLine := Nat.lt_of_lt_of_le h (by decide)

/-- the ways of a statement joined: what holds behind it -/
theorem seq_cut {t u : TS} {D : Ends} {σ : L2.St} {H : Hp} (R : L2.St → Hp → Prop) (h1 : ∀ N : L2.St → Hp → Prop, (∀ σ' H', R σ' H' → N σ' H') → t { D with nx := N } σ H) (h2 : ∀ σ' H', R σ' H' → u D σ' H') : tSeq t u D σ H := h1 (u D) h2

/-- an if without else whose test is false -/
theorem ifno {A : Prop} {D : Ends} {σ : L2.St} {H : Hp} (h : D.nx σ H) : if false = true then A else tNext D σ H := iteF h

/-! ### a def that can be called by its name -/
def Cal (P : Program) (w : World) (K : PySem.W.Frag) (mg : Str → Option Value) (base : Heap) (CX : CXT) (k : Nat) (x : Str) (ps : List Str) (sp : Sp) : Prop :=
  ∃ (f : Addr) (fd : FuncData), mg x = some (.ref f) ∧ PySem.W.keepIn K (.ref f) = true ∧ Binds K fd ps [] ∧ FnOk P w K mg base CX k f fd ps sp
section
variable {X : Cx} {CX : CXT} {k j : Nat} {x : Str} {ps : List Str} {sp : Sp} {E : XK} {p pos : Pos} {e : Expr} {es : List Expr} {t : TA}
theorem pe_c (c : Cal X.prog X.w X.K X.mg X.base CX k x ps sp) (hr : Room j X.A) (hj : k ≤ j) (hg : Gl X x) (hx : Passes CX X E) (ha : PA X (e :: es) t)
    (hdb : (x == ("__debug__" : Str)) = false := by decide) (he : starEach (e :: es) X.env = (false, eval e X.env) :: starEach es X.env := by rfl) (hpl : (backTo pos (starEach es X.env)).any (·.1) = false := by rfl) :
    PE X (.Call (.Name x p) (e :: es) [] pos) (tCall sp [] E t) := by
  obtain ⟨f, fd, hm, hk, hb, F⟩ := c
  exact pe_call F (hr.mono hj) hg hm hk hb .nil hx ha hdb he hpl
theorem pe_c0 (c : Cal X.prog X.w X.K X.mg X.base CX k x ps sp) (hr : Room j X.A) (hj : k ≤ j) (hg : Gl X x) (hx : Passes CX X E)
    (hdb : (x == ("__debug__" : Str)) = false := by decide) : PE X (.Call (.Name x p) [] [] pos) (tCall sp [] E tNil) := by
  obtain ⟨f, fd, hm, hk, hb, F⟩ := c
  exact pe_call0 F (hr.mono hj) hg hm hk hb .nil hx hdb
end

/-! ### rules whose reading speaks of the written part, for use within a comprehension -/
section
variable {X : Cx}
theorem ix_listK (K : PySem.W.Frag) (h : X.K = K := by rfl) : IxR X (rIxL K) := by subst h; exact ix_list
theorem ix_tupK (K : PySem.W.Frag) (h : X.K = K := by rfl) : IxR X (rIxT K) := by subst h; exact ix_tup
theorem sl_listK (K : PySem.W.Frag) (h : X.K = K := by rfl) : SlR X (rSlL K) := by subst h; exact sl_list
theorem op_in_seqK (K : PySem.W.Frag) (h : X.K = K := by rfl) : OpR X (compareOp .In) (rIn K false) := by subst h; exact op_in_seq
theorem op_notIn_seqK (K : PySem.W.Frag) (h : X.K = K := by rfl) : OpR X (compareOp .NotIn) (rIn K true) := by subst h; exact op_notIn_seq
theorem op_eqDK (K : PySem.W.Frag) (hu : X.A.units + 64 < cLine) (h : X.K = K := by rfl) : OpR X (compareOp .Eq) (rEqD K) := by subst h; exact op_eqD hu
theorem op_neDK (K : PySem.W.Frag) (hu : X.A.units + 64 < cLine) (h : X.K = K := by rfl) : OpR X (compareOp .NotEq) (rNeD K) := by subst h; exact op_neD hu
theorem call_len_seqK (K : PySem.W.Frag) (h : X.K = K := by rfl) : CallR X (.builtin "len") (fun xs H Q => ∃ p ys, xs = [.ref p] ∧ (SqL K H p ys ∨ SqT K H p ys) ∧ Q (.int ys.length) H) := by subst h; exact call_len_seq
theorem call_tuple_ofK (K : PySem.W.Frag) (h : X.K = K := by rfl) : CallR X (.type "tuple") (fun xs H Q => ∃ p ys, xs = [.ref p] ∧ ((SqL K H p ys ∧ ∀ l, H l = none → Q (.ref l) (upd H l (.tup ys))) ∨ (SqT K H p ys ∧ Q (.ref p) H))) := by subst h; exact call_tuple_of
theorem call_list_ofK (K : PySem.W.Frag) (h : X.K = K := by rfl) : CallR X (.type "list") (fun xs H Q => ∃ p ys, xs = [.ref p] ∧ (SqL K H p ys ∨ SqT K H p ys) ∧ ∀ l, H l = none → Q (.ref l) (upd H l (.lst ys))) := by subst h; exact call_list_of
theorem pe_fldK (K : PySem.W.Frag) {e : Expr} {f : Str} {ta : TE} {pos : Pos} (he : PE X e ta) (hb : attributeBase e f X.env (eval e X.env) = eval e X.env) (h : X.K = K := by rfl) : PE X (.Attribute e f pos) (tFld K ta f) := by subst h; exact pe_fld he hb
theorem pe_bmK (K : PySem.W.Frag) {o e : Expr} {es : List Expr} {to : TE} {t : TA} {name : Str} {apos cpos : Pos} {T id : String} {r : V → List V → Hp → VK → Prop} (pa : PlainAttrs T) (slot : Slot T name id) (hty : typeOf (.builtin id) = pure (.type "method_descriptor")) (hm : MtR X id r) (ho : PE X o to) (ha : PA X (e :: es) t)
    (h : X.K = K := by rfl) (hbase : attributeBase o name X.env (eval o X.env) = eval o X.env := by rfl)
    (hfew : ((backTo cpos (starEach (e :: es) X.env)).all (fun x => !x.1) && (backToKw cpos (keywordEach [] X.env)).all (fun x => x.1.isSome)
      && decide ((e :: es).length + ([] : List Keyword).length + (if ([] : List Keyword).isEmpty then 0 else 1) < 30)) = true := by rfl)
    (hline : (apos.endLine == cpos.line) = true := by rfl) (hs : starEach (e :: es) X.env = (false, eval e X.env) :: starEach es X.env := by rfl) (hplain : (backTo cpos (starEach es X.env)).any (·.1) = false := by rfl) :
    PE X (.Call (.Attribute o name apos) (e :: es) [] cpos) (tBM K T r to t) := by subst h; exact pe_bm pa slot hty hm ho ha hbase hfew hline hs hplain
end

/-! ### a def as the top has left it -/
structure Dn (K : PySem.W.Frag) (mg : Str → Option Value) (x : Str) (st : Stmt) (ps : List Str) (f : Addr) (fd : FuncData) : Prop where
  F : Fun K x x st f fd
  b : Binds K fd ps []
  g : mg x = some (.ref f)
theorem Dn.cal {P : Program} {w : World} {K : PySem.W.Frag} {mg : Str → Option Value} {base : Heap} {CX : CXT} {k : Nat} {x : Str} {st : Stmt} {ps : List Str} {sp : Sp} {f : Addr} {fd : FuncData} (D : Dn K mg x st ps f fd) (F : FnOk P w K mg base CX k f fd ps sp) :
    Cal P w K mg base CX k x ps sp := ⟨f, fd, D.g, D.F.kp, D.b, F⟩
/-- .. by what the written part says -/
def DefIn (K : PySem.W.Frag) (x : Str) (st : Stmt) : Prop := ∃ (f : Addr) (oc : Value) (od : Option Addr) (kV doc pm : Value) (an : Option Addr) (cdv ct : Value) (osl : Array (Option Value)),
  PySem.W.nsIn K mainGlobals x = some (some (.ref f)) ∧ K.lookup f = some ⟨oc, od, .func (PySem.W.fnOf x x (defArgs st) (defBody st) (defScope st) .none kV doc pm an cdv ct), osl⟩ ∧ PySem.W.codeIn K cdv x = true ∧ PySem.W.keepIn K (.ref f) = true
theorem defIn_mk {K : PySem.W.Frag} {x : Str} {st : Stmt} {f : Addr} {oc : Value} {od : Option Addr} {kV doc pm : Value} {an : Option Addr} {cdv ct : Value} {osl : Array (Option Value)} (a : PySem.W.nsIn K mainGlobals x = some (some (.ref f)))
    (l : K.lookup f = some ⟨oc, od, .func (PySem.W.fnOf x x (defArgs st) (defBody st) (defScope st) .none kV doc pm an cdv ct), osl⟩) (c : PySem.W.codeIn K cdv x = true) (k : PySem.W.keepIn K (.ref f) = true) : DefIn K x st := ⟨f, oc, od, kV, doc, pm, an, cdv, ct, osl, a, l, c, k⟩
theorem dn_of {K : PySem.W.Frag} {h : Heap} {mg : Str → Option Value} (X : K.In h) (G : h.Ns mainGlobals mg) {x : Str} {st : Stmt} {ps : List Str} (d : DefIn K x st)
    (hb : ∀ (kV doc pm : Value) (an : Option Addr) (cdv ct : Value) (us : List Value), us.length = ps.length → bindArgs (PySem.W.fnOf x x (defArgs st) (defBody st) (defScope st) .none kV doc pm an cdv ct) ⟨us, []⟩ = pure (ps.zip us)) :
    ∃ f fd, Dn K mg x st ps f fd := by
  obtain ⟨f, oc, od, kV, doc, pm, an, cdv, ct, osl, a, l, c, k⟩ := d
  have F := fun_mk (st := st) l c k
  exact ⟨f, _, F, F.binds hb, PySem.W.mg_of X G a⟩

/-! ### the built-ins that no module's name hides -/
structure Blt (mg : Str → Option Value) : Prop where
  len : mg "len" = none
  range : mg "range" = none
  ty_list : mg "list" = none
  ty_tuple : mg "tuple" = none
  ty_int : mg "int" = none
  ty_bool : mg "bool" = none
  ty_str : mg "str" = none
  ty_dict : mg "dict" = none
  ty_ValueError : mg "ValueError" = none
  sorted : mg "sorted" = none
  isinstance : mg "isinstance" = none
  abs : mg "abs" = none
  all : mg "all" = none
  any : mg "any" = none
  sum : mg "sum" = none
  min : mg "min" = none
  max : mg "max" = none
  enumerate : mg "enumerate" = none
theorem blt_of {K : PySem.W.Frag} {h : Heap} {mg : Str → Option Value} (X : K.In h) (G : h.Ns mainGlobals mg)
    (h1 : PySem.W.nsIn K mainGlobals "len" = some none) (h2 : PySem.W.nsIn K mainGlobals "range" = some none) (h3 : PySem.W.nsIn K mainGlobals "list" = some none) (h4 : PySem.W.nsIn K mainGlobals "tuple" = some none)
    (h5 : PySem.W.nsIn K mainGlobals "int" = some none) (h6 : PySem.W.nsIn K mainGlobals "bool" = some none) (h7 : PySem.W.nsIn K mainGlobals "str" = some none) (h8 : PySem.W.nsIn K mainGlobals "dict" = some none)
    (h9 : PySem.W.nsIn K mainGlobals "ValueError" = some none) (h10 : PySem.W.nsIn K mainGlobals "sorted" = some none) (h11 : PySem.W.nsIn K mainGlobals "isinstance" = some none) (h12 : PySem.W.nsIn K mainGlobals "abs" = some none)
    (h13 : PySem.W.nsIn K mainGlobals "all" = some none) (h14 : PySem.W.nsIn K mainGlobals "any" = some none) (h15 : PySem.W.nsIn K mainGlobals "sum" = some none) (h16 : PySem.W.nsIn K mainGlobals "min" = some none)
    (h17 : PySem.W.nsIn K mainGlobals "max" = some none) (h18 : PySem.W.nsIn K mainGlobals "enumerate" = some none) : Blt mg :=
  ⟨PySem.W.mg_none_of X G h1, PySem.W.mg_none_of X G h2, PySem.W.mg_none_of X G h3, PySem.W.mg_none_of X G h4, PySem.W.mg_none_of X G h5, PySem.W.mg_none_of X G h6, PySem.W.mg_none_of X G h7, PySem.W.mg_none_of X G h8, PySem.W.mg_none_of X G h9,
    PySem.W.mg_none_of X G h10, PySem.W.mg_none_of X G h11, PySem.W.mg_none_of X G h12, PySem.W.mg_none_of X G h13, PySem.W.mg_none_of X G h14, PySem.W.mg_none_of X G h15, PySem.W.mg_none_of X G h16, PySem.W.mg_none_of X G h17, PySem.W.mg_none_of X G h18⟩
end Kin

set_option Elab.async false
set_option linter.all false
set_option maxRecDepth 100000
set_option maxHeartbeats 4000000
/-! M0: turnings, as plain lists -/
namespace Kin
open PySem L2

def rgI (n : Nat) : List Int := (List.range n).map fun i : Nat => (i : Int)
theorem rgI_len (n : Nat) : (rgI n).length = n := by simp [rgI]
theorem rgI_get {n i : Nat} (h : i < n) : (rgI n)[i]? = some (i : Int) := by
  simp [rgI, h]
theorem mem_rgI {n : Nat} {x : Int} : x ∈ rgI n ↔ 0 ≤ x ∧ x < n := by
  unfold rgI
  rw [List.mem_map]
  constructor
  · rintro ⟨a, ha, rfl⟩
    have := List.mem_range.mp ha
    omega
  · rintro ⟨h0, h1⟩
    exact ⟨x.toNat, List.mem_range.mpr (by omega), by omega⟩
theorem rgI_sorted (n : Nat) : (rgI n).Pairwise (· ≤ ·) := by
  unfold rgI
  rw [List.pairwise_map]
  exact List.pairwise_lt_range.imp (fun h => by omega)
theorem rgI_nodup (n : Nat) : (rgI n).Nodup := by
  unfold rgI List.Nodup
  rw [List.pairwise_map]
  exact List.pairwise_lt_range.imp (fun h => by omega)

/-- a turning -/
structure Turn (ns : List Int) : Prop where
  nd : ns.Nodup
  lo : ∀ x ∈ ns, 0 ≤ x ∧ x < (ns.length : Int)

theorem perm_of_sub {l m : List Int} (hn : l.Nodup) (hs : ∀ x ∈ l, x ∈ m) (hl : m.length ≤ l.length) : l.Perm m := by
  induction l generalizing m with
  | nil =>
    have : m = [] := List.eq_nil_of_length_eq_zero (by simpa using hl)
    subst this
    exact List.Perm.refl _
  | cons x r ih =>
    have hx : x ∈ m := hs x List.mem_cons_self
    obtain ⟨h1, h2⟩ := List.nodup_cons.mp hn
    have hp : m.Perm (x :: m.erase x) := List.perm_cons_erase hx
    refine List.Perm.trans (List.Perm.cons x (ih (m := m.erase x) h2 (fun y hy => ?_) ?_)) hp.symm
    · have hne : y ≠ x := fun e => h1 (e ▸ hy)
      exact (List.mem_erase_of_ne hne).mpr (hs y (List.mem_cons_of_mem _ hy))
    · have := hp.length_eq
      simp only [List.length_cons] at this hl
      omega
theorem Turn.perm {ns : List Int} (t : Turn ns) : ns.Perm (rgI ns.length) :=
  perm_of_sub t.nd (fun x hx => mem_rgI.mpr (t.lo x hx)) (by rw [rgI_len]; exact Nat.le_refl _)
theorem turn_of_perm {ns : List Int} {n : Nat} (h : ns.Perm (rgI n)) : Turn ns := by
  have hl : ns.length = n := by rw [h.length_eq, rgI_len]
  refine ⟨h.symm.nodup (rgI_nodup n), fun x hx => ?_⟩
  rw [hl]
  exact mem_rgI.mp (h.mem_iff.mp hx)
theorem turn_iff {ns : List Int} : Turn ns ↔ ns.Perm (rgI ns.length) := ⟨Turn.perm, turn_of_perm⟩

def okAt (n : Nat) : List Int → List Int → Bool
  | _, [] => true
  | seen, x :: r => if x < 0 ∨ (n : Int) ≤ x ∨ x ∈ seen then false else okAt n (seen ++ [x]) r
def isTurn (ns : List Int) : Bool := okAt ns.length [] ns
theorem okAt_iff {n : Nat} : ∀ (r seen : List Int), okAt n seen r = true ↔ (∀ x ∈ r, 0 ≤ x ∧ x < (n : Int) ∧ ¬ x ∈ seen) ∧ r.Nodup
  | [], seen => by simp [okAt]
  | x :: r, seen => by
    unfold okAt
    by_cases h : x < 0 ∨ (n : Int) ≤ x ∨ x ∈ seen
    · rw [if_pos h]
      refine ⟨fun z => (nomatch z), fun z => ?_⟩
      have := z.1 x List.mem_cons_self
      rcases h with h | h | h
      · omega
      · omega
      · exact absurd h this.2.2
    · rw [if_neg h, okAt_iff r (seen ++ [x])]
      constructor
      · rintro ⟨h1, h2⟩
        refine ⟨fun y hy => ?_, List.nodup_cons.mpr ⟨fun hx => (h1 x hx).2.2 (by simp), h2⟩⟩
        rcases List.mem_cons.mp hy with rfl | hy
        · exact ⟨by omega, by omega, fun z => h (.inr (.inr z))⟩
        · have := h1 y hy
          exact ⟨this.1, this.2.1, fun z => this.2.2 (by simp [z])⟩
      · rintro ⟨h1, h2⟩
        obtain ⟨h3, h4⟩ := List.nodup_cons.mp h2
        refine ⟨fun y hy => ?_, h4⟩
        have := h1 y (List.mem_cons_of_mem _ hy)
        refine ⟨this.1, this.2.1, fun z => ?_⟩
        rcases List.mem_append.mp z with z | z
        · exact this.2.2 z
        · have e : y = x := by simpa using z
          exact h3 (e ▸ hy)
theorem isTurn_iff {ns : List Int} : isTurn ns = true ↔ Turn ns := by
  unfold isTurn
  rw [okAt_iff]
  constructor
  · rintro ⟨h1, h2⟩
    exact ⟨h2, fun x hx => ⟨(h1 x hx).1, (h1 x hx).2.1⟩⟩
  · rintro ⟨h1, h2⟩
    exact ⟨fun x hx => ⟨(h2 x hx).1, (h2 x hx).2, by simp⟩, h1⟩
/-- a sorted row is the rising one just where it is a turning -/
theorem sorted_full {ns ns' : List Int} (hp : ns'.Perm ns) (hs : ns'.Pairwise (· ≤ ·)) : decide (ns' = rgI ns.length) = isTurn ns := by
  by_cases h : Turn ns
  · rw [isTurn_iff.mpr h]
    exact decide_eq_true (PySem.W.ksm_same (hp.trans h.perm) hs (rgI_sorted _))
  · have h1 : isTurn ns = false := by
      cases e : isTurn ns with
      | false => rfl
      | true => exact absurd (isTurn_iff.mp e) h
    rw [h1]
    refine decide_eq_false fun e => h ?_
    exact turn_of_perm (e ▸ hp.symm)

/-! ### what a law draws -/
def cell (ns : List Int) (k : Nat) : Int := ns.getD k 0
def seed (c : Int) : Int :=
  if (if c < 0 then -c else c) < 10 ^ 18 then
    (((c * 48271 + 11) % 2147483647) * ((c * 48271 + 11) % 2147483647) + 40692 * ((c * 48271 + 11) % 2147483647) + c) % 2147483399
      + 2147483399 * (((((c * 48271 + 11) % 2147483647) * ((c * 48271 + 11) % 2147483647) + 40692 * ((c * 48271 + 11) % 2147483647) + c) % 2147483399 * 16807 + (c * 48271 + 11) % 2147483647) % 1000000007 + 1000000007 * ((c * 48271 + 11) % 2147483647))
  else (if c < 0 then -c else c) - 10 ^ 18
def drawn : Int → List Int → List Int
  | _, [] => []
  | s, p :: r => s % p :: drawn (s / p) r
def draws (c : Int) (ps : List Int) : List Int := drawn (seed c) ps
theorem drawn_len : ∀ (s : Int) (ps : List Int), (drawn s ps).length = ps.length
  | _, [] => rfl
  | s, p :: r => by simp [drawn, drawn_len (s / p) r]
theorem draws_len (c : Int) (ps : List Int) : (draws c ps).length = ps.length := drawn_len _ _
theorem drawn_get : ∀ (s : Int) (ps : List Int) (i : Nat) (p : Int), ps[i]? = some p → 0 < p → ∃ d, (drawn s ps)[i]? = some d ∧ 0 ≤ d ∧ d < p
  | _, [], i, p, h, _ => by simp at h
  | s, q :: r, 0, p, h, hp => by
    have e : q = p := Option.some.inj h
    subst e
    exact ⟨s % q, rfl, Int.emod_nonneg _ (by omega), Int.emod_lt_of_pos _ hp⟩
  | s, q :: r, i + 1, p, h, hp => drawn_get (s / q) r i p h hp
theorem draws_get {c : Int} {ps : List Int} {i : Nat} {p : Int} (h : ps[i]? = some p) (hp : 0 < p) : ∃ d, (draws c ps)[i]? = some d ∧ 0 ≤ d ∧ d < p := drawn_get _ _ _ _ h hp
/-- what is left of the number behind i draws -/
def rest (s : Int) : List Int → Int
  | [] => s
  | p :: r => rest (s / p) r
theorem rest_snoc : ∀ (s : Int) (ps : List Int) (p : Int), rest s (ps ++ [p]) = rest s ps / p
  | _, [], _ => rfl
  | s, q :: r, p => rest_snoc (s / q) r p
theorem drawn_snoc : ∀ (s : Int) (ps : List Int) (p : Int), drawn s (ps ++ [p]) = drawn s ps ++ [rest s ps % p]
  | _, [], _ => rfl
  | s, q :: r, p => by
    show s % q :: drawn (s / q) (r ++ [p]) = s % q :: (drawn (s / q) r ++ [rest (s / q) r % p])
    rw [drawn_snoc]

/-- the turning of a number: one of the free ones by each rest -/
def picks : Nat → List Int → Int → List Int
  | 0, _, _ => []
  | n + 1, free, code => free.getD (code % ((n : Int) + 1)).toNat 0 :: picks n (free.eraseIdx (code % ((n : Int) + 1)).toNat) (code / ((n : Int) + 1))
def turnOf (code : Int) (n : Nat) : List Int := picks n (rgI n) code
theorem perm_erase : ∀ (l : List Int) (i : Nat) (h : i < l.length), l.Perm (l[i] :: l.eraseIdx i)
  | x :: r, 0, _ => List.Perm.refl _
  | x :: r, i + 1, h => by
    have h' : i < r.length := by simpa using h
    have ih := perm_erase r i h'
    show (x :: r).Perm (r[i] :: x :: r.eraseIdx i)
    exact (List.Perm.cons x ih).trans (List.Perm.swap _ _ _)
theorem picks_perm : ∀ (n : Nat) (free : List Int) (code : Int), free.length = n → (picks n free code).Perm free
  | 0, free, code, h => by
    have : free = [] := List.eq_nil_of_length_eq_zero h
    subst this
    exact List.Perm.refl _
  | n + 1, free, code, h => by
    have h0 : 0 ≤ code % ((n : Int) + 1) := Int.emod_nonneg _ (by omega)
    have h1 : code % ((n : Int) + 1) < (n : Int) + 1 := Int.emod_lt_of_pos _ (by omega)
    have hi : (code % ((n : Int) + 1)).toNat < free.length := by omega
    have hl : (free.eraseIdx (code % ((n : Int) + 1)).toNat).length = n := by
      rw [List.length_eraseIdx_of_lt hi]
      omega
    unfold picks
    rw [List.getD_eq_getElem?_getD, List.getElem?_eq_getElem hi]
    exact (List.Perm.cons _ (picks_perm n _ _ hl)).trans (perm_erase free _ hi).symm
theorem turnOf_perm (code : Int) (n : Nat) : (turnOf code n).Perm (rgI n) := picks_perm n _ code (rgI_len n)
theorem turnOf_len (code : Int) (n : Nat) : (turnOf code n).length = n := by rw [(turnOf_perm code n).length_eq, rgI_len]
theorem turnOf_turn (code : Int) (n : Nat) : Turn (turnOf code n) := turn_of_perm (turnOf_perm code n)

/-! ### data -/
theorem eqvAll_ints : ∀ ns ms : List Int, PyData.eqvAll (ns.map PyData.int) (ms.map PyData.int) = decide (ns = ms)
  | [], [] => by simp [PyData.eqvAll]
  | [], y :: ys => by simp [PyData.eqvAll]
  | x :: xs, [] => by simp [PyData.eqvAll]
  | x :: xs, y :: ys => by
    show PyData.eqvAll (PyData.int x :: xs.map PyData.int) (PyData.int y :: ys.map PyData.int) = _
    rw [PyData.eqvAll, eqvAll_ints xs ys, PyData.eqv]
    by_cases h : x = y <;> by_cases h2 : xs = ys <;> simp [h, h2]
theorem eqv_listI (ns ms : List Int) : PyData.eqv (.list (ns.map PyData.int)) (.list (ms.map PyData.int)) = decide (ns = ms) := by
  rw [PyData.eqv, eqvAll_ints]
theorem eqv_tupI (ns ms : List Int) : PyData.eqv (.tuple (ns.map PyData.int)) (.tuple (ms.map PyData.int)) = decide (ns = ms) := by
  rw [PyData.eqv, eqvAll_ints]
end Kin

set_option Elab.async false
set_option linter.all false
set_option maxRecDepth 100000
set_option maxHeartbeats 4000000
/-! B1: lists of numbers as values and as data -/
namespace Kin
open PySem PySem.Spec PyProof.Rows L2
theorem rgV_int (n : Nat) : rgV 0 (n : Int) = (rgI n).map V.int := by
  unfold rgV rgI
  rw [List.map_map, show ((n : Int) - 0).toNat = n by omega]
  refine List.map_congr_left fun i _ => ?_
  show V.int (0 + (i : Int)) = V.int (i : Int)
  rw [Int.zero_add]
theorem rg_ok {n : Nat} (h : n ≤ 1000) : RgOk 0 (n : Int) := RgOk.of_le (by omega) (by omega) (by omega) (by omega)
theorem int_at {ns : List Int} {i : Nat} {y : V} (h : (ns.map V.int)[i]? = some y) : ∃ z, ns[i]? = some z ∧ y = V.int z := by
  rw [List.getElem?_map] at h
  cases e : ns[i]? with
  | none => rw [e] at h; cases h
  | some z => rw [e] at h; exact ⟨z, rfl, (Option.some.inj h).symm⟩
theorem at_int {ns : List Int} {i : Int} {z : Int} (h0 : 0 ≤ i) (h : ns[i.toNat]? = some z) : atI (ns.map V.int) i = some (V.int z) := by
  have e : i = ((i.toNat : Nat) : Int) := by omega
  rw [e]
  refine atI_nat ?_
  rw [List.getElem?_map, h]
  rfl
theorem at_V {xs : List V} {i : Int} {z : V} (h0 : 0 ≤ i) (h : xs[i.toNat]? = some z) : atI xs i = some z := by
  have e : i = ((i.toNat : Nat) : Int) := by omega
  rw [e]
  exact atI_nat h
theorem ixN_in {n : Nat} {i : Int} (h0 : 0 ≤ i) (h1 : i < n) : ixN n i = some i.toNat := by
  unfold ixN
  rw [if_pos h0, if_pos h1]
theorem seqIx_in {n : Nat} {i : Int} (h0 : 0 ≤ i) (h1 : i < n) : seqIndex? i n = some i.toNat := (ixN_seq (ixN_in h0 h1)).1
theorem getD_some {ns : List Int} {i : Nat} (h : i < ns.length) : ns[i]? = some (ns.getD i 0) := by
  rw [List.getD_eq_getElem?_getD, List.getElem?_eq_getElem h]
  rfl
theorem set_ints (ns : List Int) (j : Nat) (z : Int) : (ns.map V.int).set j (V.int z) = (ns.set j z).map V.int := by rw [List.map_set]
theorem erase_ints (ns : List Int) (j : Nat) : (ns.map V.int).eraseIdx j = (ns.eraseIdx j).map V.int := by
  induction ns generalizing j with
  | nil => rfl
  | cons x r ih =>
    cases j with
    | zero => rfl
    | succ j =>
      show V.int x :: (r.map V.int).eraseIdx j = V.int x :: (r.eraseIdx j).map V.int
      rw [ih]
theorem snoc_ints (ns : List Int) (z : Int) : ns.map V.int ++ [V.int z] = (ns ++ [z]).map V.int := by rw [List.map_append]; rfl

theorem cut63 (ns : List Int) : cutV (ns.map V.int) none (some 63) = (ns.take 63).map V.int := by
  unfold cutV
  rw [HT.sIx_none, show HT.sIx (ns.map V.int).length (ns.map V.int).length (some 63) = min 63 (ns.map V.int).length from HT.sIx_nat _ _ 63]
  rw [List.drop_zero, List.map_take, Nat.sub_zero, List.take_eq_take_iff]
  omega

/-! ### as data -/
theorem dpAll_ints {K : PySem.W.Frag} {H : Hp} : ∀ ns : List Int, DpAll K H (ns.map V.int) (ns.map PyData.int)
  | [] => .nil
  | x :: r => .cons (.int x) (dpAll_ints r)
theorem dp_listI {K : PySem.W.Frag} {H : Hp} {a : Addr} {ns : List Int} (h : SqL K H a (ns.map V.int)) : Dp K H (.ref a) (.list (ns.map PyData.int)) := .lst h (dpAll_ints ns)
theorem dp_tupI {K : PySem.W.Frag} {H : Hp} {a : Addr} {ns : List Int} (h : SqT K H a (ns.map V.int)) : Dp K H (.ref a) (.tuple (ns.map PyData.int)) := .tup h (dpAll_ints ns)
theorem canLayAll_ints : ∀ ns : List Int, PyData.canLayAll0 (ns.map PyData.int) = true
  | [] => by simp [PyData.canLayAll0]
  | x :: r => by
    show PyData.canLayAll0 (PyData.int x :: r.map PyData.int) = true
    rw [PyData.canLayAll0, canLayAll_ints r, PyData.canLay0]
    rfl
theorem depthAll_ints : ∀ ns : List Int, PyData.depthAll (ns.map PyData.int) = 0
  | [] => by simp [PyData.depthAll]
  | x :: r => by
    show PyData.depthAll (PyData.int x :: r.map PyData.int) = 0
    rw [PyData.depthAll, depthAll_ints r, PyData.depth]
    rfl
theorem shaped_listI (ns : List Int) : SeqAt.shaped (.list (ns.map PyData.int)) = true := by
  unfold SeqAt.shaped
  rw [PyData.canLay0, canLayAll_ints, PyData.depth, depthAll_ints]
  rfl
theorem shaped_tupI (ns : List Int) : SeqAt.shaped (.tuple (ns.map PyData.int)) = true := by
  unfold SeqAt.shaped
  rw [PyData.canLay0, canLayAll_ints, PyData.depth, depthAll_ints]
  rfl
end Kin

set_option Elab.async false
set_option linter.all false
set_option maxRecDepth 100000
set_option maxHeartbeats 4000000
/-! B3: two values that are alike as data; a def that is never called; data's kinds -/
namespace Kin
open PySem PySem.Spec PyProof.Rows L2
theorem ix_seqK {X : Cx} (K : PySem.W.Frag) (h : X.K = K := by rfl) : IxR X (rIx K) := by subst h; exact ix_seq
/-- alike: no more than n lists or tuples within one another -/
inductive Alike (K : PySem.W.Frag) (H : Hp) : Nat → V → V → Prop
  | non {n : Nat} : Alike K H n .non .non
  | bl {n : Nat} (b : Bool) : Alike K H n (.bl b) (.bl b)
  | int {n : Nat} (i : Int) : Alike K H n (.int i) (.int i)
  | str {n : Nat} (z : Str) : Alike K H n (.str z) (.str z)
  | lst {n : Nat} {a b : Addr} {xs ys : List V} (ha : SqL K H a xs) (hb : SqL K H b ys) (hl : xs.length = ys.length) (hz : xs.length ≤ 1000)
      (h : ∀ (i : Nat) (x y : V), xs[i]? = some x → ys[i]? = some y → Alike K H n x y) : Alike K H (n + 1) (.ref a) (.ref b)
  | tup {n : Nat} {a b : Addr} {xs ys : List V} (ha : SqT K H a xs) (hb : SqT K H b ys) (hl : xs.length = ys.length) (hz : xs.length ≤ 1000)
      (h : ∀ (i : Nat) (x y : V), xs[i]? = some x → ys[i]? = some y → Alike K H n x y) : Alike K H (n + 1) (.ref a) (.ref b)
theorem Alike.same {K : PySem.W.Frag} {H H' : Hp} (s : Same H H') {n : Nat} {x y : V} (h : Alike K H n x y) : Alike K H' n x y := by
  induction h with
  | non => exact .non
  | bl b => exact .bl b
  | int i => exact .int i
  | str z => exact .str z
  | lst ha hb hl hz _ ih => exact .lst (s.seq ha) (s.seq hb) hl hz ih
  | tup ha hb hl hz _ ih => exact .tup (same_seqT s ha) (same_seqT s hb) hl hz ih
theorem alike_ints {K : PySem.W.Frag} {H : Hp} {n : Nat} {ns : List Int} : ∀ (i : Nat) (x y : V), (ns.map V.int)[i]? = some x → (ns.map V.int)[i]? = some y → Alike K H n x y := fun i x y h1 h2 => by
  obtain ⟨z, hz, rfl⟩ := int_at h1
  rw [h1] at h2
  cases h2
  exact .int z
theorem alike_tupI {K : PySem.W.Frag} {H : Hp} {n : Nat} {a b : Addr} {ns : List Int} (ha : SqT K H a (ns.map V.int)) (hb : SqT K H b (ns.map V.int)) (hz : ns.length ≤ 1000) : Alike K H (n + 1) (.ref a) (.ref b) :=
  .tup ha hb rfl (by rw [List.length_map]; exact hz) alike_ints
theorem alike_lstI {K : PySem.W.Frag} {H : Hp} {n : Nat} {a b : Addr} {ns : List Int} (ha : SqL K H a (ns.map V.int)) (hb : SqL K H b (ns.map V.int)) (hz : ns.length ≤ 1000) : Alike K H (n + 1) (.ref a) (.ref b) :=
  .lst ha hb rfl (by rw [List.length_map]; exact hz) alike_ints
theorem alike_1 {K : PySem.W.Frag} {H : Hp} {n : Nat} {x y : V} (h : Alike K H n x y) : ∀ (i : Nat) (u v : V), [x][i]? = some u → [y][i]? = some v → Alike K H n u v := fun i u v h1 h2 => by
  match i, h1, h2 with
  | 0, h1, h2 => cases h1; cases h2; exact h
  | i + 1, h1, _ => simp at h1
theorem alike_more {K : PySem.W.Frag} {H : Hp} {n : Nat} {x y : V} {xs ys : List V} (h : Alike K H n x y) (hr : ∀ (i : Nat) (u v : V), xs[i]? = some u → ys[i]? = some v → Alike K H n u v) :
    ∀ (i : Nat) (u v : V), (x :: xs)[i]? = some u → (y :: ys)[i]? = some v → Alike K H n u v := fun i u v h1 h2 => by
  match i, h1, h2 with
  | 0, h1, h2 => cases h1; cases h2; exact h
  | i + 1, h1, h2 => exact hr i u v h1 h2
theorem alike_0 {K : PySem.W.Frag} {H : Hp} {n : Nat} : ∀ (i : Nat) (u v : V), ([] : List V)[i]? = some u → ([] : List V)[i]? = some v → Alike K H n u v := fun i u v h1 _ => by simp at h1
theorem tyL {K : PySem.W.Frag} {H : Hp} {a : Addr} {xs : List V} (h : SqL K H a xs) : TyX K H (.ref a) (.type "list") := by
  rcases h with (h | ⟨o, h⟩) | ⟨o, _, _, h, c, _⟩
  · exact .base (.lst h)
  · exact .base (.frz h)
  · exact .kList h c
theorem tyT {K : PySem.W.Frag} {H : Hp} {a : Addr} {xs : List V} (h : SqT K H a xs) : TyX K H (.ref a) (.type "tuple") := by
  rcases h with (h | ⟨o, h⟩) | ⟨o, _, _, h, c, _⟩
  · exact .base (.tup h)
  · exact .fTuple h
  · exact .kTuple h c
/-- a def of which nothing is promised -/
theorem fn_never {P : Program} {w : World} {K : PySem.W.Frag} {mg : Str → Option Value} {base : Heap} {CX : CXT} {f : Addr} {fd : FuncData} {ps : List Str} : FnOk P w K mg base CX 0 f fd ps (fun _ _ _ _ => False) :=
  ⟨fun _ _ _ _ h => h.elim, fun _ _ _ _ _ _ _ _ _ _ _ _ _ h => h.elim⟩
end Kin

set_option Elab.async false
set_option linter.all false
set_option maxRecDepth 100000
set_option maxHeartbeats 4000000
/-! M1: one turning behind another -/
namespace Kin
open PySem L2
def after (ns ms : List Int) : List Int := ns.map fun z => ms.getD z.toNat 0
theorem after_snoc (ns ms : List Int) (z : Option Int) : after (ns ++ z.toList) ms = after ns ms ++ (after z.toList ms) := by unfold after; rw [List.map_append]
theorem after_len (ns ms : List Int) : (after ns ms).length = ns.length := by unfold after; rw [List.length_map]
theorem map_getD_range (ms : List Int) : (rgI ms.length).map (fun z => ms.getD z.toNat 0) = ms := by
  refine List.ext_getElem? fun i => ?_
  rw [List.getElem?_map]
  by_cases h : i < ms.length
  · rw [rgI_get h, Option.map_some, Int.toNat_natCast, List.getElem?_eq_getElem h, List.getD_eq_getElem?_getD, List.getElem?_eq_getElem h]
    rfl
  · rw [List.getElem?_eq_none (by rw [rgI_len]; omega), List.getElem?_eq_none (by omega)]
    rfl
/-- all stay, then a turning -/
theorem after_still_l (ms : List Int) : after (rgI ms.length) ms = ms := map_getD_range ms
/-- a turning, then all stay -/
theorem after_still_r {ns : List Int} (t : Turn ns) : after ns (rgI ns.length) = ns := by
  unfold after
  refine (List.map_congr_left fun z hz => ?_).trans (List.map_id ns)
  have := t.lo z hz
  rw [List.getD_eq_getElem?_getD, rgI_get (by omega)]
  show ((z.toNat : Nat) : Int) = z
  omega
theorem after_turn {ns ms : List Int} (tn : Turn ns) (tm : Turn ms) (hl : ns.length = ms.length) : Turn (after ns ms) := by
  have h1 : (after ns ms).Perm ((rgI ns.length).map fun z => ms.getD z.toNat 0) := tn.perm.map _
  rw [hl, map_getD_range] at h1
  exact turn_of_perm (h1.trans tm.perm)
end Kin

set_option Elab.async false
set_option linter.all false
set_option maxRecDepth 100000
set_option maxHeartbeats 4000000
/-! M2: the turning back -/
namespace Kin
open PySem L2
def ixOf : List Int → Int → Nat
  | [], _ => 0
  | x :: r, z => if x = z then 0 else ixOf r z + 1
theorem ixOf_get : ∀ {ns : List Int} {z : Int}, z ∈ ns → ns[ixOf ns z]? = some z
  | [], _, h => by cases h
  | x :: r, z, h => by
    unfold ixOf
    by_cases e : x = z
    · rw [if_pos e, ← e]
      rfl
    · rw [if_neg e]
      have : z ∈ r := by
        rcases List.mem_cons.mp h with q | q
        · exact absurd q.symm e
        · exact q
      exact ixOf_get this
theorem ixOf_first : ∀ {ns : List Int} {z : Int} (m : Nat), m < ixOf ns z → ns[m]? ≠ some z
  | [], _, m, h => by simp
  | x :: r, z, m, h => by
    unfold ixOf at h
    by_cases e : x = z
    · rw [if_pos e] at h
      omega
    · rw [if_neg e] at h
      match m with
      | 0 => exact fun q => e (Option.some.inj q)
      | m + 1 => exact ixOf_first (ns := r) m (by omega)
theorem ixOf_lt {ns : List Int} {z : Int} (h : z ∈ ns) : ixOf ns z < ns.length := (List.getElem?_eq_some_iff.mp (ixOf_get h)).1
theorem ixOf_of {ns : List Int} (hn : ns.Nodup) {z : Int} {j : Nat} (h : ns[j]? = some z) : ixOf ns z = j := nd_ix hn (ixOf_get (List.mem_of_getElem? h)) h
def inv (ns : List Int) : List Int := (rgI ns.length).map fun z => (ixOf ns z : Int)
theorem inv_len (ns : List Int) : (inv ns).length = ns.length := by unfold inv; rw [List.length_map, rgI_len]
theorem inv_at {ns : List Int} {i : Nat} (h : i < ns.length) : (inv ns)[i]? = some ((ixOf ns (i : Int) : Nat) : Int) := by
  unfold inv
  rw [List.getElem?_map, rgI_get h]
  rfl
theorem Turn.mem {ns : List Int} (t : Turn ns) {z : Int} (h0 : 0 ≤ z) (h1 : z < (ns.length : Int)) : z ∈ ns := t.perm.mem_iff.mpr (mem_rgI.mpr ⟨h0, h1⟩)
theorem Turn.inv_of {ns : List Int} (t : Turn ns) {j : Nat} {z : Int} (h : ns[j]? = some z) : (inv ns)[z.toNat]? = some (j : Int) := by
  have hz := t.lo z (List.mem_of_getElem? h)
  rw [inv_at (by omega), show ((z.toNat : Nat) : Int) = z by omega, ixOf_of t.nd h]
theorem inv_turn {ns : List Int} (t : Turn ns) : Turn (inv ns) := by
  refine ⟨?_, fun x hx => ?_⟩
  · unfold inv List.Nodup
    rw [List.pairwise_map]
    refine List.Pairwise.imp_of_mem (R := fun a b => a ≠ b) (fun {x y} hx hy hne e => hne ?_) (rgI_nodup ns.length)
    obtain ⟨x0, x1⟩ := mem_rgI.mp hx
    obtain ⟨y0, y1⟩ := mem_rgI.mp hy
    have e2 : ixOf ns x = ixOf ns y := by omega
    have h1 := ixOf_get (t.mem x0 x1)
    rw [e2, ixOf_get (t.mem y0 y1)] at h1
    exact (Option.some.inj h1).symm
  · rw [inv_len]
    unfold inv at hx
    obtain ⟨z, hz, rfl⟩ := List.mem_map.mp hx
    obtain ⟨z0, z1⟩ := mem_rgI.mp hz
    have := ixOf_lt (t.mem z0 z1)
    omega
theorem inv_inv {ns : List Int} (t : Turn ns) : inv (inv ns) = ns := by
  refine List.ext_getElem? fun i => ?_
  by_cases h : i < ns.length
  · rw [inv_at (by rw [inv_len]; exact h)]
    obtain ⟨z, hz⟩ : ∃ z, ns[i]? = some z := ⟨ns[i], List.getElem?_eq_getElem h⟩
    have hz2 := t.lo z (List.mem_of_getElem? hz)
    rw [ixOf_of (inv_turn t).nd (t.inv_of hz), hz, show ((z.toNat : Nat) : Int) = z by omega]
  · rw [List.getElem?_eq_none (by rw [inv_len, inv_len]; omega), List.getElem?_eq_none (by omega)]
theorem getD_of {ns : List Int} {i : Nat} {z : Int} (h : ns[i]? = some z) : ns.getD i 0 = z := by
  rw [List.getD_eq_getElem?_getD, h]
  rfl
/-- a turning and then back -/
theorem after_inv {ns : List Int} (t : Turn ns) : after ns (inv ns) = rgI ns.length := by
  refine List.ext_getElem? fun i => ?_
  unfold after
  rw [List.getElem?_map]
  by_cases h : i < ns.length
  · obtain ⟨z, hz⟩ : ∃ z, ns[i]? = some z := ⟨ns[i], List.getElem?_eq_getElem h⟩
    rw [hz, Option.map_some, rgI_get h, getD_of (t.inv_of hz)]
  · rw [List.getElem?_eq_none (by omega), List.getElem?_eq_none (by rw [rgI_len]; omega)]
    rfl
theorem inv_after {ns : List Int} (t : Turn ns) : after (inv ns) ns = rgI ns.length := by
  have h := after_inv (inv_turn t)
  rw [inv_inv t, inv_len] at h
  exact h
/-- what a loop that stores each place at its number comes to -/
theorem inv_built {ns fs : List Int} (t : Turn ns) (hl : fs.length = ns.length) (h : ∀ (j : Nat) (z : Int), ns[j]? = some z → fs[z.toNat]? = some (j : Int)) : fs = inv ns := by
  refine List.ext_getElem? fun i => ?_
  by_cases hi : i < ns.length
  · have hm := t.mem (z := (i : Int)) (by omega) (by omega)
    rw [inv_at hi]
    exact h _ _ (ixOf_get hm)
  · rw [List.getElem?_eq_none (by omega), List.getElem?_eq_none (by rw [inv_len]; omega)]
end Kin

set_option Elab.async false
set_option linter.all false
set_option maxRecDepth 100000
set_option maxHeartbeats 4000000
/-! B8: and, or of values, joined -/
namespace Kin
open PySem PySem.Spec PyProof.Rows L2
theorem andK {tb : TE} {σ : L2.St} {H : Hp} {Q : VK} {c1 c2 : Bool} (h : ∀ Q' : VK, Q' (.bl c2) H → tb σ H Q') (q : Q (.bl (c1 && c2)) H) : ∃ c, V.bl c1 = .bl c ∧ if c = true then tb σ H Q else Q (.bl false) H := by
  cases c1
  · exact ⟨_, rfl, iteF q⟩
  · exact ⟨_, rfl, iteT (h Q q)⟩
theorem orK {tb : TE} {σ : L2.St} {H : Hp} {Q : VK} {c1 c2 : Bool} (h : ∀ Q' : VK, Q' (.bl c2) H → tb σ H Q') (q : Q (.bl (c1 || c2)) H) : ∃ c, V.bl c1 = .bl c ∧ if c = true then Q (.bl true) H else tb σ H Q := by
  cases c1
  · exact ⟨_, rfl, iteF (h Q q)⟩
  · exact ⟨_, rfl, iteT q⟩
end Kin

set_option Elab.async false
set_option linter.all false
set_option maxRecDepth 100000
set_option maxHeartbeats 4000000
/-! M8: rounds of a turning -/
namespace Kin
open PySem L2
def app (t : List Int) (x : Int) : Int := t.getD x.toNat 0
def it (t : List Int) : Nat → Int → Int
  | 0, x => x
  | k + 1, x => app t (it t k x)
theorem app_at {t : List Int} {x : Int} (h0 : 0 ≤ x) (h1 : x < (t.length : Int)) : t[x.toNat]? = some (app t x) := by
  unfold app
  rw [List.getD_eq_getElem?_getD, List.getElem?_eq_getElem (by omega)]
  rfl
theorem Turn.app {t : List Int} (h : Turn t) {x : Int} (hx : x ∈ rgI t.length) : Kin.app t x ∈ rgI t.length := by
  obtain ⟨h0, h1⟩ := mem_rgI.mp hx
  exact mem_rgI.mpr (h.lo _ (List.mem_of_getElem? (app_at h0 h1)))
theorem Turn.app_inj {t : List Int} (h : Turn t) {x y : Int} (hx : x ∈ rgI t.length) (hy : y ∈ rgI t.length) (e : Kin.app t x = Kin.app t y) : x = y := by
  obtain ⟨x0, x1⟩ := mem_rgI.mp hx
  obtain ⟨y0, y1⟩ := mem_rgI.mp hy
  have := nd_ix h.nd (app_at x0 x1) (by rw [e]; exact app_at y0 y1)
  omega
theorem Turn.it {t : List Int} (h : Turn t) {x : Int} (hx : x ∈ rgI t.length) : ∀ k, Kin.it t k x ∈ rgI t.length
  | 0 => hx
  | k + 1 => h.app (h.it hx k)
theorem Turn.it_inj {t : List Int} (h : Turn t) {x y : Int} (hx : x ∈ rgI t.length) (hy : y ∈ rgI t.length) : ∀ k, Kin.it t k x = Kin.it t k y → x = y
  | 0, e => e
  | k + 1, e => h.it_inj hx hy k (h.app_inj (h.it hx k) (h.it hy k) e)
theorem it_add (t : List Int) (x : Int) (j : Nat) : ∀ i, it t (i + j) x = it t i (it t j x)
  | 0 => by rw [Nat.zero_add]; rfl
  | i + 1 => by
    rw [show i + 1 + j = (i + j) + 1 by omega]
    show app t (it t (i + j) x) = app t (it t i (it t j x))
    rw [it_add t x j i]
theorem nodup_sub_len {l m : List Int} (hn : l.Nodup) (hs : ∀ x ∈ l, x ∈ m) : l.length ≤ m.length := by
  induction l generalizing m with
  | nil => exact Nat.zero_le _
  | cons x r ih =>
    have hx : x ∈ m := hs x List.mem_cons_self
    obtain ⟨h1, h2⟩ := List.nodup_cons.mp hn
    have hp : m.Perm (x :: m.erase x) := List.perm_cons_erase hx
    have := ih (m := m.erase x) h2 (fun y hy => by
      have hne : y ≠ x := fun e => h1 (e ▸ hy)
      exact (List.mem_erase_of_ne hne).mpr (hs y (List.mem_cons_of_mem _ hy)))
    have hl := hp.length_eq
    simp only [List.length_cons] at hl ⊢
    omega
theorem Turn.back {t : List Int} (h : Turn t) {x : Int} (hx : x ∈ rgI t.length) : ∃ m, 1 ≤ m ∧ m ≤ t.length ∧ Kin.it t m x = x := by
  by_cases hn : ((List.range (t.length + 1)).map fun k => Kin.it t k x).Nodup
  · have := nodup_sub_len (m := rgI t.length) hn (fun y hy => by
      obtain ⟨k, _, rfl⟩ := List.mem_map.mp hy
      exact h.it hx k)
    rw [List.length_map, List.length_range, rgI_len] at this
    omega
  · have : ∃ i j, i < j ∧ j ≤ t.length ∧ Kin.it t i x = Kin.it t j x := by
      refine Classical.byContradiction fun hno => hn ?_
      unfold List.Nodup
      rw [List.pairwise_map]
      refine List.Pairwise.imp_of_mem (R := fun a b => a < b) (fun {a b} ha hb hab e => hno ⟨a, b, hab, ?_, e⟩) List.pairwise_lt_range
      have := List.mem_range.mp hb
      omega
    obtain ⟨i, j, hij, hj, e⟩ := this
    refine ⟨j - i, by omega, by omega, ?_⟩
    have e2 : Kin.it t j x = Kin.it t i (Kin.it t (j - i) x) := by
      rw [← it_add, show i + (j - i) = j by omega]
    rw [e2] at e
    exact (h.it_inj hx (h.it hx _) i e).symm
def perF (t : List Int) (x : Int) : Nat → Nat → Nat
  | 0, k => k
  | f + 1, k => if it t k x = x then k else perF t x f (k + 1)
theorem perF_spec {t : List Int} {x : Int} : ∀ (f k m : Nat), k ≤ m → m < k + f → it t m x = x → k ≤ perF t x f k ∧ it t (perF t x f k) x = x ∧ perF t x f k ≤ m ∧ ∀ j, k ≤ j → j < perF t x f k → it t j x ≠ x
  | 0, k, m, h1, h2, _ => by omega
  | f + 1, k, m, h1, h2, e => by
    rw [perF]
    by_cases hk : it t k x = x
    · rw [if_pos hk]
      exact ⟨Nat.le_refl _, hk, h1, fun j a b => by omega⟩
    · rw [if_neg hk]
      have hne : k ≠ m := fun z => hk (by rw [z]; exact e)
      obtain ⟨a, b, c, d⟩ := perF_spec f (k + 1) m (by omega) (by omega) e
      refine ⟨by omega, b, c, fun j h3 h4 => ?_⟩
      by_cases hj : j = k
      · rw [hj]; exact hk
      · exact d j (by omega) h4
def per (t : List Int) (x : Int) : Nat := perF t x t.length 1
structure PerS (t : List Int) (x : Int) : Prop where
  p1 : 1 ≤ per t x
  pe : it t (per t x) x = x
  pn : per t x ≤ t.length
  pm : ∀ j, 1 ≤ j → j < per t x → it t j x ≠ x
theorem Turn.per {t : List Int} (h : Turn t) {x : Int} (hx : x ∈ rgI t.length) : PerS t x := by
  obtain ⟨m, m1, m2, me⟩ := h.back hx
  obtain ⟨a, b, c, d⟩ := perF_spec t.length 1 m m1 (by omega) me
  exact ⟨a, b, Nat.le_trans c m2, d⟩
def ring (t : List Int) (a : Int) : List Int := (List.range (per t a)).map fun i => it t i a
theorem ring_len (t : List Int) (a : Int) : (ring t a).length = per t a := by unfold ring; rw [List.length_map, List.length_range]
theorem ring_at {t : List Int} {a : Int} {i : Nat} (h : i < per t a) : (ring t a)[i]? = some (it t i a) := by
  unfold ring
  rw [List.getElem?_map, List.getElem?_range h]
  rfl
theorem it_mul {t : List Int} {a : Int} {p : Nat} (h : it t p a = a) : ∀ q, it t (q * p) a = a
  | 0 => by rw [Nat.zero_mul]; rfl
  | q + 1 => by rw [Nat.add_mul, Nat.one_mul, it_add, h, it_mul h q]
theorem it_mod {t : List Int} {a : Int} {p : Nat} (h : it t p a = a) (k : Nat) : it t k a = it t (k % p) a := by
  conv => lhs; rw [← Nat.mod_add_div k p, Nat.mul_comm p, it_add, it_mul h]
theorem mem_ring {t : List Int} (h : Turn t) {a y : Int} (ha : a ∈ rgI t.length) : y ∈ ring t a ↔ ∃ k, y = it t k a := by
  have P := h.per ha
  constructor
  · intro hy
    unfold ring at hy
    obtain ⟨k, _, rfl⟩ := List.mem_map.mp hy
    exact ⟨k, rfl⟩
  · rintro ⟨k, rfl⟩
    rw [it_mod P.pe k]
    unfold ring
    exact List.mem_map.mpr ⟨k % per t a, List.mem_range.mpr (Nat.mod_lt _ P.p1), rfl⟩
theorem ring_sub {t : List Int} (h : Turn t) {a y : Int} (ha : a ∈ rgI t.length) (hy : y ∈ ring t a) : y ∈ rgI t.length := by
  obtain ⟨k, rfl⟩ := (mem_ring h ha).mp hy
  exact h.it ha k
theorem ring_self {t : List Int} (h : Turn t) {a : Int} (ha : a ∈ rgI t.length) : a ∈ ring t a := (mem_ring h ha).mpr ⟨0, rfl⟩
theorem ring_trans {t : List Int} (h : Turn t) {a y z : Int} (ha : a ∈ rgI t.length) (hy : y ∈ ring t a) (hz : z ∈ ring t y) : z ∈ ring t a := by
  obtain ⟨j, rfl⟩ := (mem_ring h (ring_sub h ha hy)).mp hz
  obtain ⟨i, rfl⟩ := (mem_ring h ha).mp hy
  exact (mem_ring h ha).mpr ⟨j + i, by rw [it_add]⟩
theorem ring_symm {t : List Int} (h : Turn t) {a y : Int} (ha : a ∈ rgI t.length) (hy : y ∈ ring t a) : a ∈ ring t y := by
  have P := h.per ha
  unfold ring at hy
  obtain ⟨i, hi, rfl⟩ := List.mem_map.mp hy
  have hi2 := List.mem_range.mp hi
  refine (mem_ring h (h.it ha i)).mpr ⟨per t a - i, ?_⟩
  rw [← it_add, show per t a - i + i = per t a by omega]
  exact P.pe.symm
theorem it_ne {t : List Int} (h : Turn t) {a : Int} (ha : a ∈ rgI t.length) {i j : Nat} (hij : i < j) (hj : j < per t a) : it t i a ≠ it t j a := fun e => by
  have P := h.per ha
  have e2 : it t j a = it t i (it t (j - i) a) := by rw [← it_add, show i + (j - i) = j by omega]
  rw [e2] at e
  exact P.pm (j - i) (by omega) (by omega) (h.it_inj ha (h.it ha _) i e).symm
theorem ring_nodup {t : List Int} (h : Turn t) {a : Int} (ha : a ∈ rgI t.length) : (ring t a).Nodup := by
  unfold ring List.Nodup
  rw [List.pairwise_map]
  refine List.Pairwise.imp_of_mem (R := fun x y => x < y) (fun {x y} hx hy hxy => it_ne h ha hxy ?_) List.pairwise_lt_range
  exact List.mem_range.mp hy
/-- the least of its round -/
def isMin (t : List Int) (a : Int) : Bool := (ring t a).all fun x => decide (a ≤ x)
theorem isMin_iff {t : List Int} {a : Int} : isMin t a = true ↔ ∀ x ∈ ring t a, a ≤ x := by
  unfold isMin
  rw [List.all_eq_true]
  exact ⟨fun h x hx => of_decide_eq_true (h x hx), fun h x hx => decide_eq_true (h x hx)⟩
theorem list_min : ∀ {l : List Int}, l ≠ [] → ∃ b ∈ l, ∀ x ∈ l, b ≤ x
  | [], h => absurd rfl h
  | [a], _ => ⟨a, List.mem_singleton.mpr rfl, fun x hx => by rw [List.mem_singleton.mp hx]; exact Int.le_refl _⟩
  | a :: b :: r, _ => by
    obtain ⟨m, hm, hl⟩ := list_min (l := b :: r) (by simp)
    by_cases h : a ≤ m
    · exact ⟨a, List.mem_cons_self, fun x hx => by
        rcases List.mem_cons.mp hx with e | e
        · rw [e]; exact Int.le_refl _
        · exact Int.le_trans h (hl x e)⟩
    · exact ⟨m, List.mem_cons_of_mem _ hm, fun x hx => by
        rcases List.mem_cons.mp hx with e | e
        · rw [e]; omega
        · exact hl x e⟩
theorem ring_min {t : List Int} (h : Turn t) {a : Int} (ha : a ∈ rgI t.length) : ∃ b, b ∈ ring t a ∧ isMin t b = true ∧ ∀ x ∈ ring t a, b ≤ x := by
  obtain ⟨b, hb, hl⟩ := list_min (l := ring t a) (List.ne_nil_of_mem (ring_self h ha))
  exact ⟨b, hb, isMin_iff.mpr fun x hx => hl x (ring_trans h ha hb hx), hl⟩
/-- who is seen behind all below a -/
def seenB (t : List Int) (i : Nat) (x : Int) : Prop := ∃ b ∈ rgI i, isMin t b = true ∧ x ∈ ring t b
theorem seen_iff {t : List Int} (h : Turn t) {i : Nat} (hi : i < t.length) : seenB t i (i : Int) ↔ ¬ isMin t (i : Int) = true := by
  have hin : (i : Int) ∈ rgI t.length := mem_rgI.mpr ⟨by omega, by omega⟩
  constructor
  · rintro ⟨b, hb, hm, hx⟩ hmi
    obtain ⟨b0, b1⟩ := mem_rgI.mp hb
    have hbn : b ∈ rgI t.length := mem_rgI.mpr ⟨b0, by omega⟩
    have := isMin_iff.mp hmi b (ring_symm h hbn hx)
    omega
  · intro hno
    obtain ⟨b, hb, hm, hl⟩ := ring_min h hin
    have hbn := ring_sub h hin hb
    obtain ⟨b0, b1⟩ := mem_rgI.mp hbn
    have hbi : b ≤ (i : Int) := hl _ (ring_self h hin)
    have hne : b ≠ (i : Int) := fun e => hno (by rw [← e]; exact hm)
    exact ⟨b, mem_rgI.mpr ⟨b0, by omega⟩, hm, ring_symm h hin hb⟩
def roundsTo (t : List Int) (i : Nat) : List (List Int) := ((rgI i).filter (isMin t)).map (ring t)
def rounds (t : List Int) : List (List Int) := roundsTo t t.length
theorem mins_same {t : List Int} (h : Turn t) {a b x : Int} (ha : a ∈ rgI t.length) (hb : b ∈ rgI t.length) (ma : isMin t a = true) (mb : isMin t b = true) (xa : x ∈ ring t a) (xb : x ∈ ring t b) : a = b := by
  have h1 : b ∈ ring t a := ring_trans h ha xa (ring_symm h hb xb)
  have h2 := isMin_iff.mp ma b h1
  have h3 := isMin_iff.mp mb a (ring_symm h ha h1)
  omega
theorem rounds_perm {t : List Int} (h : Turn t) : (rounds t).flatten.Perm (rgI t.length) := by
  have hmem : ∀ x, x ∈ (rounds t).flatten ↔ x ∈ rgI t.length := by
    intro x
    unfold rounds roundsTo
    rw [List.mem_flatten]
    constructor
    · rintro ⟨l, hl, hx⟩
      obtain ⟨a, ha, rfl⟩ := List.mem_map.mp hl
      exact ring_sub h (List.mem_filter.mp ha).1 hx
    · intro hx
      obtain ⟨b, hb, hm, hl⟩ := ring_min h hx
      exact ⟨ring t b, List.mem_map.mpr ⟨b, List.mem_filter.mpr ⟨ring_sub h hx hb, hm⟩, rfl⟩, ring_symm h hx hb⟩
  have hnd : (rounds t).flatten.Nodup := by
    unfold List.Nodup
    rw [List.pairwise_flatten]
    unfold rounds roundsTo
    constructor
    · intro l hl
      obtain ⟨a, ha, rfl⟩ := List.mem_map.mp hl
      exact ring_nodup h (List.mem_filter.mp ha).1
    · rw [List.pairwise_map]
      refine List.Pairwise.imp_of_mem (R := fun a b => a ≠ b) (fun {a b} ha hb hne x hx y hy e => hne ?_) ((rgI_nodup t.length).filter _)
      subst e
      obtain ⟨a1, a2⟩ := List.mem_filter.mp ha
      obtain ⟨b1, b2⟩ := List.mem_filter.mp hb
      exact mins_same h a1 b1 a2 b2 hx hy
  refine perm_of_sub hnd (fun x hx => (hmem x).mp hx) ?_
  exact nodup_sub_len (rgI_nodup _) fun x hx => (hmem x).mpr hx
/-- two sorted rows of the same numbers -/
theorem sorted_uniq : ∀ {a b : List Int}, a.Perm b → a.Pairwise (· ≤ ·) → b.Pairwise (· ≤ ·) → a = b
  | [], b, h, _, _ => (List.nil_perm.mp h).symm
  | x :: r, [], h, _, _ => by cases (List.perm_nil.mp h)
  | x :: r, y :: q, h, ha, hb => by
    obtain ⟨a1, a2⟩ := List.pairwise_cons.mp ha
    obtain ⟨b1, b2⟩ := List.pairwise_cons.mp hb
    have hx : x ∈ y :: q := h.mem_iff.mp List.mem_cons_self
    have hy : y ∈ x :: r := h.mem_iff.mpr List.mem_cons_self
    have e : x = y := by
      rcases List.mem_cons.mp hx with e | e
      · exact e
      · rcases List.mem_cons.mp hy with e2 | e2
        · exact e2.symm
        · have := b1 x e
          have := a1 y e2
          omega
    subst e
    rw [sorted_uniq ((List.perm_cons x).mp h) a2 b2]
theorem filter_sorted (n : Nat) (p : Int → Bool) : ((rgI n).filter p).Pairwise (· ≤ ·) := (rgI_sorted n).filter _
end Kin

set_option Elab.async false
set_option linter.all false
set_option maxRecDepth 100000
set_option maxHeartbeats 4000000
/-! B11: lists of lists on the heap -/
namespace Kin
open PySem PySem.Spec PyProof.Rows L2
/-- at l: a list of lists of numbers, at the addresses as -/
structure RingsAt (H : Hp) (l : Addr) (as : List Addr) (rs : List (List Int)) : Prop where
  top : H l = some (.lst (as.map V.ref))
  len : as.length = rs.length
  each : ∀ (i : Nat) (a : Addr) (r : List Int), as[i]? = some a → rs[i]? = some r → H a = some (.lst (r.map V.int))
theorem RingsAt.same {H H' : Hp} {l : Addr} {as : List Addr} {rs : List (List Int)} (s : Same H H') (h : RingsAt H l as rs) : RingsAt H' l as rs :=
  ⟨s _ _ h.top, h.len, fun i a r h1 h2 => s _ _ (h.each i a r h1 h2)⟩
theorem RingsAt.old {H : Hp} {l p : Addr} {o : HO} {as : List Addr} {rs : List (List Int)} (h : RingsAt H l as rs) (h1 : p ≠ l) (h2 : ∀ a ∈ as, a ≠ p) : RingsAt (upd H p o) l as rs :=
  ⟨upd_old h1.symm h.top, h.len, fun i a r e1 e2 => upd_old (h2 a (List.mem_of_getElem? e1)) (h.each i a r e1 e2)⟩
theorem RingsAt.snoc {H : Hp} {l q : Addr} {as : List Addr} {rs : List (List Int)} {r : List Int} (h : RingsAt H l as rs) (hq : H q = some (.lst (r.map V.int))) (h1 : ∀ a ∈ as, a ≠ l) (h2 : q ≠ l) : RingsAt (upd H l (.lst (as.map V.ref ++ [.ref q]))) l (as ++ [q]) (rs ++ [r]) := by
  refine ⟨by rw [upd_same, List.map_append]; rfl, by rw [List.length_append, List.length_append, h.len]; rfl, fun i a x e1 e2 => ?_⟩
  by_cases hi : i < as.length
  · rw [List.getElem?_append_left hi] at e1
    rw [List.getElem?_append_left (by rw [← h.len]; exact hi)] at e2
    exact upd_old (h1 a (List.mem_of_getElem? e1)) (h.each i a x e1 e2)
  · rw [List.getElem?_append_right (by omega)] at e1
    rw [List.getElem?_append_right (by rw [← h.len]; omega), ← h.len] at e2
    have h0 : i - as.length = 0 := by
      cases h3 : i - as.length with
      | zero => rfl
      | succ k =>
        rw [h3] at e1
        simp at e1
    rw [h0] at e1 e2
    cases e1
    cases e2
    exact upd_old h2 hq
theorem RingsAt.mem {H : Hp} {l : Addr} {as : List Addr} {rs : List (List Int)} (h : RingsAt H l as rs) {a : Addr} (ha : a ∈ as) : ∃ r ∈ rs, H a = some (.lst (r.map V.int)) := by
  obtain ⟨i, hi⟩ := List.getElem?_of_mem ha
  have hl : i < rs.length := by rw [← h.len]; exact (List.getElem?_eq_some_iff.mp hi).1
  exact ⟨rs[i], List.getElem_mem hl, h.each i a _ hi (List.getElem?_eq_getElem hl)⟩
theorem RingsAt.ne_none {H : Hp} {l : Addr} {as : List Addr} {rs : List (List Int)} (h : RingsAt H l as rs) {p : Addr} (hp : H p = none) : ∀ a ∈ as, a ≠ p := fun a ha => by
  obtain ⟨r, _, hr⟩ := h.mem ha
  exact ne_of_none hr hp
theorem flat_ints (ns : List Int) : (ns.map V.int).all flatV = true := by
  rw [List.all_map]
  exact List.all_eq_true.mpr fun x _ => rfl
theorem in_ints (z : Int) (ns : List Int) : inV (.int z) (ns.map V.int) = decide (z ∈ ns) := by
  unfold inV
  rw [List.any_map]
  by_cases h : z ∈ ns
  · rw [decide_eq_true h, List.any_eq_true]
    exact ⟨z, h, by simp [eqV]⟩
  · rw [decide_eq_false h, List.any_eq_false]
    intro x hx e
    refine h ?_
    have : x = z := by simpa [eqV] using e
    rw [← this]
    exact hx
theorem put_some (kvs : List (Key × V)) (x z : Int) (v : V) : (valV (putK kvs (.inl x) v) (.inl z)).isSome = true ↔ (z = x ∨ (valV kvs (.inl z)).isSome = true) := by
  rw [valV_put]
  by_cases h : z = x
  · rw [if_pos (by rw [h])]
    exact ⟨fun _ => .inl h, fun _ => rfl⟩
  · rw [if_neg (fun e => h (Sum.inl.inj e))]
    exact ⟨fun e => .inr e, fun e => e.elim (fun e => absurd e h) id⟩
end Kin

set_option Elab.async false
set_option linter.all false
set_option maxRecDepth 100000
set_option maxHeartbeats 4000000
namespace Kin
open PySem PySem.Spec PyProof.Rows L2
def topS (i : Nat) : Stmt := PySem.Challenge.pw_kinhearth_k04_rounds_part_the_sections.main.body.getD i (.Pass ⟨0, 0, 0, 0⟩)
abbrev s_fixed : Stmt := topS 1
abbrev s_fixed_N : List Str := ["turn", "at"]
abbrev p_fixed : List Str := ["turn"]
theorem sc_fixed : FnScope s_fixed_N p_fixed (defScope s_fixed) := ⟨rfl, rfl, rfl, by decide +kernel, rfl, by decide +kernel, by decide +kernel⟩
abbrev s_rounds : Stmt := topS 2
abbrev s_rounds_N : List Str := ["turn", "seen", "found", "at", "ring", "to"]
abbrev p_rounds : List Str := ["turn"]
theorem sc_rounds : FnScope s_rounds_N p_rounds (defScope s_rounds) := ⟨rfl, rfl, rfl, by decide +kernel, rfl, by decide +kernel, by decide +kernel⟩
abbrev s_l_cell : Stmt := topS 4
abbrev s_l_cell_N : List Str := ["_law_script", "_law_k"]
abbrev p_l_cell : List Str := ["_law_script", "_law_k"]
theorem sc_l_cell : FnScope s_l_cell_N p_l_cell (defScope s_l_cell) := ⟨rfl, rfl, rfl, by decide +kernel, rfl, by decide +kernel, by decide +kernel⟩
abbrev s_l_draws : Stmt := topS 5
abbrev s_l_draws_N : List Str := ["_law_cell_here", "_law_parts", "_law_one", "_law_two", "_law_six", "_law_found", "_law_part"]
abbrev p_l_draws : List Str := ["_law_cell_here", "_law_parts"]
theorem sc_l_draws : FnScope s_l_draws_N p_l_draws (defScope s_l_draws) := ⟨rfl, rfl, rfl, by decide +kernel, rfl, by decide +kernel, by decide +kernel⟩
abbrev s_l_turn : Stmt := topS 6
abbrev s_l_turn_N : List Str := ["_law_code", "_law_size", "_law_free", "_law_found", "_law_k"]
abbrev p_l_turn : List Str := ["_law_code", "_law_size"]
theorem sc_l_turn : FnScope s_l_turn_N p_l_turn (defScope s_l_turn) := ⟨rfl, rfl, rfl, by decide +kernel, rfl, by decide +kernel, by decide +kernel⟩
abbrev s_l_same : Stmt := topS 7
abbrev s_l_same_N : List Str := ["_law_found", "_law_due", "_law_k"]
abbrev p_l_same : List Str := ["_law_found", "_law_due"]
theorem sc_l_same : FnScope s_l_same_N p_l_same (defScope s_l_same) := ⟨rfl, rfl, rfl, by decide +kernel, rfl, by decide +kernel, by decide +kernel⟩
abbrev s_law : Stmt := topS 8
abbrev s_law_N : List Str := ["_law_script", "_law_drawn", "_law_turn_here", "_law_told", "_law_seen", "_law_ring", "_law_at", "_law_firsts"]
abbrev p_law : List Str := ["_law_script"]
theorem sc_law : FnScope s_law_N p_law (defScope s_law) := ⟨rfl, rfl, rfl, by decide +kernel, rfl, by decide +kernel, by decide +kernel⟩
/-! facts about the heap, carried by search -/
local macro_rules | `(tactic| walk_at "hp") => `(tactic| first | assumption | exact upd_same | (refine upd_new (by assumption) ?_; walk_at "hp") | (refine upd_old (by first | assumption | (apply Ne.symm; assumption)) ?_; walk_at "hp") | (refine sameAt (by assumption) ?_; walk_at "hp"))
local macro_rules | `(tactic| walk_at "fr") => `(tactic| first | assumption | (refine Same.free ?_ (by assumption); walk_at "sm"))
local macro_rules | `(tactic| walk_at "sm") => `(tactic| first | assumption | exact Same.refl _ | (refine same_new ?_ ?_; (walk_at "sm"); (walk_at "fr")) | (refine Same.trans ?_ (by assumption); walk_at "sm") | (refine Same.trans (by assumption) ?_; walk_at "sm"))
local macro_rules | `(tactic| walk_at "sq") => `(tactic| first | assumption | (refine SqL.of ?_; walk_at "hp") | (refine SqT.of ?_; walk_at "hp") | (refine Same.seq ?_ (by assumption); walk_at "sm") | (refine same_seqT ?_ (by assumption); walk_at "sm") | (refine same_sq ?_ (by assumption); walk_at "sm") | (refine sqL_old (by first | assumption | (apply Ne.symm; assumption)) ?_; walk_at "sq") | (refine sqT_old (by first | assumption | (apply Ne.symm; assumption)) ?_; walk_at "sq"))
local macro_rules | `(tactic| walk_at "nx") => `(tactic| try dsimp only [gName, tNext])

section
variable {P : Program} {w : World} {K : PySem.W.Frag} {mg : Str → Option Value} {base : Heap}


/-! ### _law_cell -/
def sp_cell (K : PySem.W.Frag) : Sp := fun vs H Q _ => ∃ (a : Addr) (ns : List Int) (k : Nat), vs = [.ref a, .int (k : Int)] ∧ SqL K H a (ns.map V.int) ∧ Q (.int (cell ns k)) H
theorem ok_l_cell {f : Addr} {fd : FuncData} (D : Dn K mg "_law_cell" s_l_cell p_l_cell f fd) (b : Blt mg) : Cal P w K mg base CX0 1 "_law_cell" p_l_cell (sp_cell K) := by
  refine D.cal (D.F.ok sc_l_cell (fun vs H Q E h => ?_) (fun cdv A outer s H vs Q E hr h => ?_))
  · obtain ⟨a, ns, k, rfl, _⟩ := h
    rfl
  · obtain ⟨a, ns, k, rfl, hS, q⟩ := h
    refine ⟨_, (pss_cons (ps_if (pt_cmpR op_lt (pv 1) (pe_callB call_len_seq (by rfl) b.len PySem.boot_len (pa_cons (pv 0) pa_nil)) (nomark _)) (pss_one (ps_ret (pe_ix ix_list (pv 0) (pv 1) (fun _ _ => rfl)))) pss_nil)
      (pss_one (ps_ret pe_int))), ?_⟩
    refine ⟨_, rfl, _, rfl, a, _, rfl, .inl hS, _, _, rfl, rfl, _, rfl, ite2 (fun e => ?_) (fun e => ?_)⟩
    · have e1 := of_decide_eq_true e
      rw [List.length_map] at e1
      have hk : k < ns.length := by omega
      refine ⟨_, rfl, _, rfl, a, _, _, .int (ns[k]), rfl, rfl, hS, atI_nat (by rw [List.getElem?_map, List.getElem?_eq_getElem hk]; rfl), ?_⟩
      have ec : cell ns k = ns[k] := by
        unfold cell
        rw [List.getD_eq_getElem?_getD, List.getElem?_eq_getElem hk]
        rfl
      rw [ec] at q
      exact q
    · have e1 : ¬ ((k : Int) < ((ns.map V.int).length : Int)) := fun z => e (decide_eq_true z)
      rw [List.length_map] at e1
      have ec : cell ns k = 0 := by
        unfold cell
        rw [List.getD_eq_getElem?_getD, List.getElem?_eq_none (by omega)]
        rfl
      rw [ec] at q
      exact q


/-! ### _law_draws -/
def sp_draws (K : PySem.W.Frag) : Sp := fun vs H Q _ => ∃ (c : Int) (a : Addr) (ps : List Int), vs = [.int c, .ref a] ∧ SqL K H a (ps.map V.int) ∧ ps.length ≤ 1000 ∧ (∀ p ∈ ps, 0 < p ∧ p < 2 ^ 60) ∧
  ∀ p H', H p = none → Same H H' → H' p = some (.lst ((draws c ps).map V.int)) → Q (.ref p) H'
theorem ok_l_draws {f : Addr} {fd : FuncData} (D : Dn K mg "_law_draws" s_l_draws p_l_draws f fd) (b : Blt mg) : Cal P w K mg base CX0 1 "_law_draws" p_l_draws (sp_draws K) := by
  refine D.cal (D.F.ok sc_l_draws (fun vs H Q E h => ?_) (fun cdv A outer s H vs Q E hr h => ?_))
  · obtain ⟨c, a, ps, rfl, _⟩ := h
    rfl
  · obtain ⟨c, a, ps, rfl, hS, hlen, hps, q⟩ := h
    refine ⟨_, (pss_cons (ps_if (pt_cmpR op_lt (pe_callB call_abs (by rfl) b.abs (by decide +kernel) (pa_cons (pv 0) pa_nil)) (pe_op op_pow pe_int pe_int) (nomark _)) (pss_cons (ps_set (i := 2) sc_l_draws.nd rfl (Or.inl rfl) (pe_op op_mod (pe_op op_add (pe_op op_mulW (pv 0) pe_int) pe_int) pe_int))
      (pss_cons (ps_set (i := 3) sc_l_draws.nd rfl (Or.inl rfl) (pe_op op_mod (pe_op op_add (pe_op op_add (pe_op op_mulW (pv 2) (pv 2)) (pe_op op_mulW pe_int (pv 2))) (pv 0)) pe_int))
      (pss_cons (ps_set (i := 4) sc_l_draws.nd rfl (Or.inl rfl) (pe_op op_mod (pe_op op_add (pe_op op_mulW (pv 3) pe_int) (pv 2)) pe_int))
      (pss_one (ps_set (i := 0) sc_l_draws.nd rfl (Or.inl rfl) (pe_op op_add (pv 3) (pe_op op_mulW pe_int (pe_op op_add (pv 4) (pe_op op_mulW pe_int (pv 2)))))))))) (pss_one (ps_set (i := 0) sc_l_draws.nd rfl (Or.inl rfl) (pe_op op_sub (pe_callB call_abs (by rfl) b.abs (by decide +kernel) (pa_cons (pv 0) pa_nil)) (pe_op op_pow pe_int pe_int)))))
      (pss_cons (ps_set (i := 5) sc_l_draws.nd rfl (Or.inl rfl) (pe_lst pa_nil))
      (pss_cons (ps_for PassesOwn.never rfl (pi_list (pv 1)) (pg_name (i := 6) sc_l_draws.nd rfl (Or.inl rfl)) (pss_cons (ps_expr (pe_bm PySem.F.plainAttrs_list PySem.F.slot_list_append PySem.F.type_list_append mt_append (pv 5) (pa_cons (pe_op op_mod (pv 0) (pv 6)) pa_nil)))
      (pss_one (ps_set (i := 0) sc_l_draws.nd rfl (Or.inl rfl) (pe_op op_fdivW (pv 0) (pv 6))))))
      (pss_one (ps_ret (pv 5)))))), ?_⟩
    have wide : ∀ {i j : Int}, i.natAbs < 2 ^ 200 → j.natAbs < 2 ^ 200 → CMulW i j := fun h1 h2 => wide_mul h1 h2 (by decide) (by decide) (by decide)
    have small : ∀ {i : Int}, -(2 ^ 64) < i → i < 2 ^ 64 → i.natAbs < 2 ^ 200 := fun {i} h1 h2 => Nat.lt_of_lt_of_le (show i.natAbs < 2 ^ 64 by omega) (by decide)
    -- what follows the if, from any number
    have go : ∀ (y2 y3 y4 : Option V) (cc : Int), cc = seed c → (tSeq (tAsg (tLst tNil) (gName 5)) (tSeq (tFor (iList K (tVar 1)) (gName 6) (tSeq
        (tDrop (tBM K "list" rAppend (tVar 5) (tCons (tOp (rI (fun _ j => 0 < j) fun i j => .int (i % j)) (tVar 0) (tVar 6)) tNil)))
        (tAsg (tOp (rI CDivW fun i j => .int (i / j)) (tVar 0) (tVar 6)) (gName 0)))) (tRet (tVar 5))))
        { nx := fun _ H' => Q .non H', rt := Q } [some (.int cc), some (.ref a), y2, y3, y4, none, none] H := by
      rintro y2 y3 y4 cc rfl
      refine ⟨Nat.zero_le _, fun o no => ?_⟩
      have s1 : Same H (upd H o (.lst [])) := same_new (Same.refl H) no
      refine ⟨_, rfl, a, rfl, ⟨_, s1.seq hS⟩, for_list (K := K) (a := a) (xs := ps.map V.int) (fun i σ H2 => ∃ y6 : Option V, σ = [some (.int (rest (seed c) (ps.take i))), some (.ref a), y2, y3, y4, some (.ref o), y6] ∧ Same H H2 ∧ H2 o = some (.lst ((drawn (seed c) (ps.take i)).map V.int)))
        ⟨none, rfl, s1, upd_same⟩ (fun i σ H2 _ ⟨_, _, s2, _⟩ => s2.seq hS) ?_ ?_⟩
      · rintro i y σ H2 hi ⟨y6, rfl, s2, eo⟩
        obtain ⟨z, hz, rfl⟩ : ∃ z, ps[i]? = some z ∧ y = V.int z := by
          rw [List.getElem?_map] at hi
          cases e : ps[i]? with
          | none => rw [e] at hi; cases hi
          | some z => rw [e] at hi; exact ⟨z, rfl, (Option.some.inj hi).symm⟩
        have hp := hps z (List.mem_of_getElem? hz)
        have et : ps.take (i + 1) = ps.take i ++ [z] := by rw [List.take_add_one, hz]; rfl
        refine ⟨_, rfl, .inl ⟨rfl, _, SqL.of eo⟩, _, rfl, _, rfl, _, _, rfl, rfl, hp.1, o, _, _, rfl, rfl, eo, ?_, ?_⟩
        · refine sz_lt ?_
          rw [List.length_map, drawn_len, List.length_take]
          omega
        · refine ⟨_, rfl, _, rfl, _, _, rfl, rfl, wide_div hp.1 (b := 60) (by omega) (by decide) (by decide), ?_⟩
          refine ⟨some (.int z), ?_, fun b x e => ?_, ?_⟩
          · rw [et, rest_snoc]
            rfl
          · rw [upd_ne (ne_of_none e no)]
            exact s2 b x e
          · rw [upd_same, et, drawn_snoc, List.map_append]
            rfl
      · rintro σ H2 ⟨y6, rfl, s2, eo⟩
        rw [List.length_map, List.take_length] at eo
        exact ⟨_, rfl, q o H2 no s2 eo⟩
    refine ⟨_, rfl, c, rfl, _, _, rfl, rfl, ⟨by decide, by decide, by decide⟩, _, _, rfl, rfl, _, rfl, ite2 (fun e => ?_) (fun e => ?_)⟩
    · have e1 := of_decide_eq_true e
      have hc1 : (if c < 0 then -c else c) < 10 ^ 18 := e1
      have hc : -(10 ^ 18) < c ∧ c < 10 ^ 18 := by
        split at hc1 <;> omega
      have n1 : 0 ≤ (c * 48271 + 11) % 2147483647 := Int.emod_nonneg _ (by decide)
      have m1 : (c * 48271 + 11) % 2147483647 < 2147483647 := Int.emod_lt_of_pos _ (by decide)
      have n2 : 0 ≤ (((c * 48271 + 11) % 2147483647) * ((c * 48271 + 11) % 2147483647) + 40692 * ((c * 48271 + 11) % 2147483647) + c) % 2147483399 := Int.emod_nonneg _ (by decide)
      have m2 : (((c * 48271 + 11) % 2147483647) * ((c * 48271 + 11) % 2147483647) + 40692 * ((c * 48271 + 11) % 2147483647) + c) % 2147483399 < 2147483399 := Int.emod_lt_of_pos _ (by decide)
      have n3 : 0 ≤ ((((c * 48271 + 11) % 2147483647) * ((c * 48271 + 11) % 2147483647) + 40692 * ((c * 48271 + 11) % 2147483647) + c) % 2147483399 * 16807 + (c * 48271 + 11) % 2147483647) % 1000000007 := Int.emod_nonneg _ (by decide)
      have m3 : ((((c * 48271 + 11) % 2147483647) * ((c * 48271 + 11) % 2147483647) + 40692 * ((c * 48271 + 11) % 2147483647) + c) % 2147483399 * 16807 + (c * 48271 + 11) % 2147483647) % 1000000007 < 1000000007 := Int.emod_lt_of_pos _ (by decide)
      refine ⟨_, rfl, _, _, rfl, rfl, wide (small (by omega) (by omega)) (small (by decide) (by decide)), _, _, rfl, rfl, _, _, rfl, rfl, (by show (0 : Int) < 2147483647; decide), ?_⟩
      refine ⟨_, rfl, _, rfl, _, _, rfl, rfl, wide (small (by omega) (by omega)) (small (by omega) (by omega)), _, rfl, _, _, rfl, rfl, wide (small (by decide) (by decide)) (small (by omega) (by omega)), _, _, rfl, rfl, _, rfl, _, _, rfl, rfl, _, _, rfl, rfl, (by show (0 : Int) < 2147483399; decide), ?_⟩
      refine ⟨_, rfl, _, _, rfl, rfl, wide (small (by omega) (by omega)) (small (by decide) (by decide)), _, rfl, _, _, rfl, rfl, _, _, rfl, rfl, (by show (0 : Int) < 1000000007; decide), ?_⟩
      refine ⟨_, rfl, _, rfl, _, rfl, _, _, rfl, rfl, wide (small (by decide) (by decide)) (small (by omega) (by omega)), _, _, rfl, rfl, _, _, rfl, rfl, wide (small (by decide) (by decide)) (small (by omega) (by omega)), _, _, rfl, rfl, ?_⟩
      refine go _ _ _ _ ?_
      unfold seed
      rw [if_pos hc1]
    · have e1 : ¬ (if c < 0 then -c else c) < 10 ^ 18 := fun z => e (decide_eq_true z)
      refine ⟨_, rfl, c, rfl, _, _, rfl, rfl, ⟨by decide, by decide, by decide⟩, _, _, rfl, rfl, ?_⟩
      refine go _ _ _ _ ?_
      unfold seed
      rw [if_neg e1]
      rfl


/-! ### _law_turn -/
def sp_turn : Sp := fun vs H Q _ => ∃ (c : Int) (n : Nat), vs = [.int c, .int (n : Int)] ∧ n ≤ 1000 ∧
  ∀ p H', H p = none → Same H H' → H' p = some (.tup ((turnOf c n).map V.int)) → Q (.ref p) H'
theorem ok_l_turn {f : Addr} {fd : FuncData} (D : Dn K mg "_law_turn" s_l_turn p_l_turn f fd) (b : Blt mg) : Cal P w K mg base CX0 1 "_law_turn" p_l_turn sp_turn := by
  refine D.cal (D.F.ok sc_l_turn (fun vs H Q E h => ?_) (fun cdv A outer s H vs Q E hr h => ?_))
  · obtain ⟨c, n, rfl, _⟩ := h
    rfl
  · obtain ⟨c, n, rfl, hn, q⟩ := h
    refine ⟨_, (pss_cons (ps_set (i := 2) sc_l_turn.nd rfl (Or.inl rfl) (pe_listRg rfl (by rfl) b.ty_list (prg_1 (by rfl) b.range (pv 1))))
      (pss_cons (ps_set (i := 3) sc_l_turn.nd rfl (Or.inl rfl) (pe_lst pa_nil))
      (pss_cons (ps_for PassesOwn.never rfl (pi_range1 (by rfl) b.range (pa_cons (pv 1) pa_nil)) (pg_name (i := 4) sc_l_turn.nd rfl (Or.inl rfl)) (pss_cons (ps_expr (pe_bm PySem.F.plainAttrs_list PySem.F.slot_list_append PySem.F.type_list_append mt_append (pv 3) (pa_cons (pe_bm PySem.F.plainAttrs_list PySem.F.slot_list_pop PySem.F.type_list_pop mt_popAt (pv 2) (pa_cons (pe_op op_mod (pv 0) (pe_op op_sub (pv 1) (pv 4))) pa_nil)) pa_nil)))
      (pss_one (ps_set (i := 0) sc_l_turn.nd rfl (Or.inl rfl) (pe_op op_fdivW (pv 0) (pe_op op_sub (pv 1) (pv 4)))))))
      (pss_one (ps_ret (pe_callTy call_tuple_of (by rfl) b.ty_tuple (by decide +kernel) (pa_cons (pv 3) pa_nil))))))), ?_⟩
    refine ⟨_, rfl, _, rfl, rg_ok hn, fun l nl => ?_⟩
    rw [rgV_int]
    refine ⟨Nat.zero_le _, fun o no => ?_⟩
    have nlo : l ≠ o := ne_of_none upd_same no
    have no0 : H o = none := by walk_at "fr"
    refine ⟨_, rfl, _, rfl, by omega, by omega, for_range (lo := 0) (n := n) (fun i σ H2 => ∃ (y4 : Option V) (free acc : List Int) (cc : Int), σ = [some (.int cc), some (.int (n : Int)), some (.ref l), some (.ref o), y4] ∧ Same H H2 ∧ H2 l = some (.lst (free.map V.int)) ∧ H2 o = some (.lst (acc.map V.int)) ∧
        free.length + i = n ∧ acc.length = i ∧ acc ++ picks free.length free cc = turnOf c n)
      ⟨none, rgI n, [], c, rfl, by walk_at "sm", by walk_at "hp", upd_same, by rw [rgI_len]; omega, rfl, by rw [rgI_len]; rfl⟩ ?_ ?_⟩
    · rintro i σ H2 hi ⟨y4, free, acc, cc, rfl, s2, el, eo, hf, ha, hp⟩
      obtain ⟨m, hm⟩ : ∃ m, free.length = m + 1 := ⟨n - i - 1, by omega⟩
      have ed : (n : Int) - (0 + (i : Int)) = (m : Int) + 1 := by omega
      have h0 : 0 ≤ cc % ((m : Int) + 1) := Int.emod_nonneg _ (by omega)
      have h1 : cc % ((m : Int) + 1) < (m : Int) + 1 := Int.emod_lt_of_pos _ (by omega)
      have hk : (cc % ((m : Int) + 1)).toNat < free.length := by omega
      refine ⟨_, rfl, .inl ⟨rfl, _, SqL.of eo⟩, _, rfl, .inl ⟨rfl, _, SqL.of el⟩, _, rfl, _, rfl, _, rfl, _, _, rfl, rfl, _, _, rfl, rfl, ?_, l, _, cc % ((m : Int) + 1), (cc % ((m : Int) + 1)).toNat, .int (free.getD (cc % ((m : Int) + 1)).toNat 0), rfl, ?_, el, ?_, ?_, ?_, ?_, ?_⟩
      · show (0 : Int) < (n : Int) - (0 + (i : Int))
        omega
      · show [V.int (cc % ((n : Int) - (0 + (i : Int))))] = _
        rw [ed]
      · omega
      · omega
      · rw [List.length_map]
        exact seqIx_in h0 (by omega)
      · rw [List.getElem?_map, getD_some hk]
        rfl
      · refine ⟨o, _, _, rfl, rfl, upd_old nlo.symm eo, ?_, ?_⟩
        · refine sz_lt ?_
          rw [List.length_map]
          omega
        · refine ⟨_, rfl, _, rfl, _, rfl, _, _, rfl, rfl, _, _, rfl, rfl, ?_, ?_⟩
          · show CDivW cc ((n : Int) - (0 + (i : Int)))
            exact wide_div (by omega) (b := 60) (by omega) (by decide) (by decide)
          · refine ⟨some (.int (0 + (i : Int))), free.eraseIdx (cc % ((m : Int) + 1)).toNat, acc ++ [free.getD (cc % ((m : Int) + 1)).toNat 0], cc / ((m : Int) + 1), ?_, ?_, ?_, ?_, ?_, ?_, ?_⟩
            · rw [← ed]
              rfl
            · refine same_new (same_new s2 nl) no0
            · rw [upd_ne nlo, upd_same, erase_ints]
            · rw [upd_same, snoc_ints]
            · rw [List.length_eraseIdx_of_lt hk]
              omega
            · rw [List.length_append, ha]
              rfl
            · rw [List.length_eraseIdx_of_lt hk, ← hp, hm, List.append_assoc]
              rfl
    · rintro σ H2 ⟨y4, free, acc, cc, rfl, s2, el, eo, hf, ha, hp⟩
      have e0 : free.length = 0 := by omega
      have ep : acc = turnOf c n := by
        rw [← hp, e0]
        show acc = acc ++ []
        rw [List.append_nil]
      subst ep
      refine ⟨_, rfl, o, _, rfl, .inl ⟨SqL.of eo, fun t nt => ?_⟩⟩
      exact q t _ (s2.free nt) (same_new s2 (s2.free nt)) upd_same


/-! ### _law_same, of alike things -/
def sp_same (K : PySem.W.Frag) : Nat → Sp
  | 0 => fun _ _ _ _ => False
  | n + 1 => fun vs H Q _ => ∃ x y, vs = [x, y] ∧ Alike K H n x y ∧ ∀ H', Same H H' → Q (.bl true) H'
theorem ok_l_same {f : Addr} {fd : FuncData} (D : Dn K mg "_law_same" s_l_same p_l_same f fd) (b : Blt mg) : ∀ n : Nat, Cal P w K mg base CX0 n "_law_same" p_l_same (sp_same K n) := by
  intro n
  induction n with
  | zero => exact D.cal fn_never
  | succ n ih =>
  have c := ih
  refine D.cal (D.F.ok sc_l_same (fun vs H Q E h => ?_) (fun cdv A outer s H vs Q E hr h => ?_))
  · obtain ⟨x, y, rfl, _⟩ := h
    rfl
  · obtain ⟨x, y, rfl, hA, q⟩ := h
    have hle : n ≤ n := Nat.le_refl n
    refine ⟨_, (pss_cons (ps_if (pt_cmpR op_isN (pv 1) pe_non (nomark _)) (pss_one (ps_ret (pe_cmpR op_isN (pv 0) pe_non (nomark _)))) pss_nil)
      (pss_cons (ps_if (pt_val (pe_callB call_isi (by rfl) b.isinstance (by decide +kernel) (pa_cons (pv 1) (pa_cons (pe_bltn (v := .ty "bool") (by rfl) b.ty_bool (by decide +kernel) rfl) pa_nil)))) (pss_one (ps_ret (pe_and (pe_callB call_isi (by rfl) b.isinstance (by decide +kernel) (pa_cons (pv 0) (pa_cons (pe_bltn (v := .ty "bool") (by rfl) b.ty_bool (by decide +kernel) rfl) pa_nil))) (pe_one (pe_cmpR op_eq (pv 0) (pv 1) (nomark _)))))) pss_nil)
      (pss_cons (ps_if (pt_val (pe_callB call_isi (by rfl) b.isinstance (by decide +kernel) (pa_cons (pv 1) (pa_cons (pe_bltn (v := .ty "int") (by rfl) b.ty_int (by decide +kernel) rfl) pa_nil)))) (pss_one (ps_ret (pe_and (pe_callB call_isi (by rfl) b.isinstance (by decide +kernel) (pa_cons (pv 0) (pa_cons (pe_bltn (v := .ty "int") (by rfl) b.ty_int (by decide +kernel) rfl) pa_nil))) (pe_and (pe_not (pe_callB call_isi (by rfl) b.isinstance (by decide +kernel) (pa_cons (pv 0) (pa_cons (pe_bltn (v := .ty "bool") (by rfl) b.ty_bool (by decide +kernel) rfl) pa_nil)))) (pe_one (pe_cmpR op_eq (pv 0) (pv 1) (nomark _))))))) pss_nil)
      (pss_cons (ps_if (pt_val (pe_callB call_isi (by rfl) b.isinstance (by decide +kernel) (pa_cons (pv 1) (pa_cons (pe_bltn (v := .ty "str") (by rfl) b.ty_str (by decide +kernel) rfl) pa_nil)))) (pss_one (ps_ret (pe_and (pe_callB call_isi (by rfl) b.isinstance (by decide +kernel) (pa_cons (pv 0) (pa_cons (pe_bltn (v := .ty "str") (by rfl) b.ty_str (by decide +kernel) rfl) pa_nil))) (pe_one (pe_cmpR op_eq (pv 0) (pv 1) (nomark _)))))) pss_nil)
      (pss_cons (ps_if (PW.pt (pw_or (pt_cmpR op_ne (pe_callB call_isi (by rfl) b.isinstance (by decide +kernel) (pa_cons (pv 1) (pa_cons (pe_bltn (v := .ty "list") (by rfl) b.ty_list (by decide +kernel) rfl) pa_nil))) (pe_callB call_isi (by rfl) b.isinstance (by decide +kernel) (pa_cons (pv 0) (pa_cons (pe_bltn (v := .ty "list") (by rfl) b.ty_list (by decide +kernel) rfl) pa_nil))) (nomark _)) (pw_or1 (pt_cmpR op_ne (pe_callB call_isi (by rfl) b.isinstance (by decide +kernel) (pa_cons (pv 1) (pa_cons (pe_bltn (v := .ty "tuple") (by rfl) b.ty_tuple (by decide +kernel) rfl) pa_nil))) (pe_callB call_isi (by rfl) b.isinstance (by decide +kernel) (pa_cons (pv 0) (pa_cons (pe_bltn (v := .ty "tuple") (by rfl) b.ty_tuple (by decide +kernel) rfl) pa_nil))) (nomark _))))) (pss_one (ps_ret pe_bl)) pss_nil)
      (pss_cons (ps_if (pt_cmpR op_ne (pe_callB call_len_seq (by rfl) b.len PySem.boot_len (pa_cons (pv 0) pa_nil)) (pe_callB call_len_seq (by rfl) b.len PySem.boot_len (pa_cons (pv 1) pa_nil)) (nomark _)) (pss_one (ps_ret pe_bl)) pss_nil)
      (pss_one (ps_ret (pe_callB (cr_all rfl) (by rfl) b.all (by decide +kernel) (pa_cons (pe_lc (own := [("_law_k", 2)]) (g := gName 2) (by rfl) sc_l_same.nd (pi_range1 (by rfl) b.range (pa_cons (pe_callB call_len_seq (by rfl) b.len PySem.boot_len (pa_cons (pv 1) pa_nil)) pa_nil)) (blkOk_by (N := s_l_same_N) (sc := defScope s_l_same) (by decide +kernel)) (fun _ _ _ _ _ => (pg_name (i := 2) sc_l_same.nd rfl (Or.inl rfl))) (fun _ _ _ _ _ => pts_nil) (fun _ _ _ _ _ => (pe_c c hr (by omega) (by rfl) pass0 (pa_cons (pe_ix (ix_seqK K) (pv 0) (pv 2) (fun _ _ => rfl)) (pa_cons (pe_ix (ix_seqK K) (pv 1) (pv 2) (fun _ _ => rfl)) pa_nil))))) pa_nil)))))))))), ?_⟩
    cases hA with
    | non =>
      refine ⟨_, rfl, rfl, _, rfl, iteT ⟨_, rfl, rfl, ?_⟩⟩
      exact q H (Same.refl H)
    | bl z =>
      refine ⟨_, rfl, rfl, _, rfl, ifno ?_⟩
      refine ⟨_, rfl, _, _, _, _, true, rfl, .ty "bool", .base (.bl _), kit_ty (by decide +kernel), _, rfl, iteT ?_⟩
      refine ⟨_, rfl, _, _, _, _, true, rfl, .ty "bool", .base (.bl _), kit_ty (by decide +kernel), _, rfl, iteT ⟨_, rfl, _, rfl, rfl, ?_⟩⟩
      rw [decide_eq_true rfl]
      exact q H (Same.refl H)
    | int z =>
      refine ⟨_, rfl, rfl, _, rfl, ifno ?_⟩
      refine ⟨_, rfl, _, _, _, _, false, rfl, .ty "bool", .base (.int _), kit_ty (by decide +kernel), _, rfl, ifno ?_⟩
      refine ⟨_, rfl, _, _, _, _, true, rfl, .ty "int", .base (.int _), kit_ty (by decide +kernel), _, rfl, iteT ?_⟩
      refine ⟨_, rfl, _, _, _, _, true, rfl, .ty "int", .base (.int _), kit_ty (by decide +kernel), _, rfl, iteT ?_⟩
      refine ⟨_, rfl, _, _, _, _, false, rfl, .ty "bool", .base (.int _), kit_ty (by decide +kernel), _, rfl, _, rfl, iteT ⟨_, rfl, _, rfl, rfl, ?_⟩⟩
      rw [decide_eq_true rfl]
      exact q H (Same.refl H)
    | str z =>
      refine ⟨_, rfl, rfl, _, rfl, ifno ?_⟩
      refine ⟨_, rfl, _, _, _, _, false, rfl, .ty "bool", .base (.str _), kit_ty (by decide +kernel), _, rfl, ifno ?_⟩
      refine ⟨_, rfl, _, _, _, _, false, rfl, .ty "int", .base (.str _), kit_ty (by decide +kernel), _, rfl, ifno ?_⟩
      refine ⟨_, rfl, _, _, _, _, true, rfl, .ty "str", .base (.str _), kit_ty (by decide +kernel), _, rfl, iteT ?_⟩
      refine ⟨_, rfl, _, _, _, _, true, rfl, .ty "str", .base (.str _), kit_ty (by decide +kernel), _, rfl, iteT ⟨_, rfl, _, rfl, rfl, ?_⟩⟩
      rw [decide_eq_true rfl]
      exact q H (Same.refl H)
    | @lst m a a' xs ys ha hb hl hz hh =>
      refine ⟨_, rfl, rfl, _, rfl, ifno ?_⟩
      refine ⟨_, rfl, _, _, _, _, false, rfl, .ty "bool", tyL hb, kit_ty (by decide +kernel), _, rfl, ifno ?_⟩
      refine ⟨_, rfl, _, _, _, _, false, rfl, .ty "int", tyL hb, kit_ty (by decide +kernel), _, rfl, ifno ?_⟩
      refine ⟨_, rfl, _, _, _, _, false, rfl, .ty "str", tyL hb, kit_ty (by decide +kernel), _, rfl, ifno ?_⟩
      refine ⟨_, rfl, _, _, _, _, true, rfl, .ty "list", tyL hb, kit_ty (by decide +kernel), _, rfl, _, _, _, _, true, rfl, .ty "list", tyL ha, kit_ty (by decide +kernel), rfl, _, rfl, iteF ?_⟩
      refine ⟨_, rfl, _, _, _, _, false, rfl, .ty "tuple", tyL hb, kit_ty (by decide +kernel), _, rfl, _, _, _, _, false, rfl, .ty "tuple", tyL ha, kit_ty (by decide +kernel), rfl, _, rfl, ifno ?_⟩
      refine ⟨_, rfl, a, _, rfl, .inl ha, _, rfl, a', _, rfl, .inl hb, rfl, _, rfl, ?_⟩
      rw [decide_eq_true (congrArg (fun k : Nat => V.int (k : Int)) hl)]
      refine ifno ⟨_, rfl, a', _, rfl, .inl hb, (ys.length : Int), rfl, by omega, by omega, fun L nL => lc_range (lo := 0) (n := ys.length) (fun i Hx => Same H Hx ∧ Hx L = some (.lst ((List.replicate i true).map V.bl))) ⟨same_new (Same.refl H) nL, upd_same⟩ ?_ ?_⟩
      · rintro i Hx hi ⟨sx, eL⟩
        obtain ⟨u, hu⟩ : ∃ u, xs[i]? = some u := ⟨xs[i]'(by omega), List.getElem?_eq_getElem (by omega)⟩
        obtain ⟨v, hv⟩ : ∃ v, ys[i]? = some v := ⟨ys[i], List.getElem?_eq_getElem hi⟩
        have e0 : (0 : Int) + (i : Int) = (i : Int) := Int.zero_add _
        refine ⟨rfl, ⟨_, rfl, _, rfl, .inl ⟨a, _, _, u, rfl, rfl, sx.seq ha, by rw [e0]; exact atI_nat hu, _, rfl, _, rfl, .inl ⟨a', _, _, v, rfl, rfl, sx.seq hb, by rw [e0]; exact atI_nat hv, u, v, rfl, (hh i u v hu hv).same sx, fun H2 s2 => ⟨_, s2 _ _ eL, ?_, ?_, ?_⟩⟩⟩⟩⟩
        · refine sz_lt ?_
          rw [List.length_map, List.length_replicate]
          omega
        · exact same_new (sx.trans s2) nL
        · rw [upd_same, List.replicate_succ', List.map_append]
          rfl
      · rintro Hx ⟨sx, eL⟩
        refine ⟨L, _, rfl, SqL.of eL, ?_⟩
        rw [show (List.replicate ys.length true).all id = true by simp]
        exact q Hx sx
    | @tup m a a' xs ys ha hb hl hz hh =>
      refine ⟨_, rfl, rfl, _, rfl, ifno ?_⟩
      refine ⟨_, rfl, _, _, _, _, false, rfl, .ty "bool", tyT hb, kit_ty (by decide +kernel), _, rfl, ifno ?_⟩
      refine ⟨_, rfl, _, _, _, _, false, rfl, .ty "int", tyT hb, kit_ty (by decide +kernel), _, rfl, ifno ?_⟩
      refine ⟨_, rfl, _, _, _, _, false, rfl, .ty "str", tyT hb, kit_ty (by decide +kernel), _, rfl, ifno ?_⟩
      refine ⟨_, rfl, _, _, _, _, false, rfl, .ty "list", tyT hb, kit_ty (by decide +kernel), _, rfl, _, _, _, _, false, rfl, .ty "list", tyT ha, kit_ty (by decide +kernel), rfl, _, rfl, iteF ?_⟩
      refine ⟨_, rfl, _, _, _, _, true, rfl, .ty "tuple", tyT hb, kit_ty (by decide +kernel), _, rfl, _, _, _, _, true, rfl, .ty "tuple", tyT ha, kit_ty (by decide +kernel), rfl, _, rfl, ifno ?_⟩
      refine ⟨_, rfl, a, _, rfl, .inr ha, _, rfl, a', _, rfl, .inr hb, rfl, _, rfl, ?_⟩
      rw [decide_eq_true (congrArg (fun k : Nat => V.int (k : Int)) hl)]
      refine ifno ⟨_, rfl, a', _, rfl, .inr hb, (ys.length : Int), rfl, by omega, by omega, fun L nL => lc_range (lo := 0) (n := ys.length) (fun i Hx => Same H Hx ∧ Hx L = some (.lst ((List.replicate i true).map V.bl))) ⟨same_new (Same.refl H) nL, upd_same⟩ ?_ ?_⟩
      · rintro i Hx hi ⟨sx, eL⟩
        obtain ⟨u, hu⟩ : ∃ u, xs[i]? = some u := ⟨xs[i]'(by omega), List.getElem?_eq_getElem (by omega)⟩
        obtain ⟨v, hv⟩ : ∃ v, ys[i]? = some v := ⟨ys[i], List.getElem?_eq_getElem hi⟩
        have e0 : (0 : Int) + (i : Int) = (i : Int) := Int.zero_add _
        refine ⟨rfl, ⟨_, rfl, _, rfl, .inr (.inl ⟨a, _, _, u, rfl, rfl, same_seqT sx ha, by rw [e0]; exact atI_nat hu, _, rfl, _, rfl, .inr (.inl ⟨a', _, _, v, rfl, rfl, same_seqT sx hb, by rw [e0]; exact atI_nat hv, u, v, rfl, (hh i u v hu hv).same sx, fun H2 s2 => ⟨_, s2 _ _ eL, ?_, ?_, ?_⟩⟩)⟩)⟩⟩
        · refine sz_lt ?_
          rw [List.length_map, List.length_replicate]
          omega
        · exact same_new (sx.trans s2) nL
        · rw [upd_same, List.replicate_succ', List.map_append]
          rfl
      · rintro Hx ⟨sx, eL⟩
        refine ⟨L, _, rfl, SqL.of eL, ?_⟩
        rw [show (List.replicate ys.length true).all id = true by simp]
        exact q Hx sx


/-! ### rounds -/
def sp_rounds (K : PySem.W.Frag) : Sp := fun vs H Q _ => ∃ (a : Addr) (ts : List Int), vs = [.ref a] ∧ SqT K H a (ts.map V.int) ∧ Turn ts ∧ ts.length ≤ 100 ∧
  ∀ fo as H', H fo = none → (∀ a ∈ as, H a = none) → (∀ a ∈ as, a ≠ fo) → Same H H' → RingsAt H' fo as (Kin.rounds ts) → Q (.ref fo) H'
theorem ok_rounds {f : Addr} {fd : FuncData} (D : Dn K mg "rounds" s_rounds p_rounds f fd) (b : Blt mg) : Cal P w K mg base CX0 1 "rounds" p_rounds (sp_rounds K) := by
  refine D.cal (D.F.ok sc_rounds (fun vs H Q E h => ?_) (fun cdv A outer s H vs Q E hr h => ?_))
  · obtain ⟨a, ts, rfl, _⟩ := h
    rfl
  · obtain ⟨a, ts, rfl, ha, t, hn, q⟩ := h
    refine ⟨_, (pss_cons (ps_set (i := 1) sc_rounds.nd rfl (Or.inl rfl) pe_dnewK)
      (pss_cons (ps_set (i := 2) sc_rounds.nd rfl (Or.inl rfl) (pe_lst pa_nil))
      (pss_cons (ps_for PassesOwn.never rfl (pi_range1 (by rfl) b.range (pa_cons (pe_callB call_len_seq (by rfl) b.len PySem.boot_len (pa_cons (pv 0) pa_nil)) pa_nil)) (pg_name (i := 3) sc_rounds.nd rfl (Or.inl rfl)) (pss_one (ps_if (pt_cmp (pc_dnotin (hu_of hr) (pv 3) (pv 1))) (pss_cons (ps_set (i := 4) sc_rounds.nd rfl (Or.inl rfl) (pe_lst (pa_cons (pv 3) pa_nil)))
      (pss_cons (ps_dput (hu_of hr) (pv 1) (pv 3) pe_bl rfl)
      (pss_cons (ps_set (i := 5) sc_rounds.nd rfl (Or.inl rfl) (pe_ix ix_tup (pv 0) (pv 3) (fun _ _ => rfl)))
      (pss_cons (ps_while PassesOwn.never (pt_cmpR op_ne (pv 5) (pv 3) (nomark _)) (pss_cons (ps_expr (pe_bm PySem.F.plainAttrs_list PySem.F.slot_list_append PySem.F.type_list_append mt_append (pv 4) (pa_cons (pv 5) pa_nil)))
      (pss_cons (ps_dput (hu_of hr) (pv 1) (pv 5) pe_bl rfl)
      (pss_one (ps_set (i := 5) sc_rounds.nd rfl (Or.inl rfl) (pe_ix ix_tup (pv 0) (pv 5) (fun _ _ => rfl)))))))
      (pss_one (ps_expr (pe_bm PySem.F.plainAttrs_list PySem.F.slot_list_append PySem.F.type_list_append mt_append (pv 2) (pa_cons (pv 4) pa_nil)))))))) pss_nil)))
      (pss_one (ps_ret (pv 2)))))), ?_⟩
    refine fun se nse => ⟨Nat.zero_le _, fun fo nfo => ?_⟩
    have s1 : Same H (upd H se (.dK [])) := same_new (Same.refl _) nse
    have nfo0 := s1.free nfo
    have s2 : Same H (upd (upd H se (.dK [])) fo (.lst [])) := same_new s1 nfo0
    have nef : se ≠ fo := ne_of_none upd_same nfo
    have el : ((ts.map V.int).length : Int) = (ts.length : Int) := by rw [List.length_map]
    refine ⟨_, rfl, a, _, rfl, .inr (same_seqT s2 ha), (ts.length : Int), (by rw [el]), by omega, by omega, for_range (lo := 0) (n := ts.length) (fun i σ' H' => ∃ (y3 y4 y5 : Option V) (kvs : List (Key × V)) (as : List Addr), σ' = [some (.ref a), some (.ref se), some (.ref fo), y3, y4, y5] ∧ Same H H' ∧ H' se = some (.dK kvs) ∧ kvs.length ≤ 100 * i ∧
        (∀ z, (valV kvs (.inl z)).isSome = true ↔ seenB ts i z) ∧ RingsAt H' fo as (roundsTo ts i) ∧ (∀ a ∈ as, H a = none ∧ a ≠ fo ∧ a ≠ se) ∧ as.length ≤ i)
      ⟨none, none, none, [], [], rfl, s2, upd_old nef upd_same, Nat.le_refl _, fun z => ⟨fun h => (by cases h), fun ⟨b, hb, _⟩ => (by cases hb)⟩, ⟨upd_same, rfl, fun i a r h => by simp at h⟩, (fun a h => by cases h), Nat.le_refl _⟩ ?_ ?_⟩
    · rintro i σ' H1 hi ⟨y3, y4, y5, kvs, as, rfl, s3, hse, lk, hk, hR, has, las⟩
      have hin : (i : Int) ∈ rgI ts.length := mem_rgI.mpr ⟨by omega, by omega⟩
      have P := t.per hin
      have hrt : roundsTo ts (i + 1) = roundsTo ts i ++ (if isMin ts (i : Int) = true then [ring ts (i : Int)] else []) := by
        unfold roundsTo
        rw [show rgI (i + 1) = rgI i ++ [(i : Int)] by unfold rgI; rw [List.range_succ, List.map_append]; rfl, List.filter_append, List.filter_cons, List.filter_nil, List.map_append]
        split <;> rfl
      have hsb : ∀ z, seenB ts (i + 1) z ↔ seenB ts i z ∨ (isMin ts (i : Int) = true ∧ z ∈ ring ts (i : Int)) := by
        intro z
        unfold seenB
        rw [show rgI (i + 1) = rgI i ++ [(i : Int)] by unfold rgI; rw [List.range_succ, List.map_append]; rfl]
        constructor
        · rintro ⟨b, hb, h1, h2⟩
          rcases List.mem_append.mp hb with h | h
          · exact .inl ⟨b, h, h1, h2⟩
          · rw [List.mem_singleton.mp h] at h1 h2
            exact .inr ⟨h1, h2⟩
        · rintro (⟨b, hb, h1, h2⟩ | ⟨h1, h2⟩)
          · exact ⟨b, List.mem_append_left _ hb, h1, h2⟩
          · exact ⟨_, List.mem_append_right _ (List.mem_singleton.mpr rfl), h1, h2⟩
      rw [Int.zero_add]
      refine ⟨_, rfl, _, rfl, se, _, rfl, DGet.k (k := .inl (i : Int)) hse, _, rfl, ?_⟩
      by_cases hmin : isMin ts (i : Int) = true
      · have hns : (valV kvs (.inl (i : Int))).isSome = false := by
          cases hv : (valV kvs (.inl (i : Int))).isSome with
          | false => rfl
          | true => exact absurd hmin ((seen_iff t hi).mp ((hk _).mp hv))
        rw [hns]
        refine iteT ?_
        -- ring = [at]
        refine ⟨_, rfl, (by show 1 ≤ sizeLine; decide), fun rg nrg => ?_⟩
        have s4 : Same H1 (upd H1 rg (.lst [V.int (i : Int)])) := same_new (Same.refl _) nrg
        have hrg : (upd H1 rg (.lst [V.int (i : Int)])) rg = some (.lst [V.int (i : Int)]) := upd_same
        have nrg0 := s3.free nrg
        have ners : rg ≠ se := (ne_of_none hse nrg).symm
        have nerf : rg ≠ fo := (ne_of_none hR.top nrg).symm
        have nera := hR.ne_none nrg
        generalize upd H1 rg (.lst [V.int (i : Int)]) = H2 at *
        -- seen[at] = True
        refine ⟨_, rfl, _, rfl, se, _, rfl, DPut.k (k := .inl (i : Int)) (s4 _ _ hse) (sz_lt (by omega)), ?_⟩
        have s5 : Same H (upd H2 se (.dK (putK kvs (.inl (i : Int)) (.bl true)))) := same_new (s3.trans s4) nse
        have hR5 := (hR.same s4).old (p := se) (o := .dK (putK kvs (.inl (i : Int)) (.bl true))) nef (fun a h => (has a h).2.2)
        have hrg5 : (upd H2 se (.dK (putK kvs (.inl (i : Int)) (.bl true)))) rg = some (.lst [V.int (i : Int)]) := upd_old ners hrg
        have hse5 : (upd H2 se (.dK (putK kvs (.inl (i : Int)) (.bl true)))) se = some (.dK (putK kvs (.inl (i : Int)) (.bl true))) := upd_same
        generalize upd H2 se (.dK (putK kvs (.inl (i : Int)) (.bl true))) = H3 at *
        -- to = turn[at]
        refine ⟨_, rfl, _, rfl, a, _, _, .int (app ts (i : Int)), rfl, rfl, same_seqT s5 ha, at_int (by omega) (app_at (by omega) (by omega)), ?_⟩
        -- while
        refine ⟨fun m σ' H' => ∃ (j : Nat) (kvs : List (Key × V)), m = per ts (i : Int) - j ∧ j + 1 ≤ per ts (i : Int) ∧ σ' = [some (.ref a), some (.ref se), some (.ref fo), some (.int (i : Int)), some (.ref rg), some (.int (it ts (j + 1) (i : Int)))] ∧ Same H H' ∧ H' se = some (.dK kvs) ∧ kvs.length ≤ 100 * i + j + 1 ∧
            (∀ z, (valV kvs (.inl z)).isSome = true ↔ seenB ts i z ∨ z ∈ (List.range (j + 1)).map fun k => it ts k (i : Int)) ∧ H' rg = some (.lst (((List.range (j + 1)).map fun k => it ts k (i : Int)).map V.int)) ∧ RingsAt H' fo as (roundsTo ts i),
          ⟨_, 0, _, rfl, P.p1, rfl, s5, hse5, ?_, ?_, hrg5, hR5⟩, ?_⟩
        · have := length_putK kvs (.inl (i : Int)) (.bl true)
          omega
        · intro z
          rw [put_some, hk]
          constructor
          · rintro (h | h)
            · exact .inr (by rw [h]; exact List.mem_singleton.mpr rfl)
            · exact .inl h
          · rintro (h | h)
            · exact .inr h
            · exact .inl (List.mem_singleton.mp h)
        rintro m σ' H' ⟨j, kv2, rfl, hj, rfl, s6, hse6, lk6, hk6, hrg6, hR6⟩
        have hto := t.it hin (j + 1)
        obtain ⟨to0, to1⟩ := mem_rgI.mp hto
        refine ⟨_, rfl, _, rfl, rfl, _, rfl, ?_⟩
        by_cases he : it ts (j + 1) (i : Int) = (i : Int)
        · -- the round is closed
          have hjp : j + 1 = per ts (i : Int) := by
            rcases Nat.lt_or_ge (j + 1) (per ts (i : Int)) with h | h
            · exact absurd he (P.pm (j + 1) (by omega) h)
            · omega
          rw [he, decide_eq_true (rfl : V.int (i : Int) = V.int (i : Int))]
          refine iteF ?_
          have hring : (List.range (j + 1)).map (fun k => it ts k (i : Int)) = ring ts (i : Int) := by rw [hjp]; rfl
          rw [hring] at hk6 hrg6
          refine ⟨_, rfl, .inl ⟨rfl, _, SqL.of hR6.top⟩, _, rfl, fo, _, _, rfl, rfl, hR6.top, sz_lt (by rw [List.length_map]; omega), ?_⟩
          refine ⟨_, _, _, kv2, as ++ [rg], rfl, same_new s6 nfo0, upd_old nef hse6, by have := P.pn; omega, fun z => ?_, ?_, ?_, by rw [List.length_append]; show as.length + 1 ≤ i + 1; omega⟩
          · rw [hk6, hsb]
            exact ⟨fun h => h.elim .inl fun h => .inr ⟨hmin, h⟩, fun h => h.elim .inl fun h => .inr h.2⟩
          · rw [hrt, if_pos hmin]
            exact hR6.snoc hrg6 (fun a h => (has a h).2.1) nerf
          · intro x hx
            rcases List.mem_append.mp hx with h | h
            · exact has x h
            · rw [List.mem_singleton.mp h]
              exact ⟨nrg0, nerf, ners⟩
        · -- one more
          have hjp : j + 1 < per ts (i : Int) := by
            rcases Nat.lt_or_ge (j + 1) (per ts (i : Int)) with h | h
            · exact h
            · exact absurd (by rw [show j + 1 = per ts (i : Int) by omega]; exact P.pe) he
          rw [decide_eq_false (fun z => he (V.int.inj z) : ¬ V.int (it ts (j + 1) (i : Int)) = V.int (i : Int))]
          refine iteT ⟨fun σ' H' => ∃ (kvs : List (Key × V)), σ' = [some (.ref a), some (.ref se), some (.ref fo), some (.int (i : Int)), some (.ref rg), some (.int (it ts (j + 1 + 1) (i : Int)))] ∧ Same H H' ∧ H' se = some (.dK kvs) ∧ kvs.length ≤ 100 * i + (j + 1) + 1 ∧
            (∀ z, (valV kvs (.inl z)).isSome = true ↔ seenB ts i z ∨ z ∈ (List.range (j + 1 + 1)).map fun k => it ts k (i : Int)) ∧ H' rg = some (.lst (((List.range (j + 1 + 1)).map fun k => it ts k (i : Int)).map V.int)) ∧ RingsAt H' fo as (roundsTo ts i), ?_, ?_⟩
          · rintro σ' H' ⟨kv3, h1, h2, h3, h4, h5, h6, h7⟩
            exact ⟨per ts (i : Int) - (j + 1), by omega, j + 1, kv3, rfl, by omega, h1, h2, h3, h4, h5, h6, h7⟩
          have hsn : (List.range (j + 1 + 1)).map (fun k => it ts k (i : Int)) = (List.range (j + 1)).map (fun k => it ts k (i : Int)) ++ [it ts (j + 1) (i : Int)] := by
            rw [List.range_succ, List.map_append]
            rfl
          have ns := P.pn
          refine ⟨_, rfl, .inl ⟨rfl, _, SqL.of hrg6⟩, _, rfl, rg, _, _, rfl, rfl, hrg6, sz_lt (by rw [List.length_map, List.length_map, List.length_range]; omega), ?_⟩
          rw [snoc_ints, ← hsn]
          have s7 : Same H (upd H' rg (.lst (((List.range (j + 1 + 1)).map fun k => it ts k (i : Int)).map V.int))) := same_new s6 nrg0
          have hse7 : (upd H' rg (.lst (((List.range (j + 1 + 1)).map fun k => it ts k (i : Int)).map V.int))) se = some (.dK kv2) := upd_old ners.symm hse6
          have hrg7 : (upd H' rg (.lst (((List.range (j + 1 + 1)).map fun k => it ts k (i : Int)).map V.int))) rg = some (.lst (((List.range (j + 1 + 1)).map fun k => it ts k (i : Int)).map V.int)) := upd_same
          have hR7 := hR6.old (p := rg) (o := .lst (((List.range (j + 1 + 1)).map fun k => it ts k (i : Int)).map V.int)) nerf nera
          generalize upd H' rg (.lst (((List.range (j + 1 + 1)).map fun k => it ts k (i : Int)).map V.int)) = H7 at *
          refine ⟨_, rfl, _, rfl, se, _, rfl, DPut.k (k := .inl (it ts (j + 1) (i : Int))) hse7 (sz_lt (by omega)), ?_⟩
          have s8 : Same H (upd H7 se (.dK (putK kv2 (.inl (it ts (j + 1) (i : Int))) (.bl true)))) := same_new s7 nse
          refine ⟨_, rfl, _, rfl, a, _, _, .int (it ts (j + 1 + 1) (i : Int)), rfl, rfl, same_seqT s8 ha, at_int to0 (app_at to0 to1), ?_⟩
          refine ⟨_, rfl, s8, upd_same, ?_, fun z => ?_, upd_old ners hrg7, hR7.old nef (fun a h => (has a h).2.2)⟩
          · have := length_putK kv2 (.inl (it ts (j + 1) (i : Int))) (.bl true)
            omega
          · rw [put_some, hk6, hsn, List.mem_append, List.mem_singleton]
            constructor
            · rintro (h | h | h)
              · exact .inr (.inr h)
              · exact .inl h
              · exact .inr (.inl h)
            · rintro (h | h | h)
              · exact .inr (.inl h)
              · exact .inr (.inr h)
              · exact .inl h
      · have hs : (valV kvs (.inl (i : Int))).isSome = true := (hk _).mpr ((seen_iff t hi).mpr hmin)
        rw [hs]
        refine ifno ⟨_, _, _, kvs, as, rfl, s3, hse, by omega, fun z => ?_, ?_, has, by omega⟩
        · rw [hk, hsb]
          exact ⟨.inl, fun h => h.elim id fun h => absurd h.1 hmin⟩
        · rw [hrt, if_neg hmin, List.append_nil]
          exact hR
    · rintro σ' H1 ⟨y3, y4, y5, kvs, as, rfl, s3, hse, lk, hk, hR, has, las⟩
      exact ⟨_, rfl, q fo as H1 nfo0 (fun a h => (has a h).1) (fun a h => (has a h).2.1) s3 hR⟩


/-! ### fixed -/
def sp_fixed (K : PySem.W.Frag) : Sp := fun vs H Q _ => ∃ (a : Addr) (ts : List Int), vs = [.ref a] ∧ SqT K H a (ts.map V.int) ∧ ts.length ≤ 1000 ∧ ∀ p H', H p = none → Same H H' → H' p = some (.lst (((rgI ts.length).filter fun z => decide (app ts z = z)).map V.int)) → Q (.ref p) H'
theorem ok_fixed {f : Addr} {fd : FuncData} (D : Dn K mg "fixed" s_fixed p_fixed f fd) (b : Blt mg) : Cal P w K mg base CX0 1 "fixed" p_fixed (sp_fixed K) := by
  refine D.cal (D.F.ok sc_fixed (fun vs H Q E h => ?_) (fun cdv A outer s H vs Q E hr h => ?_))
  · obtain ⟨a, ts, rfl, _⟩ := h
    rfl
  · obtain ⟨a, ts, rfl, ha, hn, q⟩ := h
    refine ⟨_, (pss_one (ps_ret (pe_lc (own := [("at", 1)]) (g := gName 1) (by rfl) sc_fixed.nd (pi_range1 (by rfl) b.range (pa_cons (pe_callB call_len_seq (by rfl) b.len PySem.boot_len (pa_cons (pv 0) pa_nil)) pa_nil)) (blkOk_by (N := s_fixed_N) (sc := defScope s_fixed) (by decide +kernel)) (fun _ _ _ _ _ => (pg_name (i := 1) sc_fixed.nd rfl (Or.inl rfl))) (fun _ _ _ _ _ => (pts_one (pt_cmpR op_eq (pe_ix (ix_tupK K) (pv 0) (pv 1) (fun _ _ => rfl)) (pv 1) (nomark _)))) (fun _ _ _ _ _ => (pv 1))))), ?_⟩
    have el : ((ts.map V.int).length : Int) = (ts.length : Int) := by rw [List.length_map]
    refine ⟨_, rfl, a, _, rfl, .inr ha, (ts.length : Int), (by rw [el]), by omega, by omega, fun l nl => lc_range (lo := 0) (n := ts.length) (fun i Hx => Same H Hx ∧ Hx l = some (.lst (((rgI i).filter fun z => decide (app ts z = z)).map V.int))) ⟨same_new (Same.refl _) nl, upd_same⟩ ?_ ?_⟩
    · rintro i Hx hi ⟨sx, eL⟩
      have e0 : (0 : Int) + (i : Int) = (i : Int) := Int.zero_add _
      have hsu : rgI (i + 1) = rgI i ++ [(i : Int)] := by unfold rgI; rw [List.range_succ, List.map_append]; rfl
      refine ⟨rfl, ⟨_, rfl, _, rfl, a, _, _, .int (app ts (i : Int)), rfl, rfl, same_seqT sx ha, (by rw [e0]; exact at_int (by omega) (app_at (by omega) (by omega))), _, rfl, rfl, _, rfl, ?_⟩⟩
      rw [e0]
      by_cases hc : app ts (i : Int) = (i : Int)
      · rw [decide_eq_true (congrArg V.int hc)]
        refine iteT ⟨_, rfl, _, eL, ?_, same_new sx nl, ?_⟩
        · refine sz_lt ?_
          rw [List.length_map]
          have := List.length_filter_le (fun z => decide (app ts z = z)) (rgI i)
          rw [rgI_len] at this
          omega
        · rw [upd_same, hsu, List.filter_append, List.filter_cons, decide_eq_true hc, if_pos rfl, List.filter_nil, List.map_append]
          rfl
      · rw [decide_eq_false (fun z => hc (V.int.inj z) : ¬ V.int (app ts (i : Int)) = V.int (i : Int))]
        refine iteF ⟨sx, ?_⟩
        rw [hsu, List.filter_append, List.filter_cons, decide_eq_false hc, if_neg Bool.false_ne_true, List.filter_nil, List.append_nil]
        exact eL
    · rintro Hx ⟨sx, eL⟩
      exact q l Hx nl sx eL


/-! ### the law -/
def spLaw (K : PySem.W.Frag) : Sp := fun vs H Q _ => ∃ (a : Addr) (ns : List Int), vs = [.ref a] ∧ SqL K H a (ns.map V.int) ∧ ns.length ≤ 63 ∧ ∀ H', Q (.bl true) H'
theorem ok_law {f : Addr} {fd : FuncData} (D : Dn K mg "law" s_law p_law f fd) (b : Blt mg) (c_l_cell : Cal P w K mg base CX0 1 "_law_cell" p_l_cell (sp_cell K)) (c_l_draws : Cal P w K mg base CX0 1 "_law_draws" p_l_draws (sp_draws K)) (c_l_turn : Cal P w K mg base CX0 1 "_law_turn" p_l_turn sp_turn)
    (c_l_same : ∀ n, Cal P w K mg base CX0 n "_law_same" p_l_same (sp_same K n)) (c_rounds : Cal P w K mg base CX0 1 "rounds" p_rounds (sp_rounds K)) (c_fixed : Cal P w K mg base CX0 1 "fixed" p_fixed (sp_fixed K)) :
    FnOk P w K mg base CX0 4 f fd p_law (spLaw K) := by
  refine D.F.ok sc_law (fun vs H Q E h => ?_) (fun cdv A outer s H vs Q E hr h => ?_)
  · obtain ⟨a, ns, rfl, _⟩ := h
    rfl
  · obtain ⟨a, ns, rfl, hS, hlen, q⟩ := h
    refine ⟨_, (pss_cons (ps_set (i := 0) sc_law.nd rfl (Or.inl rfl) (pe_slice sl_list (pv 0) po_none (po_some pe_int)))
      (pss_cons (ps_set (i := 1) sc_law.nd rfl (Or.inl rfl) (pe_c c_l_draws hr (by omega) (by rfl) pass0 (pa_cons (pe_c c_l_cell hr (by omega) (by rfl) pass0 (pa_cons (pv 0) (pa_cons pe_int pa_nil))) (pa_cons (pe_lst (pa_cons pe_int (pa_cons pe_int pa_nil))) pa_nil))))
      (pss_cons (ps_set (i := 2) sc_law.nd rfl (Or.inr rfl) (pe_c c_l_turn hr (by omega) (by rfl) pass0 (pa_cons (pe_ix ix_list (pv 1) pe_int (fun _ _ => rfl)) (pa_cons (pe_ix ix_list (pv 1) pe_int (fun _ _ => rfl)) pa_nil))))
      (pss_cons (ps_set (i := 3) sc_law.nd rfl (Or.inl rfl) (pe_c c_rounds hr (by omega) (by rfl) pass0 (pa_cons (pv 2) pa_nil)))
      (pss_cons (ps_if (pt_not (pt_val (pe_callB call_isi (by rfl) b.isinstance (by decide +kernel) (pa_cons (pv 3) (pa_cons (pe_bltn (v := .ty "list") (by rfl) b.ty_list (by decide +kernel) rfl) pa_nil))))) (pss_one (ps_ret pe_bl)) pss_nil)
      (pss_cons (ps_set (i := 4) sc_law.nd rfl (Or.inl rfl) (pe_lst pa_nil))
      (pss_cons (ps_for PassesOwn.never rfl (pi_list (pv 3)) (pg_name (i := 5) sc_law.nd rfl (Or.inl rfl)) (pss_cons (ps_if (PW.pt (pw_or (pt_not (pt_val (pe_callB call_isi (by rfl) b.isinstance (by decide +kernel) (pa_cons (pv 5) (pa_cons (pe_bltn (v := .ty "list") (by rfl) b.ty_list (by decide +kernel) rfl) pa_nil))))) (pw_or1 (pt_cmpR (op_eqD hr.units) (pv 5) (pe_lst pa_nil) (nomark _))))) (pss_one (ps_ret pe_bl)) pss_nil)
      (pss_cons (ps_for PassesOwn.never rfl (pi_range1 (by rfl) b.range (pa_cons (pe_callB call_len_seq (by rfl) b.len PySem.boot_len (pa_cons (pv 5) pa_nil)) pa_nil)) (pg_name (i := 6) sc_law.nd rfl (Or.inl rfl)) (pss_cons (ps_if (PW.pt (pw_or (pt_not (pt_val (pe_c (c_l_same 3) hr (by omega) (by rfl) pass0 (pa_cons (pe_ix ix_list (pv 5) (pv 6) (fun _ _ => rfl)) (pa_cons (pe_ix ix_list (pv 5) (pv 6) (fun _ _ => rfl)) pa_nil))))) (pw_or (pt_cmpR op_notIn_seq (pe_ix ix_list (pv 5) (pv 6) (fun _ _ => rfl)) (pv 2) (by rfl)) (pw_or1 (pt_cmpR op_lt (pe_ix ix_list (pv 5) (pv 6) (fun _ _ => rfl)) (pe_ix ix_list (pv 5) pe_int (fun _ _ => rfl)) (nomark _)))))) (pss_one (ps_ret pe_bl)) pss_nil)
      (pss_one (ps_if (pt_not (pt_val (pe_c (c_l_same 3) hr (by omega) (by rfl) pass0 (pa_cons (pe_ix ix_list (pv 5) (pe_op op_mod (pe_op op_add (pv 6) pe_int) (pe_callB call_len_seq (by rfl) b.len PySem.boot_len (pa_cons (pv 5) pa_nil))) (fun _ _ => rfl)) (pa_cons (pe_ix ix_tup (pv 2) (pe_ix ix_list (pv 5) (pv 6) (fun _ _ => rfl)) (fun _ _ => rfl)) pa_nil))))) (pss_one (ps_ret pe_bl)) pss_nil))))
      (pss_one (ps_set (i := 4) sc_law.nd rfl (Or.inl rfl) (pe_op op_cat (pv 4) (pv 5)))))))
      (pss_cons (ps_if (pt_cmpR (op_neD hr.units) (pe_callB cr_sorted (by rfl) b.sorted (by decide +kernel) (pa_cons (pv 4) pa_nil)) (pe_listRg rfl (by rfl) b.ty_list (prg_1 (by rfl) b.range (pe_callB call_len_seq (by rfl) b.len PySem.boot_len (pa_cons (pv 2) pa_nil)))) (nomark _)) (pss_one (ps_ret pe_bl)) pss_nil)
      (pss_cons (ps_setLc (i := 7) (own := [("_law_ring", 5)]) (g := gName 5) rfl sc_law.nd rfl rfl (sw_true rfl rfl rfl (by decide +kernel)) (pi_list (pv 3)) (blkOk_by (N := s_law_N) (sc := defScope s_law) (by decide +kernel)) (fun _ _ _ _ _ => (pg_name (i := 5) sc_law.nd rfl (Or.inl rfl))) (fun _ _ _ _ _ => pts_nil) (fun _ _ _ _ _ => (pe_ix (ix_listK K) (pv 5) pe_int (fun _ _ => rfl))))
      (pss_cons (ps_if (pt_cmpR (op_neD hr.units) (pv 7) (pe_callB cr_sorted (by rfl) b.sorted (by decide +kernel) (pa_cons (pv 7) pa_nil)) (nomark _)) (pss_one (ps_ret pe_bl)) pss_nil)
      (pss_cons (ps_expr (pe_bm PySem.F.plainAttrs_list PySem.F.slot_list_append PySem.F.type_list_append mt_append (pv 3) (pa_cons (pe_lst (pa_cons pe_int pa_nil)) pa_nil)))
      (pss_cons (ps_if (pt_cmpR op_ne (pe_callB call_len_seq (by rfl) b.len PySem.boot_len (pa_cons (pe_c c_rounds hr (by omega) (by rfl) pass0 (pa_cons (pv 2) pa_nil)) pa_nil)) (pe_callB call_len_seq (by rfl) b.len PySem.boot_len (pa_cons (pv 7) pa_nil)) (nomark _)) (pss_one (ps_ret pe_bl)) pss_nil)
      (pss_one (ps_ret (pe_c (c_l_same 3) hr (by omega) (by rfl) pass0 (pa_cons (pe_c c_fixed hr (by omega) (by rfl) pass0 (pa_cons (pv 2) pa_nil)) (pa_cons (pe_lc (own := [("_law_at", 6)]) (g := gName 6) (by rfl) sc_law.nd (pi_range1 (by rfl) b.range (pa_cons (pe_callB call_len_seq (by rfl) b.len PySem.boot_len (pa_cons (pv 2) pa_nil)) pa_nil)) (blkOk_by (N := s_law_N) (sc := defScope s_law) (by decide +kernel)) (fun _ _ _ _ _ => (pg_name (i := 6) sc_law.nd rfl (Or.inl rfl))) (fun _ _ _ _ _ => (pts_one (pt_cmpR op_eq (pe_ix (ix_tupK K) (pv 2) (pv 6) (fun _ _ => rfl)) (pv 6) (nomark _)))) (fun _ _ _ _ _ => (pv 6))) pa_nil))))))))))))))))), ?_⟩
    refine ⟨_, rfl, 63, rfl, a, _, rfl, hS, fun sc nsc => ?_⟩
    rw [cut63]
    generalize hms : ns.take 63 = cs
    have hsc : (upd H sc (.lst (cs.map V.int))) sc = some (.lst (cs.map V.int)) := upd_same
    generalize upd H sc (.lst (cs.map V.int)) = H0 at hsc
    refine ⟨_, rfl, sc, cs, 0, rfl, SqL.of hsc, ?_⟩
    refine ⟨by decide, fun pp npp => ?_⟩
    refine ⟨_, pp, [9, 40320], rfl, SqL.of upd_same, by decide, by decide, fun d H1 nd s1 hd => ?_⟩
    obtain ⟨ds0, dsg0, dsl0, dsu0⟩ := draws_get (c := cell cs 0) (ps := [9, 40320]) (i := 0) (p := 9) rfl (by decide)
    obtain ⟨ds1, dsg1, dsl1, dsu1⟩ := draws_get (c := cell cs 0) (ps := [9, 40320]) (i := 1) (p := 40320) rfl (by decide)
    generalize draws (cell cs 0) [9, 40320] = ds at *
    have dsa0 : atI (ds.map V.int) 0 = some (.int ds0) := at_int (by decide) dsg0
    have dsa1 : atI (ds.map V.int) 1 = some (.int ds1) := at_int (by decide) dsg1
    clear s1 nd npp nsc hS hsc
    obtain ⟨n, rfl, hn⟩ : ∃ n : Nat, ds0 = (n : Int) ∧ n ≤ 8 := ⟨ds0.toNat, by omega, by omega⟩
    refine ⟨_, rfl, d, _, _, _, rfl, rfl, SqL.of hd, dsa1, _, rfl, d, _, _, _, rfl, rfl, SqL.of hd, dsa0, ds1, n, rfl, by omega, fun tu H2 ntu s2 htu => ?_⟩
    have tt := turnOf_turn ds1 n
    have lt := turnOf_len ds1 n
    generalize turnOf ds1 n = ts at *
    have hT : SqT K H2 tu (ts.map V.int) := SqT.of htu
    clear htu ntu s2 hd
    -- told
    refine ⟨_, rfl, tu, ts, rfl, hT, tt, by omega, fun fo as H3 nfo nas nef s3 hR => ?_⟩
    refine ⟨_, rfl, _, _, _, _, true, rfl, .ty "list", tyL (SqL.of hR.top), kit_ty (by decide +kernel), _, rfl, ifno ?_⟩
    -- seen
    refine ⟨Nat.zero_le _, fun sn nsn => ?_⟩
    have s4 : Same H3 (upd H3 sn (.lst [])) := same_new (Same.refl _) nsn
    have hsn : (upd H3 sn (.lst [])) sn = some (.lst (([] : List Int).map V.int)) := upd_same
    have bs : ∃ bs : List Int, bs = (rgI ts.length).filter (isMin ts) := ⟨_, rfl⟩
    obtain ⟨bs, hbs⟩ := bs
    have hrs : rounds ts = bs.map (ring ts) := by rw [hbs]; rfl
    have lbs : bs.length ≤ 8 := by
      rw [hbs]
      have := List.length_filter_le (isMin ts) (rgI ts.length)
      rw [rgI_len] at this
      omega
    have las : as.length = bs.length := by rw [hR.len, hrs, List.length_map]
    have hbm : ∀ (i : Nat) (x : Addr), as[i]? = some x → ∃ c : Int, bs[i]? = some c ∧ (rounds ts)[i]? = some (ring ts c) ∧ c ∈ rgI ts.length ∧ isMin ts c = true := fun i x hi => by
      have hil : i < bs.length := by rw [← las]; exact (List.getElem?_eq_some_iff.mp hi).1
      refine ⟨bs[i], List.getElem?_eq_getElem hil, by rw [hrs, List.getElem?_map, List.getElem?_eq_getElem hil]; rfl, ?_⟩
      have hm : bs[i] ∈ (rgI ts.length).filter (isMin ts) := by rw [← hbs]; exact List.getElem_mem hil
      exact List.mem_filter.mp hm
    have hflat : ∀ i, ((rounds ts).take i).flatten.length ≤ 8 := fun i => by
      have h1 := (rounds_perm tt).length_eq
      rw [rgI_len] at h1
      have h2 : (rounds ts).flatten = ((rounds ts).take i).flatten ++ ((rounds ts).drop i).flatten := by rw [← List.flatten_append, List.take_append_drop]
      rw [h2, List.length_append] at h1
      omega
    refine ⟨_, rfl, fo, rfl, ⟨_, SqL.of (s4 _ _ hR.top)⟩, for_list (K := K) (a := fo) (xs := as.map V.ref) (fun i σ' H' => ∃ (sn : Addr) (y5 y6 : Option V), Same H3 H' ∧ H' sn = some (.lst (((rounds ts).take i).flatten.map V.int)) ∧ σ' = [some (.ref sc), some (.ref d), some (.ref tu), some (.ref fo), some (.ref sn), y5, y6, none])
      ⟨sn, none, none, s4, hsn, rfl⟩ (fun i σ' H' _ ⟨_, _, _, s', _⟩ => SqL.of (s' _ _ hR.top)) ?_ ?_⟩
    · rintro i v σ' H5 hi ⟨sn, y5, y6, s5, hsn, rfl⟩
      rw [List.getElem?_map] at hi
      cases hai : as[i]? with
      | none => rw [hai] at hi; cases hi
      | some x =>
        rw [hai] at hi
        cases hi
        obtain ⟨c, hbc, hrc, hcin, hcm⟩ := hbm i x hai
        have hx3 : H3 x = some (.lst ((ring ts c).map V.int)) := hR.each i x _ hai hrc
        have Pc := tt.per hcin
        have hlr := ring_len ts c
        have hpn := Pc.pn
        have hp1 := Pc.p1
        have hTu : ∀ H', Same H3 H' → SqT K H' tu (ts.map V.int) := fun H' s' => same_seqT (s3.trans s') hT
        have hXx : ∀ H', Same H3 H' → SqL K H' x ((ring ts c).map V.int) := fun H' s' => SqL.of (s' _ _ hx3)
        have elr : (((ring ts c).map V.int).length : Int) = (per ts c : Int) := by rw [List.length_map, hlr]
        -- not isinstance(ring, list) or ring == []
        refine ⟨_, rfl, _, _, _, _, true, rfl, .ty "list", tyL (hXx _ s5), kit_ty (by decide +kernel), _, rfl, iteF ?_⟩
        refine ⟨_, rfl, Nat.zero_le _, fun em nem => ?_⟩
        have s6 : Same H3 (upd H5 em (.lst [])) := same_new s5 (s5.free nem)
        have ee : PyData.eqv (.list ((ring ts c).map PyData.int)) (.list (([] : List Int).map PyData.int)) = decide (ring ts c = []) := eqv_listI _ []
        refine ⟨.list ((ring ts c).map PyData.int), .list (([] : List Int).map PyData.int), dp_listI (hXx _ s6), dp_listI (SqL.of upd_same), shaped_listI _, shaped_listI [], _, rfl, ?_⟩
        rw [ee, decide_eq_false (fun z => by rw [z] at hlr; simp at hlr; omega)]
        refine ifno ?_
        have hsn6 : (upd H5 em (.lst [])) sn = some (.lst (((rounds ts).take i).flatten.map V.int)) := upd_new nem hsn
        generalize upd H5 em (.lst []) = H6 at *
        -- for at in range(len(ring))
        refine ⟨_, rfl, x, _, rfl, .inl (hXx _ s6), (per ts c : Int), (by rw [elr]), by omega, by omega, for_range (lo := 0) (n := per ts c) (fun k σ' H' => ∃ y6 : Option V, Same H6 H' ∧ σ' = [some (.ref sc), some (.ref d), some (.ref tu), some (.ref fo), some (.ref sn), some (.ref x), y6, none])
          ⟨y6, Same.refl _, rfl⟩ ?_ ?_⟩
        · rintro k σ' H7 hk ⟨y6, s7, rfl⟩
          have s37 := s6.trans s7
          rw [Int.zero_add]
          have hat : atI ((ring ts c).map V.int) (k : Int) = some (.int (it ts k c)) := at_int (by omega) (by rw [Int.toNat_natCast]; exact ring_at hk)
          have hkin := tt.it hcin k
          obtain ⟨k0, k1⟩ := mem_rgI.mp hkin
          refine ⟨_, rfl, _, rfl, x, _, _, _, rfl, rfl, hXx _ s37, hat, _, rfl, _, rfl, x, _, _, _, rfl, rfl, hXx _ s37, hat, _, _, rfl, .int _, fun H8 s8 => ⟨_, rfl, iteF ?_⟩⟩
          have s38 := s37.trans s8
          refine ⟨_, rfl, _, rfl, x, _, _, _, rfl, rfl, hXx _ s38, hat, _, rfl, tu, _, rfl, .inr (hTu _ s38), rfl, flat_ints _, _, rfl, ?_⟩
          rw [in_ints, decide_eq_true (tt.mem k0 k1)]
          refine iteF ?_
          have hat0 : atI ((ring ts c).map V.int) 0 = some (.int c) := at_int (by decide) (ring_at hp1)
          refine ⟨_, rfl, _, rfl, x, _, _, _, rfl, rfl, hXx _ s38, hat, _, rfl, x, _, _, _, rfl, rfl, hXx _ s38, hat0, _, _, rfl, rfl, _, rfl, ?_⟩
          rw [decide_eq_false (show ¬ it ts k c < c from fun z => by have := isMin_iff.mp hcm _ ((mem_ring tt hcin).mpr ⟨k, rfl⟩); omega)]
          refine ifno ?_
          -- the next one
          have hmd : ((k : Int) + 1) % (per ts c : Int) = (((k + 1) % per ts c : Nat) : Int) := by push_cast; rfl
          have hnx : it ts ((k + 1) % per ts c) c = app ts (it ts k c) := (it_mod Pc.pe (k + 1)).symm
          have hat1 : atI ((ring ts c).map V.int) (((k + 1) % per ts c : Nat) : Int) = some (.int (app ts (it ts k c))) := at_int (by omega) (by rw [Int.toNat_natCast, ring_at (Nat.mod_lt _ hp1), hnx])
          refine ⟨_, rfl, _, rfl, _, _, rfl, rfl, _, rfl, x, _, rfl, .inl (hXx _ s38), _, _, rfl, rfl, (by show (0 : Int) < (((ring ts c).map V.int).length : Int); omega), x, _, (((k + 1) % per ts c : Nat) : Int), _, rfl, (by show V.int (((k : Int) + 1) % (((ring ts c).map V.int).length : Int)) = _; rw [elr, hmd]), hXx _ s38, hat1, _, rfl, _, rfl, _, rfl, x, _, _, _, rfl, rfl, hXx _ s38, hat, tu, _, _, _, rfl, rfl, hTu _ s38, at_int k0 (app_at k0 k1), _, _, rfl, .int _, fun H9 s9 => ⟨_, rfl, ifno ⟨_, s7.trans (s8.trans s9), rfl⟩⟩⟩
        · rintro σ' H7 ⟨y6, s7, rfl⟩
          have s37 := s6.trans s7
          have hl : ((rounds ts).take (i + 1)).flatten = ((rounds ts).take i).flatten ++ ring ts c := by
            rw [List.take_add_one, hrc, List.flatten_append]
            show _ ++ (ring ts c ++ []) = _
            rw [List.append_nil]
          have hfl := hflat (i + 1)
          rw [hl, List.length_append] at hfl
          refine ⟨_, rfl, _, rfl, sn, x, _, _, rfl, rfl, s7 _ _ hsn6, s37 _ _ hx3, sz_le (by rw [List.length_map, List.length_map]; omega), fun p np => ?_⟩
          refine ⟨p, _, _, same_new s37 (s37.free np), ?_, rfl⟩
          rw [upd_same, hl, List.map_append]
    rintro σ5 H5 ⟨sn, y5, y6, s5, hsn5, rfl⟩
    rw [List.length_map, las, ← show (rounds ts).length = bs.length by rw [hrs, List.length_map], List.take_length] at hsn5
    have hTu : ∀ H', Same H3 H' → SqT K H' tu (ts.map V.int) := fun H' s' => same_seqT (s3.trans s') hT
    have hperm := rounds_perm tt
    have hflen : (rounds ts).flatten.length = ts.length := by rw [hperm.length_eq, rgI_len]
    have htf : Turn (rounds ts).flatten := turn_of_perm hperm
    generalize (rounds ts).flatten = fl at *
    have elt : ((ts.map V.int).length : Int) = (ts.length : Int) := by rw [List.length_map]
    -- sorted(seen) != list(range(..))
    refine ⟨_, rfl, sn, fl, rfl, SqL.of hsn5, by omega, fun ks' p hp hs np => ?_⟩
    have s6 : Same H3 (upd H5 p (.lst (ks'.map V.int))) := same_new s5 (s5.free np)
    refine ⟨_, rfl, tu, _, rfl, .inr (hTu _ s6), _, rfl, (show RgOk 0 ((ts.map V.int).length : Int) from by rw [elt]; exact rg_ok (by omega)), fun l nl => ?_⟩
    rw [show rgV 0 ((ts.map V.int).length : Int) = (rgI fl.length).map V.int by rw [elt, rgV_int, hflen]]
    refine ⟨_, _, dp_listI (SqL.of (by walk_at "hp")), dp_listI (SqL.of upd_same), shaped_listI _, shaped_listI _, _, rfl, ?_⟩
    rw [eqv_listI, sorted_full hp hs, isTurn_iff.mpr htf]
    refine ifno ?_
    have s7 := same_new (o := .lst ((rgI fl.length).map V.int)) s6 (s6.free nl)
    generalize upd (upd H5 p (.lst (ks'.map V.int))) l (.lst ((rgI fl.length).map V.int)) = H7 at *
    clear s6 hsn5 np nl
    -- firsts
    refine ⟨_, rfl, fo, rfl, ⟨_, SqL.of (s7 _ _ hR.top)⟩, fun L nL => lc_list (K := K) (a := fo) (xs := as.map V.ref) (fun i Hx => Same H7 Hx ∧ Hx L = some (.lst ((bs.take i).map V.int))) ⟨same_new (Same.refl _) nL, upd_same⟩ (fun i Hx _ ⟨sx, _⟩ => SqL.of (sx _ _ (s7 _ _ hR.top))) ?_ ?_⟩
    · rintro i v Hx hi ⟨sx, eL⟩
      rw [List.getElem?_map] at hi
      cases hai : as[i]? with
      | none => rw [hai] at hi; cases hi
      | some x =>
        rw [hai] at hi
        cases hi
        obtain ⟨c, hbc, hrc, hcin, hcm⟩ := hbm i x hai
        have hx3 : H3 x = some (.lst ((ring ts c).map V.int)) := hR.each i x _ hai hrc
        have hat0 : atI ((ring ts c).map V.int) 0 = some (.int c) := at_int (by decide) (ring_at (tt.per hcin).p1)
        refine ⟨rfl, ⟨_, rfl, x, _, _, _, rfl, rfl, SqL.of (sx _ _ (s7 _ _ hx3)), hat0, _, eL, ?_, same_new sx nL, ?_⟩⟩
        · refine sz_lt ?_
          rw [List.length_map, List.length_take]
          omega
        · rw [upd_same, List.take_add_one, hbc, List.map_append]
          rfl
    rintro H8 ⟨s8, hL⟩
    rw [List.length_map, las, List.take_length] at hL
    have s38 := s7.trans s8
    have hfs : bs.Pairwise (· ≤ ·) := by rw [hbs]; exact filter_sorted _ _
    -- firsts != sorted(firsts)
    refine ⟨_, rfl, _, rfl, L, bs, rfl, SqL.of hL, by omega, fun ks2 p hp hs np => ?_⟩
    have e2 : bs = ks2 := (sorted_uniq hp hs hfs).symm
    subst e2
    refine ⟨_, _, dp_listI (SqL.of (upd_new np hL)), dp_listI (SqL.of upd_same), shaped_listI _, shaped_listI _, _, rfl, ?_⟩
    rw [eqv_listI, decide_eq_true rfl]
    refine ifno ?_
    have s9 : Same H8 (upd H8 p (.lst (bs.map V.int))) := same_new (Same.refl _) np
    generalize upd H8 p (.lst (bs.map V.int)) = H9 at *
    have s39 := s38.trans s9
    have hL9 := s9 _ _ hL
    have hfo9 := s39 _ _ hR.top
    -- told.append([0])
    refine ⟨_, rfl, .inl ⟨rfl, _, SqL.of hfo9⟩, (by show 1 ≤ sizeLine; decide), fun z nz => ?_⟩
    refine ⟨fo, _, _, rfl, rfl, upd_new nz hfo9, sz_lt (by rw [List.length_map]; omega), ?_⟩
    have s2b : Same H2 (upd (upd H9 z (.lst [V.int 0])) fo (.lst (as.map V.ref ++ [.ref z]))) := same_new (same_new (s3.trans s39) ((s3.trans s39).free nz)) nfo
    have neLf : L ≠ fo := fun e => by
      have := hR.top
      rw [← e] at this
      rw [s7 _ _ this] at nL
      cases nL
    have hL10 : (upd (upd H9 z (.lst [V.int 0])) fo (.lst (as.map V.ref ++ [.ref z]))) L = some (.lst (bs.map V.int)) := upd_old neLf (upd_new nz hL9)
    generalize upd (upd H9 z (.lst [V.int 0])) fo (.lst (as.map V.ref ++ [.ref z])) = H10 at *
    have hT10 := same_seqT s2b hT
    -- len(rounds(turn)) != len(firsts)
    refine ⟨_, rfl, tu, ts, rfl, hT10, tt, by omega, fun fo2 as2 H11 nfo2 _ _ s11 hR2 => ?_⟩
    refine ⟨fo2, _, rfl, .inl (SqL.of hR2.top), _, rfl, L, _, rfl, .inl (SqL.of (s11 _ _ hL10)), rfl, _, rfl, ?_⟩
    rw [decide_eq_true (show V.int (((as2.map V.ref).length : Nat) : Int) = V.int (((bs.map V.int).length : Nat) : Int) by rw [List.length_map, List.length_map, hR2.len, hrs, List.length_map])]
    refine ifno ?_
    have hT11 := same_seqT s11 hT10
    -- fixed
    refine ⟨_, rfl, tu, ts, rfl, hT11, by omega, fun fx H12 nfx s12 hfx => ?_⟩
    have hT12 := same_seqT s12 hT11
    refine ⟨_, rfl, tu, _, rfl, .inr hT12, (ts.length : Int), (by rw [elt]), by omega, by omega, fun l2 nl2 => lc_range (lo := 0) (n := ts.length) (fun i Hx => Same H12 Hx ∧ Hx l2 = some (.lst (((rgI i).filter fun z => decide (app ts z = z)).map V.int))) ⟨same_new (Same.refl _) nl2, upd_same⟩ ?_ ?_⟩
    · rintro i Hx hi ⟨sx, eL⟩
      have e0 : (0 : Int) + (i : Int) = (i : Int) := Int.zero_add _
      have hsu : rgI (i + 1) = rgI i ++ [(i : Int)] := by unfold rgI; rw [List.range_succ, List.map_append]; rfl
      refine ⟨rfl, ⟨_, rfl, _, rfl, tu, _, _, .int (app ts (i : Int)), rfl, rfl, same_seqT sx hT12, (by rw [e0]; exact at_int (by omega) (app_at (by omega) (by omega))), _, rfl, rfl, _, rfl, ?_⟩⟩
      rw [e0]
      by_cases hc : app ts (i : Int) = (i : Int)
      · rw [decide_eq_true (congrArg V.int hc)]
        refine iteT ⟨_, rfl, _, eL, ?_, same_new sx nl2, ?_⟩
        · refine sz_lt ?_
          rw [List.length_map]
          have := List.length_filter_le (fun z => decide (app ts z = z)) (rgI i)
          rw [rgI_len] at this
          omega
        · rw [upd_same, hsu, List.filter_append, List.filter_cons, decide_eq_true hc, if_pos rfl, List.filter_nil, List.map_append]
          rfl
      · rw [decide_eq_false (fun z => hc (V.int.inj z) : ¬ V.int (app ts (i : Int)) = V.int (i : Int))]
        refine iteF ⟨sx, ?_⟩
        rw [hsu, List.filter_append, List.filter_cons, decide_eq_false hc, if_neg Bool.false_ne_true, List.filter_nil, List.append_nil]
        exact eL
    rintro H13 ⟨s13, h13⟩
    refine ⟨_, _, rfl, alike_lstI (SqL.of (s13 _ _ hfx)) (SqL.of h13) ?_, fun H14 s14 => q _⟩
    have := List.length_filter_le (fun z => decide (app ts z = z)) (rgI ts.length)
    rw [rgI_len] at this
    omega

end

/-! ### what the top has left -/
theorem all_mk {l : PySem.W.OpenLaw} {w : World} {K : PySem.W.Frag} {h : Heap} {mg : Str → Option Value} {fa : Addr} (X : K.In h) (G : h.Ns mainGlobals mg)
    (d_l_cell : DefIn K "_law_cell" s_l_cell)
    (d_l_draws : DefIn K "_law_draws" s_l_draws)
    (d_l_turn : DefIn K "_law_turn" s_l_turn)
    (d_l_same : DefIn K "_law_same" s_l_same)
    (d_rounds : DefIn K "rounds" s_rounds)
    (d_fixed : DefIn K "fixed" s_fixed)
    (d_law : DefIn K "law" s_law)
    (z0 : PySem.W.nsIn K mainGlobals "len" = some none) (z1 : PySem.W.nsIn K mainGlobals "range" = some none) (z2 : PySem.W.nsIn K mainGlobals "list" = some none) (z3 : PySem.W.nsIn K mainGlobals "tuple" = some none) (z4 : PySem.W.nsIn K mainGlobals "int" = some none) (z5 : PySem.W.nsIn K mainGlobals "bool" = some none) (z6 : PySem.W.nsIn K mainGlobals "str" = some none) (z7 : PySem.W.nsIn K mainGlobals "dict" = some none) (z8 : PySem.W.nsIn K mainGlobals "ValueError" = some none) (z9 : PySem.W.nsIn K mainGlobals "sorted" = some none) (z10 : PySem.W.nsIn K mainGlobals "isinstance" = some none) (z11 : PySem.W.nsIn K mainGlobals "abs" = some none) (z12 : PySem.W.nsIn K mainGlobals "all" = some none) (z13 : PySem.W.nsIn K mainGlobals "any" = some none) (z14 : PySem.W.nsIn K mainGlobals "sum" = some none) (z15 : PySem.W.nsIn K mainGlobals "min" = some none) (z16 : PySem.W.nsIn K mainGlobals "max" = some none) (z17 : PySem.W.nsIn K mainGlobals "enumerate" = some none) : mg "law" = some (.ref fa) →
    ∃ fd : FuncData, (∀ (s : Shared) (v : Value), BindsTo s fd ⟨[v], []⟩ [("_law_script", v)]) ∧ ∀ base : Heap, K.In base → base.Ns mainGlobals mg → FnOk l.prog w K mg base CX0 4 fa fd p_law (spLaw K) := by
  intro hfa
  have b : Blt mg := blt_of X G z0 z1 z2 z3 z4 z5 z6 z7 z8 z9 z10 z11 z12 z13 z14 z15 z16 z17
  obtain ⟨f_l_cell, fd_l_cell, D_l_cell⟩ := dn_of X G (ps := p_l_cell) d_l_cell (fun _ _ _ _ _ _ us hl => match us, hl with | [_, _], _ => rfl)
  obtain ⟨f_l_draws, fd_l_draws, D_l_draws⟩ := dn_of X G (ps := p_l_draws) d_l_draws (fun _ _ _ _ _ _ us hl => match us, hl with | [_, _], _ => rfl)
  obtain ⟨f_l_turn, fd_l_turn, D_l_turn⟩ := dn_of X G (ps := p_l_turn) d_l_turn (fun _ _ _ _ _ _ us hl => match us, hl with | [_, _], _ => rfl)
  obtain ⟨f_l_same, fd_l_same, D_l_same⟩ := dn_of X G (ps := p_l_same) d_l_same (fun _ _ _ _ _ _ us hl => match us, hl with | [_, _], _ => rfl)
  obtain ⟨f_rounds, fd_rounds, D_rounds⟩ := dn_of X G (ps := p_rounds) d_rounds (fun _ _ _ _ _ _ us hl => match us, hl with | [_], _ => rfl)
  obtain ⟨f_fixed, fd_fixed, D_fixed⟩ := dn_of X G (ps := p_fixed) d_fixed (fun _ _ _ _ _ _ us hl => match us, hl with | [_], _ => rfl)
  obtain ⟨f_law, fd_law, D_law⟩ := dn_of X G (ps := p_law) d_law (fun _ _ _ _ _ _ us hl => match us, hl with | [_], _ => rfl)
  have e := hfa.symm.trans D_law.g
  cases e
  refine ⟨fd_law, fun s v => ?_, fun base _ _ => ?_⟩
  · obtain ⟨_, _, _, _, _, _, _, _, _, rfl, _, _⟩ := D_law.F.ex
    exact .of_eq rfl
  · have c_l_cell := ok_l_cell (P := l.prog) (w := w) (base := base) D_l_cell b 
    have c_l_draws := ok_l_draws (P := l.prog) (w := w) (base := base) D_l_draws b 
    have c_l_turn := ok_l_turn (P := l.prog) (w := w) (base := base) D_l_turn b 
    have c_l_same := ok_l_same (P := l.prog) (w := w) (base := base) D_l_same b 
    have c_rounds := ok_rounds (P := l.prog) (w := w) (base := base) D_rounds b 
    have c_fixed := ok_fixed (P := l.prog) (w := w) (base := base) D_fixed b 
    exact ok_law D_law b c_l_cell c_l_draws c_l_turn c_l_same c_rounds c_fixed

end Kin

open PySem PySem.W PyProof.Rows
set_option maxRecDepth 100000 in
set_option maxHeartbeats 0 in
theorem PySem.Challenge.cw_kinhearth_k04_rounds_part_the_sections_holds : PySem.Challenge.rw_kinhearth_k04_rounds_part_the_sections.Holds := by
  w_on; o_law; k_head; (case hw => w_witness2)
  k_fill
  refine L2.walk_of (l := PySem.Challenge.rw_kinhearth_k04_rounds_part_the_sections) (n := 63) (k := 4) (x := "_law_script") (CX := fun _ => L2.CX0) (sp := fun w => Kin.spLaw _) rfl (by decide) rfl ⟨rfl, by decide, by decide⟩ (fun w h Y => PySem.W.kIn_of Y) ?F (fun _ _ a ns hl _ hS => ⟨a, ns, rfl, hS, hl, fun _ => rfl⟩) (fun _ _ _ _ _ h => h)
  case F =>
    intro w mg fa h KX G
    refine' Kin.all_mk KX G ?d_l_cell ?d_l_draws ?d_l_turn ?d_l_same ?d_rounds ?d_fixed ?d_law ?z0 ?z1 ?z2 ?z3 ?z4 ?z5 ?z6 ?z7 ?z8 ?z9 ?z10 ?z11 ?z12 ?z13 ?z14 ?z15 ?z16 ?z17
    (case d_l_cell => (refine' Kin.defIn_mk ?a ?l ?c ?k; (case a => k_is); (case l => k_is); (case c => k_is); (case k => k_is)))
    (case d_l_draws => (refine' Kin.defIn_mk ?a ?l ?c ?k; (case a => k_is); (case l => k_is); (case c => k_is); (case k => k_is)))
    (case d_l_turn => (refine' Kin.defIn_mk ?a ?l ?c ?k; (case a => k_is); (case l => k_is); (case c => k_is); (case k => k_is)))
    (case d_l_same => (refine' Kin.defIn_mk ?a ?l ?c ?k; (case a => k_is); (case l => k_is); (case c => k_is); (case k => k_is)))
    (case d_rounds => (refine' Kin.defIn_mk ?a ?l ?c ?k; (case a => k_is); (case l => k_is); (case c => k_is); (case k => k_is)))
    (case d_fixed => (refine' Kin.defIn_mk ?a ?l ?c ?k; (case a => k_is); (case l => k_is); (case c => k_is); (case k => k_is)))
    (case d_law => (refine' Kin.defIn_mk ?a ?l ?c ?k; (case a => k_is); (case l => k_is); (case c => k_is); (case k => k_is)))
    (case z0 => k_is)
    (case z1 => k_is)
    (case z2 => k_is)
    (case z3 => k_is)
    (case z4 => k_is)
    (case z5 => k_is)
    (case z6 => k_is)
    (case z7 => k_is)
    (case z8 => k_is)
    (case z9 => k_is)
    (case z10 => k_is)
    (case z11 => k_is)
    (case z12 => k_is)
    (case z13 => k_is)
    (case z14 => k_is)
    (case z15 => k_is)
    (case z16 => k_is)
    (case z17 => k_is)
