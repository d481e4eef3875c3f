import PyProof.Rows.All
import Wide.All
import OpenK.AllK
import Wide.FinOn
import HandS.ForMost
import HandS.ForExc
import HandS.Conv
import HandS.IsInst
import HandS.Wide
import HandS.Flow
import HandS.ExcInit
import HandS.ExcField
import HandS.ExcIs
import HandS.TryMany
import HandS.Steps
import HandS.More
import KE.GoesMore
import KE.GoesEnum
import PyProof.Draws
import HandS.Strs
import HandS.Sort
import PySem.Challenge.RW_kinhearth_k05_done_many_times
set_option Elab.async false
set_option linter.all false
set_option maxRecDepth 100000
set_option maxHeartbeats 4000000
/-! B0: words over HandS that all the laws here share -/
namespace Kin
open PySem PySem.Spec PyProof.Rows L2

/-! ### heaps: facts carried over new objects and stores -/
theorem upd_new {H : Hp} {p a : Addr} {o u : HO} (np : H p = none) (h : H a = some u) : upd H p o a = some u := by
  rw [upd_ne (ne_of_none h np)]
  exact h
theorem upd_old {H : Hp} {p a : Addr} {o u : HO} (ne : a ≠ p) (h : H a = some u) : upd H p o a = some u := by
  rw [upd_ne ne]
  exact h
theorem sameAt {H H' : Hp} (s : Same H H') {a : Addr} {o : HO} (h : H a = some o) : H' a = some o := s a o h
theorem same_new {H0 H : Hp} {p : Addr} {o : HO} (s : Same H0 H) (f : H0 p = none) : Same H0 (upd H p o) := fun b x e => by
  rw [upd_ne (ne_of_none e f)]
  exact s b x e
theorem same_seqT {K : PySem.W.Frag} {H H' : Hp} {a : Addr} {xs : List V} (e : Same H H') (h : SqT K H a xs) : SqT K H' a xs := by
  rcases h with (h | ⟨o, h⟩) | h
  · exact .inl (.inl (e _ _ h))
  · exact .inl (.inr ⟨o, e _ _ h⟩)
  · exact .inr h
/-- a list or a tuple -/
def Sq (K : PySem.W.Frag) (H : Hp) (a : Addr) (xs : List V) : Prop := SqL K H a xs ∨ SqT K H a xs
theorem same_sq {K : PySem.W.Frag} {H H' : Hp} {a : Addr} {xs : List V} (e : Same H H') (h : Sq K H a xs) : Sq K H' a xs := by
  rcases h with h | h
  · exact .inl (e.seq h)
  · exact .inr (same_seqT e h)
theorem sqL_old {K : PySem.W.Frag} {H : Hp} {p a : Addr} {o : HO} {xs : List V} (ne : a ≠ p) (h : SqL K H a xs) : SqL K (upd H p o) a xs := by
  rcases h with (h | ⟨q, h⟩) | h
  · exact .inl (.inl (upd_old ne h))
  · exact .inl (.inr ⟨q, upd_old ne h⟩)
  · exact .inr h
theorem sqT_old {K : PySem.W.Frag} {H : Hp} {p a : Addr} {o : HO} {xs : List V} (ne : a ≠ p) (h : SqT K H a xs) : SqT K (upd H p o) a xs := by
  rcases h with (h | ⟨q, h⟩) | h
  · exact .inl (.inl (upd_old ne h))
  · exact .inl (.inr ⟨q, upd_old ne h⟩)
  · exact .inr h
theorem free_ne {H : Hp} {a b : Addr} {o : HO} (h : H a = some o) (n : H b = none) : b ≠ a := fun e => by
  rw [e, h] at n
  cases n
theorem lst_sz {xs : List V} {n : Nat} (h : xs.length ≤ n) (hn : n ≤ 100000) : xs.length ≤ sizeLine := Nat.le_trans h (Nat.le_trans hn (by decide))
theorem sz_le {n : Nat} (h : n ≤ 100000) : n ≤ sizeLine := Nat.le_trans h (by decide)
theorem sz_lt {n : Nat} (h : n < 100000) : n < sizeLine := Nat.lt_of_lt_of_le h (by decide)

/-- the ways of a statement joined: what holds behind it -/
theorem seq_cut {t u : TS} {D : Ends} {σ : L2.St} {H : Hp} (R : L2.St → Hp → Prop) (h1 : ∀ N : L2.St → Hp → Prop, (∀ σ' H', R σ' H' → N σ' H') → t { D with nx := N } σ H) (h2 : ∀ σ' H', R σ' H' → u D σ' H') : tSeq t u D σ H := h1 (u D) h2

/-- an if without else whose test is false -/
theorem ifno {A : Prop} {D : Ends} {σ : L2.St} {H : Hp} (h : D.nx σ H) : if false = true then A else tNext D σ H := iteF h

/-! ### a def that can be called by its name -/
def Cal (P : Program) (w : World) (K : PySem.W.Frag) (mg : Str → Option Value) (base : Heap) (CX : CXT) (k : Nat) (x : Str) (ps : List Str) (sp : Sp) : Prop :=
  ∃ (f : Addr) (fd : FuncData), mg x = some (.ref f) ∧ PySem.W.keepIn K (.ref f) = true ∧ Binds K fd ps [] ∧ FnOk P w K mg base CX k f fd ps sp
section
variable {X : Cx} {CX : CXT} {k j : Nat} {x : Str} {ps : List Str} {sp : Sp} {E : XK} {p pos : Pos} {e : Expr} {es : List Expr} {t : TA}
theorem pe_c (c : Cal X.prog X.w X.K X.mg X.base CX k x ps sp) (hr : Room j X.A) (hj : k ≤ j) (hg : Gl X x) (hx : Passes CX X E) (ha : PA X (e :: es) t)
    (hdb : (x == ("__debug__" : Str)) = false := by decide) (he : starEach (e :: es) X.env = (false, eval e X.env) :: starEach es X.env := by rfl) (hpl : (backTo pos (starEach es X.env)).any (·.1) = false := by rfl) :
    PE X (.Call (.Name x p) (e :: es) [] pos) (tCall sp [] E t) := by
  obtain ⟨f, fd, hm, hk, hb, F⟩ := c
  exact pe_call F (hr.mono hj) hg hm hk hb .nil hx ha hdb he hpl
theorem pe_c0 (c : Cal X.prog X.w X.K X.mg X.base CX k x ps sp) (hr : Room j X.A) (hj : k ≤ j) (hg : Gl X x) (hx : Passes CX X E)
    (hdb : (x == ("__debug__" : Str)) = false := by decide) : PE X (.Call (.Name x p) [] [] pos) (tCall sp [] E tNil) := by
  obtain ⟨f, fd, hm, hk, hb, F⟩ := c
  exact pe_call0 F (hr.mono hj) hg hm hk hb .nil hx hdb
end

/-! ### rules whose reading speaks of the written part, for use within a comprehension -/
section
variable {X : Cx}
theorem ix_listK (K : PySem.W.Frag) (h : X.K = K := by rfl) : IxR X (rIxL K) := by subst h; exact ix_list
theorem ix_tupK (K : PySem.W.Frag) (h : X.K = K := by rfl) : IxR X (rIxT K) := by subst h; exact ix_tup
theorem sl_listK (K : PySem.W.Frag) (h : X.K = K := by rfl) : SlR X (rSlL K) := by subst h; exact sl_list
theorem op_in_seqK (K : PySem.W.Frag) (h : X.K = K := by rfl) : OpR X (compareOp .In) (rIn K false) := by subst h; exact op_in_seq
theorem op_notIn_seqK (K : PySem.W.Frag) (h : X.K = K := by rfl) : OpR X (compareOp .NotIn) (rIn K true) := by subst h; exact op_notIn_seq
theorem op_eqDK (K : PySem.W.Frag) (hu : X.A.units + 64 < cLine) (h : X.K = K := by rfl) : OpR X (compareOp .Eq) (rEqD K) := by subst h; exact op_eqD hu
theorem op_neDK (K : PySem.W.Frag) (hu : X.A.units + 64 < cLine) (h : X.K = K := by rfl) : OpR X (compareOp .NotEq) (rNeD K) := by subst h; exact op_neD hu
theorem call_len_seqK (K : PySem.W.Frag) (h : X.K = K := by rfl) : CallR X (.builtin "len") (fun xs H Q => ∃ p ys, xs = [.ref p] ∧ (SqL K H p ys ∨ SqT K H p ys) ∧ Q (.int ys.length) H) := by subst h; exact call_len_seq
theorem call_tuple_ofK (K : PySem.W.Frag) (h : X.K = K := by rfl) : CallR X (.type "tuple") (fun xs H Q => ∃ p ys, xs = [.ref p] ∧ ((SqL K H p ys ∧ ∀ l, H l = none → Q (.ref l) (upd H l (.tup ys))) ∨ (SqT K H p ys ∧ Q (.ref p) H))) := by subst h; exact call_tuple_of
theorem call_list_ofK (K : PySem.W.Frag) (h : X.K = K := by rfl) : CallR X (.type "list") (fun xs H Q => ∃ p ys, xs = [.ref p] ∧ (SqL K H p ys ∨ SqT K H p ys) ∧ ∀ l, H l = none → Q (.ref l) (upd H l (.lst ys))) := by subst h; exact call_list_of
theorem pe_fldK (K : PySem.W.Frag) {e : Expr} {f : Str} {ta : TE} {pos : Pos} (he : PE X e ta) (hb : attributeBase e f X.env (eval e X.env) = eval e X.env) (h : X.K = K := by rfl) : PE X (.Attribute e f pos) (tFld K ta f) := by subst h; exact pe_fld he hb
theorem pe_bmK (K : PySem.W.Frag) {o e : Expr} {es : List Expr} {to : TE} {t : TA} {name : Str} {apos cpos : Pos} {T id : String} {r : V → List V → Hp → VK → Prop} (pa : PlainAttrs T) (slot : Slot T name id) (hty : typeOf (.builtin id) = pure (.type "method_descriptor")) (hm : MtR X id r) (ho : PE X o to) (ha : PA X (e :: es) t)
    (h : X.K = K := by rfl) (hbase : attributeBase o name X.env (eval o X.env) = eval o X.env := by rfl)
    (hfew : ((backTo cpos (starEach (e :: es) X.env)).all (fun x => !x.1) && (backToKw cpos (keywordEach [] X.env)).all (fun x => x.1.isSome)
      && decide ((e :: es).length + ([] : List Keyword).length + (if ([] : List Keyword).isEmpty then 0 else 1) < 30)) = true := by rfl)
    (hline : (apos.endLine == cpos.line) = true := by rfl) (hs : starEach (e :: es) X.env = (false, eval e X.env) :: starEach es X.env := by rfl) (hplain : (backTo cpos (starEach es X.env)).any (·.1) = false := by rfl) :
    PE X (.Call (.Attribute o name apos) (e :: es) [] cpos) (tBM K T r to t) := by subst h; exact pe_bm pa slot hty hm ho ha hbase hfew hline hs hplain
end

/-! ### a def as the top has left it -/
structure Dn (K : PySem.W.Frag) (mg : Str → Option Value) (x : Str) (st : Stmt) (ps : List Str) (f : Addr) (fd : FuncData) : Prop where
  F : Fun K x x st f fd
  b : Binds K fd ps []
  g : mg x = some (.ref f)
theorem Dn.cal {P : Program} {w : World} {K : PySem.W.Frag} {mg : Str → Option Value} {base : Heap} {CX : CXT} {k : Nat} {x : Str} {st : Stmt} {ps : List Str} {sp : Sp} {f : Addr} {fd : FuncData} (D : Dn K mg x st ps f fd) (F : FnOk P w K mg base CX k f fd ps sp) :
    Cal P w K mg base CX k x ps sp := ⟨f, fd, D.g, D.F.kp, D.b, F⟩
/-- .. by what the written part says -/
def DefIn (K : PySem.W.Frag) (x : Str) (st : Stmt) : Prop := ∃ (f : Addr) (oc : Value) (od : Option Addr) (kV doc pm : Value) (an : Option Addr) (cdv ct : Value) (osl : Array (Option Value)),
  PySem.W.nsIn K mainGlobals x = some (some (.ref f)) ∧ K.lookup f = some ⟨oc, od, .func (PySem.W.fnOf x x (defArgs st) (defBody st) (defScope st) .none kV doc pm an cdv ct), osl⟩ ∧ PySem.W.codeIn K cdv x = true ∧ PySem.W.keepIn K (.ref f) = true
theorem defIn_mk {K : PySem.W.Frag} {x : Str} {st : Stmt} {f : Addr} {oc : Value} {od : Option Addr} {kV doc pm : Value} {an : Option Addr} {cdv ct : Value} {osl : Array (Option Value)} (a : PySem.W.nsIn K mainGlobals x = some (some (.ref f)))
    (l : K.lookup f = some ⟨oc, od, .func (PySem.W.fnOf x x (defArgs st) (defBody st) (defScope st) .none kV doc pm an cdv ct), osl⟩) (c : PySem.W.codeIn K cdv x = true) (k : PySem.W.keepIn K (.ref f) = true) : DefIn K x st := ⟨f, oc, od, kV, doc, pm, an, cdv, ct, osl, a, l, c, k⟩
theorem dn_of {K : PySem.W.Frag} {h : Heap} {mg : Str → Option Value} (X : K.In h) (G : h.Ns mainGlobals mg) {x : Str} {st : Stmt} {ps : List Str} (d : DefIn K x st)
    (hb : ∀ (kV doc pm : Value) (an : Option Addr) (cdv ct : Value) (us : List Value), us.length = ps.length → bindArgs (PySem.W.fnOf x x (defArgs st) (defBody st) (defScope st) .none kV doc pm an cdv ct) ⟨us, []⟩ = pure (ps.zip us)) :
    ∃ f fd, Dn K mg x st ps f fd := by
  obtain ⟨f, oc, od, kV, doc, pm, an, cdv, ct, osl, a, l, c, k⟩ := d
  have F := fun_mk (st := st) l c k
  exact ⟨f, _, F, F.binds hb, PySem.W.mg_of X G a⟩

/-! ### the built-ins that no module's name hides -/
structure Blt (mg : Str → Option Value) : Prop where
  len : mg "len" = none
  range : mg "range" = none
  ty_list : mg "list" = none
  ty_tuple : mg "tuple" = none
  ty_int : mg "int" = none
  ty_bool : mg "bool" = none
  ty_str : mg "str" = none
  ty_dict : mg "dict" = none
  ty_ValueError : mg "ValueError" = none
  sorted : mg "sorted" = none
  isinstance : mg "isinstance" = none
  abs : mg "abs" = none
  all : mg "all" = none
  any : mg "any" = none
  sum : mg "sum" = none
  min : mg "min" = none
  max : mg "max" = none
  enumerate : mg "enumerate" = none
theorem blt_of {K : PySem.W.Frag} {h : Heap} {mg : Str → Option Value} (X : K.In h) (G : h.Ns mainGlobals mg)
    (h1 : PySem.W.nsIn K mainGlobals "len" = some none) (h2 : PySem.W.nsIn K mainGlobals "range" = some none) (h3 : PySem.W.nsIn K mainGlobals "list" = some none) (h4 : PySem.W.nsIn K mainGlobals "tuple" = some none)
    (h5 : PySem.W.nsIn K mainGlobals "int" = some none) (h6 : PySem.W.nsIn K mainGlobals "bool" = some none) (h7 : PySem.W.nsIn K mainGlobals "str" = some none) (h8 : PySem.W.nsIn K mainGlobals "dict" = some none)
    (h9 : PySem.W.nsIn K mainGlobals "ValueError" = some none) (h10 : PySem.W.nsIn K mainGlobals "sorted" = some none) (h11 : PySem.W.nsIn K mainGlobals "isinstance" = some none) (h12 : PySem.W.nsIn K mainGlobals "abs" = some none)
    (h13 : PySem.W.nsIn K mainGlobals "all" = some none) (h14 : PySem.W.nsIn K mainGlobals "any" = some none) (h15 : PySem.W.nsIn K mainGlobals "sum" = some none) (h16 : PySem.W.nsIn K mainGlobals "min" = some none)
    (h17 : PySem.W.nsIn K mainGlobals "max" = some none) (h18 : PySem.W.nsIn K mainGlobals "enumerate" = some none) : Blt mg :=
  ⟨PySem.W.mg_none_of X G h1, PySem.W.mg_none_of X G h2, PySem.W.mg_none_of X G h3, PySem.W.mg_none_of X G h4, PySem.W.mg_none_of X G h5, PySem.W.mg_none_of X G h6, PySem.W.mg_none_of X G h7, PySem.W.mg_none_of X G h8, PySem.W.mg_none_of X G h9,
    PySem.W.mg_none_of X G h10, PySem.W.mg_none_of X G h11, PySem.W.mg_none_of X G h12, PySem.W.mg_none_of X G h13, PySem.W.mg_none_of X G h14, PySem.W.mg_none_of X G h15, PySem.W.mg_none_of X G h16, PySem.W.mg_none_of X G h17, PySem.W.mg_none_of X G h18⟩
end Kin

set_option Elab.async false
set_option linter.all false
set_option maxRecDepth 100000
set_option maxHeartbeats 4000000
/-! M0: turnings, as plain lists -/
namespace Kin
open PySem L2

def rgI (n : Nat) : List Int := (List.range n).map fun i : Nat => (i : Int)
theorem rgI_len (n : Nat) : (rgI n).length = n := by simp [rgI]
theorem rgI_get {n i : Nat} (h : i < n) : (rgI n)[i]? = some (i : Int) := by
  simp [rgI, h]
theorem mem_rgI {n : Nat} {x : Int} : x ∈ rgI n ↔ 0 ≤ x ∧ x < n := by
  unfold rgI
  rw [List.mem_map]
  constructor
  · rintro ⟨a, ha, rfl⟩
    have := List.mem_range.mp ha
    omega
  · rintro ⟨h0, h1⟩
    exact ⟨x.toNat, List.mem_range.mpr (by omega), by omega⟩
theorem rgI_sorted (n : Nat) : (rgI n).Pairwise (· ≤ ·) := by
  unfold rgI
  rw [List.pairwise_map]
  exact List.pairwise_lt_range.imp (fun h => by omega)
theorem rgI_nodup (n : Nat) : (rgI n).Nodup := by
  unfold rgI List.Nodup
  rw [List.pairwise_map]
  exact List.pairwise_lt_range.imp (fun h => by omega)

/-- a turning -/
structure Turn (ns : List Int) : Prop where
  nd : ns.Nodup
  lo : ∀ x ∈ ns, 0 ≤ x ∧ x < (ns.length : Int)

theorem perm_of_sub {l m : List Int} (hn : l.Nodup) (hs : ∀ x ∈ l, x ∈ m) (hl : m.length ≤ l.length) : l.Perm m := by
  induction l generalizing m with
  | nil =>
    have : m = [] := List.eq_nil_of_length_eq_zero (by simpa using hl)
    subst this
    exact List.Perm.refl _
  | cons x r ih =>
    have hx : x ∈ m := hs x List.mem_cons_self
    obtain ⟨h1, h2⟩ := List.nodup_cons.mp hn
    have hp : m.Perm (x :: m.erase x) := List.perm_cons_erase hx
    refine List.Perm.trans (List.Perm.cons x (ih (m := m.erase x) h2 (fun y hy => ?_) ?_)) hp.symm
    · have hne : y ≠ x := fun e => h1 (e ▸ hy)
      exact (List.mem_erase_of_ne hne).mpr (hs y (List.mem_cons_of_mem _ hy))
    · have := hp.length_eq
      simp only [List.length_cons] at this hl
      omega
theorem Turn.perm {ns : List Int} (t : Turn ns) : ns.Perm (rgI ns.length) :=
  perm_of_sub t.nd (fun x hx => mem_rgI.mpr (t.lo x hx)) (by rw [rgI_len]; exact Nat.le_refl _)
theorem turn_of_perm {ns : List Int} {n : Nat} (h : ns.Perm (rgI n)) : Turn ns := by
  have hl : ns.length = n := by rw [h.length_eq, rgI_len]
  refine ⟨h.symm.nodup (rgI_nodup n), fun x hx => ?_⟩
  rw [hl]
  exact mem_rgI.mp (h.mem_iff.mp hx)
theorem turn_iff {ns : List Int} : Turn ns ↔ ns.Perm (rgI ns.length) := ⟨Turn.perm, turn_of_perm⟩

def okAt (n : Nat) : List Int → List Int → Bool
  | _, [] => true
  | seen, x :: r => if x < 0 ∨ (n : Int) ≤ x ∨ x ∈ seen then false else okAt n (seen ++ [x]) r
def isTurn (ns : List Int) : Bool := okAt ns.length [] ns
theorem okAt_iff {n : Nat} : ∀ (r seen : List Int), okAt n seen r = true ↔ (∀ x ∈ r, 0 ≤ x ∧ x < (n : Int) ∧ ¬ x ∈ seen) ∧ r.Nodup
  | [], seen => by simp [okAt]
  | x :: r, seen => by
    unfold okAt
    by_cases h : x < 0 ∨ (n : Int) ≤ x ∨ x ∈ seen
    · rw [if_pos h]
      refine ⟨fun z => (nomatch z), fun z => ?_⟩
      have := z.1 x List.mem_cons_self
      rcases h with h | h | h
      · omega
      · omega
      · exact absurd h this.2.2
    · rw [if_neg h, okAt_iff r (seen ++ [x])]
      constructor
      · rintro ⟨h1, h2⟩
        refine ⟨fun y hy => ?_, List.nodup_cons.mpr ⟨fun hx => (h1 x hx).2.2 (by simp), h2⟩⟩
        rcases List.mem_cons.mp hy with rfl | hy
        · exact ⟨by omega, by omega, fun z => h (.inr (.inr z))⟩
        · have := h1 y hy
          exact ⟨this.1, this.2.1, fun z => this.2.2 (by simp [z])⟩
      · rintro ⟨h1, h2⟩
        obtain ⟨h3, h4⟩ := List.nodup_cons.mp h2
        refine ⟨fun y hy => ?_, h4⟩
        have := h1 y (List.mem_cons_of_mem _ hy)
        refine ⟨this.1, this.2.1, fun z => ?_⟩
        rcases List.mem_append.mp z with z | z
        · exact this.2.2 z
        · have e : y = x := by simpa using z
          exact h3 (e ▸ hy)
theorem isTurn_iff {ns : List Int} : isTurn ns = true ↔ Turn ns := by
  unfold isTurn
  rw [okAt_iff]
  constructor
  · rintro ⟨h1, h2⟩
    exact ⟨h2, fun x hx => ⟨(h1 x hx).1, (h1 x hx).2.1⟩⟩
  · rintro ⟨h1, h2⟩
    exact ⟨fun x hx => ⟨(h2 x hx).1, (h2 x hx).2, by simp⟩, h1⟩
/-- a sorted row is the rising one just where it is a turning -/
theorem sorted_full {ns ns' : List Int} (hp : ns'.Perm ns) (hs : ns'.Pairwise (· ≤ ·)) : decide (ns' = rgI ns.length) = isTurn ns := by
  by_cases h : Turn ns
  · rw [isTurn_iff.mpr h]
    exact decide_eq_true (PySem.W.ksm_same (hp.trans h.perm) hs (rgI_sorted _))
  · have h1 : isTurn ns = false := by
      cases e : isTurn ns with
      | false => rfl
      | true => exact absurd (isTurn_iff.mp e) h
    rw [h1]
    refine decide_eq_false fun e => h ?_
    exact turn_of_perm (e ▸ hp.symm)

/-! ### what a law draws -/
def cell (ns : List Int) (k : Nat) : Int := ns.getD k 0
def seed (c : Int) : Int :=
  if (if c < 0 then -c else c) < 10 ^ 18 then
    (((c * 48271 + 11) % 2147483647) * ((c * 48271 + 11) % 2147483647) + 40692 * ((c * 48271 + 11) % 2147483647) + c) % 2147483399
      + 2147483399 * (((((c * 48271 + 11) % 2147483647) * ((c * 48271 + 11) % 2147483647) + 40692 * ((c * 48271 + 11) % 2147483647) + c) % 2147483399 * 16807 + (c * 48271 + 11) % 2147483647) % 1000000007 + 1000000007 * ((c * 48271 + 11) % 2147483647))
  else (if c < 0 then -c else c) - 10 ^ 18
def drawn : Int → List Int → List Int
  | _, [] => []
  | s, p :: r => s % p :: drawn (s / p) r
def draws (c : Int) (ps : List Int) : List Int := drawn (seed c) ps
theorem drawn_len : ∀ (s : Int) (ps : List Int), (drawn s ps).length = ps.length
  | _, [] => rfl
  | s, p :: r => by simp [drawn, drawn_len (s / p) r]
theorem draws_len (c : Int) (ps : List Int) : (draws c ps).length = ps.length := drawn_len _ _
theorem drawn_get : ∀ (s : Int) (ps : List Int) (i : Nat) (p : Int), ps[i]? = some p → 0 < p → ∃ d, (drawn s ps)[i]? = some d ∧ 0 ≤ d ∧ d < p
  | _, [], i, p, h, _ => by simp at h
  | s, q :: r, 0, p, h, hp => by
    have e : q = p := Option.some.inj h
    subst e
    exact ⟨s % q, rfl, Int.emod_nonneg _ (by omega), Int.emod_lt_of_pos _ hp⟩
  | s, q :: r, i + 1, p, h, hp => drawn_get (s / q) r i p h hp
theorem draws_get {c : Int} {ps : List Int} {i : Nat} {p : Int} (h : ps[i]? = some p) (hp : 0 < p) : ∃ d, (draws c ps)[i]? = some d ∧ 0 ≤ d ∧ d < p := drawn_get _ _ _ _ h hp
/-- what is left of the number behind i draws -/
def rest (s : Int) : List Int → Int
  | [] => s
  | p :: r => rest (s / p) r
theorem rest_snoc : ∀ (s : Int) (ps : List Int) (p : Int), rest s (ps ++ [p]) = rest s ps / p
  | _, [], _ => rfl
  | s, q :: r, p => rest_snoc (s / q) r p
theorem drawn_snoc : ∀ (s : Int) (ps : List Int) (p : Int), drawn s (ps ++ [p]) = drawn s ps ++ [rest s ps % p]
  | _, [], _ => rfl
  | s, q :: r, p => by
    show s % q :: drawn (s / q) (r ++ [p]) = s % q :: (drawn (s / q) r ++ [rest (s / q) r % p])
    rw [drawn_snoc]

/-- the turning of a number: one of the free ones by each rest -/
def picks : Nat → List Int → Int → List Int
  | 0, _, _ => []
  | n + 1, free, code => free.getD (code % ((n : Int) + 1)).toNat 0 :: picks n (free.eraseIdx (code % ((n : Int) + 1)).toNat) (code / ((n : Int) + 1))
def turnOf (code : Int) (n : Nat) : List Int := picks n (rgI n) code
theorem perm_erase : ∀ (l : List Int) (i : Nat) (h : i < l.length), l.Perm (l[i] :: l.eraseIdx i)
  | x :: r, 0, _ => List.Perm.refl _
  | x :: r, i + 1, h => by
    have h' : i < r.length := by simpa using h
    have ih := perm_erase r i h'
    show (x :: r).Perm (r[i] :: x :: r.eraseIdx i)
    exact (List.Perm.cons x ih).trans (List.Perm.swap _ _ _)
theorem picks_perm : ∀ (n : Nat) (free : List Int) (code : Int), free.length = n → (picks n free code).Perm free
  | 0, free, code, h => by
    have : free = [] := List.eq_nil_of_length_eq_zero h
    subst this
    exact List.Perm.refl _
  | n + 1, free, code, h => by
    have h0 : 0 ≤ code % ((n : Int) + 1) := Int.emod_nonneg _ (by omega)
    have h1 : code % ((n : Int) + 1) < (n : Int) + 1 := Int.emod_lt_of_pos _ (by omega)
    have hi : (code % ((n : Int) + 1)).toNat < free.length := by omega
    have hl : (free.eraseIdx (code % ((n : Int) + 1)).toNat).length = n := by
      rw [List.length_eraseIdx_of_lt hi]
      omega
    unfold picks
    rw [List.getD_eq_getElem?_getD, List.getElem?_eq_getElem hi]
    exact (List.Perm.cons _ (picks_perm n _ _ hl)).trans (perm_erase free _ hi).symm
theorem turnOf_perm (code : Int) (n : Nat) : (turnOf code n).Perm (rgI n) := picks_perm n _ code (rgI_len n)
theorem turnOf_len (code : Int) (n : Nat) : (turnOf code n).length = n := by rw [(turnOf_perm code n).length_eq, rgI_len]
theorem turnOf_turn (code : Int) (n : Nat) : Turn (turnOf code n) := turn_of_perm (turnOf_perm code n)

/-! ### data -/
theorem eqvAll_ints : ∀ ns ms : List Int, PyData.eqvAll (ns.map PyData.int) (ms.map PyData.int) = decide (ns = ms)
  | [], [] => by simp [PyData.eqvAll]
  | [], y :: ys => by simp [PyData.eqvAll]
  | x :: xs, [] => by simp [PyData.eqvAll]
  | x :: xs, y :: ys => by
    show PyData.eqvAll (PyData.int x :: xs.map PyData.int) (PyData.int y :: ys.map PyData.int) = _
    rw [PyData.eqvAll, eqvAll_ints xs ys, PyData.eqv]
    by_cases h : x = y <;> by_cases h2 : xs = ys <;> simp [h, h2]
theorem eqv_listI (ns ms : List Int) : PyData.eqv (.list (ns.map PyData.int)) (.list (ms.map PyData.int)) = decide (ns = ms) := by
  rw [PyData.eqv, eqvAll_ints]
theorem eqv_tupI (ns ms : List Int) : PyData.eqv (.tuple (ns.map PyData.int)) (.tuple (ms.map PyData.int)) = decide (ns = ms) := by
  rw [PyData.eqv, eqvAll_ints]
end Kin

set_option Elab.async false
set_option linter.all false
set_option maxRecDepth 100000
set_option maxHeartbeats 4000000
/-! B1: lists of numbers as values and as data -/
namespace Kin
open PySem PySem.Spec PyProof.Rows L2
theorem rgV_int (n : Nat) : rgV 0 (n : Int) = (rgI n).map V.int := by
  unfold rgV rgI
  rw [List.map_map, show ((n : Int) - 0).toNat = n by omega]
  refine List.map_congr_left fun i _ => ?_
  show V.int (0 + (i : Int)) = V.int (i : Int)
  rw [Int.zero_add]
theorem rg_ok {n : Nat} (h : n ≤ 1000) : RgOk 0 (n : Int) := RgOk.of_le (by omega) (by omega) (by omega) (by omega)
theorem int_at {ns : List Int} {i : Nat} {y : V} (h : (ns.map V.int)[i]? = some y) : ∃ z, ns[i]? = some z ∧ y = V.int z := by
  rw [List.getElem?_map] at h
  cases e : ns[i]? with
  | none => rw [e] at h; cases h
  | some z => rw [e] at h; exact ⟨z, rfl, (Option.some.inj h).symm⟩
theorem at_int {ns : List Int} {i : Int} {z : Int} (h0 : 0 ≤ i) (h : ns[i.toNat]? = some z) : atI (ns.map V.int) i = some (V.int z) := by
  have e : i = ((i.toNat : Nat) : Int) := by omega
  rw [e]
  refine atI_nat ?_
  rw [List.getElem?_map, h]
  rfl
theorem at_V {xs : List V} {i : Int} {z : V} (h0 : 0 ≤ i) (h : xs[i.toNat]? = some z) : atI xs i = some z := by
  have e : i = ((i.toNat : Nat) : Int) := by omega
  rw [e]
  exact atI_nat h
theorem ixN_in {n : Nat} {i : Int} (h0 : 0 ≤ i) (h1 : i < n) : ixN n i = some i.toNat := by
  unfold ixN
  rw [if_pos h0, if_pos h1]
theorem seqIx_in {n : Nat} {i : Int} (h0 : 0 ≤ i) (h1 : i < n) : seqIndex? i n = some i.toNat := (ixN_seq (ixN_in h0 h1)).1
theorem getD_some {ns : List Int} {i : Nat} (h : i < ns.length) : ns[i]? = some (ns.getD i 0) := by
  rw [List.getD_eq_getElem?_getD, List.getElem?_eq_getElem h]
  rfl
theorem set_ints (ns : List Int) (j : Nat) (z : Int) : (ns.map V.int).set j (V.int z) = (ns.set j z).map V.int := by rw [List.map_set]
theorem erase_ints (ns : List Int) (j : Nat) : (ns.map V.int).eraseIdx j = (ns.eraseIdx j).map V.int := by
  induction ns generalizing j with
  | nil => rfl
  | cons x r ih =>
    cases j with
    | zero => rfl
    | succ j =>
      show V.int x :: (r.map V.int).eraseIdx j = V.int x :: (r.eraseIdx j).map V.int
      rw [ih]
theorem snoc_ints (ns : List Int) (z : Int) : ns.map V.int ++ [V.int z] = (ns ++ [z]).map V.int := by rw [List.map_append]; rfl

theorem cut63 (ns : List Int) : cutV (ns.map V.int) none (some 63) = (ns.take 63).map V.int := by
  unfold cutV
  rw [HT.sIx_none, show HT.sIx (ns.map V.int).length (ns.map V.int).length (some 63) = min 63 (ns.map V.int).length from HT.sIx_nat _ _ 63]
  rw [List.drop_zero, List.map_take, Nat.sub_zero, List.take_eq_take_iff]
  omega

/-! ### as data -/
theorem dpAll_ints {K : PySem.W.Frag} {H : Hp} : ∀ ns : List Int, DpAll K H (ns.map V.int) (ns.map PyData.int)
  | [] => .nil
  | x :: r => .cons (.int x) (dpAll_ints r)
theorem dp_listI {K : PySem.W.Frag} {H : Hp} {a : Addr} {ns : List Int} (h : SqL K H a (ns.map V.int)) : Dp K H (.ref a) (.list (ns.map PyData.int)) := .lst h (dpAll_ints ns)
theorem dp_tupI {K : PySem.W.Frag} {H : Hp} {a : Addr} {ns : List Int} (h : SqT K H a (ns.map V.int)) : Dp K H (.ref a) (.tuple (ns.map PyData.int)) := .tup h (dpAll_ints ns)
theorem canLayAll_ints : ∀ ns : List Int, PyData.canLayAll0 (ns.map PyData.int) = true
  | [] => by simp [PyData.canLayAll0]
  | x :: r => by
    show PyData.canLayAll0 (PyData.int x :: r.map PyData.int) = true
    rw [PyData.canLayAll0, canLayAll_ints r, PyData.canLay0]
    rfl
theorem depthAll_ints : ∀ ns : List Int, PyData.depthAll (ns.map PyData.int) = 0
  | [] => by simp [PyData.depthAll]
  | x :: r => by
    show PyData.depthAll (PyData.int x :: r.map PyData.int) = 0
    rw [PyData.depthAll, depthAll_ints r, PyData.depth]
    rfl
theorem shaped_listI (ns : List Int) : SeqAt.shaped (.list (ns.map PyData.int)) = true := by
  unfold SeqAt.shaped
  rw [PyData.canLay0, canLayAll_ints, PyData.depth, depthAll_ints]
  rfl
theorem shaped_tupI (ns : List Int) : SeqAt.shaped (.tuple (ns.map PyData.int)) = true := by
  unfold SeqAt.shaped
  rw [PyData.canLay0, canLayAll_ints, PyData.depth, depthAll_ints]
  rfl
end Kin

set_option Elab.async false
set_option linter.all false
set_option maxRecDepth 100000
set_option maxHeartbeats 4000000
/-! B3: two values that are alike as data; a def that is never called; data's kinds -/
namespace Kin
open PySem PySem.Spec PyProof.Rows L2
theorem ix_seqK {X : Cx} (K : PySem.W.Frag) (h : X.K = K := by rfl) : IxR X (rIx K) := by subst h; exact ix_seq
/-- alike: no more than n lists or tuples within one another -/
inductive Alike (K : PySem.W.Frag) (H : Hp) : Nat → V → V → Prop
  | non {n : Nat} : Alike K H n .non .non
  | bl {n : Nat} (b : Bool) : Alike K H n (.bl b) (.bl b)
  | int {n : Nat} (i : Int) : Alike K H n (.int i) (.int i)
  | str {n : Nat} (z : Str) : Alike K H n (.str z) (.str z)
  | lst {n : Nat} {a b : Addr} {xs ys : List V} (ha : SqL K H a xs) (hb : SqL K H b ys) (hl : xs.length = ys.length) (hz : xs.length ≤ 1000)
      (h : ∀ (i : Nat) (x y : V), xs[i]? = some x → ys[i]? = some y → Alike K H n x y) : Alike K H (n + 1) (.ref a) (.ref b)
  | tup {n : Nat} {a b : Addr} {xs ys : List V} (ha : SqT K H a xs) (hb : SqT K H b ys) (hl : xs.length = ys.length) (hz : xs.length ≤ 1000)
      (h : ∀ (i : Nat) (x y : V), xs[i]? = some x → ys[i]? = some y → Alike K H n x y) : Alike K H (n + 1) (.ref a) (.ref b)
theorem Alike.same {K : PySem.W.Frag} {H H' : Hp} (s : Same H H') {n : Nat} {x y : V} (h : Alike K H n x y) : Alike K H' n x y := by
  induction h with
  | non => exact .non
  | bl b => exact .bl b
  | int i => exact .int i
  | str z => exact .str z
  | lst ha hb hl hz _ ih => exact .lst (s.seq ha) (s.seq hb) hl hz ih
  | tup ha hb hl hz _ ih => exact .tup (same_seqT s ha) (same_seqT s hb) hl hz ih
theorem alike_ints {K : PySem.W.Frag} {H : Hp} {n : Nat} {ns : List Int} : ∀ (i : Nat) (x y : V), (ns.map V.int)[i]? = some x → (ns.map V.int)[i]? = some y → Alike K H n x y := fun i x y h1 h2 => by
  obtain ⟨z, hz, rfl⟩ := int_at h1
  rw [h1] at h2
  cases h2
  exact .int z
theorem alike_tupI {K : PySem.W.Frag} {H : Hp} {n : Nat} {a b : Addr} {ns : List Int} (ha : SqT K H a (ns.map V.int)) (hb : SqT K H b (ns.map V.int)) (hz : ns.length ≤ 1000) : Alike K H (n + 1) (.ref a) (.ref b) :=
  .tup ha hb rfl (by rw [List.length_map]; exact hz) alike_ints
theorem alike_lstI {K : PySem.W.Frag} {H : Hp} {n : Nat} {a b : Addr} {ns : List Int} (ha : SqL K H a (ns.map V.int)) (hb : SqL K H b (ns.map V.int)) (hz : ns.length ≤ 1000) : Alike K H (n + 1) (.ref a) (.ref b) :=
  .lst ha hb rfl (by rw [List.length_map]; exact hz) alike_ints
theorem alike_1 {K : PySem.W.Frag} {H : Hp} {n : Nat} {x y : V} (h : Alike K H n x y) : ∀ (i : Nat) (u v : V), [x][i]? = some u → [y][i]? = some v → Alike K H n u v := fun i u v h1 h2 => by
  match i, h1, h2 with
  | 0, h1, h2 => cases h1; cases h2; exact h
  | i + 1, h1, _ => simp at h1
theorem alike_more {K : PySem.W.Frag} {H : Hp} {n : Nat} {x y : V} {xs ys : List V} (h : Alike K H n x y) (hr : ∀ (i : Nat) (u v : V), xs[i]? = some u → ys[i]? = some v → Alike K H n u v) :
    ∀ (i : Nat) (u v : V), (x :: xs)[i]? = some u → (y :: ys)[i]? = some v → Alike K H n u v := fun i u v h1 h2 => by
  match i, h1, h2 with
  | 0, h1, h2 => cases h1; cases h2; exact h
  | i + 1, h1, h2 => exact hr i u v h1 h2
theorem alike_0 {K : PySem.W.Frag} {H : Hp} {n : Nat} : ∀ (i : Nat) (u v : V), ([] : List V)[i]? = some u → ([] : List V)[i]? = some v → Alike K H n u v := fun i u v h1 _ => by simp at h1
theorem tyL {K : PySem.W.Frag} {H : Hp} {a : Addr} {xs : List V} (h : SqL K H a xs) : TyX K H (.ref a) (.type "list") := by
  rcases h with (h | ⟨o, h⟩) | ⟨o, _, _, h, c, _⟩
  · exact .base (.lst h)
  · exact .base (.frz h)
  · exact .kList h c
theorem tyT {K : PySem.W.Frag} {H : Hp} {a : Addr} {xs : List V} (h : SqT K H a xs) : TyX K H (.ref a) (.type "tuple") := by
  rcases h with (h | ⟨o, h⟩) | ⟨o, _, _, h, c, _⟩
  · exact .base (.tup h)
  · exact .fTuple h
  · exact .kTuple h c
/-- a def of which nothing is promised -/
theorem fn_never {P : Program} {w : World} {K : PySem.W.Frag} {mg : Str → Option Value} {base : Heap} {CX : CXT} {f : Addr} {fd : FuncData} {ps : List Str} : FnOk P w K mg base CX 0 f fd ps (fun _ _ _ _ => False) :=
  ⟨fun _ _ _ _ h => h.elim, fun _ _ _ _ _ _ _ _ _ _ _ _ _ h => h.elim⟩
end Kin

set_option Elab.async false
set_option linter.all false
set_option maxRecDepth 100000
set_option maxHeartbeats 4000000
/-! M1: one turning behind another -/
namespace Kin
open PySem L2
def after (ns ms : List Int) : List Int := ns.map fun z => ms.getD z.toNat 0
theorem after_snoc (ns ms : List Int) (z : Option Int) : after (ns ++ z.toList) ms = after ns ms ++ (after z.toList ms) := by unfold after; rw [List.map_append]
theorem after_len (ns ms : List Int) : (after ns ms).length = ns.length := by unfold after; rw [List.length_map]
theorem map_getD_range (ms : List Int) : (rgI ms.length).map (fun z => ms.getD z.toNat 0) = ms := by
  refine List.ext_getElem? fun i => ?_
  rw [List.getElem?_map]
  by_cases h : i < ms.length
  · rw [rgI_get h, Option.map_some, Int.toNat_natCast, List.getElem?_eq_getElem h, List.getD_eq_getElem?_getD, List.getElem?_eq_getElem h]
    rfl
  · rw [List.getElem?_eq_none (by rw [rgI_len]; omega), List.getElem?_eq_none (by omega)]
    rfl
/-- all stay, then a turning -/
theorem after_still_l (ms : List Int) : after (rgI ms.length) ms = ms := map_getD_range ms
/-- a turning, then all stay -/
theorem after_still_r {ns : List Int} (t : Turn ns) : after ns (rgI ns.length) = ns := by
  unfold after
  refine (List.map_congr_left fun z hz => ?_).trans (List.map_id ns)
  have := t.lo z hz
  rw [List.getD_eq_getElem?_getD, rgI_get (by omega)]
  show ((z.toNat : Nat) : Int) = z
  omega
theorem after_turn {ns ms : List Int} (tn : Turn ns) (tm : Turn ms) (hl : ns.length = ms.length) : Turn (after ns ms) := by
  have h1 : (after ns ms).Perm ((rgI ns.length).map fun z => ms.getD z.toNat 0) := tn.perm.map _
  rw [hl, map_getD_range] at h1
  exact turn_of_perm (h1.trans tm.perm)
end Kin

set_option Elab.async false
set_option linter.all false
set_option maxRecDepth 100000
set_option maxHeartbeats 4000000
/-! M2: the turning back -/
namespace Kin
open PySem L2
def ixOf : List Int → Int → Nat
  | [], _ => 0
  | x :: r, z => if x = z then 0 else ixOf r z + 1
theorem ixOf_get : ∀ {ns : List Int} {z : Int}, z ∈ ns → ns[ixOf ns z]? = some z
  | [], _, h => by cases h
  | x :: r, z, h => by
    unfold ixOf
    by_cases e : x = z
    · rw [if_pos e, ← e]
      rfl
    · rw [if_neg e]
      have : z ∈ r := by
        rcases List.mem_cons.mp h with q | q
        · exact absurd q.symm e
        · exact q
      exact ixOf_get this
theorem ixOf_first : ∀ {ns : List Int} {z : Int} (m : Nat), m < ixOf ns z → ns[m]? ≠ some z
  | [], _, m, h => by simp
  | x :: r, z, m, h => by
    unfold ixOf at h
    by_cases e : x = z
    · rw [if_pos e] at h
      omega
    · rw [if_neg e] at h
      match m with
      | 0 => exact fun q => e (Option.some.inj q)
      | m + 1 => exact ixOf_first (ns := r) m (by omega)
theorem ixOf_lt {ns : List Int} {z : Int} (h : z ∈ ns) : ixOf ns z < ns.length := (List.getElem?_eq_some_iff.mp (ixOf_get h)).1
theorem ixOf_of {ns : List Int} (hn : ns.Nodup) {z : Int} {j : Nat} (h : ns[j]? = some z) : ixOf ns z = j := nd_ix hn (ixOf_get (List.mem_of_getElem? h)) h
def inv (ns : List Int) : List Int := (rgI ns.length).map fun z => (ixOf ns z : Int)
theorem inv_len (ns : List Int) : (inv ns).length = ns.length := by unfold inv; rw [List.length_map, rgI_len]
theorem inv_at {ns : List Int} {i : Nat} (h : i < ns.length) : (inv ns)[i]? = some ((ixOf ns (i : Int) : Nat) : Int) := by
  unfold inv
  rw [List.getElem?_map, rgI_get h]
  rfl
theorem Turn.mem {ns : List Int} (t : Turn ns) {z : Int} (h0 : 0 ≤ z) (h1 : z < (ns.length : Int)) : z ∈ ns := t.perm.mem_iff.mpr (mem_rgI.mpr ⟨h0, h1⟩)
theorem Turn.inv_of {ns : List Int} (t : Turn ns) {j : Nat} {z : Int} (h : ns[j]? = some z) : (inv ns)[z.toNat]? = some (j : Int) := by
  have hz := t.lo z (List.mem_of_getElem? h)
  rw [inv_at (by omega), show ((z.toNat : Nat) : Int) = z by omega, ixOf_of t.nd h]
theorem inv_turn {ns : List Int} (t : Turn ns) : Turn (inv ns) := by
  refine ⟨?_, fun x hx => ?_⟩
  · unfold inv List.Nodup
    rw [List.pairwise_map]
    refine List.Pairwise.imp_of_mem (R := fun a b => a ≠ b) (fun {x y} hx hy hne e => hne ?_) (rgI_nodup ns.length)
    obtain ⟨x0, x1⟩ := mem_rgI.mp hx
    obtain ⟨y0, y1⟩ := mem_rgI.mp hy
    have e2 : ixOf ns x = ixOf ns y := by omega
    have h1 := ixOf_get (t.mem x0 x1)
    rw [e2, ixOf_get (t.mem y0 y1)] at h1
    exact (Option.some.inj h1).symm
  · rw [inv_len]
    unfold inv at hx
    obtain ⟨z, hz, rfl⟩ := List.mem_map.mp hx
    obtain ⟨z0, z1⟩ := mem_rgI.mp hz
    have := ixOf_lt (t.mem z0 z1)
    omega
theorem inv_inv {ns : List Int} (t : Turn ns) : inv (inv ns) = ns := by
  refine List.ext_getElem? fun i => ?_
  by_cases h : i < ns.length
  · rw [inv_at (by rw [inv_len]; exact h)]
    obtain ⟨z, hz⟩ : ∃ z, ns[i]? = some z := ⟨ns[i], List.getElem?_eq_getElem h⟩
    have hz2 := t.lo z (List.mem_of_getElem? hz)
    rw [ixOf_of (inv_turn t).nd (t.inv_of hz), hz, show ((z.toNat : Nat) : Int) = z by omega]
  · rw [List.getElem?_eq_none (by rw [inv_len, inv_len]; omega), List.getElem?_eq_none (by omega)]
theorem getD_of {ns : List Int} {i : Nat} {z : Int} (h : ns[i]? = some z) : ns.getD i 0 = z := by
  rw [List.getD_eq_getElem?_getD, h]
  rfl
/-- a turning and then back -/
theorem after_inv {ns : List Int} (t : Turn ns) : after ns (inv ns) = rgI ns.length := by
  refine List.ext_getElem? fun i => ?_
  unfold after
  rw [List.getElem?_map]
  by_cases h : i < ns.length
  · obtain ⟨z, hz⟩ : ∃ z, ns[i]? = some z := ⟨ns[i], List.getElem?_eq_getElem h⟩
    rw [hz, Option.map_some, rgI_get h, getD_of (t.inv_of hz)]
  · rw [List.getElem?_eq_none (by omega), List.getElem?_eq_none (by rw [rgI_len]; omega)]
    rfl
theorem inv_after {ns : List Int} (t : Turn ns) : after (inv ns) ns = rgI ns.length := by
  have h := after_inv (inv_turn t)
  rw [inv_inv t, inv_len] at h
  exact h
/-- what a loop that stores each place at its number comes to -/
theorem inv_built {ns fs : List Int} (t : Turn ns) (hl : fs.length = ns.length) (h : ∀ (j : Nat) (z : Int), ns[j]? = some z → fs[z.toNat]? = some (j : Int)) : fs = inv ns := by
  refine List.ext_getElem? fun i => ?_
  by_cases hi : i < ns.length
  · have hm := t.mem (z := (i : Int)) (by omega) (by omega)
    rw [inv_at hi]
    exact h _ _ (ixOf_get hm)
  · rw [List.getElem?_eq_none (by omega), List.getElem?_eq_none (by rw [inv_len]; omega)]
end Kin

set_option Elab.async false
set_option linter.all false
set_option maxRecDepth 100000
set_option maxHeartbeats 4000000
/-! B5: enumerate of a tuple; tuple.index of numbers -/
namespace Kin
open PySem PySem.Spec PyProof.Rows L2

/-! ### enumerate(t) -/
section
variable {prog : Program} {w : World} {A : Around} {E : Value → Shared → Prop} {s : Shared}
set_option maxHeartbeats 1000000 in
theorem enum_new1 {v : Value} {o : Obj} {H : Heap → Prop} (B : Begins v o H) :
    Meets (Builtin.«enumerate.__new__» ⟨[.type "enumerate", v], []⟩) (fun _ R s => H s.heap ∧
      R (.ok (.ret (.ref (s.heap.push o).objs.size))) { s with heap := (s.heap.push o).push { cls := .type "enumerate", data := .fields #[.none, .bool false, .ref s.heap.objs.size, rawInt 0, .none, .none] } }) :=
  .of_wp fun prog w A R s h => by
    obtain ⟨hp, g, d, tk, os⟩ := s; obtain ⟨h1, h⟩ := h
    have hsub := sub_enumerate
    have q1 : ∀ {A' : Around} {E : Value → Shared → Prop} {Q : Value → Shared → Prop}, Q (.ref hp.objs.size) ⟨hp.push o, g, d, tk, os⟩ → wpAny (model prog w) A' (pyIter v) Q E ⟨hp, g, d, tk, os⟩ :=
      fun q => B.iter prog w _ _ ⟨hp, g, d, tk, os⟩ _ h1 q
    wp_walk using q1
    refine wpAny_stack_any fun st => wpAny_pure ?_
    split
    · rename_i c _ _ _ _ _
      cases (c == Value.type "enumerate")
      · wp_walk using q1
        exact ⟨_, rfl, h⟩
      · wp_walk using q1
        exact ⟨_, rfl, h⟩
    · wp_walk using q1
      exact ⟨_, rfl, h⟩
theorem enum_tup {t : Addr} {items : Array Value} {Q : Value → Shared → Prop} (h1 : s.heap.IsTuple t items)
    (h : ∀ h', IsEnum h' (s.heap.objs.size + 1) s.heap.objs.size 0 .none → h'.IsTupleIter s.heap.objs.size t 0 → h'.objs.size = s.heap.objs.size + 2 →
      (∀ b o, s.heap.get? b = some o → h'.get? b = some o) → Q (.ref (s.heap.objs.size + 1)) { s with heap := h' }) :
    wpAny (model prog w) A (call (.type "enumerate") [.ref t]) Q E s := by
  have B := begins_tuple t items
  refine callType_new F.called_enumerate (by decide) (F.typeCall_enumerate_1 _) (F.newCall_enumerate_1 _) (fun obj => F.args_object_init_2 obj _) F.entry_enumerate_new (enum_new1 B) ⟨h1, ?_⟩
  have hz : (s.heap.push ({ cls := .type "tuple_iterator", data := .fields #[.ref t, .int 0 0] } : Obj)).objs.size = s.heap.objs.size + 1 := Heap.size_push ..
  show _ ∧ _
  rw [hz]
  have he : IsEnum ((s.heap.push ({ cls := .type "tuple_iterator", data := .fields #[.ref t, .int 0 0] } : Obj)).push
      { cls := .type "enumerate", data := .fields #[.none, .bool false, .ref s.heap.objs.size, rawInt 0, .none, .none] }) (s.heap.objs.size + 1) s.heap.objs.size 0 .none := by
    have := Heap.get?_push_size (s.heap.push ({ cls := .type "tuple_iterator", data := .fields #[.ref t, .int 0 0] } : Obj)) (o := { cls := .type "enumerate", data := .fields #[.none, .bool false, .ref s.heap.objs.size, rawInt 0, .none, .none] }) rfl
    rw [hz] at this; exact this
  exact ⟨⟨_, he, rfl⟩, h _ he ⟨_, Heap.get?_push_of_some _ (Heap.get?_push_size _ rfl), rfl, rfl⟩ (by rw [Heap.size_push, hz]) fun b o x => Heap.get?_push_of_some _ (Heap.get?_push_of_some _ x)⟩
theorem enum_end_tup {e it t : Addr} {i : Nat} {k : Int} {items : Array Value} {old : Value} {Q : Option Value → Shared → Prop} (hh : A.handled = none) (he : IsEnum s.heap e it k old) (hit : s.heap.IsTupleIter it t i) (ht : s.heap.IsTuple t items) (hx : items[i]? = none)
    (hQ : ∀ h', Heap.ExtBut it s.heap h' → Q none { s with heap := h' }) : wpAny (model prog w) A (pyNext (.ref e)) Q E s := by
  have hT : s.TypeIs (.ref e) "enumerate" := ⟨_, he, rfl⟩
  unfold pyNext
  refine wpAny_bind (wpAny_attempt (wpAny_callSpecial?_slot (name := Str.ofString "__next__") hT F.slot_enumerate_next (wpAny_call_entry F.slot_enumerate_next hT F.entry_enumerate_next ?_ (F.args_enumerate_next_1 _))))
  show wpAny _ _ (field (.ref e) 2 >>= _) _ _ _
  refine wpAny_bind (wpAny_field he rfl (x := .ref it) rfl (wpAny_bind (wpAny_nextOf_tuple_end hh hit ht hx fun h' x he' hx' => ?_)))
  obtain ⟨o, ho, hc⟩ := hx'
  exact wpAny_bind (wpAny_isInstance (T := "StopIteration") (b := true) ⟨o, ho, hc⟩ isSubtype_stop (wpAny_pure (hQ _ he')))
end
/-- the tuple at a, each item in a new pair -/
def IteT (K : PySem.W.Frag) (a : Addr) : It :=
  ⟨fun i H => ∃ (xs : List V) (x : V), SqT K H a xs ∧ xs[i]? = some x, fun i H v H' => ∃ T x, v = .ref T ∧ H T = none ∧ H' = upd H T (.tup [.int (i : Nat), x]) ∧ ∀ xs, SqT K H a xs → xs[i]? = some x, fun i H => ∃ xs : List V, SqT K H a xs ∧ xs.length ≤ i⟩
theorem turn_enumT {P : Program} {w : World} {K : PySem.W.Frag} {elts : List Expr} {kk : Nat} {tpos : Pos} (a e it : Addr) :
    L2.Turn P w K (.Tuple elts kk tpos) (IteT K a) [e, it] e (fun i h => (∃ old, IsEnum h e it ((i : Nat) : Int) old) ∧ h.IsTupleIter it a i ∧ e ≠ it ∧ a ≠ it ∧ a ≠ e) where
  mem := by simp
  obj := fun i h st b hb => by
    obtain ⟨⟨old, he⟩, ⟨o, ho, hc, hd⟩, _⟩ := st
    have e' : b = e ∨ b = it := by simpa using hb
    rcases e' with z | z
    · rw [z]; exact ⟨_, he, fun v q => nomatch q⟩
    · rw [z]; exact ⟨o, ho, fun v q => by rw [hd] at q; cases q⟩
  keep := fun i h h' st k => let ⟨⟨old, he⟩, hi, hne⟩ := st; ⟨⟨old, k e (by simp) _ he⟩, hi.at fun o q => k it (by simp) o q, hne⟩
  item := by
    intro X hP hw hK hc i pins s σ H E I hf st hg
    subst hP hw hK
    obtain ⟨⟨old, he⟩, hit, hne, hai, hae⟩ := st
    obtain ⟨xs, x, hq, hx⟩ := hg
    obtain ⟨its, rv, p, hz⟩ := I.tuple hq
    obtain ⟨u, hu, ru⟩ := rv.get hx
    have hel : e < s.heap.objs.size := Heap.lt_size he
    have hil : it < s.heap.objs.size := by obtain ⟨_, q, _⟩ := hit; exact Heap.lt_size q
    have hi : i < its.toArray.size := by
      have := (List.getElem?_eq_some_iff.mp hu).1
      simpa using this
    have D := Draws.tuple (prog := X.prog) (w := X.w) (A := X.A.in1) (I.ok.hd hc) it a hai its.toArray
    refine wpAny_pyNext_enum_itemD D he ⟨hit, p⟩ hi hne (by simp [hne, Ne.symm hae]) fun x' h' tk hP ho hst' hT hsz hk => ?_
    have ex : x' = u := by
      have q1 : its.toArray[i]? = some u := by simpa using hu
      exact Option.some.inj (hP.symm.trans q1)
    subst ex
    refine ⟨_, rfl, wpAny_letOwnedTupleGo_enum (s := { s with heap := h', toks := tk + 1 }) ho fun h'' he' sb => ?_⟩
    have hT2 : h''.get? s.heap.objs.size = some { cls := .type "tuple", data := .seq #[.int i tk, x'] } := (sb.2 _ (Nat.ne_of_gt hel)).trans hT
    have new : ObjOk X.prog X.w (upd H s.heap.objs.size (.tup [.int (i : Nat), x])) h'' s.heap.objs.size (.tup [.int (i : Nat), x]) :=
      ⟨by show 2 ≤ sizeLine; decide, [.int i tk, x'], .cons ⟨_, rfl⟩ (.cons ru .nil), ⟨_, hT2, rfl, _, rfl⟩⟩
    have I1 : Inv X pins σ (upd H s.heap.objs.size (.tup [.int (i : Nat), x])) { s with heap := h'', toks := tk + 1 } :=
      I.turnedNew (ch := [e, it]) (fun b ob hb q => (sb.2 b (fun z => hb (by simp [z]))).trans (hk b ob (fun z => hb (by simp [z])) (fun z => hb (by simp [z])) q)) hf (Nat.le_refl _) new
    refine ⟨.ref s.heap.objs.size, _, I1, rfl, ⟨_, x, rfl, I.hok.fresh (Nat.le_refl _), rfl, fun ys hy => by rw [I.tuple_inj hy hq]; exact hx⟩, ⟨⟨x', ?_⟩, hst'.1.at fun o q => (sb.2 it (Ne.symm hne)).trans q, hne, hai, hae⟩, fun b hb => ?_⟩
    · have e1 : ((i + 1 : Nat) : Int) = (i : Int) + 1 := by omega
      rw [e1]; exact he'
    · have hb' : b < s.heap.objs.size := by
        have e' : b = e ∨ b = it := by simpa using hb
        rcases e' with z | z
        · rw [z]; exact hel
        · rw [z]; exact hil
      rw [upd_ne (Nat.ne_of_lt hb')]
      exact (hf b hb).1
  done := by
    intro X hP hw hK hc i pins s σ H E I hf st hg
    subst hP hw hK
    obtain ⟨⟨old, he⟩, hit, hne, hai, hae⟩ := st
    obtain ⟨xs, hq, hx⟩ := hg
    obtain ⟨its, rv, p, hz⟩ := I.tuple hq
    obtain ⟨f0, f1, f2, f3, f4, f5⟩ := hf it (by simp)
    have hl := rv.length
    exact enum_end_tup (I.ok.hd hc) he hit p (by simp; omega) fun h' eb => ⟨rfl, I.turned (t' := s.toks) (fun b o hb q => eb b o hb q) f0 f1 f3 f4 f5⟩
  self := fun A i s Q E st h => let ⟨⟨_, he⟩, _⟩ := st; wpAny_pyIter_enum he h
def iEnumT (K : PySem.W.Frag) (ta : TA) : TI := fun σ H R => ta σ H fun vs H1 => ∃ a xs, vs = [.ref a] ∧ SqT K H1 a xs ∧ R (IteT K a) H1
theorem pi_enumT {X : Cx} {e : Expr} {ta : TA} {p pos tpos : Pos} {elts : List Expr} {kk : Nat} (hg : Gl X "enumerate") (hm : X.mg "enumerate" = none) (ha : PA X [e] ta) (hs : starEach [e] X.env = [(false, eval e X.env)] := by rfl) :
    PI X (.Tuple elts kk tpos) (.Call (.Name "enumerate" p) [e] [] pos) (iEnumT X.K ta) := by
  refine ⟨fun pins s σ H R I h => ?_⟩
  refine Call_ (ld_blt I hg hm boot_enumerate (PyProof.Rows.callWith_type1 (thn (ha.run pos pins s σ H _ I h) fun us s1 ⟨vs, H1, I1, r1, q1⟩ => ?_) hs rfl))
  obtain ⟨a, xs, ex, hq, q⟩ := q1
  subst ex
  cases r1 with
  | cons r rr =>
    cases rr
    cases r
    obtain ⟨its, rv, p', hz⟩ := I1.tuple hq
    have hla : a < s1.heap.objs.size := by obtain ⟨_, z, _⟩ := p'; exact Heap.lt_size z
    refine enum_tup p' fun h' he hit hsz hk => wpAny_pyIter_enum he ?_
    have I2 : Inv X pins σ H1 { s1 with heap := h' } := I1.kept (t' := s1.toks) hk
    refine ⟨s1.heap.objs.size + 1, [s1.heap.objs.size + 1, s1.heap.objs.size], _, _, H1, rfl, I2, turn_enumT a (s1.heap.objs.size + 1) s1.heap.objs.size, ⟨⟨.none, he⟩, hit, Nat.succ_ne_self _, Nat.ne_of_lt hla, Nat.ne_of_lt (Nat.lt_succ_of_lt hla)⟩, fun b hb => ?_, q⟩
    have e' : b = s1.heap.objs.size + 1 ∨ b = s1.heap.objs.size := by simpa using hb
    have hle : s1.heap.objs.size ≤ b := by
      rcases e' with z | z
      · rw [z]; exact Nat.le_add_right _ _
      · rw [z]; exact Nat.le_refl _
    exact I1.fpOk hle (I1.hok.fresh hle)
/-- the loop's reading -/
theorem for_enumT {K : PySem.W.Frag} {a : Addr} {xs : List V} {g : TG} {tb : TS} {D : Ends} {σ : L2.St} {H : Hp} (Pv : Nat → L2.St → Hp → Prop) (h0 : Pv 0 σ H) (hl : ∀ i σ H, i ≤ xs.length → Pv i σ H → SqT K H a xs)
    (hs : ∀ i x T σ H, xs[i]? = some x → H T = none → Pv i σ H → g (.ref T) σ (upd H T (.tup [.int (i : Nat), x])) fun σ2 H2 => tb { D with nx := Pv (i + 1), ct := Pv (i + 1), bk := D.nx } σ2 H2) (hd : ∀ σ H, Pv xs.length σ H → D.nx σ H) :
    ∃ W : Nat → Nat → L2.St → Hp → Prop, (∃ m, W 0 m σ H) ∧ ∀ i m σ H, W i m σ H →
      ((IteT K a).stop i H ∧ D.nx σ H) ∨ ((IteT K a).go i H ∧ ∃ N : L2.St → Hp → Prop, (∀ σ' H', N σ' H' → ∃ m', m' < m ∧ W (i + 1) m' σ' H') ∧ ∀ x H', (IteT K a).yld i H x H' → g x σ H' fun σ2 H2 => tb { D with nx := N, ct := N, bk := D.nx } σ2 H2) := by
  refine ⟨fun i m σ H => m = xs.length - i ∧ i ≤ xs.length ∧ Pv i σ H, ⟨xs.length, by simp, Nat.zero_le _, h0⟩, ?_⟩
  rintro i m σ H ⟨rfl, hi, p⟩
  have q := hl i σ H hi p
  by_cases hlt : i < xs.length
  · refine .inr ⟨⟨xs, xs[i], q, by simp [hlt]⟩, Pv (i + 1), fun σ' H' p' => ⟨xs.length - (i + 1), by omega, rfl, hlt, p'⟩, fun v H' y => ?_⟩
    obtain ⟨T, x, rfl, nT, rfl, y⟩ := y
    exact hs i x T σ H (y xs q) nT p
  · have e : i = xs.length := by omega
    subst e
    exact .inl ⟨⟨xs, q, Nat.le_refl _⟩, hd σ H p⟩
/-- .. of a list -/
theorem for_enumL {K : PySem.W.Frag} {a : Addr} {xs : List V} {g : TG} {tb : TS} {D : Ends} {σ : L2.St} {H : Hp} (Pv : Nat → L2.St → Hp → Prop) (h0 : Pv 0 σ H) (hl : ∀ i σ H, i ≤ xs.length → Pv i σ H → SqL K H a xs)
    (hs : ∀ i x T σ H, xs[i]? = some x → H T = none → Pv i σ H → g (.ref T) σ (upd H T (.tup [.int (i : Nat), x])) fun σ2 H2 => tb { D with nx := Pv (i + 1), ct := Pv (i + 1), bk := D.nx } σ2 H2) (hd : ∀ σ H, Pv xs.length σ H → D.nx σ H) :
    ∃ W : Nat → Nat → L2.St → Hp → Prop, (∃ m, W 0 m σ H) ∧ ∀ i m σ H, W i m σ H →
      ((Ite K a).stop i H ∧ D.nx σ H) ∨ ((Ite K a).go i H ∧ ∃ N : L2.St → Hp → Prop, (∀ σ' H', N σ' H' → ∃ m', m' < m ∧ W (i + 1) m' σ' H') ∧ ∀ x H', (Ite K a).yld i H x H' → g x σ H' fun σ2 H2 => tb { D with nx := N, ct := N, bk := D.nx } σ2 H2) := by
  refine ⟨fun i m σ H => m = xs.length - i ∧ i ≤ xs.length ∧ Pv i σ H, ⟨xs.length, by simp, Nat.zero_le _, h0⟩, ?_⟩
  rintro i m σ H ⟨rfl, hi, p⟩
  have q := hl i σ H hi p
  by_cases hlt : i < xs.length
  · refine .inr ⟨⟨xs, xs[i], q, by simp [hlt]⟩, Pv (i + 1), fun σ' H' p' => ⟨xs.length - (i + 1), by omega, rfl, hlt, p'⟩, fun v H' y => ?_⟩
    obtain ⟨T, x, rfl, nT, rfl, y⟩ := y
    exact hs i x T σ H (y xs q) nT p
  · have e : i = xs.length := by omega
    subst e
    exact .inl ⟨⟨xs, q, Nat.le_refl _⟩, hd σ H p⟩

/-! ### t.index(n) -/
def rTix (K : PySem.W.Frag) : V → List V → Hp → VK → Prop := fun x xs H Q => ∃ (p : Addr) (ns : List Int) (z : Int) (j : Nat), x = .ref p ∧ xs = [.int z] ∧ SqT K H p (ns.map V.int) ∧ ns[j]? = some z ∧ (∀ m, m < j → ns[m]? ≠ some z) ∧ Q (.int (j : Nat)) H
theorem mt_tupIndexI {X : Cx} : MtR X "tuple.index" (rTix X.K) := by
  intro pins s σ H x xs v us Q I rx rs h
  obtain ⟨p, ys, z, j, rfl, rfl, hq, hy, hno, q⟩ := h
  cases rx
  obtain ⟨u, rfl, t, rfl⟩ := vals1 rs
  obtain ⟨its, r, pl, hz⟩ := I.tuple hq
  obtain ⟨⟨cls, dd, dt, sl⟩, ho, hc, n, hd⟩ := pl
  simp only at hc hd
  subst hc
  subst hd
  have hl : its.toArray.size = ys.length := by rw [List.size_toArray, ← r.length, List.length_map]
  have hj : j < its.toArray.size := by rw [hl]; exact (List.getElem?_eq_some_iff.mp hy).1
  have at' : ∀ (m : Nat) (hm : m < its.toArray.size), ∃ y t', ys[m]? = some y ∧ its.toArray[m] = Value.int y t' := fun m hm => by
    have hm' : m < ys.length := by rw [← hl]; exact hm
    obtain ⟨w, hw, t', hw'⟩ := r.get (i := m) (x := .int ys[m]) (by simp [hm'])
    refine ⟨ys[m], t', List.getElem?_eq_getElem hm', ?_⟩
    have e := (List.getElem?_eq_some_iff.mp hw).2
    rw [← hw', ← e]
    simp
  have fl : (ys.map V.int).all flatV = true := by
    rw [List.all_map]
    exact List.all_eq_true.mpr fun _ _ => rfl
  refine call_meets PySem.F.slot_tuple_index ⟨_, ho, rfl⟩ PySem.F.entry_tuple_index (PySem.F.args_tuple_index_2 _ _) (TI.tuple_indexAt p its.toArray n dd sl (.int z t) (eqU (.int z)) j hj ?_ ?_)
    ⟨ho, fun w hw => mem_eqAt (x := .int z) ⟨t, rfl⟩ rfl r fl w (by simpa using hw), ⟨.int (j : Nat), H, I.tok _, ⟨_, rfl⟩, q⟩⟩
  · obtain ⟨y, t', h1, h2⟩ := at' j hj
    rw [hy] at h1
    cases h1
    rw [h2]
    show (z == z) = true
    exact beq_self_eq_true z
  · intro m hm hmj
    obtain ⟨y, t', h1, h2⟩ := at' m hm
    rw [h2]
    show (y == z) = false
    exact beq_eq_false_iff_ne.mpr fun e => hno m hmj (e ▸ h1)
theorem mt_tupIndexIK {X : Cx} (K : PySem.W.Frag) (h : X.K = K := by rfl) : MtR X "tuple.index" (rTix K) := by subst h; exact mt_tupIndexI
end Kin

set_option Elab.async false
set_option linter.all false
set_option maxRecDepth 100000
set_option maxHeartbeats 4000000
/-! B6: tuples that are known to have no dict: their methods -/
namespace Kin
open PySem PySem.Spec PyProof.Rows L2
def Tp (H : Hp) (p : Addr) (xs : List V) : Prop := ∃ o : Obj, H p = some (.frz o (.tup xs)) ∧ o.dict = none
theorem Tp.sq {K : PySem.W.Frag} {H : Hp} {p : Addr} {xs : List V} (h : Tp H p xs) : SqT K H p xs := by
  obtain ⟨o, e, _⟩ := h
  exact .inl (.inr ⟨o, e⟩)
theorem Tp.same {H H' : Hp} {p : Addr} {xs : List V} (s : Same H H') (h : Tp H p xs) : Tp H' p xs := by
  obtain ⟨o, e, d⟩ := h
  exact ⟨o, s _ _ e, d⟩
theorem Tp.new {H : Hp} {p r : Addr} {xs : List V} {u : HO} (n : H r = none) (h : Tp H p xs) : Tp (upd H r u) p xs := by
  obtain ⟨o, e, d⟩ := h
  exact ⟨o, upd_new n e, d⟩
theorem Tp.old {H : Hp} {p r : Addr} {xs : List V} {u : HO} (n : p ≠ r) (h : Tp H p xs) : Tp (upd H r u) p xs := by
  obtain ⟨o, e, d⟩ := h
  exact ⟨o, upd_old n e, d⟩
theorem Tp.ne {H : Hp} {p r : Addr} {xs : List V} (h : Tp H p xs) (n : H r = none) : p ≠ r := by
  obtain ⟨o, e, d⟩ := h
  exact ne_of_none e n
theorem Tp.ne_of {H : Hp} {p r : Addr} {xs : List V} {u : HO} (h : Tp H p xs) (n : H r = some u) (hu : ∀ o v, u ≠ .frz o v) : p ≠ r := by
  obtain ⟨o, e, d⟩ := h
  rintro rfl
  rw [e] at n
  exact hu _ _ (Option.some.inj n).symm
section
variable {X : Cx}
/-- tuple(l), l a list -/
def rTupF (K : PySem.W.Frag) : List V → Hp → VK → Prop := fun xs H Q => ∃ p ys, xs = [.ref p] ∧ SqL K H p ys ∧ ∀ l H', H l = none → Same H H' → Tp H' l ys → Q (.ref l) H'
theorem call_tupF : CallR X (.type "tuple") (rTupF X.K) := by
  intro pins s σ H xs us Q I r h
  obtain ⟨p, ys, rfl, hq, q⟩ := h
  obtain ⟨u, rfl, rx⟩ := vals1 r
  cases rx
  obtain ⟨its, r', pl, hz⟩ := I.list hq
  have hlen := r'.length
  refine call_tuple_list pl.isList (fun h' kp => ?_) (by simp only [List.size_toArray] <;> omega)
  have I1 : Inv X pins σ H { s with heap := h' } := I.kept (t' := s.toks) kp
  have I2 : Inv X pins σ (upd H h'.objs.size (.frz { cls := .type "tuple", data := .seq its.toArray } (.tup ys))) { s with heap := h'.push { cls := .type "tuple", data := .seq its.toArray } } :=
    I1.laid (t' := s.toks) (fun b o e => Heap.get?_push_of_some _ e) (Nat.le_refl _) (show ObjOk X.prog X.w _ _ _ (.frz _ (.tup ys)) from ⟨Heap.get?_push_size _ rfl, hz, its, r', IsTup.new _ _⟩)
  have nf : H h'.objs.size = none := I1.hok.fresh (Nat.le_refl _)
  exact ⟨.ref h'.objs.size, _, I2, rfl, q _ _ nf (same_new (Same.refl H) nf) ⟨_, upd_same, rfl⟩⟩
theorem call_tupFK (K : PySem.W.Frag) (h : X.K = K := by rfl) : CallR X (.type "tuple") (rTupF K) := by subst h; exact call_tupF
/-- t.m(e, ..) -/
def tTM (r : V → List V → Hp → VK → Prop) (to : TE) (t : TA) : TE := fun σ H Q => to σ H fun x H1 => (∃ p xs, x = .ref p ∧ Tp H1 p xs) ∧ t σ H1 fun xs H2 => r x xs H2 Q
variable {o e : Expr} {es : List Expr} {to : TE} {t : TA} {name : Str} {apos cpos : Pos} {id : String} {r : V → List V → Hp → VK → Prop}
theorem pe_tm (pa : PlainAttrs "tuple") (slot : Slot "tuple" name id) (hty : typeOf (.builtin id) = pure (.type "method_descriptor")) (hm : MtR X id r) (ho : PE X o to) (ha : PA X (e :: es) t)
    (hbase : attributeBase o name X.env (eval o X.env) = eval o X.env := by rfl)
    (hfew : ((backTo cpos (starEach (e :: es) X.env)).all (fun x => !x.1) && (backToKw cpos (keywordEach [] X.env)).all (fun x => x.1.isSome)
      && decide ((e :: es).length + ([] : List Keyword).length + (if ([] : List Keyword).isEmpty then 0 else 1) < 30)) = true := by rfl)
    (hline : (apos.endLine == cpos.line) = true := by rfl) (hs : starEach (e :: es) X.env = (false, eval e X.env) :: starEach es X.env := by rfl) (hplain : (backTo cpos (starEach es X.env)).any (·.1) = false := by rfl) :
    PE X (.Call (.Attribute o name apos) (e :: es) [] cpos) (tTM r to t) := by
  refine ⟨fun pins s σ H Q I h => ?_⟩
  refine wpAny_Call_method_late hbase hfew hline rfl (thn (ho.run pins s σ H _ I h) fun v s1 ⟨x, H1, I1, r1, ⟨p, xs, ex, ob, eb, hdb⟩, q1⟩ => ?_)
  subst ex
  obtain rfl : v = Value.ref p := r1
  have hx : ObjOk X.prog X.w H1 s1.heap p (.frz ob (.tup xs)) := I1.hok p _ eb
  obtain ⟨hget, _, its, rv, oo, hoo, hcls, _⟩ := hx
  have eo : oo = ob := Option.some.inj (hoo.symm.trans hget)
  subst eo
  refine ⟨"tuple", id, pa, slot, hty, ⟨oo, hget, hcls⟩, fun a ea => ?_, ?_⟩
  · cases ea
    exact ⟨oo, hget, hdb⟩
  have hA := ha.run cpos pins s1 σ H1 _ I1 q1
  rw [hs] at hA ⊢
  refine Calls.callWith_builtin (by show (false || (backTo cpos (starEach es X.env)).any (·.1)) = false; rw [hplain] <;> rfl) (Calls.evalArgs_plain ?_)
  exact thn hA fun us s2 ⟨vs, H2, I2, r2, q2⟩ => hm pins s2 σ H2 (.ref p) vs (.ref p) us Q I2 rfl r2 q2
end
end Kin

set_option Elab.async false
set_option linter.all false
set_option maxRecDepth 100000
set_option maxHeartbeats 4000000
/-! B8: and, or of values, joined -/
namespace Kin
open PySem PySem.Spec PyProof.Rows L2
theorem andK {tb : TE} {σ : L2.St} {H : Hp} {Q : VK} {c1 c2 : Bool} (h : ∀ Q' : VK, Q' (.bl c2) H → tb σ H Q') (q : Q (.bl (c1 && c2)) H) : ∃ c, V.bl c1 = .bl c ∧ if c = true then tb σ H Q else Q (.bl false) H := by
  cases c1
  · exact ⟨_, rfl, iteF q⟩
  · exact ⟨_, rfl, iteT (h Q q)⟩
theorem orK {tb : TE} {σ : L2.St} {H : Hp} {Q : VK} {c1 c2 : Bool} (h : ∀ Q' : VK, Q' (.bl c2) H → tb σ H Q') (q : Q (.bl (c1 || c2)) H) : ∃ c, V.bl c1 = .bl c ∧ if c = true then Q (.bl true) H else tb σ H Q := by
  cases c1
  · exact ⟨_, rfl, iteF (h Q q)⟩
  · exact ⟨_, rfl, iteT q⟩
end Kin

set_option Elab.async false
set_option linter.all false
set_option maxRecDepth 100000
set_option maxHeartbeats 4000000
/-! M8: rounds of a turning -/
namespace Kin
open PySem L2
def app (t : List Int) (x : Int) : Int := t.getD x.toNat 0
def it (t : List Int) : Nat → Int → Int
  | 0, x => x
  | k + 1, x => app t (it t k x)
theorem app_at {t : List Int} {x : Int} (h0 : 0 ≤ x) (h1 : x < (t.length : Int)) : t[x.toNat]? = some (app t x) := by
  unfold app
  rw [List.getD_eq_getElem?_getD, List.getElem?_eq_getElem (by omega)]
  rfl
theorem Turn.app {t : List Int} (h : Turn t) {x : Int} (hx : x ∈ rgI t.length) : Kin.app t x ∈ rgI t.length := by
  obtain ⟨h0, h1⟩ := mem_rgI.mp hx
  exact mem_rgI.mpr (h.lo _ (List.mem_of_getElem? (app_at h0 h1)))
theorem Turn.app_inj {t : List Int} (h : Turn t) {x y : Int} (hx : x ∈ rgI t.length) (hy : y ∈ rgI t.length) (e : Kin.app t x = Kin.app t y) : x = y := by
  obtain ⟨x0, x1⟩ := mem_rgI.mp hx
  obtain ⟨y0, y1⟩ := mem_rgI.mp hy
  have := nd_ix h.nd (app_at x0 x1) (by rw [e]; exact app_at y0 y1)
  omega
theorem Turn.it {t : List Int} (h : Turn t) {x : Int} (hx : x ∈ rgI t.length) : ∀ k, Kin.it t k x ∈ rgI t.length
  | 0 => hx
  | k + 1 => h.app (h.it hx k)
theorem Turn.it_inj {t : List Int} (h : Turn t) {x y : Int} (hx : x ∈ rgI t.length) (hy : y ∈ rgI t.length) : ∀ k, Kin.it t k x = Kin.it t k y → x = y
  | 0, e => e
  | k + 1, e => h.it_inj hx hy k (h.app_inj (h.it hx k) (h.it hy k) e)
theorem it_add (t : List Int) (x : Int) (j : Nat) : ∀ i, it t (i + j) x = it t i (it t j x)
  | 0 => by rw [Nat.zero_add]; rfl
  | i + 1 => by
    rw [show i + 1 + j = (i + j) + 1 by omega]
    show app t (it t (i + j) x) = app t (it t i (it t j x))
    rw [it_add t x j i]
theorem nodup_sub_len {l m : List Int} (hn : l.Nodup) (hs : ∀ x ∈ l, x ∈ m) : l.length ≤ m.length := by
  induction l generalizing m with
  | nil => exact Nat.zero_le _
  | cons x r ih =>
    have hx : x ∈ m := hs x List.mem_cons_self
    obtain ⟨h1, h2⟩ := List.nodup_cons.mp hn
    have hp : m.Perm (x :: m.erase x) := List.perm_cons_erase hx
    have := ih (m := m.erase x) h2 (fun y hy => by
      have hne : y ≠ x := fun e => h1 (e ▸ hy)
      exact (List.mem_erase_of_ne hne).mpr (hs y (List.mem_cons_of_mem _ hy)))
    have hl := hp.length_eq
    simp only [List.length_cons] at hl ⊢
    omega
theorem Turn.back {t : List Int} (h : Turn t) {x : Int} (hx : x ∈ rgI t.length) : ∃ m, 1 ≤ m ∧ m ≤ t.length ∧ Kin.it t m x = x := by
  by_cases hn : ((List.range (t.length + 1)).map fun k => Kin.it t k x).Nodup
  · have := nodup_sub_len (m := rgI t.length) hn (fun y hy => by
      obtain ⟨k, _, rfl⟩ := List.mem_map.mp hy
      exact h.it hx k)
    rw [List.length_map, List.length_range, rgI_len] at this
    omega
  · have : ∃ i j, i < j ∧ j ≤ t.length ∧ Kin.it t i x = Kin.it t j x := by
      refine Classical.byContradiction fun hno => hn ?_
      unfold List.Nodup
      rw [List.pairwise_map]
      refine List.Pairwise.imp_of_mem (R := fun a b => a < b) (fun {a b} ha hb hab e => hno ⟨a, b, hab, ?_, e⟩) List.pairwise_lt_range
      have := List.mem_range.mp hb
      omega
    obtain ⟨i, j, hij, hj, e⟩ := this
    refine ⟨j - i, by omega, by omega, ?_⟩
    have e2 : Kin.it t j x = Kin.it t i (Kin.it t (j - i) x) := by
      rw [← it_add, show i + (j - i) = j by omega]
    rw [e2] at e
    exact (h.it_inj hx (h.it hx _) i e).symm
def perF (t : List Int) (x : Int) : Nat → Nat → Nat
  | 0, k => k
  | f + 1, k => if it t k x = x then k else perF t x f (k + 1)
theorem perF_spec {t : List Int} {x : Int} : ∀ (f k m : Nat), k ≤ m → m < k + f → it t m x = x → k ≤ perF t x f k ∧ it t (perF t x f k) x = x ∧ perF t x f k ≤ m ∧ ∀ j, k ≤ j → j < perF t x f k → it t j x ≠ x
  | 0, k, m, h1, h2, _ => by omega
  | f + 1, k, m, h1, h2, e => by
    rw [perF]
    by_cases hk : it t k x = x
    · rw [if_pos hk]
      exact ⟨Nat.le_refl _, hk, h1, fun j a b => by omega⟩
    · rw [if_neg hk]
      have hne : k ≠ m := fun z => hk (by rw [z]; exact e)
      obtain ⟨a, b, c, d⟩ := perF_spec f (k + 1) m (by omega) (by omega) e
      refine ⟨by omega, b, c, fun j h3 h4 => ?_⟩
      by_cases hj : j = k
      · rw [hj]; exact hk
      · exact d j (by omega) h4
def per (t : List Int) (x : Int) : Nat := perF t x t.length 1
structure PerS (t : List Int) (x : Int) : Prop where
  p1 : 1 ≤ per t x
  pe : it t (per t x) x = x
  pn : per t x ≤ t.length
  pm : ∀ j, 1 ≤ j → j < per t x → it t j x ≠ x
theorem Turn.per {t : List Int} (h : Turn t) {x : Int} (hx : x ∈ rgI t.length) : PerS t x := by
  obtain ⟨m, m1, m2, me⟩ := h.back hx
  obtain ⟨a, b, c, d⟩ := perF_spec t.length 1 m m1 (by omega) me
  exact ⟨a, b, Nat.le_trans c m2, d⟩
def ring (t : List Int) (a : Int) : List Int := (List.range (per t a)).map fun i => it t i a
theorem ring_len (t : List Int) (a : Int) : (ring t a).length = per t a := by unfold ring; rw [List.length_map, List.length_range]
theorem ring_at {t : List Int} {a : Int} {i : Nat} (h : i < per t a) : (ring t a)[i]? = some (it t i a) := by
  unfold ring
  rw [List.getElem?_map, List.getElem?_range h]
  rfl
theorem it_mul {t : List Int} {a : Int} {p : Nat} (h : it t p a = a) : ∀ q, it t (q * p) a = a
  | 0 => by rw [Nat.zero_mul]; rfl
  | q + 1 => by rw [Nat.add_mul, Nat.one_mul, it_add, h, it_mul h q]
theorem it_mod {t : List Int} {a : Int} {p : Nat} (h : it t p a = a) (k : Nat) : it t k a = it t (k % p) a := by
  conv => lhs; rw [← Nat.mod_add_div k p, Nat.mul_comm p, it_add, it_mul h]
theorem mem_ring {t : List Int} (h : Turn t) {a y : Int} (ha : a ∈ rgI t.length) : y ∈ ring t a ↔ ∃ k, y = it t k a := by
  have P := h.per ha
  constructor
  · intro hy
    unfold ring at hy
    obtain ⟨k, _, rfl⟩ := List.mem_map.mp hy
    exact ⟨k, rfl⟩
  · rintro ⟨k, rfl⟩
    rw [it_mod P.pe k]
    unfold ring
    exact List.mem_map.mpr ⟨k % per t a, List.mem_range.mpr (Nat.mod_lt _ P.p1), rfl⟩
theorem ring_sub {t : List Int} (h : Turn t) {a y : Int} (ha : a ∈ rgI t.length) (hy : y ∈ ring t a) : y ∈ rgI t.length := by
  obtain ⟨k, rfl⟩ := (mem_ring h ha).mp hy
  exact h.it ha k
theorem ring_self {t : List Int} (h : Turn t) {a : Int} (ha : a ∈ rgI t.length) : a ∈ ring t a := (mem_ring h ha).mpr ⟨0, rfl⟩
theorem ring_trans {t : List Int} (h : Turn t) {a y z : Int} (ha : a ∈ rgI t.length) (hy : y ∈ ring t a) (hz : z ∈ ring t y) : z ∈ ring t a := by
  obtain ⟨j, rfl⟩ := (mem_ring h (ring_sub h ha hy)).mp hz
  obtain ⟨i, rfl⟩ := (mem_ring h ha).mp hy
  exact (mem_ring h ha).mpr ⟨j + i, by rw [it_add]⟩
theorem ring_symm {t : List Int} (h : Turn t) {a y : Int} (ha : a ∈ rgI t.length) (hy : y ∈ ring t a) : a ∈ ring t y := by
  have P := h.per ha
  unfold ring at hy
  obtain ⟨i, hi, rfl⟩ := List.mem_map.mp hy
  have hi2 := List.mem_range.mp hi
  refine (mem_ring h (h.it ha i)).mpr ⟨per t a - i, ?_⟩
  rw [← it_add, show per t a - i + i = per t a by omega]
  exact P.pe.symm
theorem it_ne {t : List Int} (h : Turn t) {a : Int} (ha : a ∈ rgI t.length) {i j : Nat} (hij : i < j) (hj : j < per t a) : it t i a ≠ it t j a := fun e => by
  have P := h.per ha
  have e2 : it t j a = it t i (it t (j - i) a) := by rw [← it_add, show i + (j - i) = j by omega]
  rw [e2] at e
  exact P.pm (j - i) (by omega) (by omega) (h.it_inj ha (h.it ha _) i e).symm
theorem ring_nodup {t : List Int} (h : Turn t) {a : Int} (ha : a ∈ rgI t.length) : (ring t a).Nodup := by
  unfold ring List.Nodup
  rw [List.pairwise_map]
  refine List.Pairwise.imp_of_mem (R := fun x y => x < y) (fun {x y} hx hy hxy => it_ne h ha hxy ?_) List.pairwise_lt_range
  exact List.mem_range.mp hy
/-- the least of its round -/
def isMin (t : List Int) (a : Int) : Bool := (ring t a).all fun x => decide (a ≤ x)
theorem isMin_iff {t : List Int} {a : Int} : isMin t a = true ↔ ∀ x ∈ ring t a, a ≤ x := by
  unfold isMin
  rw [List.all_eq_true]
  exact ⟨fun h x hx => of_decide_eq_true (h x hx), fun h x hx => decide_eq_true (h x hx)⟩
theorem list_min : ∀ {l : List Int}, l ≠ [] → ∃ b ∈ l, ∀ x ∈ l, b ≤ x
  | [], h => absurd rfl h
  | [a], _ => ⟨a, List.mem_singleton.mpr rfl, fun x hx => by rw [List.mem_singleton.mp hx]; exact Int.le_refl _⟩
  | a :: b :: r, _ => by
    obtain ⟨m, hm, hl⟩ := list_min (l := b :: r) (by simp)
    by_cases h : a ≤ m
    · exact ⟨a, List.mem_cons_self, fun x hx => by
        rcases List.mem_cons.mp hx with e | e
        · rw [e]; exact Int.le_refl _
        · exact Int.le_trans h (hl x e)⟩
    · exact ⟨m, List.mem_cons_of_mem _ hm, fun x hx => by
        rcases List.mem_cons.mp hx with e | e
        · rw [e]; omega
        · exact hl x e⟩
theorem ring_min {t : List Int} (h : Turn t) {a : Int} (ha : a ∈ rgI t.length) : ∃ b, b ∈ ring t a ∧ isMin t b = true ∧ ∀ x ∈ ring t a, b ≤ x := by
  obtain ⟨b, hb, hl⟩ := list_min (l := ring t a) (List.ne_nil_of_mem (ring_self h ha))
  exact ⟨b, hb, isMin_iff.mpr fun x hx => hl x (ring_trans h ha hb hx), hl⟩
/-- who is seen behind all below a -/
def seenB (t : List Int) (i : Nat) (x : Int) : Prop := ∃ b ∈ rgI i, isMin t b = true ∧ x ∈ ring t b
theorem seen_iff {t : List Int} (h : Turn t) {i : Nat} (hi : i < t.length) : seenB t i (i : Int) ↔ ¬ isMin t (i : Int) = true := by
  have hin : (i : Int) ∈ rgI t.length := mem_rgI.mpr ⟨by omega, by omega⟩
  constructor
  · rintro ⟨b, hb, hm, hx⟩ hmi
    obtain ⟨b0, b1⟩ := mem_rgI.mp hb
    have hbn : b ∈ rgI t.length := mem_rgI.mpr ⟨b0, by omega⟩
    have := isMin_iff.mp hmi b (ring_symm h hbn hx)
    omega
  · intro hno
    obtain ⟨b, hb, hm, hl⟩ := ring_min h hin
    have hbn := ring_sub h hin hb
    obtain ⟨b0, b1⟩ := mem_rgI.mp hbn
    have hbi : b ≤ (i : Int) := hl _ (ring_self h hin)
    have hne : b ≠ (i : Int) := fun e => hno (by rw [← e]; exact hm)
    exact ⟨b, mem_rgI.mpr ⟨b0, by omega⟩, hm, ring_symm h hin hb⟩
def roundsTo (t : List Int) (i : Nat) : List (List Int) := ((rgI i).filter (isMin t)).map (ring t)
def rounds (t : List Int) : List (List Int) := roundsTo t t.length
theorem mins_same {t : List Int} (h : Turn t) {a b x : Int} (ha : a ∈ rgI t.length) (hb : b ∈ rgI t.length) (ma : isMin t a = true) (mb : isMin t b = true) (xa : x ∈ ring t a) (xb : x ∈ ring t b) : a = b := by
  have h1 : b ∈ ring t a := ring_trans h ha xa (ring_symm h hb xb)
  have h2 := isMin_iff.mp ma b h1
  have h3 := isMin_iff.mp mb a (ring_symm h ha h1)
  omega
theorem rounds_perm {t : List Int} (h : Turn t) : (rounds t).flatten.Perm (rgI t.length) := by
  have hmem : ∀ x, x ∈ (rounds t).flatten ↔ x ∈ rgI t.length := by
    intro x
    unfold rounds roundsTo
    rw [List.mem_flatten]
    constructor
    · rintro ⟨l, hl, hx⟩
      obtain ⟨a, ha, rfl⟩ := List.mem_map.mp hl
      exact ring_sub h (List.mem_filter.mp ha).1 hx
    · intro hx
      obtain ⟨b, hb, hm, hl⟩ := ring_min h hx
      exact ⟨ring t b, List.mem_map.mpr ⟨b, List.mem_filter.mpr ⟨ring_sub h hx hb, hm⟩, rfl⟩, ring_symm h hx hb⟩
  have hnd : (rounds t).flatten.Nodup := by
    unfold List.Nodup
    rw [List.pairwise_flatten]
    unfold rounds roundsTo
    constructor
    · intro l hl
      obtain ⟨a, ha, rfl⟩ := List.mem_map.mp hl
      exact ring_nodup h (List.mem_filter.mp ha).1
    · rw [List.pairwise_map]
      refine List.Pairwise.imp_of_mem (R := fun a b => a ≠ b) (fun {a b} ha hb hne x hx y hy e => hne ?_) ((rgI_nodup t.length).filter _)
      subst e
      obtain ⟨a1, a2⟩ := List.mem_filter.mp ha
      obtain ⟨b1, b2⟩ := List.mem_filter.mp hb
      exact mins_same h a1 b1 a2 b2 hx hy
  refine perm_of_sub hnd (fun x hx => (hmem x).mp hx) ?_
  exact nodup_sub_len (rgI_nodup _) fun x hx => (hmem x).mpr hx
/-- two sorted rows of the same numbers -/
theorem sorted_uniq : ∀ {a b : List Int}, a.Perm b → a.Pairwise (· ≤ ·) → b.Pairwise (· ≤ ·) → a = b
  | [], b, h, _, _ => (List.nil_perm.mp h).symm
  | x :: r, [], h, _, _ => by cases (List.perm_nil.mp h)
  | x :: r, y :: q, h, ha, hb => by
    obtain ⟨a1, a2⟩ := List.pairwise_cons.mp ha
    obtain ⟨b1, b2⟩ := List.pairwise_cons.mp hb
    have hx : x ∈ y :: q := h.mem_iff.mp List.mem_cons_self
    have hy : y ∈ x :: r := h.mem_iff.mpr List.mem_cons_self
    have e : x = y := by
      rcases List.mem_cons.mp hx with e | e
      · exact e
      · rcases List.mem_cons.mp hy with e2 | e2
        · exact e2.symm
        · have := b1 x e
          have := a1 y e2
          omega
    subst e
    rw [sorted_uniq ((List.perm_cons x).mp h) a2 b2]
theorem filter_sorted (n : Nat) (p : Int → Bool) : ((rgI n).filter p).Pairwise (· ≤ ·) := (rgI_sorted n).filter _
end Kin

set_option Elab.async false
set_option linter.all false
set_option maxRecDepth 100000
set_option maxHeartbeats 4000000
/-! B11: lists of lists on the heap -/
namespace Kin
open PySem PySem.Spec PyProof.Rows L2
/-- at l: a list of lists of numbers, at the addresses as -/
structure RingsAt (H : Hp) (l : Addr) (as : List Addr) (rs : List (List Int)) : Prop where
  top : H l = some (.lst (as.map V.ref))
  len : as.length = rs.length
  each : ∀ (i : Nat) (a : Addr) (r : List Int), as[i]? = some a → rs[i]? = some r → H a = some (.lst (r.map V.int))
theorem RingsAt.same {H H' : Hp} {l : Addr} {as : List Addr} {rs : List (List Int)} (s : Same H H') (h : RingsAt H l as rs) : RingsAt H' l as rs :=
  ⟨s _ _ h.top, h.len, fun i a r h1 h2 => s _ _ (h.each i a r h1 h2)⟩
theorem RingsAt.old {H : Hp} {l p : Addr} {o : HO} {as : List Addr} {rs : List (List Int)} (h : RingsAt H l as rs) (h1 : p ≠ l) (h2 : ∀ a ∈ as, a ≠ p) : RingsAt (upd H p o) l as rs :=
  ⟨upd_old h1.symm h.top, h.len, fun i a r e1 e2 => upd_old (h2 a (List.mem_of_getElem? e1)) (h.each i a r e1 e2)⟩
theorem RingsAt.snoc {H : Hp} {l q : Addr} {as : List Addr} {rs : List (List Int)} {r : List Int} (h : RingsAt H l as rs) (hq : H q = some (.lst (r.map V.int))) (h1 : ∀ a ∈ as, a ≠ l) (h2 : q ≠ l) : RingsAt (upd H l (.lst (as.map V.ref ++ [.ref q]))) l (as ++ [q]) (rs ++ [r]) := by
  refine ⟨by rw [upd_same, List.map_append]; rfl, by rw [List.length_append, List.length_append, h.len]; rfl, fun i a x e1 e2 => ?_⟩
  by_cases hi : i < as.length
  · rw [List.getElem?_append_left hi] at e1
    rw [List.getElem?_append_left (by rw [← h.len]; exact hi)] at e2
    exact upd_old (h1 a (List.mem_of_getElem? e1)) (h.each i a x e1 e2)
  · rw [List.getElem?_append_right (by omega)] at e1
    rw [List.getElem?_append_right (by rw [← h.len]; omega), ← h.len] at e2
    have h0 : i - as.length = 0 := by
      cases h3 : i - as.length with
      | zero => rfl
      | succ k =>
        rw [h3] at e1
        simp at e1
    rw [h0] at e1 e2
    cases e1
    cases e2
    exact upd_old h2 hq
theorem RingsAt.mem {H : Hp} {l : Addr} {as : List Addr} {rs : List (List Int)} (h : RingsAt H l as rs) {a : Addr} (ha : a ∈ as) : ∃ r ∈ rs, H a = some (.lst (r.map V.int)) := by
  obtain ⟨i, hi⟩ := List.getElem?_of_mem ha
  have hl : i < rs.length := by rw [← h.len]; exact (List.getElem?_eq_some_iff.mp hi).1
  exact ⟨rs[i], List.getElem_mem hl, h.each i a _ hi (List.getElem?_eq_getElem hl)⟩
theorem RingsAt.ne_none {H : Hp} {l : Addr} {as : List Addr} {rs : List (List Int)} (h : RingsAt H l as rs) {p : Addr} (hp : H p = none) : ∀ a ∈ as, a ≠ p := fun a ha => by
  obtain ⟨r, _, hr⟩ := h.mem ha
  exact ne_of_none hr hp
theorem flat_ints (ns : List Int) : (ns.map V.int).all flatV = true := by
  rw [List.all_map]
  exact List.all_eq_true.mpr fun x _ => rfl
theorem in_ints (z : Int) (ns : List Int) : inV (.int z) (ns.map V.int) = decide (z ∈ ns) := by
  unfold inV
  rw [List.any_map]
  by_cases h : z ∈ ns
  · rw [decide_eq_true h, List.any_eq_true]
    exact ⟨z, h, by simp [eqV]⟩
  · rw [decide_eq_false h, List.any_eq_false]
    intro x hx e
    refine h ?_
    have : x = z := by simpa [eqV] using e
    rw [← this]
    exact hx
theorem put_some (kvs : List (Key × V)) (x z : Int) (v : V) : (valV (putK kvs (.inl x) v) (.inl z)).isSome = true ↔ (z = x ∨ (valV kvs (.inl z)).isSome = true) := by
  rw [valV_put]
  by_cases h : z = x
  · rw [if_pos (by rw [h])]
    exact ⟨fun _ => .inl h, fun _ => rfl⟩
  · rw [if_neg (fun e => h (Sum.inl.inj e))]
    exact ⟨fun e => .inr e, fun e => e.elim (fun e => absurd e h) id⟩
end Kin

set_option Elab.async false
set_option linter.all false
set_option maxRecDepth 100000
set_option maxHeartbeats 4000000
/-! M9: a turning done many times; its order -/
namespace Kin
open PySem L2
theorem per_le {t : List Int} {x : Int} (P : PerS t x) {m : Nat} (h1 : 1 ≤ m) (e : it t m x = x) : per t x ≤ m := by
  rcases Nat.lt_or_ge m (per t x) with h | h
  · exact absurd e (P.pm m h1 h)
  · exact h
theorem per_ring {t : List Int} (h : Turn t) {a y : Int} (ha : a ∈ rgI t.length) (hy : y ∈ ring t a) : per t y = per t a := by
  have key : ∀ {a y : Int}, a ∈ rgI t.length → y ∈ ring t a → per t y ≤ per t a := by
    intro a y ha hy
    have P := h.per ha
    obtain ⟨i, rfl⟩ := (mem_ring h ha).mp hy
    refine per_le (h.per (h.it ha i)) P.p1 ?_
    rw [← it_add, Nat.add_comm, it_add, P.pe]
  exact Nat.le_antisymm (key ha hy) (key (ring_sub h ha hy) (ring_symm h ha hy))
theorem per_dvd {t : List Int} {x : Int} (P : PerS t x) {k : Nat} : it t k x = x ↔ per t x ∣ k := by
  constructor
  · intro e
    rw [it_mod P.pe k] at e
    refine Nat.dvd_of_mod_eq_zero ?_
    rcases Nat.eq_zero_or_pos (k % per t x) with h | h
    · exact h
    · exact absurd e (P.pm _ h (Nat.mod_lt _ P.p1))
  · rintro ⟨q, rfl⟩
    rw [Nat.mul_comm]
    exact it_mul P.pe q
/-- m times, m any number -/
def pwr (t : List Int) (m : Int) (x : Int) : Int := it t (m % (per t x : Int)).toNat x
theorem it_cong {t : List Int} {x : Int} (P : PerS t x) {i j : Nat} (h : (i : Int) % (per t x : Int) = (j : Int) % (per t x : Int)) : it t i x = it t j x := by
  rw [it_mod P.pe i, it_mod P.pe j]
  have : i % per t x = j % per t x := by
    have h1 : ((i % per t x : Nat) : Int) = ((j % per t x : Nat) : Int) := by push_cast; exact h
    exact Int.ofNat.inj h1
  rw [this]
theorem toNat_mod {m : Int} {p : Nat} (hp : 0 < p) : (((m % (p : Int)).toNat : Nat) : Int) = m % (p : Int) := Int.toNat_of_nonneg (Int.emod_nonneg _ (by omega))
theorem pwr_ring {t : List Int} (h : Turn t) {a : Int} (ha : a ∈ rgI t.length) (i : Nat) (m : Int) : it t (((i : Int) + m) % (per t a : Int)).toNat a = pwr t m (it t i a) := by
  have P := h.per ha
  have hp := per_ring h ha ((mem_ring h ha).mpr ⟨i, rfl⟩)
  unfold pwr
  rw [hp, ← it_add]
  refine it_cong P ?_
  rw [toNat_mod P.p1, Int.emod_emod_of_dvd _ (Int.dvd_refl _)]
  push_cast
  rw [toNat_mod P.p1, Int.emod_add_emod, Int.add_comm]
theorem pwr_zero (t : List Int) (x : Int) : pwr t 0 x = x := by
  unfold pwr
  rw [Int.zero_emod]
  rfl
theorem pwr_succ {t : List Int} (h : Turn t) {x : Int} (hx : x ∈ rgI t.length) (m : Int) : pwr t (m + 1) x = app t (pwr t m x) := by
  have P := h.per hx
  show it t _ x = it t ((m % (per t x : Int)).toNat + 1) x
  refine it_cong P ?_
  rw [toNat_mod P.p1, Int.emod_emod_of_dvd _ (Int.dvd_refl _)]
  push_cast
  rw [toNat_mod P.p1, Int.emod_add_emod]
theorem pwr_nat {t : List Int} (h : Turn t) {x : Int} (hx : x ∈ rgI t.length) (k : Nat) : pwr t (k : Int) x = it t k x := by
  have P := h.per hx
  unfold pwr
  refine it_cong P ?_
  rw [toNat_mod P.p1, Int.emod_emod_of_dvd _ (Int.dvd_refl _)]
theorem pwr_in {t : List Int} (h : Turn t) {x : Int} (hx : x ∈ rgI t.length) (m : Int) : pwr t m x ∈ rgI t.length := h.it hx _
def timesOf (t : List Int) (m : Int) : List Int := (rgI t.length).map (pwr t m)
theorem timesOf_len (t : List Int) (m : Int) : (timesOf t m).length = t.length := by unfold timesOf; rw [List.length_map, rgI_len]
theorem timesOf_at {t : List Int} {m : Int} {i : Nat} (h : i < t.length) : (timesOf t m)[i]? = some (pwr t m (i : Int)) := by
  unfold timesOf
  rw [List.getElem?_map, rgI_get h]
  rfl
theorem timesOf_zero (t : List Int) : timesOf t 0 = rgI t.length := by
  unfold timesOf
  exact (List.map_congr_left fun x _ => pwr_zero t x).trans (List.map_id _)
theorem timesOf_succ {t : List Int} (h : Turn t) (m : Int) : timesOf t (m + 1) = after (timesOf t m) t := by
  unfold timesOf after
  rw [List.map_map]
  refine List.map_congr_left fun x hx => ?_
  rw [pwr_succ h hx]
  rfl
theorem timesOf_lo {t : List Int} (h : Turn t) (m : Int) : ∀ x ∈ timesOf t m, 0 ≤ x ∧ x < (t.length : Int) := fun x hx => by
  unfold timesOf at hx
  obtain ⟨y, hy, rfl⟩ := List.mem_map.mp hx
  exact mem_rgI.mp (pwr_in h hy m)
/-- what the loops over the rounds come to -/
theorem times_built {t fs : List Int} {m : Int} (hl : fs.length = t.length) (h : ∀ x ∈ rgI t.length, fs[x.toNat]? = some (pwr t m x)) : fs = timesOf t m := by
  refine List.ext_getElem? fun i => ?_
  by_cases hi : i < t.length
  · rw [timesOf_at hi]
    have := h (i : Int) (mem_rgI.mpr ⟨by omega, by omega⟩)
    rw [Int.toNat_natCast] at this
    exact this
  · rw [List.getElem?_eq_none (by omega), List.getElem?_eq_none (by rw [timesOf_len]; omega)]
/-- the order -/
def lcmL : List Nat → Nat → Nat
  | [], o => o
  | k :: r, o => lcmL r (o / Nat.gcd o k * k)
theorem lcm_step {o k : Nat} : o / Nat.gcd o k * k = Nat.lcm o k := by
  unfold Nat.lcm
  rw [Nat.div_mul_right_comm (Nat.gcd_dvd_left o k)]
theorem lcmL_dvd : ∀ (l : List Nat) (o : Nat), o ∣ lcmL l o ∧ (∀ k ∈ l, k ∣ lcmL l o) ∧ ∀ m, o ∣ m → (∀ k ∈ l, k ∣ m) → lcmL l o ∣ m
  | [], o => ⟨Nat.dvd_refl _, fun k h => (by cases h), fun m h _ => h⟩
  | k :: r, o => by
    obtain ⟨h1, h2, h3⟩ := lcmL_dvd r (o / Nat.gcd o k * k)
    rw [lcmL]
    have e := lcm_step (o := o) (k := k)
    rw [e] at h1 h2 h3 ⊢
    refine ⟨Nat.dvd_trans (Nat.dvd_lcm_left _ _) h1, fun x hx => ?_, fun m hm hk => h3 m (Nat.lcm_dvd hm (hk k List.mem_cons_self)) fun x hx => hk x (List.mem_cons_of_mem _ hx)⟩
    rcases List.mem_cons.mp hx with e | e
    · rw [e]
      exact Nat.dvd_trans (Nat.dvd_lcm_right _ _) h1
    · exact h2 x e
def ordOf (t : List Int) : Nat := lcmL ((rounds t).map (·.length)) 1
theorem ord_all {t : List Int} (h : Turn t) {k : Nat} : (∀ x ∈ rgI t.length, it t k x = x) ↔ ordOf t ∣ k := by
  obtain ⟨_, h2, h3⟩ := lcmL_dvd ((rounds t).map (·.length)) 1
  constructor
  · intro hx
    refine h3 k (Nat.one_dvd _) fun l hl => ?_
    obtain ⟨r, hr, rfl⟩ := List.mem_map.mp hl
    unfold rounds roundsTo at hr
    obtain ⟨a, ha, rfl⟩ := List.mem_map.mp hr
    have hin := (List.mem_filter.mp ha).1
    rw [ring_len]
    exact (per_dvd (h.per hin)).mp (hx a hin)
  · intro hd x hx
    obtain ⟨b, hb, hm, _⟩ := ring_min h hx
    have hbin := ring_sub h hx hb
    refine (per_dvd (h.per hx)).mpr (Nat.dvd_trans ?_ hd)
    refine h2 _ (List.mem_map.mpr ⟨ring t b, ?_, ?_⟩)
    · unfold rounds roundsTo
      exact List.mem_map.mpr ⟨b, List.mem_filter.mpr ⟨hbin, hm⟩, rfl⟩
    · show (ring t b).length = per t x
      rw [ring_len, per_ring h hx hb]
theorem small_840 {k : Nat} (h1 : 1 ≤ k) (h8 : k ≤ 8) : k ∣ 840 := by
  have : k = 1 ∨ k = 2 ∨ k = 3 ∨ k = 4 ∨ k = 5 ∨ k = 6 ∨ k = 7 ∨ k = 8 := by omega
  rcases this with h | h | h | h | h | h | h | h <;> subst h <;> decide
theorem ring_small {t : List Int} (h : Turn t) (h8 : t.length ≤ 8) : ∀ r ∈ rounds t, 1 ≤ r.length ∧ r.length ≤ 8 := fun r hr => by
  unfold rounds roundsTo at hr
  obtain ⟨a, ha, rfl⟩ := List.mem_map.mp hr
  have P := h.per (List.mem_filter.mp ha).1
  rw [ring_len]
  exact ⟨P.p1, Nat.le_trans P.pn h8⟩
theorem lcmL_840 : ∀ (l : List Nat) (o : Nat), (∀ k ∈ l, 1 ≤ k ∧ k ≤ 8) → o ∣ 840 → lcmL l o ∣ 840 := fun l o h ho => (lcmL_dvd l o).2.2 840 ho fun k hk => small_840 (h k hk).1 (h k hk).2
theorem ord_840 {t : List Int} (h : Turn t) (h8 : t.length ≤ 8) : ordOf t ∣ 840 := lcmL_840 _ _ (fun k hk => by
  obtain ⟨r, hr, rfl⟩ := List.mem_map.mp hk
  exact ring_small h h8 r hr) (Nat.one_dvd _)
/-- all stay behind k steps -/
theorem times_alone {t : List Int} (h : Turn t) (k : Nat) : timesOf t (k : Int) = rgI t.length ↔ ordOf t ∣ k := by
  rw [← ord_all h]
  constructor
  · intro e x hx
    obtain ⟨x0, x1⟩ := mem_rgI.mp hx
    have h1 : (timesOf t (k : Int))[x.toNat]? = some (pwr t (k : Int) x) := by
      rw [timesOf_at (by omega), show ((x.toNat : Nat) : Int) = x by omega]
    rw [e, rgI_get (by omega), pwr_nat h hx] at h1
    have := Option.some.inj h1
    omega
  · intro hx
    unfold timesOf
    refine (List.map_congr_left fun x hxm => ?_).trans (List.map_id _)
    rw [pwr_nat h hxm]
    exact hx x hxm
end Kin
namespace Kin
theorem lcmL_snoc : ∀ (l : List Nat) (k o : Nat), lcmL (l ++ [k]) o = lcmL l o / Nat.gcd (lcmL l o) k * k
  | [], k, o => rfl
  | a :: r, k, o => lcmL_snoc r k _
end Kin

set_option Elab.async false
set_option linter.all false
set_option maxRecDepth 100000
set_option maxHeartbeats 4000000
namespace Kin
open PySem PySem.Spec PyProof.Rows L2
def topS (i : Nat) : Stmt := PySem.Challenge.pw_kinhearth_k05_done_many_times.main.body.getD i (.Pass ⟨0, 0, 0, 0⟩)
abbrev s_rounds : Stmt := topS 1
abbrev s_rounds_N : List Str := ["turn", "seen", "found", "at", "ring", "to"]
abbrev p_rounds : List Str := ["turn"]
theorem sc_rounds : FnScope s_rounds_N p_rounds (defScope s_rounds) := ⟨rfl, rfl, rfl, by decide +kernel, rfl, by decide +kernel, by decide +kernel⟩
abbrev s_common_part : Stmt := topS 2
abbrev s_common_part_N : List Str := ["one", "other"]
abbrev p_common_part : List Str := ["one", "other"]
theorem sc_common_part : FnScope s_common_part_N p_common_part (defScope s_common_part) := ⟨rfl, rfl, rfl, by decide +kernel, rfl, by decide +kernel, by decide +kernel⟩
abbrev s_order_of : Stmt := topS 3
abbrev s_order_of_N : List Str := ["turn", "found", "ring"]
abbrev p_order_of : List Str := ["turn"]
theorem sc_order_of : FnScope s_order_of_N p_order_of (defScope s_order_of) := ⟨rfl, rfl, rfl, by decide +kernel, rfl, by decide +kernel, by decide +kernel⟩
abbrev s_times : Stmt := topS 4
abbrev s_times_N : List Str := ["turn", "many", "found", "ring", "at", "one"]
abbrev p_times : List Str := ["turn", "many"]
theorem sc_times : FnScope s_times_N p_times (defScope s_times) := ⟨rfl, rfl, rfl, by decide +kernel, rfl, by decide +kernel, by decide +kernel⟩
abbrev s_l_cell : Stmt := topS 6
abbrev s_l_cell_N : List Str := ["_law_script", "_law_k"]
abbrev p_l_cell : List Str := ["_law_script", "_law_k"]
theorem sc_l_cell : FnScope s_l_cell_N p_l_cell (defScope s_l_cell) := ⟨rfl, rfl, rfl, by decide +kernel, rfl, by decide +kernel, by decide +kernel⟩
abbrev s_l_draws : Stmt := topS 7
abbrev s_l_draws_N : List Str := ["_law_cell_here", "_law_parts", "_law_one", "_law_two", "_law_six", "_law_found", "_law_part"]
abbrev p_l_draws : List Str := ["_law_cell_here", "_law_parts"]
theorem sc_l_draws : FnScope s_l_draws_N p_l_draws (defScope s_l_draws) := ⟨rfl, rfl, rfl, by decide +kernel, rfl, by decide +kernel, by decide +kernel⟩
abbrev s_l_turn : Stmt := topS 8
abbrev s_l_turn_N : List Str := ["_law_code", "_law_size", "_law_free", "_law_found", "_law_k"]
abbrev p_l_turn : List Str := ["_law_code", "_law_size"]
theorem sc_l_turn : FnScope s_l_turn_N p_l_turn (defScope s_l_turn) := ⟨rfl, rfl, rfl, by decide +kernel, rfl, by decide +kernel, by decide +kernel⟩
abbrev s_l_same : Stmt := topS 9
abbrev s_l_same_N : List Str := ["_law_found", "_law_due", "_law_k"]
abbrev p_l_same : List Str := ["_law_found", "_law_due"]
theorem sc_l_same : FnScope s_l_same_N p_l_same (defScope s_l_same) := ⟨rfl, rfl, rfl, by decide +kernel, rfl, by decide +kernel, by decide +kernel⟩
abbrev s_l_after : Stmt := topS 10
abbrev s_l_after_N : List Str := ["_law_first", "_law_then", "_law_one"]
abbrev p_l_after : List Str := ["_law_first", "_law_then"]
theorem sc_l_after : FnScope s_l_after_N p_l_after (defScope s_l_after) := ⟨rfl, rfl, rfl, by decide +kernel, rfl, by decide +kernel, by decide +kernel⟩
abbrev s_law : Stmt := topS 11
abbrev s_law_N : List Str := ["_law_script", "_law_drawn", "_law_size", "_law_turn_here", "_law_alone", "_law_many", "_law_here", "_law_k", "_law_order"]
abbrev p_law : List Str := ["_law_script"]
theorem sc_law : FnScope s_law_N p_law (defScope s_law) := ⟨rfl, rfl, rfl, by decide +kernel, rfl, by decide +kernel, by decide +kernel⟩
/-! facts about the heap, carried by search -/
local macro_rules | `(tactic| walk_at "hp") => `(tactic| first | assumption | exact upd_same | (refine upd_new (by assumption) ?_; walk_at "hp") | (refine upd_old (by first | assumption | (apply Ne.symm; assumption)) ?_; walk_at "hp") | (refine sameAt (by assumption) ?_; walk_at "hp"))
local macro_rules | `(tactic| walk_at "fr") => `(tactic| first | assumption | (refine Same.free ?_ (by assumption); walk_at "sm"))
local macro_rules | `(tactic| walk_at "sm") => `(tactic| first | assumption | exact Same.refl _ | (refine same_new ?_ ?_; (walk_at "sm"); (walk_at "fr")) | (refine Same.trans ?_ (by assumption); walk_at "sm") | (refine Same.trans (by assumption) ?_; walk_at "sm"))
local macro_rules | `(tactic| walk_at "sq") => `(tactic| first | assumption | (refine SqL.of ?_; walk_at "hp") | (refine SqT.of ?_; walk_at "hp") | (refine Same.seq ?_ (by assumption); walk_at "sm") | (refine same_seqT ?_ (by assumption); walk_at "sm") | (refine same_sq ?_ (by assumption); walk_at "sm") | (refine sqL_old (by first | assumption | (apply Ne.symm; assumption)) ?_; walk_at "sq") | (refine sqT_old (by first | assumption | (apply Ne.symm; assumption)) ?_; walk_at "sq"))
local macro_rules | `(tactic| walk_at "nx") => `(tactic| try dsimp only [gName, tNext])

section
variable {P : Program} {w : World} {K : PySem.W.Frag} {mg : Str → Option Value} {base : Heap}


/-! ### _law_cell -/
def sp_cell (K : PySem.W.Frag) : Sp := fun vs H Q _ => ∃ (a : Addr) (ns : List Int) (k : Nat), vs = [.ref a, .int (k : Int)] ∧ SqL K H a (ns.map V.int) ∧ Q (.int (cell ns k)) H
theorem ok_l_cell {f : Addr} {fd : FuncData} (D : Dn K mg "_law_cell" s_l_cell p_l_cell f fd) (b : Blt mg) : Cal P w K mg base CX0 1 "_law_cell" p_l_cell (sp_cell K) := by
  refine D.cal (D.F.ok sc_l_cell (fun vs H Q E h => ?_) (fun cdv A outer s H vs Q E hr h => ?_))
  · obtain ⟨a, ns, k, rfl, _⟩ := h
    rfl
  · obtain ⟨a, ns, k, rfl, hS, q⟩ := h
    refine ⟨_, (pss_cons (ps_if (pt_cmpR op_lt (pv 1) (pe_callB call_len_seq (by rfl) b.len PySem.boot_len (pa_cons (pv 0) pa_nil)) (nomark _)) (pss_one (ps_ret (pe_ix ix_list (pv 0) (pv 1) (fun _ _ => rfl)))) pss_nil)
      (pss_one (ps_ret pe_int))), ?_⟩
    refine ⟨_, rfl, _, rfl, a, _, rfl, .inl hS, _, _, rfl, rfl, _, rfl, ite2 (fun e => ?_) (fun e => ?_)⟩
    · have e1 := of_decide_eq_true e
      rw [List.length_map] at e1
      have hk : k < ns.length := by omega
      refine ⟨_, rfl, _, rfl, a, _, _, .int (ns[k]), rfl, rfl, hS, atI_nat (by rw [List.getElem?_map, List.getElem?_eq_getElem hk]; rfl), ?_⟩
      have ec : cell ns k = ns[k] := by
        unfold cell
        rw [List.getD_eq_getElem?_getD, List.getElem?_eq_getElem hk]
        rfl
      rw [ec] at q
      exact q
    · have e1 : ¬ ((k : Int) < ((ns.map V.int).length : Int)) := fun z => e (decide_eq_true z)
      rw [List.length_map] at e1
      have ec : cell ns k = 0 := by
        unfold cell
        rw [List.getD_eq_getElem?_getD, List.getElem?_eq_none (by omega)]
        rfl
      rw [ec] at q
      exact q


/-! ### _law_draws -/
def sp_draws (K : PySem.W.Frag) : Sp := fun vs H Q _ => ∃ (c : Int) (a : Addr) (ps : List Int), vs = [.int c, .ref a] ∧ SqL K H a (ps.map V.int) ∧ ps.length ≤ 1000 ∧ (∀ p ∈ ps, 0 < p ∧ p < 2 ^ 60) ∧
  ∀ p H', H p = none → Same H H' → H' p = some (.lst ((draws c ps).map V.int)) → Q (.ref p) H'
theorem ok_l_draws {f : Addr} {fd : FuncData} (D : Dn K mg "_law_draws" s_l_draws p_l_draws f fd) (b : Blt mg) : Cal P w K mg base CX0 1 "_law_draws" p_l_draws (sp_draws K) := by
  refine D.cal (D.F.ok sc_l_draws (fun vs H Q E h => ?_) (fun cdv A outer s H vs Q E hr h => ?_))
  · obtain ⟨c, a, ps, rfl, _⟩ := h
    rfl
  · obtain ⟨c, a, ps, rfl, hS, hlen, hps, q⟩ := h
    refine ⟨_, (pss_cons (ps_if (pt_cmpR op_lt (pe_callB call_abs (by rfl) b.abs (by decide +kernel) (pa_cons (pv 0) pa_nil)) (pe_op op_pow pe_int pe_int) (nomark _)) (pss_cons (ps_set (i := 2) sc_l_draws.nd rfl (Or.inl rfl) (pe_op op_mod (pe_op op_add (pe_op op_mulW (pv 0) pe_int) pe_int) pe_int))
      (pss_cons (ps_set (i := 3) sc_l_draws.nd rfl (Or.inl rfl) (pe_op op_mod (pe_op op_add (pe_op op_add (pe_op op_mulW (pv 2) (pv 2)) (pe_op op_mulW pe_int (pv 2))) (pv 0)) pe_int))
      (pss_cons (ps_set (i := 4) sc_l_draws.nd rfl (Or.inl rfl) (pe_op op_mod (pe_op op_add (pe_op op_mulW (pv 3) pe_int) (pv 2)) pe_int))
      (pss_one (ps_set (i := 0) sc_l_draws.nd rfl (Or.inl rfl) (pe_op op_add (pv 3) (pe_op op_mulW pe_int (pe_op op_add (pv 4) (pe_op op_mulW pe_int (pv 2)))))))))) (pss_one (ps_set (i := 0) sc_l_draws.nd rfl (Or.inl rfl) (pe_op op_sub (pe_callB call_abs (by rfl) b.abs (by decide +kernel) (pa_cons (pv 0) pa_nil)) (pe_op op_pow pe_int pe_int)))))
      (pss_cons (ps_set (i := 5) sc_l_draws.nd rfl (Or.inl rfl) (pe_lst pa_nil))
      (pss_cons (ps_for PassesOwn.never rfl (pi_list (pv 1)) (pg_name (i := 6) sc_l_draws.nd rfl (Or.inl rfl)) (pss_cons (ps_expr (pe_bm PySem.F.plainAttrs_list PySem.F.slot_list_append PySem.F.type_list_append mt_append (pv 5) (pa_cons (pe_op op_mod (pv 0) (pv 6)) pa_nil)))
      (pss_one (ps_set (i := 0) sc_l_draws.nd rfl (Or.inl rfl) (pe_op op_fdivW (pv 0) (pv 6))))))
      (pss_one (ps_ret (pv 5)))))), ?_⟩
    have wide : ∀ {i j : Int}, i.natAbs < 2 ^ 200 → j.natAbs < 2 ^ 200 → CMulW i j := fun h1 h2 => wide_mul h1 h2 (by decide) (by decide) (by decide)
    have small : ∀ {i : Int}, -(2 ^ 64) < i → i < 2 ^ 64 → i.natAbs < 2 ^ 200 := fun {i} h1 h2 => Nat.lt_of_lt_of_le (show i.natAbs < 2 ^ 64 by omega) (by decide)
    -- what follows the if, from any number
    have go : ∀ (y2 y3 y4 : Option V) (cc : Int), cc = seed c → (tSeq (tAsg (tLst tNil) (gName 5)) (tSeq (tFor (iList K (tVar 1)) (gName 6) (tSeq
        (tDrop (tBM K "list" rAppend (tVar 5) (tCons (tOp (rI (fun _ j => 0 < j) fun i j => .int (i % j)) (tVar 0) (tVar 6)) tNil)))
        (tAsg (tOp (rI CDivW fun i j => .int (i / j)) (tVar 0) (tVar 6)) (gName 0)))) (tRet (tVar 5))))
        { nx := fun _ H' => Q .non H', rt := Q } [some (.int cc), some (.ref a), y2, y3, y4, none, none] H := by
      rintro y2 y3 y4 cc rfl
      refine ⟨Nat.zero_le _, fun o no => ?_⟩
      have s1 : Same H (upd H o (.lst [])) := same_new (Same.refl H) no
      refine ⟨_, rfl, a, rfl, ⟨_, s1.seq hS⟩, for_list (K := K) (a := a) (xs := ps.map V.int) (fun i σ H2 => ∃ y6 : Option V, σ = [some (.int (rest (seed c) (ps.take i))), some (.ref a), y2, y3, y4, some (.ref o), y6] ∧ Same H H2 ∧ H2 o = some (.lst ((drawn (seed c) (ps.take i)).map V.int)))
        ⟨none, rfl, s1, upd_same⟩ (fun i σ H2 _ ⟨_, _, s2, _⟩ => s2.seq hS) ?_ ?_⟩
      · rintro i y σ H2 hi ⟨y6, rfl, s2, eo⟩
        obtain ⟨z, hz, rfl⟩ : ∃ z, ps[i]? = some z ∧ y = V.int z := by
          rw [List.getElem?_map] at hi
          cases e : ps[i]? with
          | none => rw [e] at hi; cases hi
          | some z => rw [e] at hi; exact ⟨z, rfl, (Option.some.inj hi).symm⟩
        have hp := hps z (List.mem_of_getElem? hz)
        have et : ps.take (i + 1) = ps.take i ++ [z] := by rw [List.take_add_one, hz]; rfl
        refine ⟨_, rfl, .inl ⟨rfl, _, SqL.of eo⟩, _, rfl, _, rfl, _, _, rfl, rfl, hp.1, o, _, _, rfl, rfl, eo, ?_, ?_⟩
        · refine sz_lt ?_
          rw [List.length_map, drawn_len, List.length_take]
          omega
        · refine ⟨_, rfl, _, rfl, _, _, rfl, rfl, wide_div hp.1 (b := 60) (by omega) (by decide) (by decide), ?_⟩
          refine ⟨some (.int z), ?_, fun b x e => ?_, ?_⟩
          · rw [et, rest_snoc]
            rfl
          · rw [upd_ne (ne_of_none e no)]
            exact s2 b x e
          · rw [upd_same, et, drawn_snoc, List.map_append]
            rfl
      · rintro σ H2 ⟨y6, rfl, s2, eo⟩
        rw [List.length_map, List.take_length] at eo
        exact ⟨_, rfl, q o H2 no s2 eo⟩
    refine ⟨_, rfl, c, rfl, _, _, rfl, rfl, ⟨by decide, by decide, by decide⟩, _, _, rfl, rfl, _, rfl, ite2 (fun e => ?_) (fun e => ?_)⟩
    · have e1 := of_decide_eq_true e
      have hc1 : (if c < 0 then -c else c) < 10 ^ 18 := e1
      have hc : -(10 ^ 18) < c ∧ c < 10 ^ 18 := by
        split at hc1 <;> omega
      have n1 : 0 ≤ (c * 48271 + 11) % 2147483647 := Int.emod_nonneg _ (by decide)
      have m1 : (c * 48271 + 11) % 2147483647 < 2147483647 := Int.emod_lt_of_pos _ (by decide)
      have n2 : 0 ≤ (((c * 48271 + 11) % 2147483647) * ((c * 48271 + 11) % 2147483647) + 40692 * ((c * 48271 + 11) % 2147483647) + c) % 2147483399 := Int.emod_nonneg _ (by decide)
      have m2 : (((c * 48271 + 11) % 2147483647) * ((c * 48271 + 11) % 2147483647) + 40692 * ((c * 48271 + 11) % 2147483647) + c) % 2147483399 < 2147483399 := Int.emod_lt_of_pos _ (by decide)
      have n3 : 0 ≤ ((((c * 48271 + 11) % 2147483647) * ((c * 48271 + 11) % 2147483647) + 40692 * ((c * 48271 + 11) % 2147483647) + c) % 2147483399 * 16807 + (c * 48271 + 11) % 2147483647) % 1000000007 := Int.emod_nonneg _ (by decide)
      have m3 : ((((c * 48271 + 11) % 2147483647) * ((c * 48271 + 11) % 2147483647) + 40692 * ((c * 48271 + 11) % 2147483647) + c) % 2147483399 * 16807 + (c * 48271 + 11) % 2147483647) % 1000000007 < 1000000007 := Int.emod_lt_of_pos _ (by decide)
      refine ⟨_, rfl, _, _, rfl, rfl, wide (small (by omega) (by omega)) (small (by decide) (by decide)), _, _, rfl, rfl, _, _, rfl, rfl, (by show (0 : Int) < 2147483647; decide), ?_⟩
      refine ⟨_, rfl, _, rfl, _, _, rfl, rfl, wide (small (by omega) (by omega)) (small (by omega) (by omega)), _, rfl, _, _, rfl, rfl, wide (small (by decide) (by decide)) (small (by omega) (by omega)), _, _, rfl, rfl, _, rfl, _, _, rfl, rfl, _, _, rfl, rfl, (by show (0 : Int) < 2147483399; decide), ?_⟩
      refine ⟨_, rfl, _, _, rfl, rfl, wide (small (by omega) (by omega)) (small (by decide) (by decide)), _, rfl, _, _, rfl, rfl, _, _, rfl, rfl, (by show (0 : Int) < 1000000007; decide), ?_⟩
      refine ⟨_, rfl, _, rfl, _, rfl, _, _, rfl, rfl, wide (small (by decide) (by decide)) (small (by omega) (by omega)), _, _, rfl, rfl, _, _, rfl, rfl, wide (small (by decide) (by decide)) (small (by omega) (by omega)), _, _, rfl, rfl, ?_⟩
      refine go _ _ _ _ ?_
      unfold seed
      rw [if_pos hc1]
    · have e1 : ¬ (if c < 0 then -c else c) < 10 ^ 18 := fun z => e (decide_eq_true z)
      refine ⟨_, rfl, c, rfl, _, _, rfl, rfl, ⟨by decide, by decide, by decide⟩, _, _, rfl, rfl, ?_⟩
      refine go _ _ _ _ ?_
      unfold seed
      rw [if_neg e1]
      rfl


/-! ### _law_turn -/
def sp_turn : Sp := fun vs H Q _ => ∃ (c : Int) (n : Nat), vs = [.int c, .int (n : Int)] ∧ n ≤ 1000 ∧
  ∀ p H', H p = none → Same H H' → H' p = some (.tup ((turnOf c n).map V.int)) → Q (.ref p) H'
theorem ok_l_turn {f : Addr} {fd : FuncData} (D : Dn K mg "_law_turn" s_l_turn p_l_turn f fd) (b : Blt mg) : Cal P w K mg base CX0 1 "_law_turn" p_l_turn sp_turn := by
  refine D.cal (D.F.ok sc_l_turn (fun vs H Q E h => ?_) (fun cdv A outer s H vs Q E hr h => ?_))
  · obtain ⟨c, n, rfl, _⟩ := h
    rfl
  · obtain ⟨c, n, rfl, hn, q⟩ := h
    refine ⟨_, (pss_cons (ps_set (i := 2) sc_l_turn.nd rfl (Or.inl rfl) (pe_listRg rfl (by rfl) b.ty_list (prg_1 (by rfl) b.range (pv 1))))
      (pss_cons (ps_set (i := 3) sc_l_turn.nd rfl (Or.inl rfl) (pe_lst pa_nil))
      (pss_cons (ps_for PassesOwn.never rfl (pi_range1 (by rfl) b.range (pa_cons (pv 1) pa_nil)) (pg_name (i := 4) sc_l_turn.nd rfl (Or.inl rfl)) (pss_cons (ps_expr (pe_bm PySem.F.plainAttrs_list PySem.F.slot_list_append PySem.F.type_list_append mt_append (pv 3) (pa_cons (pe_bm PySem.F.plainAttrs_list PySem.F.slot_list_pop PySem.F.type_list_pop mt_popAt (pv 2) (pa_cons (pe_op op_mod (pv 0) (pe_op op_sub (pv 1) (pv 4))) pa_nil)) pa_nil)))
      (pss_one (ps_set (i := 0) sc_l_turn.nd rfl (Or.inl rfl) (pe_op op_fdivW (pv 0) (pe_op op_sub (pv 1) (pv 4)))))))
      (pss_one (ps_ret (pe_callTy call_tuple_of (by rfl) b.ty_tuple (by decide +kernel) (pa_cons (pv 3) pa_nil))))))), ?_⟩
    refine ⟨_, rfl, _, rfl, rg_ok hn, fun l nl => ?_⟩
    rw [rgV_int]
    refine ⟨Nat.zero_le _, fun o no => ?_⟩
    have nlo : l ≠ o := ne_of_none upd_same no
    have no0 : H o = none := by walk_at "fr"
    refine ⟨_, rfl, _, rfl, by omega, by omega, for_range (lo := 0) (n := n) (fun i σ H2 => ∃ (y4 : Option V) (free acc : List Int) (cc : Int), σ = [some (.int cc), some (.int (n : Int)), some (.ref l), some (.ref o), y4] ∧ Same H H2 ∧ H2 l = some (.lst (free.map V.int)) ∧ H2 o = some (.lst (acc.map V.int)) ∧
        free.length + i = n ∧ acc.length = i ∧ acc ++ picks free.length free cc = turnOf c n)
      ⟨none, rgI n, [], c, rfl, by walk_at "sm", by walk_at "hp", upd_same, by rw [rgI_len]; omega, rfl, by rw [rgI_len]; rfl⟩ ?_ ?_⟩
    · rintro i σ H2 hi ⟨y4, free, acc, cc, rfl, s2, el, eo, hf, ha, hp⟩
      obtain ⟨m, hm⟩ : ∃ m, free.length = m + 1 := ⟨n - i - 1, by omega⟩
      have ed : (n : Int) - (0 + (i : Int)) = (m : Int) + 1 := by omega
      have h0 : 0 ≤ cc % ((m : Int) + 1) := Int.emod_nonneg _ (by omega)
      have h1 : cc % ((m : Int) + 1) < (m : Int) + 1 := Int.emod_lt_of_pos _ (by omega)
      have hk : (cc % ((m : Int) + 1)).toNat < free.length := by omega
      refine ⟨_, rfl, .inl ⟨rfl, _, SqL.of eo⟩, _, rfl, .inl ⟨rfl, _, SqL.of el⟩, _, rfl, _, rfl, _, rfl, _, _, rfl, rfl, _, _, rfl, rfl, ?_, l, _, cc % ((m : Int) + 1), (cc % ((m : Int) + 1)).toNat, .int (free.getD (cc % ((m : Int) + 1)).toNat 0), rfl, ?_, el, ?_, ?_, ?_, ?_, ?_⟩
      · show (0 : Int) < (n : Int) - (0 + (i : Int))
        omega
      · show [V.int (cc % ((n : Int) - (0 + (i : Int))))] = _
        rw [ed]
      · omega
      · omega
      · rw [List.length_map]
        exact seqIx_in h0 (by omega)
      · rw [List.getElem?_map, getD_some hk]
        rfl
      · refine ⟨o, _, _, rfl, rfl, upd_old nlo.symm eo, ?_, ?_⟩
        · refine sz_lt ?_
          rw [List.length_map]
          omega
        · refine ⟨_, rfl, _, rfl, _, rfl, _, _, rfl, rfl, _, _, rfl, rfl, ?_, ?_⟩
          · show CDivW cc ((n : Int) - (0 + (i : Int)))
            exact wide_div (by omega) (b := 60) (by omega) (by decide) (by decide)
          · refine ⟨some (.int (0 + (i : Int))), free.eraseIdx (cc % ((m : Int) + 1)).toNat, acc ++ [free.getD (cc % ((m : Int) + 1)).toNat 0], cc / ((m : Int) + 1), ?_, ?_, ?_, ?_, ?_, ?_, ?_⟩
            · rw [← ed]
              rfl
            · refine same_new (same_new s2 nl) no0
            · rw [upd_ne nlo, upd_same, erase_ints]
            · rw [upd_same, snoc_ints]
            · rw [List.length_eraseIdx_of_lt hk]
              omega
            · rw [List.length_append, ha]
              rfl
            · rw [List.length_eraseIdx_of_lt hk, ← hp, hm, List.append_assoc]
              rfl
    · rintro σ H2 ⟨y4, free, acc, cc, rfl, s2, el, eo, hf, ha, hp⟩
      have e0 : free.length = 0 := by omega
      have ep : acc = turnOf c n := by
        rw [← hp, e0]
        show acc = acc ++ []
        rw [List.append_nil]
      subst ep
      refine ⟨_, rfl, o, _, rfl, .inl ⟨SqL.of eo, fun t nt => ?_⟩⟩
      exact q t _ (s2.free nt) (same_new s2 (s2.free nt)) upd_same


/-! ### _law_after -/
def sp_l_after (K : PySem.W.Frag) : Sp := fun vs H Q _ => ∃ (a a' : Addr) (ns ms : List Int), vs = [.ref a, .ref a'] ∧ SqT K H a (ns.map V.int) ∧ SqT K H a' (ms.map V.int) ∧ ns.length ≤ 1000 ∧ (∀ x ∈ ns, 0 ≤ x ∧ x < (ms.length : Int)) ∧
  ∀ p H', H p = none → Same H H' → Tp H' p ((after ns ms).map V.int) → Q (.ref p) H'
theorem ok_l_after {f : Addr} {fd : FuncData} (D : Dn K mg "_law_after" s_l_after p_l_after f fd) (b : Blt mg) : Cal P w K mg base CX0 1 "_law_after" p_l_after (sp_l_after K) := by
  refine D.cal (D.F.ok sc_l_after (fun vs H Q E h => ?_) (fun cdv A outer s H vs Q E hr h => ?_))
  · obtain ⟨a, a', ns, ms, rfl, _⟩ := h
    rfl
  · obtain ⟨a, a', ns, ms, rfl, ha, hb, hn, hm, q⟩ := h
    refine ⟨_, (pss_one (ps_ret (pe_callTy call_tupF (by rfl) b.ty_tuple (by decide +kernel) (pa_cons (pe_lc (own := [("_law_one", 2)]) (g := gName 2) (by rfl) sc_l_after.nd (pi_tup (pv 0)) (blkOk_by (N := s_l_after_N) (sc := defScope s_l_after) (by decide +kernel)) (fun _ _ _ _ _ => (pg_name (i := 2) sc_l_after.nd rfl (Or.inl rfl))) (fun _ _ _ _ _ => pts_nil) (fun _ _ _ _ _ => (pe_ix (ix_tupK K) (pv 1) (pv 2) (fun _ _ => rfl)))) pa_nil)))), ?_⟩
    refine ⟨_, rfl, a, rfl, ⟨_, ha⟩, fun L nL => lc_tup (K := K) (a := a) (xs := ns.map V.int) (fun i Hx => Same H Hx ∧ Hx L = some (.lst ((after (ns.take i) ms).map V.int))) ⟨same_new (Same.refl H) nL, upd_same⟩ (fun i Hx _ hI => same_seqT hI.1 ha) ?_ ?_⟩
    · rintro i x Hx hi ⟨sx, eL⟩
      obtain ⟨z, hz, rfl⟩ := int_at hi
      have hz2 := hm z (List.mem_of_getElem? hz)
      have hi2 : i < ns.length := (List.getElem?_eq_some_iff.mp hz).1
      refine ⟨rfl, ⟨_, rfl, _, rfl, a', _, _, .int (ms.getD z.toNat 0), rfl, rfl, same_seqT sx hb, at_int hz2.1 (getD_some (by omega)), _, eL, ?_, same_new sx nL, ?_⟩⟩
      · refine sz_lt ?_
        rw [List.length_map]
        unfold after
        rw [List.length_map, List.length_take]
        omega
      · rw [upd_same, List.take_add_one, hz, after_snoc]
        show some (HO.lst ((after (ns.take i) ms).map V.int ++ [V.int (ms.getD z.toNat 0)])) = _
        rw [snoc_ints]
        rfl
    · rintro Hx ⟨sx, eL⟩
      rw [List.length_map, List.take_length] at eL
      exact ⟨L, _, rfl, SqL.of eL, fun p H' np s' hp => q p H' (sx.free np) (sx.trans s') hp⟩


/-! ### _law_same, of alike things -/
def sp_same (K : PySem.W.Frag) : Nat → Sp
  | 0 => fun _ _ _ _ => False
  | n + 1 => fun vs H Q _ => ∃ x y, vs = [x, y] ∧ Alike K H n x y ∧ ∀ H', Same H H' → Q (.bl true) H'
theorem ok_l_same {f : Addr} {fd : FuncData} (D : Dn K mg "_law_same" s_l_same p_l_same f fd) (b : Blt mg) : ∀ n : Nat, Cal P w K mg base CX0 n "_law_same" p_l_same (sp_same K n) := by
  intro n
  induction n with
  | zero => exact D.cal fn_never
  | succ n ih =>
  have c := ih
  refine D.cal (D.F.ok sc_l_same (fun vs H Q E h => ?_) (fun cdv A outer s H vs Q E hr h => ?_))
  · obtain ⟨x, y, rfl, _⟩ := h
    rfl
  · obtain ⟨x, y, rfl, hA, q⟩ := h
    have hle : n ≤ n := Nat.le_refl n
    refine ⟨_, (pss_cons (ps_if (pt_cmpR op_isN (pv 1) pe_non (nomark _)) (pss_one (ps_ret (pe_cmpR op_isN (pv 0) pe_non (nomark _)))) pss_nil)
      (pss_cons (ps_if (pt_val (pe_callB call_isi (by rfl) b.isinstance (by decide +kernel) (pa_cons (pv 1) (pa_cons (pe_bltn (v := .ty "bool") (by rfl) b.ty_bool (by decide +kernel) rfl) pa_nil)))) (pss_one (ps_ret (pe_and (pe_callB call_isi (by rfl) b.isinstance (by decide +kernel) (pa_cons (pv 0) (pa_cons (pe_bltn (v := .ty "bool") (by rfl) b.ty_bool (by decide +kernel) rfl) pa_nil))) (pe_one (pe_cmpR op_eq (pv 0) (pv 1) (nomark _)))))) pss_nil)
      (pss_cons (ps_if (pt_val (pe_callB call_isi (by rfl) b.isinstance (by decide +kernel) (pa_cons (pv 1) (pa_cons (pe_bltn (v := .ty "int") (by rfl) b.ty_int (by decide +kernel) rfl) pa_nil)))) (pss_one (ps_ret (pe_and (pe_callB call_isi (by rfl) b.isinstance (by decide +kernel) (pa_cons (pv 0) (pa_cons (pe_bltn (v := .ty "int") (by rfl) b.ty_int (by decide +kernel) rfl) pa_nil))) (pe_and (pe_not (pe_callB call_isi (by rfl) b.isinstance (by decide +kernel) (pa_cons (pv 0) (pa_cons (pe_bltn (v := .ty "bool") (by rfl) b.ty_bool (by decide +kernel) rfl) pa_nil)))) (pe_one (pe_cmpR op_eq (pv 0) (pv 1) (nomark _))))))) pss_nil)
      (pss_cons (ps_if (pt_val (pe_callB call_isi (by rfl) b.isinstance (by decide +kernel) (pa_cons (pv 1) (pa_cons (pe_bltn (v := .ty "str") (by rfl) b.ty_str (by decide +kernel) rfl) pa_nil)))) (pss_one (ps_ret (pe_and (pe_callB call_isi (by rfl) b.isinstance (by decide +kernel) (pa_cons (pv 0) (pa_cons (pe_bltn (v := .ty "str") (by rfl) b.ty_str (by decide +kernel) rfl) pa_nil))) (pe_one (pe_cmpR op_eq (pv 0) (pv 1) (nomark _)))))) pss_nil)
      (pss_cons (ps_if (PW.pt (pw_or (pt_cmpR op_ne (pe_callB call_isi (by rfl) b.isinstance (by decide +kernel) (pa_cons (pv 1) (pa_cons (pe_bltn (v := .ty "list") (by rfl) b.ty_list (by decide +kernel) rfl) pa_nil))) (pe_callB call_isi (by rfl) b.isinstance (by decide +kernel) (pa_cons (pv 0) (pa_cons (pe_bltn (v := .ty "list") (by rfl) b.ty_list (by decide +kernel) rfl) pa_nil))) (nomark _)) (pw_or1 (pt_cmpR op_ne (pe_callB call_isi (by rfl) b.isinstance (by decide +kernel) (pa_cons (pv 1) (pa_cons (pe_bltn (v := .ty "tuple") (by rfl) b.ty_tuple (by decide +kernel) rfl) pa_nil))) (pe_callB call_isi (by rfl) b.isinstance (by decide +kernel) (pa_cons (pv 0) (pa_cons (pe_bltn (v := .ty "tuple") (by rfl) b.ty_tuple (by decide +kernel) rfl) pa_nil))) (nomark _))))) (pss_one (ps_ret pe_bl)) pss_nil)
      (pss_cons (ps_if (pt_cmpR op_ne (pe_callB call_len_seq (by rfl) b.len PySem.boot_len (pa_cons (pv 0) pa_nil)) (pe_callB call_len_seq (by rfl) b.len PySem.boot_len (pa_cons (pv 1) pa_nil)) (nomark _)) (pss_one (ps_ret pe_bl)) pss_nil)
      (pss_one (ps_ret (pe_callB (cr_all rfl) (by rfl) b.all (by decide +kernel) (pa_cons (pe_lc (own := [("_law_k", 2)]) (g := gName 2) (by rfl) sc_l_same.nd (pi_range1 (by rfl) b.range (pa_cons (pe_callB call_len_seq (by rfl) b.len PySem.boot_len (pa_cons (pv 1) pa_nil)) pa_nil)) (blkOk_by (N := s_l_same_N) (sc := defScope s_l_same) (by decide +kernel)) (fun _ _ _ _ _ => (pg_name (i := 2) sc_l_same.nd rfl (Or.inl rfl))) (fun _ _ _ _ _ => pts_nil) (fun _ _ _ _ _ => (pe_c c hr (by omega) (by rfl) pass0 (pa_cons (pe_ix (ix_seqK K) (pv 0) (pv 2) (fun _ _ => rfl)) (pa_cons (pe_ix (ix_seqK K) (pv 1) (pv 2) (fun _ _ => rfl)) pa_nil))))) pa_nil)))))))))), ?_⟩
    cases hA with
    | non =>
      refine ⟨_, rfl, rfl, _, rfl, iteT ⟨_, rfl, rfl, ?_⟩⟩
      exact q H (Same.refl H)
    | bl z =>
      refine ⟨_, rfl, rfl, _, rfl, ifno ?_⟩
      refine ⟨_, rfl, _, _, _, _, true, rfl, .ty "bool", .base (.bl _), kit_ty (by decide +kernel), _, rfl, iteT ?_⟩
      refine ⟨_, rfl, _, _, _, _, true, rfl, .ty "bool", .base (.bl _), kit_ty (by decide +kernel), _, rfl, iteT ⟨_, rfl, _, rfl, rfl, ?_⟩⟩
      rw [decide_eq_true rfl]
      exact q H (Same.refl H)
    | int z =>
      refine ⟨_, rfl, rfl, _, rfl, ifno ?_⟩
      refine ⟨_, rfl, _, _, _, _, false, rfl, .ty "bool", .base (.int _), kit_ty (by decide +kernel), _, rfl, ifno ?_⟩
      refine ⟨_, rfl, _, _, _, _, true, rfl, .ty "int", .base (.int _), kit_ty (by decide +kernel), _, rfl, iteT ?_⟩
      refine ⟨_, rfl, _, _, _, _, true, rfl, .ty "int", .base (.int _), kit_ty (by decide +kernel), _, rfl, iteT ?_⟩
      refine ⟨_, rfl, _, _, _, _, false, rfl, .ty "bool", .base (.int _), kit_ty (by decide +kernel), _, rfl, _, rfl, iteT ⟨_, rfl, _, rfl, rfl, ?_⟩⟩
      rw [decide_eq_true rfl]
      exact q H (Same.refl H)
    | str z =>
      refine ⟨_, rfl, rfl, _, rfl, ifno ?_⟩
      refine ⟨_, rfl, _, _, _, _, false, rfl, .ty "bool", .base (.str _), kit_ty (by decide +kernel), _, rfl, ifno ?_⟩
      refine ⟨_, rfl, _, _, _, _, false, rfl, .ty "int", .base (.str _), kit_ty (by decide +kernel), _, rfl, ifno ?_⟩
      refine ⟨_, rfl, _, _, _, _, true, rfl, .ty "str", .base (.str _), kit_ty (by decide +kernel), _, rfl, iteT ?_⟩
      refine ⟨_, rfl, _, _, _, _, true, rfl, .ty "str", .base (.str _), kit_ty (by decide +kernel), _, rfl, iteT ⟨_, rfl, _, rfl, rfl, ?_⟩⟩
      rw [decide_eq_true rfl]
      exact q H (Same.refl H)
    | @lst m a a' xs ys ha hb hl hz hh =>
      refine ⟨_, rfl, rfl, _, rfl, ifno ?_⟩
      refine ⟨_, rfl, _, _, _, _, false, rfl, .ty "bool", tyL hb, kit_ty (by decide +kernel), _, rfl, ifno ?_⟩
      refine ⟨_, rfl, _, _, _, _, false, rfl, .ty "int", tyL hb, kit_ty (by decide +kernel), _, rfl, ifno ?_⟩
      refine ⟨_, rfl, _, _, _, _, false, rfl, .ty "str", tyL hb, kit_ty (by decide +kernel), _, rfl, ifno ?_⟩
      refine ⟨_, rfl, _, _, _, _, true, rfl, .ty "list", tyL hb, kit_ty (by decide +kernel), _, rfl, _, _, _, _, true, rfl, .ty "list", tyL ha, kit_ty (by decide +kernel), rfl, _, rfl, iteF ?_⟩
      refine ⟨_, rfl, _, _, _, _, false, rfl, .ty "tuple", tyL hb, kit_ty (by decide +kernel), _, rfl, _, _, _, _, false, rfl, .ty "tuple", tyL ha, kit_ty (by decide +kernel), rfl, _, rfl, ifno ?_⟩
      refine ⟨_, rfl, a, _, rfl, .inl ha, _, rfl, a', _, rfl, .inl hb, rfl, _, rfl, ?_⟩
      rw [decide_eq_true (congrArg (fun k : Nat => V.int (k : Int)) hl)]
      refine ifno ⟨_, rfl, a', _, rfl, .inl hb, (ys.length : Int), rfl, by omega, by omega, fun L nL => lc_range (lo := 0) (n := ys.length) (fun i Hx => Same H Hx ∧ Hx L = some (.lst ((List.replicate i true).map V.bl))) ⟨same_new (Same.refl H) nL, upd_same⟩ ?_ ?_⟩
      · rintro i Hx hi ⟨sx, eL⟩
        obtain ⟨u, hu⟩ : ∃ u, xs[i]? = some u := ⟨xs[i]'(by omega), List.getElem?_eq_getElem (by omega)⟩
        obtain ⟨v, hv⟩ : ∃ v, ys[i]? = some v := ⟨ys[i], List.getElem?_eq_getElem hi⟩
        have e0 : (0 : Int) + (i : Int) = (i : Int) := Int.zero_add _
        refine ⟨rfl, ⟨_, rfl, _, rfl, .inl ⟨a, _, _, u, rfl, rfl, sx.seq ha, by rw [e0]; exact atI_nat hu, _, rfl, _, rfl, .inl ⟨a', _, _, v, rfl, rfl, sx.seq hb, by rw [e0]; exact atI_nat hv, u, v, rfl, (hh i u v hu hv).same sx, fun H2 s2 => ⟨_, s2 _ _ eL, ?_, ?_, ?_⟩⟩⟩⟩⟩
        · refine sz_lt ?_
          rw [List.length_map, List.length_replicate]
          omega
        · exact same_new (sx.trans s2) nL
        · rw [upd_same, List.replicate_succ', List.map_append]
          rfl
      · rintro Hx ⟨sx, eL⟩
        refine ⟨L, _, rfl, SqL.of eL, ?_⟩
        rw [show (List.replicate ys.length true).all id = true by simp]
        exact q Hx sx
    | @tup m a a' xs ys ha hb hl hz hh =>
      refine ⟨_, rfl, rfl, _, rfl, ifno ?_⟩
      refine ⟨_, rfl, _, _, _, _, false, rfl, .ty "bool", tyT hb, kit_ty (by decide +kernel), _, rfl, ifno ?_⟩
      refine ⟨_, rfl, _, _, _, _, false, rfl, .ty "int", tyT hb, kit_ty (by decide +kernel), _, rfl, ifno ?_⟩
      refine ⟨_, rfl, _, _, _, _, false, rfl, .ty "str", tyT hb, kit_ty (by decide +kernel), _, rfl, ifno ?_⟩
      refine ⟨_, rfl, _, _, _, _, false, rfl, .ty "list", tyT hb, kit_ty (by decide +kernel), _, rfl, _, _, _, _, false, rfl, .ty "list", tyT ha, kit_ty (by decide +kernel), rfl, _, rfl, iteF ?_⟩
      refine ⟨_, rfl, _, _, _, _, true, rfl, .ty "tuple", tyT hb, kit_ty (by decide +kernel), _, rfl, _, _, _, _, true, rfl, .ty "tuple", tyT ha, kit_ty (by decide +kernel), rfl, _, rfl, ifno ?_⟩
      refine ⟨_, rfl, a, _, rfl, .inr ha, _, rfl, a', _, rfl, .inr hb, rfl, _, rfl, ?_⟩
      rw [decide_eq_true (congrArg (fun k : Nat => V.int (k : Int)) hl)]
      refine ifno ⟨_, rfl, a', _, rfl, .inr hb, (ys.length : Int), rfl, by omega, by omega, fun L nL => lc_range (lo := 0) (n := ys.length) (fun i Hx => Same H Hx ∧ Hx L = some (.lst ((List.replicate i true).map V.bl))) ⟨same_new (Same.refl H) nL, upd_same⟩ ?_ ?_⟩
      · rintro i Hx hi ⟨sx, eL⟩
        obtain ⟨u, hu⟩ : ∃ u, xs[i]? = some u := ⟨xs[i]'(by omega), List.getElem?_eq_getElem (by omega)⟩
        obtain ⟨v, hv⟩ : ∃ v, ys[i]? = some v := ⟨ys[i], List.getElem?_eq_getElem hi⟩
        have e0 : (0 : Int) + (i : Int) = (i : Int) := Int.zero_add _
        refine ⟨rfl, ⟨_, rfl, _, rfl, .inr (.inl ⟨a, _, _, u, rfl, rfl, same_seqT sx ha, by rw [e0]; exact atI_nat hu, _, rfl, _, rfl, .inr (.inl ⟨a', _, _, v, rfl, rfl, same_seqT sx hb, by rw [e0]; exact atI_nat hv, u, v, rfl, (hh i u v hu hv).same sx, fun H2 s2 => ⟨_, s2 _ _ eL, ?_, ?_, ?_⟩⟩)⟩)⟩⟩
        · refine sz_lt ?_
          rw [List.length_map, List.length_replicate]
          omega
        · exact same_new (sx.trans s2) nL
        · rw [upd_same, List.replicate_succ', List.map_append]
          rfl
      · rintro Hx ⟨sx, eL⟩
        refine ⟨L, _, rfl, SqL.of eL, ?_⟩
        rw [show (List.replicate ys.length true).all id = true by simp]
        exact q Hx sx


/-! ### rounds -/
def sp_rounds (K : PySem.W.Frag) : Sp := fun vs H Q _ => ∃ (a : Addr) (ts : List Int), vs = [.ref a] ∧ SqT K H a (ts.map V.int) ∧ Turn ts ∧ ts.length ≤ 100 ∧
  ∀ fo as H', H fo = none → (∀ a ∈ as, H a = none) → (∀ a ∈ as, a ≠ fo) → Same H H' → RingsAt H' fo as (Kin.rounds ts) → Q (.ref fo) H'
theorem ok_rounds {f : Addr} {fd : FuncData} (D : Dn K mg "rounds" s_rounds p_rounds f fd) (b : Blt mg) : Cal P w K mg base CX0 1 "rounds" p_rounds (sp_rounds K) := by
  refine D.cal (D.F.ok sc_rounds (fun vs H Q E h => ?_) (fun cdv A outer s H vs Q E hr h => ?_))
  · obtain ⟨a, ts, rfl, _⟩ := h
    rfl
  · obtain ⟨a, ts, rfl, ha, t, hn, q⟩ := h
    refine ⟨_, (pss_cons (ps_set (i := 1) sc_rounds.nd rfl (Or.inl rfl) pe_dnewK)
      (pss_cons (ps_set (i := 2) sc_rounds.nd rfl (Or.inl rfl) (pe_lst pa_nil))
      (pss_cons (ps_for PassesOwn.never rfl (pi_range1 (by rfl) b.range (pa_cons (pe_callB call_len_seq (by rfl) b.len PySem.boot_len (pa_cons (pv 0) pa_nil)) pa_nil)) (pg_name (i := 3) sc_rounds.nd rfl (Or.inl rfl)) (pss_one (ps_if (pt_cmp (pc_dnotin (hu_of hr) (pv 3) (pv 1))) (pss_cons (ps_set (i := 4) sc_rounds.nd rfl (Or.inl rfl) (pe_lst (pa_cons (pv 3) pa_nil)))
      (pss_cons (ps_dput (hu_of hr) (pv 1) (pv 3) pe_bl rfl)
      (pss_cons (ps_set (i := 5) sc_rounds.nd rfl (Or.inl rfl) (pe_ix ix_tup (pv 0) (pv 3) (fun _ _ => rfl)))
      (pss_cons (ps_while PassesOwn.never (pt_cmpR op_ne (pv 5) (pv 3) (nomark _)) (pss_cons (ps_expr (pe_bm PySem.F.plainAttrs_list PySem.F.slot_list_append PySem.F.type_list_append mt_append (pv 4) (pa_cons (pv 5) pa_nil)))
      (pss_cons (ps_dput (hu_of hr) (pv 1) (pv 5) pe_bl rfl)
      (pss_one (ps_set (i := 5) sc_rounds.nd rfl (Or.inl rfl) (pe_ix ix_tup (pv 0) (pv 5) (fun _ _ => rfl)))))))
      (pss_one (ps_expr (pe_bm PySem.F.plainAttrs_list PySem.F.slot_list_append PySem.F.type_list_append mt_append (pv 2) (pa_cons (pv 4) pa_nil)))))))) pss_nil)))
      (pss_one (ps_ret (pv 2)))))), ?_⟩
    refine fun se nse => ⟨Nat.zero_le _, fun fo nfo => ?_⟩
    have s1 : Same H (upd H se (.dK [])) := same_new (Same.refl _) nse
    have nfo0 := s1.free nfo
    have s2 : Same H (upd (upd H se (.dK [])) fo (.lst [])) := same_new s1 nfo0
    have nef : se ≠ fo := ne_of_none upd_same nfo
    have el : ((ts.map V.int).length : Int) = (ts.length : Int) := by rw [List.length_map]
    refine ⟨_, rfl, a, _, rfl, .inr (same_seqT s2 ha), (ts.length : Int), (by rw [el]), by omega, by omega, for_range (lo := 0) (n := ts.length) (fun i σ' H' => ∃ (y3 y4 y5 : Option V) (kvs : List (Key × V)) (as : List Addr), σ' = [some (.ref a), some (.ref se), some (.ref fo), y3, y4, y5] ∧ Same H H' ∧ H' se = some (.dK kvs) ∧ kvs.length ≤ 100 * i ∧
        (∀ z, (valV kvs (.inl z)).isSome = true ↔ seenB ts i z) ∧ RingsAt H' fo as (roundsTo ts i) ∧ (∀ a ∈ as, H a = none ∧ a ≠ fo ∧ a ≠ se) ∧ as.length ≤ i)
      ⟨none, none, none, [], [], rfl, s2, upd_old nef upd_same, Nat.le_refl _, fun z => ⟨fun h => (by cases h), fun ⟨b, hb, _⟩ => (by cases hb)⟩, ⟨upd_same, rfl, fun i a r h => by simp at h⟩, (fun a h => by cases h), Nat.le_refl _⟩ ?_ ?_⟩
    · rintro i σ' H1 hi ⟨y3, y4, y5, kvs, as, rfl, s3, hse, lk, hk, hR, has, las⟩
      have hin : (i : Int) ∈ rgI ts.length := mem_rgI.mpr ⟨by omega, by omega⟩
      have P := t.per hin
      have hrt : roundsTo ts (i + 1) = roundsTo ts i ++ (if isMin ts (i : Int) = true then [ring ts (i : Int)] else []) := by
        unfold roundsTo
        rw [show rgI (i + 1) = rgI i ++ [(i : Int)] by unfold rgI; rw [List.range_succ, List.map_append]; rfl, List.filter_append, List.filter_cons, List.filter_nil, List.map_append]
        split <;> rfl
      have hsb : ∀ z, seenB ts (i + 1) z ↔ seenB ts i z ∨ (isMin ts (i : Int) = true ∧ z ∈ ring ts (i : Int)) := by
        intro z
        unfold seenB
        rw [show rgI (i + 1) = rgI i ++ [(i : Int)] by unfold rgI; rw [List.range_succ, List.map_append]; rfl]
        constructor
        · rintro ⟨b, hb, h1, h2⟩
          rcases List.mem_append.mp hb with h | h
          · exact .inl ⟨b, h, h1, h2⟩
          · rw [List.mem_singleton.mp h] at h1 h2
            exact .inr ⟨h1, h2⟩
        · rintro (⟨b, hb, h1, h2⟩ | ⟨h1, h2⟩)
          · exact ⟨b, List.mem_append_left _ hb, h1, h2⟩
          · exact ⟨_, List.mem_append_right _ (List.mem_singleton.mpr rfl), h1, h2⟩
      rw [Int.zero_add]
      refine ⟨_, rfl, _, rfl, se, _, rfl, DGet.k (k := .inl (i : Int)) hse, _, rfl, ?_⟩
      by_cases hmin : isMin ts (i : Int) = true
      · have hns : (valV kvs (.inl (i : Int))).isSome = false := by
          cases hv : (valV kvs (.inl (i : Int))).isSome with
          | false => rfl
          | true => exact absurd hmin ((seen_iff t hi).mp ((hk _).mp hv))
        rw [hns]
        refine iteT ?_
        -- ring = [at]
        refine ⟨_, rfl, (by show 1 ≤ sizeLine; decide), fun rg nrg => ?_⟩
        have s4 : Same H1 (upd H1 rg (.lst [V.int (i : Int)])) := same_new (Same.refl _) nrg
        have hrg : (upd H1 rg (.lst [V.int (i : Int)])) rg = some (.lst [V.int (i : Int)]) := upd_same
        have nrg0 := s3.free nrg
        have ners : rg ≠ se := (ne_of_none hse nrg).symm
        have nerf : rg ≠ fo := (ne_of_none hR.top nrg).symm
        have nera := hR.ne_none nrg
        generalize upd H1 rg (.lst [V.int (i : Int)]) = H2 at *
        -- seen[at] = True
        refine ⟨_, rfl, _, rfl, se, _, rfl, DPut.k (k := .inl (i : Int)) (s4 _ _ hse) (sz_lt (by omega)), ?_⟩
        have s5 : Same H (upd H2 se (.dK (putK kvs (.inl (i : Int)) (.bl true)))) := same_new (s3.trans s4) nse
        have hR5 := (hR.same s4).old (p := se) (o := .dK (putK kvs (.inl (i : Int)) (.bl true))) nef (fun a h => (has a h).2.2)
        have hrg5 : (upd H2 se (.dK (putK kvs (.inl (i : Int)) (.bl true)))) rg = some (.lst [V.int (i : Int)]) := upd_old ners hrg
        have hse5 : (upd H2 se (.dK (putK kvs (.inl (i : Int)) (.bl true)))) se = some (.dK (putK kvs (.inl (i : Int)) (.bl true))) := upd_same
        generalize upd H2 se (.dK (putK kvs (.inl (i : Int)) (.bl true))) = H3 at *
        -- to = turn[at]
        refine ⟨_, rfl, _, rfl, a, _, _, .int (app ts (i : Int)), rfl, rfl, same_seqT s5 ha, at_int (by omega) (app_at (by omega) (by omega)), ?_⟩
        -- while
        refine ⟨fun m σ' H' => ∃ (j : Nat) (kvs : List (Key × V)), m = per ts (i : Int) - j ∧ j + 1 ≤ per ts (i : Int) ∧ σ' = [some (.ref a), some (.ref se), some (.ref fo), some (.int (i : Int)), some (.ref rg), some (.int (it ts (j + 1) (i : Int)))] ∧ Same H H' ∧ H' se = some (.dK kvs) ∧ kvs.length ≤ 100 * i + j + 1 ∧
            (∀ z, (valV kvs (.inl z)).isSome = true ↔ seenB ts i z ∨ z ∈ (List.range (j + 1)).map fun k => it ts k (i : Int)) ∧ H' rg = some (.lst (((List.range (j + 1)).map fun k => it ts k (i : Int)).map V.int)) ∧ RingsAt H' fo as (roundsTo ts i),
          ⟨_, 0, _, rfl, P.p1, rfl, s5, hse5, ?_, ?_, hrg5, hR5⟩, ?_⟩
        · have := length_putK kvs (.inl (i : Int)) (.bl true)
          omega
        · intro z
          rw [put_some, hk]
          constructor
          · rintro (h | h)
            · exact .inr (by rw [h]; exact List.mem_singleton.mpr rfl)
            · exact .inl h
          · rintro (h | h)
            · exact .inr h
            · exact .inl (List.mem_singleton.mp h)
        rintro m σ' H' ⟨j, kv2, rfl, hj, rfl, s6, hse6, lk6, hk6, hrg6, hR6⟩
        have hto := t.it hin (j + 1)
        obtain ⟨to0, to1⟩ := mem_rgI.mp hto
        refine ⟨_, rfl, _, rfl, rfl, _, rfl, ?_⟩
        by_cases he : it ts (j + 1) (i : Int) = (i : Int)
        · -- the round is closed
          have hjp : j + 1 = per ts (i : Int) := by
            rcases Nat.lt_or_ge (j + 1) (per ts (i : Int)) with h | h
            · exact absurd he (P.pm (j + 1) (by omega) h)
            · omega
          rw [he, decide_eq_true (rfl : V.int (i : Int) = V.int (i : Int))]
          refine iteF ?_
          have hring : (List.range (j + 1)).map (fun k => it ts k (i : Int)) = ring ts (i : Int) := by rw [hjp]; rfl
          rw [hring] at hk6 hrg6
          refine ⟨_, rfl, .inl ⟨rfl, _, SqL.of hR6.top⟩, _, rfl, fo, _, _, rfl, rfl, hR6.top, sz_lt (by rw [List.length_map]; omega), ?_⟩
          refine ⟨_, _, _, kv2, as ++ [rg], rfl, same_new s6 nfo0, upd_old nef hse6, by have := P.pn; omega, fun z => ?_, ?_, ?_, by rw [List.length_append]; show as.length + 1 ≤ i + 1; omega⟩
          · rw [hk6, hsb]
            exact ⟨fun h => h.elim .inl fun h => .inr ⟨hmin, h⟩, fun h => h.elim .inl fun h => .inr h.2⟩
          · rw [hrt, if_pos hmin]
            exact hR6.snoc hrg6 (fun a h => (has a h).2.1) nerf
          · intro x hx
            rcases List.mem_append.mp hx with h | h
            · exact has x h
            · rw [List.mem_singleton.mp h]
              exact ⟨nrg0, nerf, ners⟩
        · -- one more
          have hjp : j + 1 < per ts (i : Int) := by
            rcases Nat.lt_or_ge (j + 1) (per ts (i : Int)) with h | h
            · exact h
            · exact absurd (by rw [show j + 1 = per ts (i : Int) by omega]; exact P.pe) he
          rw [decide_eq_false (fun z => he (V.int.inj z) : ¬ V.int (it ts (j + 1) (i : Int)) = V.int (i : Int))]
          refine iteT ⟨fun σ' H' => ∃ (kvs : List (Key × V)), σ' = [some (.ref a), some (.ref se), some (.ref fo), some (.int (i : Int)), some (.ref rg), some (.int (it ts (j + 1 + 1) (i : Int)))] ∧ Same H H' ∧ H' se = some (.dK kvs) ∧ kvs.length ≤ 100 * i + (j + 1) + 1 ∧
            (∀ z, (valV kvs (.inl z)).isSome = true ↔ seenB ts i z ∨ z ∈ (List.range (j + 1 + 1)).map fun k => it ts k (i : Int)) ∧ H' rg = some (.lst (((List.range (j + 1 + 1)).map fun k => it ts k (i : Int)).map V.int)) ∧ RingsAt H' fo as (roundsTo ts i), ?_, ?_⟩
          · rintro σ' H' ⟨kv3, h1, h2, h3, h4, h5, h6, h7⟩
            exact ⟨per ts (i : Int) - (j + 1), by omega, j + 1, kv3, rfl, by omega, h1, h2, h3, h4, h5, h6, h7⟩
          have hsn : (List.range (j + 1 + 1)).map (fun k => it ts k (i : Int)) = (List.range (j + 1)).map (fun k => it ts k (i : Int)) ++ [it ts (j + 1) (i : Int)] := by
            rw [List.range_succ, List.map_append]
            rfl
          have ns := P.pn
          refine ⟨_, rfl, .inl ⟨rfl, _, SqL.of hrg6⟩, _, rfl, rg, _, _, rfl, rfl, hrg6, sz_lt (by rw [List.length_map, List.length_map, List.length_range]; omega), ?_⟩
          rw [snoc_ints, ← hsn]
          have s7 : Same H (upd H' rg (.lst (((List.range (j + 1 + 1)).map fun k => it ts k (i : Int)).map V.int))) := same_new s6 nrg0
          have hse7 : (upd H' rg (.lst (((List.range (j + 1 + 1)).map fun k => it ts k (i : Int)).map V.int))) se = some (.dK kv2) := upd_old ners.symm hse6
          have hrg7 : (upd H' rg (.lst (((List.range (j + 1 + 1)).map fun k => it ts k (i : Int)).map V.int))) rg = some (.lst (((List.range (j + 1 + 1)).map fun k => it ts k (i : Int)).map V.int)) := upd_same
          have hR7 := hR6.old (p := rg) (o := .lst (((List.range (j + 1 + 1)).map fun k => it ts k (i : Int)).map V.int)) nerf nera
          generalize upd H' rg (.lst (((List.range (j + 1 + 1)).map fun k => it ts k (i : Int)).map V.int)) = H7 at *
          refine ⟨_, rfl, _, rfl, se, _, rfl, DPut.k (k := .inl (it ts (j + 1) (i : Int))) hse7 (sz_lt (by omega)), ?_⟩
          have s8 : Same H (upd H7 se (.dK (putK kv2 (.inl (it ts (j + 1) (i : Int))) (.bl true)))) := same_new s7 nse
          refine ⟨_, rfl, _, rfl, a, _, _, .int (it ts (j + 1 + 1) (i : Int)), rfl, rfl, same_seqT s8 ha, at_int to0 (app_at to0 to1), ?_⟩
          refine ⟨_, rfl, s8, upd_same, ?_, fun z => ?_, upd_old ners hrg7, hR7.old nef (fun a h => (has a h).2.2)⟩
          · have := length_putK kv2 (.inl (it ts (j + 1) (i : Int))) (.bl true)
            omega
          · rw [put_some, hk6, hsn, List.mem_append, List.mem_singleton]
            constructor
            · rintro (h | h | h)
              · exact .inr (.inr h)
              · exact .inl h
              · exact .inr (.inl h)
            · rintro (h | h | h)
              · exact .inr (.inl h)
              · exact .inr (.inr h)
              · exact .inl h
      · have hs : (valV kvs (.inl (i : Int))).isSome = true := (hk _).mpr ((seen_iff t hi).mpr hmin)
        rw [hs]
        refine ifno ⟨_, _, _, kvs, as, rfl, s3, hse, by omega, fun z => ?_, ?_, has, by omega⟩
        · rw [hk, hsb]
          exact ⟨.inl, fun h => h.elim id fun h => absurd h.1 hmin⟩
        · rw [hrt, if_neg hmin, List.append_nil]
          exact hR
    · rintro σ' H1 ⟨y3, y4, y5, kvs, as, rfl, s3, hse, lk, hk, hR, has, las⟩
      exact ⟨_, rfl, q fo as H1 nfo0 (fun a h => (has a h).1) (fun a h => (has a h).2.1) s3 hR⟩


/-! ### common_part -/
def sp_common : Sp := fun vs H Q _ => ∃ (x y : Nat), vs = [.int (x : Int), .int (y : Int)] ∧ Q (.int (Nat.gcd x y : Int)) H
theorem ok_common_part {f : Addr} {fd : FuncData} (D : Dn K mg "common_part" s_common_part p_common_part f fd) (b : Blt mg) : Cal P w K mg base CX0 1 "common_part" p_common_part sp_common := by
  refine D.cal (D.F.ok sc_common_part (fun vs H Q E h => ?_) (fun cdv A outer s H vs Q E hr h => ?_))
  · obtain ⟨x, y, rfl, _⟩ := h
    rfl
  · obtain ⟨x, y, rfl, q⟩ := h
    refine ⟨_, (pss_cons (ps_while PassesOwn.never (pt_cmpR op_ne (pv 1) pe_int (nomark _)) (pss_one (ps_par (i := 0) (j := 1) (by rfl) sc_common_part.nd rfl rfl (by decide) rfl rfl (pa_cons (pv 1) (pa_cons (pe_op op_mod (pv 0) (pv 1)) pa_nil)) (by rfl))))
      (pss_one (ps_ret (pv 0)))), ?_⟩
    refine ⟨fun m σ' H' => ∃ (u v : Nat), m = v ∧ H = H' ∧ σ' = [some (.int (u : Int)), some (.int (v : Int))] ∧ Nat.gcd u v = Nat.gcd x y, ⟨_, x, y, rfl, rfl, rfl, rfl⟩, ?_⟩
    rintro m σ' H' ⟨u, v, rfl, rfl, rfl, hg⟩
    refine ⟨_, rfl, rfl, _, rfl, ?_⟩
    by_cases hv : m = 0
    · subst hv
      rw [show decide (V.int ((0 : Nat) : Int) = V.int 0) = true from decide_eq_true rfl]
      refine iteF ⟨_, rfl, ?_⟩
      rw [Nat.gcd_zero_right] at hg
      rw [hg]
      exact q
    · rw [decide_eq_false (fun z => hv (by have := V.int.inj z; omega) : ¬ V.int ((m : Nat) : Int) = V.int 0)]
      refine iteT ⟨fun σ' H' => H = H' ∧ σ' = [some (.int (m : Int)), some (.int ((u % m : Nat) : Int))], ?_, ?_⟩
      · rintro σ' H' ⟨rfl, rfl⟩
        refine ⟨u % m, Nat.mod_lt _ (by omega), m, u % m, rfl, rfl, rfl, ?_⟩
        rw [← hg, Nat.gcd_comm m, ← Nat.gcd_rec, Nat.gcd_comm]
      · refine ⟨_, rfl, _, rfl, _, rfl, _, _, rfl, rfl, (by show (0 : Int) < (m : Int); omega), _, _, rfl, rfl, ?_⟩
        show some (V.int (m : Int)) :: some (V.int ((u : Int) % (m : Int))) :: [] = _
        rw [show (u : Int) % (m : Int) = ((u % m : Nat) : Int) by push_cast; rfl]


/-! ### order_of -/
def sp_order (K : PySem.W.Frag) : Sp := fun vs H Q _ => ∃ (a : Addr) (ts : List Int), vs = [.ref a] ∧ SqT K H a (ts.map V.int) ∧ Turn ts ∧ ts.length ≤ 8 ∧ ∀ H', Same H H' → Q (.int (ordOf ts : Int)) H'
theorem ok_order_of {f : Addr} {fd : FuncData} (D : Dn K mg "order_of" s_order_of p_order_of f fd) (b : Blt mg) (c_rounds : Cal P w K mg base CX0 1 "rounds" p_rounds (sp_rounds K)) (c_common_part : Cal P w K mg base CX0 1 "common_part" p_common_part sp_common) : Cal P w K mg base CX0 2 "order_of" p_order_of (sp_order K) := by
  refine D.cal (D.F.ok sc_order_of (fun vs H Q E h => ?_) (fun cdv A outer s H vs Q E hr h => ?_))
  · obtain ⟨a, ts, rfl, _⟩ := h
    rfl
  · obtain ⟨a, ts, rfl, ha, t, hn, q⟩ := h
    refine ⟨_, (pss_cons (ps_set (i := 1) sc_order_of.nd rfl (Or.inl rfl) pe_int)
      (pss_cons (ps_for PassesOwn.never rfl (pi_list (pe_c c_rounds hr (by omega) (by rfl) pass0 (pa_cons (pv 0) pa_nil))) (pg_name (i := 2) sc_order_of.nd rfl (Or.inl rfl)) (pss_one (ps_set (i := 1) sc_order_of.nd rfl (Or.inl rfl) (pe_op op_mulW (pe_op op_fdivW (pv 1) (pe_c c_common_part hr (by omega) (by rfl) pass0 (pa_cons (pv 1) (pa_cons (pe_callB call_len_seq (by rfl) b.len PySem.boot_len (pa_cons (pv 2) pa_nil)) pa_nil)))) (pe_callB call_len_seq (by rfl) b.len PySem.boot_len (pa_cons (pv 2) pa_nil))))))
      (pss_one (ps_ret (pv 1))))), ?_⟩
    refine ⟨_, rfl, a, ts, rfl, ha, t, by omega, fun fo as H1 nfo nas nef s1 hR => ?_⟩
    have hsm := ring_small t hn
    have hord : ∀ i, lcmL (((rounds ts).take i).map (·.length)) 1 ∣ 840 := fun i => lcmL_840 _ _ (fun k hk => by
      obtain ⟨r, hr, rfl⟩ := List.mem_map.mp hk
      exact hsm r (List.mem_of_mem_take hr)) (Nat.one_dvd _)
    refine ⟨fo, rfl, ⟨_, SqL.of hR.top⟩, for_list (K := K) (a := fo) (xs := as.map V.ref) (fun i σ' H' => ∃ y2 : Option V, H1 = H' ∧ σ' = [some (.ref a), some (.int (lcmL (((rounds ts).take i).map (·.length)) 1 : Int)), y2])
      ⟨none, rfl, rfl⟩ (fun i σ' H' _ ⟨_, e, _⟩ => by rw [← e]; exact SqL.of hR.top) ?_ ?_⟩
    · rintro i v σ' H2 hi ⟨y2, rfl, rfl⟩
      rw [List.getElem?_map] at hi
      cases hai : as[i]? with
      | none => rw [hai] at hi; cases hi
      | some x =>
        rw [hai] at hi
        cases hi
        have hil : i < (rounds ts).length := by rw [← hR.len]; exact (List.getElem?_eq_some_iff.mp hai).1
        obtain ⟨r, hr⟩ : ∃ r, (rounds ts)[i]? = some r := ⟨(rounds ts)[i], List.getElem?_eq_getElem hil⟩
        have hx := hR.each i x r hai hr
        have hs := hsm r (List.mem_of_getElem? hr)
        have ho := hord i
        have ho1 : lcmL (((rounds ts).take i).map (·.length)) 1 ≤ 840 := Nat.le_of_dvd (by decide) ho
        have ho0 : 0 < lcmL (((rounds ts).take i).map (·.length)) 1 := Nat.pos_of_dvd_of_pos ho (by decide)
        have hsn : lcmL (((rounds ts).take (i + 1)).map (·.length)) 1 = lcmL (((rounds ts).take i).map (·.length)) 1 / Nat.gcd (lcmL (((rounds ts).take i).map (·.length)) 1) r.length * r.length := by
          rw [List.take_add_one, hr]
          show lcmL (((rounds ts).take i ++ [r]).map (·.length)) 1 = _
          rw [List.map_append]
          exact lcmL_snoc _ _ _
        generalize lcmL (((rounds ts).take i).map (·.length)) 1 = o at *
        have el : ((r.map V.int).length : Int) = (r.length : Int) := by rw [List.length_map]
        have hg1 : 0 < Nat.gcd o r.length := Nat.gcd_pos_of_pos_left _ ho0
        have hg2 : Nat.gcd o r.length ≤ 840 := Nat.le_trans (Nat.gcd_le_left _ ho0) ho1
        refine ⟨_, rfl, _, rfl, _, rfl, x, _, rfl, .inl (SqL.of hx), o, r.length, (by rw [el]; rfl), _, _, rfl, rfl, wide_div (b := 60) (by omega) (by omega) (by decide) (by decide), _, rfl, x, _, rfl, .inl (SqL.of hx), _, _, rfl, rfl, ?_, ?_⟩
        · have hd : o / Nat.gcd o r.length ≤ 840 := Nat.le_trans (Nat.div_le_self _ _) ho1
          have e1 : ((o : Int) / (Nat.gcd o r.length : Int)) = ((o / Nat.gcd o r.length : Nat) : Int) := by push_cast; rfl
          show CMulW ((o : Int) / (Nat.gcd o r.length : Int)) ((r.map V.int).length : Int)
          rw [e1, el]
          clear e1 hsn
          generalize o / Nat.gcd o r.length = w at *
          exact wide_mul (a := 60) (b := 60) (by omega) (by omega) (by decide) (by decide) (by decide)
        · refine ⟨some (.ref x), rfl, ?_⟩
          rw [hsn]
          show [some (V.ref a), some (V.int (((o : Int) / (Nat.gcd o r.length : Int)) * ((r.map V.int).length : Int))), some (V.ref x)] = _
          rw [el]
          push_cast
          rfl
    · rintro σ' H2 ⟨y2, rfl, rfl⟩
      rw [List.length_map, hR.len, List.take_length]
      exact ⟨_, rfl, q _ s1⟩


/-! ### times -/
def sp_times (K : PySem.W.Frag) : Sp := fun vs H Q _ => ∃ (a : Addr) (ts : List Int) (m : Int), vs = [.ref a, .int m] ∧ SqT K H a (ts.map V.int) ∧ Turn ts ∧ ts.length ≤ 100 ∧ ∀ p H', H p = none → Same H H' → SqT K H' p ((timesOf ts m).map V.int) → Q (.ref p) H'
theorem ok_times {f : Addr} {fd : FuncData} (D : Dn K mg "times" s_times p_times f fd) (b : Blt mg) (c_rounds : Cal P w K mg base CX0 1 "rounds" p_rounds (sp_rounds K)) : Cal P w K mg base CX0 2 "times" p_times (sp_times K) := by
  refine D.cal (D.F.ok sc_times (fun vs H Q E h => ?_) (fun cdv A outer s H vs Q E hr h => ?_))
  · obtain ⟨a, ts, m, rfl, _⟩ := h
    rfl
  · obtain ⟨a, ts, m, rfl, ha, t, hn, q⟩ := h
    refine ⟨_, (pss_cons (ps_set (i := 2) sc_times.nd rfl (Or.inl rfl) (pe_callTy call_list_of (by rfl) b.ty_list (by decide +kernel) (pa_cons (pv 0) pa_nil)))
      (pss_cons (ps_for PassesOwn.never rfl (pi_list (pe_c c_rounds hr (by omega) (by rfl) pass0 (pa_cons (pv 0) pa_nil))) (pg_name (i := 3) sc_times.nd rfl (Or.inl rfl)) (pss_one (ps_for PassesOwn.never rfl (pi_enum (by rfl) b.enumerate (pa_cons (pv 3) pa_nil)) (pg_tup (by rfl) (pgs_cons (pg_name (i := 4) sc_times.nd rfl (Or.inl rfl)) (pgs_cons (pg_name (i := 5) sc_times.nd rfl (Or.inl rfl)) pgs_nil))) (pss_one (ps_asg (pe_ix ix_list (pv 3) (pe_op op_mod (pe_op op_add (pv 4) (pv 1)) (pe_callB call_len_seq (by rfl) b.len PySem.boot_len (pa_cons (pv 3) pa_nil))) (fun _ _ => rfl)) (pg_sub (pv 2) (pv 5) set_list))))))
      (pss_one (ps_ret (pe_callTy call_tuple_of (by rfl) b.ty_tuple (by decide +kernel) (pa_cons (pv 2) pa_nil)))))), ?_⟩
    refine ⟨_, rfl, a, _, rfl, .inr ha, fun fl nfl => ?_⟩
    have s1 : Same H (upd H fl (.lst (ts.map V.int))) := same_new (Same.refl _) nfl
    have hfl : (upd H fl (.lst (ts.map V.int))) fl = some (.lst (ts.map V.int)) := upd_same
    generalize upd H fl (.lst (ts.map V.int)) = H1 at *
    refine ⟨_, rfl, a, ts, rfl, same_seqT s1 ha, t, hn, fun fo as H2 nfo nas nef s2 hR => ?_⟩
    have hfl2 := s2 _ _ hfl
    have nff : fl ≠ fo := ne_of_none hfl nfo
    have naf : ∀ a ∈ as, a ≠ fl := fun a h e => by
      have := nas a h
      rw [e, hfl] at this
      cases this
    refine ⟨fo, rfl, ⟨_, SqL.of hR.top⟩, for_list (K := K) (a := fo) (xs := as.map V.ref) (fun i σ' H' => ∃ (y3 y4 y5 : Option V) (fs : List Int), Same H H' ∧ RingsAt H' fo as (rounds ts) ∧ H' fl = some (.lst (fs.map V.int)) ∧ fs.length = ts.length ∧ (∀ x ∈ ((rounds ts).take i).flatten, fs[x.toNat]? = some (pwr ts m x)) ∧ σ' = [some (.ref a), some (.int m), some (.ref fl), y3, y4, y5])
      ⟨none, none, none, ts, s1.trans s2, hR, hfl2, rfl, (fun x hx => by cases hx), rfl⟩ (fun i σ' H' _ ⟨_, _, _, _, _, hR', _⟩ => SqL.of hR'.top) ?_ ?_⟩
    · rintro i v σ' H3 hi ⟨y3, y4, y5, fs, s3, hR3, hfl3, lfs, hfs, rfl⟩
      rw [List.getElem?_map] at hi
      cases hai : as[i]? with
      | none => rw [hai] at hi; cases hi
      | some x =>
        rw [hai] at hi
        cases hi
        have hil : i < (rounds ts).length := by rw [← hR.len]; exact (List.getElem?_eq_some_iff.mp hai).1
        obtain ⟨r, hr⟩ : ∃ r, (rounds ts)[i]? = some r := ⟨(rounds ts)[i], List.getElem?_eq_getElem hil⟩
        obtain ⟨c, hcin, rfl⟩ : ∃ c, c ∈ rgI ts.length ∧ r = ring ts c := by
          have hm := List.mem_of_getElem? hr
          unfold rounds roundsTo at hm
          obtain ⟨c, hc, e⟩ := List.mem_map.mp hm
          exact ⟨c, (List.mem_filter.mp hc).1, e.symm⟩
        have hx3 := hR3.each i x _ hai hr
        have nxf : x ≠ fl := naf x (List.mem_of_getElem? hai)
        have P := t.per hcin
        have p1 := P.p1
        have pn := P.pn
        have elr : (((ring ts c).map V.int).length : Int) = (per ts c : Int) := by rw [List.length_map, ring_len]
        refine ⟨_, rfl, x, _, rfl, SqL.of hx3, for_enumL (K := K) (a := x) (xs := (ring ts c).map V.int) (fun k σ' H' => ∃ (y4 y5 : Option V) (fs : List Int), Same H H' ∧ RingsAt H' fo as (rounds ts) ∧ H' fl = some (.lst (fs.map V.int)) ∧ fs.length = ts.length ∧ (∀ x ∈ ((rounds ts).take i).flatten ++ (ring ts c).take k, fs[x.toNat]? = some (pwr ts m x)) ∧ σ' = [some (.ref a), some (.int m), some (.ref fl), some (.ref x), y4, y5])
          ⟨y4, y5, fs, s3, hR3, hfl3, lfs, (by rw [List.take_zero, List.append_nil]; exact hfs), rfl⟩ (fun k σ' H' _ ⟨_, _, _, _, hR', _⟩ => SqL.of (hR'.each i x _ hai hr)) ?_ ?_⟩
        · rintro k v T σ' H4 hk nT ⟨y4, y5, fs, s4, hR4, hfl4, lfs, hfs, rfl⟩
          obtain ⟨z, hz, rfl⟩ := int_at hk
          have hkp : k < per ts c := by rw [← ring_len]; exact (List.getElem?_eq_some_iff.mp hz).1
          rw [ring_at hkp] at hz
          have ez : it ts k c = z := Option.some.inj hz
          subst ez
          obtain ⟨z0, z1⟩ := mem_rgI.mp (t.it hcin k)
          have hx4 := hR4.each i x _ hai hr
          have hflT : (upd H4 T (.tup [.int (k : Nat), .int (it ts k c)])) fl = some (.lst (fs.map V.int)) := upd_new nT hfl4
          have hRT : RingsAt (upd H4 T (.tup [.int (k : Nat), .int (it ts k c)])) fo as (rounds ts) := hR4.same (same_new (Same.refl _) nT)
          have sT : Same H (upd H4 T (.tup [.int (k : Nat), .int (it ts k c)])) := same_new s4 (s4.free nT)
          refine ⟨T, _, rfl, SqT.of upd_same, rfl, _, _, rfl, _, _, rfl, rfl, ?_⟩
          generalize upd H4 T (.tup [.int (k : Nat), .int (it ts k c)]) = H5 at *
          have hx5 := hRT.each i x _ hai hr
          have b0 : 0 ≤ ((k : Int) + m) % (per ts c : Int) := Int.emod_nonneg _ (by omega)
          have b1 : ((k : Int) + m) % (per ts c : Int) < (per ts c : Int) := Int.emod_lt_of_pos _ (by omega)
          have hat : atI ((ring ts c).map V.int) (((k : Int) + m) % (per ts c : Int)) = some (.int (pwr ts m (it ts k c))) := at_int b0 (by rw [ring_at (by omega), pwr_ring t hcin])
          refine ⟨_, rfl, _, rfl, _, rfl, _, _, rfl, rfl, _, rfl, x, _, rfl, .inl (SqL.of hx5), _, _, rfl, rfl, (by show (0 : Int) < (((ring ts c).map V.int).length : Int); omega), x, _, ((k : Int) + m) % (per ts c : Int), _, rfl, (by show V.int (((k : Int) + m) % (((ring ts c).map V.int).length : Int)) = _; rw [elr]), SqL.of hx5, hat, _, rfl, _, rfl, fl, _, _, (it ts k c).toNat, rfl, rfl, hflT, ?_, ?_⟩
          · rw [List.length_map, lfs]
            exact ixN_in z0 z1
          · refine ⟨_, _, fs.set (it ts k c).toNat (pwr ts m (it ts k c)), same_new sT nfl, hRT.old nff naf, by rw [upd_same, set_ints], by rw [List.length_set]; exact lfs, fun y hy => ?_, rfl⟩
            by_cases e : y = it ts k c
            · subst e
              rw [List.getElem?_set_self (by omega)]
            · have hy2 : y ∈ ((rounds ts).take i).flatten ++ (ring ts c).take k := by
                rw [List.take_add_one, ring_at hkp] at hy
                rcases List.mem_append.mp hy with h | h
                · exact List.mem_append_left _ h
                · rcases List.mem_append.mp h with h | h
                  · exact List.mem_append_right _ h
                  · exact absurd (List.mem_singleton.mp h) e
              have hyin : y ∈ rgI ts.length := by
                rcases List.mem_append.mp hy2 with h | h
                · refine (rounds_perm t).mem_iff.mp ?_
                  rw [← List.take_append_drop i (rounds ts), List.flatten_append]
                  exact List.mem_append_left _ h
                · exact ring_sub t hcin (List.mem_of_mem_take h)
              obtain ⟨y0, y1⟩ := mem_rgI.mp hyin
              rw [List.getElem?_set_ne (by omega)]
              exact hfs y hy2
        · rintro σ' H4 ⟨y4, y5, fs, s4, hR4, hfl4, lfs, hfs, rfl⟩
          refine ⟨_, _, _, fs, s4, hR4, hfl4, lfs, fun y hy => hfs y ?_, rfl⟩
          rw [List.length_map, List.take_length]
          rw [List.take_add_one, hr, List.flatten_append] at hy
          have e1 : ((some (ring ts c)).toList : List (List Int)).flatten = ring ts c := List.append_nil _
          rw [e1] at hy
          exact hy
    · rintro σ' H3 ⟨y3, y4, y5, fs, s3, hR3, hfl3, lfs, hfs, rfl⟩
      rw [List.length_map, hR.len, List.take_length] at hfs
      have e : fs = timesOf ts m := times_built lfs fun x hx => hfs x ((rounds_perm t).mem_iff.mpr hx)
      subst e
      refine ⟨_, rfl, fl, _, rfl, .inl ⟨SqL.of hfl3, fun p np => ?_⟩⟩
      exact q p _ (s3.free np) (same_new s3 (s3.free np)) (SqT.of upd_same)


/-! ### the law -/
def spLaw (K : PySem.W.Frag) : Sp := fun vs H Q _ => ∃ (a : Addr) (ns : List Int), vs = [.ref a] ∧ SqL K H a (ns.map V.int) ∧ ns.length ≤ 63 ∧ ∀ H', Q (.bl true) H'
theorem ok_law {f : Addr} {fd : FuncData} (D : Dn K mg "law" s_law p_law f fd) (b : Blt mg) (c_l_cell : Cal P w K mg base CX0 1 "_law_cell" p_l_cell (sp_cell K)) (c_l_draws : Cal P w K mg base CX0 1 "_law_draws" p_l_draws (sp_draws K)) (c_l_turn : Cal P w K mg base CX0 1 "_law_turn" p_l_turn sp_turn) (c_l_after : Cal P w K mg base CX0 1 "_law_after" p_l_after (sp_l_after K))
    (c_l_same : ∀ n, Cal P w K mg base CX0 n "_law_same" p_l_same (sp_same K n)) (c_order_of : Cal P w K mg base CX0 2 "order_of" p_order_of (sp_order K)) (c_times : Cal P w K mg base CX0 2 "times" p_times (sp_times K)) :
    FnOk P w K mg base CX0 3 f fd p_law (spLaw K) := by
  refine D.F.ok sc_law (fun vs H Q E h => ?_) (fun cdv A outer s H vs Q E hr h => ?_)
  · obtain ⟨a, ns, rfl, _⟩ := h
    rfl
  · obtain ⟨a, ns, rfl, hS, hlen, q⟩ := h
    refine ⟨_, (pss_cons (ps_set (i := 0) sc_law.nd rfl (Or.inl rfl) (pe_slice sl_list (pv 0) po_none (po_some pe_int)))
      (pss_cons (ps_set (i := 1) sc_law.nd rfl (Or.inl rfl) (pe_c c_l_draws hr (by omega) (by rfl) pass0 (pa_cons (pe_c c_l_cell hr (by omega) (by rfl) pass0 (pa_cons (pv 0) (pa_cons pe_int pa_nil))) (pa_cons (pe_lst (pa_cons pe_int (pa_cons pe_int (pa_cons pe_int (pa_cons pe_int pa_nil))))) pa_nil))))
      (pss_cons (ps_set (i := 2) sc_law.nd rfl (Or.inl rfl) (pe_ix ix_list (pv 1) pe_int (fun _ _ => rfl)))
      (pss_cons (ps_set (i := 3) sc_law.nd rfl (Or.inl rfl) (pe_c c_l_turn hr (by omega) (by rfl) pass0 (pa_cons (pe_ix ix_list (pv 1) pe_int (fun _ _ => rfl)) (pa_cons (pv 2) pa_nil))))
      (pss_cons (ps_set (i := 4) sc_law.nd rfl (Or.inl rfl) (pe_tupRg rfl (by rfl) b.ty_tuple (prg_1 (by rfl) b.range (pv 2))))
      (pss_cons (ps_set (i := 5) sc_law.nd rfl (Or.inl rfl) (pe_op op_mod (pe_c c_l_cell hr (by omega) (by rfl) pass0 (pa_cons (pv 0) (pa_cons pe_int pa_nil))) (pe_op op_pow pe_int pe_int)))
      (pss_cons (ps_if (pt_cmpR op_eq (pe_ix ix_list (pv 1) pe_int (fun _ _ => rfl)) pe_int (nomark _)) (pss_one (ps_set (i := 5) sc_law.nd rfl (Or.inl rfl) (pe_ix ix_list (pv 1) pe_int (fun _ _ => rfl)))) pss_nil)
      (pss_cons (ps_if (pt_cmpR op_gt (pe_ix ix_list (pv 1) pe_int (fun _ _ => rfl)) pe_int (nomark _)) (pss_one (ps_set (i := 5) sc_law.nd rfl (Or.inl rfl) (pe_op op_sub pe_int (pv 5)))) pss_nil)
      (pss_cons (ps_if (pt_not (pt_val (pe_c (c_l_same 2) hr (by omega) (by rfl) pass0 (pa_cons (pe_c c_times hr (by omega) (by rfl) pass0 (pa_cons (pv 3) (pa_cons pe_int pa_nil))) (pa_cons (pv 4) pa_nil))))) (pss_one (ps_ret pe_bl)) pss_nil)
      (pss_cons (ps_if (pt_not (pt_val (pe_c (c_l_same 2) hr (by omega) (by rfl) pass0 (pa_cons (pe_c c_times hr (by omega) (by rfl) pass0 (pa_cons (pv 3) (pa_cons (pe_op op_add (pv 5) pe_int) pa_nil))) (pa_cons (pe_c c_l_after hr (by omega) (by rfl) pass0 (pa_cons (pe_c c_times hr (by omega) (by rfl) pass0 (pa_cons (pv 3) (pa_cons (pv 5) pa_nil))) (pa_cons (pv 3) pa_nil))) pa_nil))))) (pss_one (ps_ret pe_bl)) pss_nil)
      (pss_cons (ps_set (i := 6) sc_law.nd rfl (Or.inl rfl) (pv 4))
      (pss_cons (ps_for PassesOwn.never rfl (pi_range1 (by rfl) b.range (pa_cons pe_int pa_nil)) (pg_name (i := 7) sc_law.nd rfl (Or.inl rfl)) (pss_cons (ps_if (pt_not (pt_val (pe_c (c_l_same 2) hr (by omega) (by rfl) pass0 (pa_cons (pe_c c_times hr (by omega) (by rfl) pass0 (pa_cons (pv 3) (pa_cons (pv 7) pa_nil))) (pa_cons (pv 6) pa_nil))))) (pss_one (ps_ret pe_bl)) pss_nil)
      (pss_one (ps_set (i := 6) sc_law.nd rfl (Or.inl rfl) (pe_c c_l_after hr (by omega) (by rfl) pass0 (pa_cons (pv 6) (pa_cons (pv 3) pa_nil)))))))
      (pss_cons (ps_set (i := 8) sc_law.nd rfl (Or.inl rfl) (pe_c c_order_of hr (by omega) (by rfl) pass0 (pa_cons (pv 3) pa_nil)))
      (pss_cons (ps_if (PW.pt (pw_or (pt_not (pt_val (pe_callB call_isi (by rfl) b.isinstance (by decide +kernel) (pa_cons (pv 8) (pa_cons (pe_bltn (v := .ty "int") (by rfl) b.ty_int (by decide +kernel) rfl) pa_nil))))) (pw_or (pt_val (pe_callB call_isi (by rfl) b.isinstance (by decide +kernel) (pa_cons (pv 8) (pa_cons (pe_bltn (v := .ty "bool") (by rfl) b.ty_bool (by decide +kernel) rfl) pa_nil)))) (pw_or (pt_cmpR op_lt (pv 8) pe_int (nomark _)) (pw_or1 (pt_cmpR op_gt (pv 8) pe_int (nomark _))))))) (pss_one (ps_ret pe_bl)) pss_nil)
      (pss_cons (ps_set (i := 6) sc_law.nd rfl (Or.inl rfl) (pv 4))
      (pss_cons (ps_for PassesOwn.never rfl (pi_range1 (by rfl) b.range (pa_cons (pv 8) pa_nil)) (pg_name (i := 7) sc_law.nd rfl (Or.inl rfl)) (pss_cons (ps_if (PW.pt (pw_and (pt_cmpR op_gt (pv 7) pe_int (nomark _)) (pw_and1 (pt_cmpR (op_eqD hr.units) (pv 6) (pv 4) (nomark _))))) (pss_one (ps_ret pe_bl)) pss_nil)
      (pss_one (ps_set (i := 6) sc_law.nd rfl (Or.inl rfl) (pe_c c_l_after hr (by omega) (by rfl) pass0 (pa_cons (pv 6) (pa_cons (pv 3) pa_nil)))))))
      (pss_one (ps_ret (pe_and (pe_cmpR (op_eqD hr.units) (pv 6) (pv 4) (nomark _)) (pe_one (pe_c (c_l_same 2) hr (by omega) (by rfl) pass0 (pa_cons (pe_c c_times hr (by omega) (by rfl) pass0 (pa_cons (pv 3) (pa_cons (pe_op op_mulW (pv 8) (pe_op op_mod (pv 5) pe_int)) pa_nil))) (pa_cons (pv 4) pa_nil))))))))))))))))))))))), ?_⟩
    refine ⟨_, rfl, 63, rfl, a, _, rfl, hS, fun sc nsc => ?_⟩
    rw [cut63]
    generalize hms : ns.take 63 = cs
    have hsc : (upd H sc (.lst (cs.map V.int))) sc = some (.lst (cs.map V.int)) := upd_same
    generalize upd H sc (.lst (cs.map V.int)) = H0 at hsc
    refine ⟨_, rfl, sc, cs, 0, rfl, SqL.of hsc, ?_⟩
    refine ⟨by decide, fun pp npp => ?_⟩
    have s0 : Same H0 (upd H0 pp (.lst (([9, 40320, 4, 23] : List Int).map V.int))) := same_new (Same.refl _) npp
    refine ⟨_, pp, [9, 40320, 4, 23], rfl, SqL.of upd_same, by decide, by decide, fun d H1 nd s1 hd => ?_⟩
    have hsc1 := s1 _ _ (s0 _ _ hsc)
    obtain ⟨ds0, dsg0, dsl0, dsu0⟩ := draws_get (c := cell cs 0) (ps := [9, 40320, 4, 23]) (i := 0) (p := 9) rfl (by decide)
    obtain ⟨ds1, dsg1, dsl1, dsu1⟩ := draws_get (c := cell cs 0) (ps := [9, 40320, 4, 23]) (i := 1) (p := 40320) rfl (by decide)
    obtain ⟨ds2, dsg2, dsl2, dsu2⟩ := draws_get (c := cell cs 0) (ps := [9, 40320, 4, 23]) (i := 2) (p := 4) rfl (by decide)
    obtain ⟨ds3, dsg3, dsl3, dsu3⟩ := draws_get (c := cell cs 0) (ps := [9, 40320, 4, 23]) (i := 3) (p := 23) rfl (by decide)
    generalize draws (cell cs 0) [9, 40320, 4, 23] = ds at *
    have dsa0 : atI (ds.map V.int) 0 = some (.int ds0) := at_int (by decide) dsg0
    have dsa1 : atI (ds.map V.int) 1 = some (.int ds1) := at_int (by decide) dsg1
    have dsa2 : atI (ds.map V.int) 2 = some (.int ds2) := at_int (by decide) dsg2
    have dsa3 : atI (ds.map V.int) 3 = some (.int ds3) := at_int (by decide) dsg3
    clear s1 nd npp nsc hS hsc s0
    obtain ⟨n, rfl, hn⟩ : ∃ n : Nat, ds0 = (n : Int) ∧ n ≤ 8 := ⟨ds0.toNat, by omega, by omega⟩
    -- size, turn_here, alone
    refine ⟨_, rfl, d, _, _, _, rfl, rfl, SqL.of hd, dsa0, ?_⟩
    refine ⟨_, rfl, d, _, _, _, rfl, rfl, SqL.of hd, dsa1, _, rfl, ds1, n, rfl, by omega, fun tu H2 ntu s2 htu => ?_⟩
    have tt := turnOf_turn ds1 n
    have lt := turnOf_len ds1 n
    generalize turnOf ds1 n = ts at *
    refine ⟨_, rfl, _, rfl, rg_ok (by omega), fun al nal => ?_⟩
    rw [rgV_int, show rgI n = rgI ts.length by rw [lt]]
    have s3 : Same H2 (upd H2 al (.tup ((rgI ts.length).map V.int))) := same_new (Same.refl _) nal
    have hA : SqT K (upd H2 al (.tup ((rgI ts.length).map V.int))) al ((rgI ts.length).map V.int) := SqT.of upd_same
    generalize upd H2 al (.tup ((rgI ts.length).map V.int)) = H3 at *
    have hT : SqT K H3 tu (ts.map V.int) := SqT.of (s3 _ _ htu)
    have hd3 := s3 _ _ (s2 _ _ hd)
    have hsc3 := s3 _ _ (s2 _ _ hsc1)
    clear htu ntu s2 s3 hd hsc1 nal
    -- many
    refine ⟨_, rfl, sc, cs, 1, rfl, SqL.of hsc3, _, _, rfl, rfl, ⟨by decide, by decide, by decide⟩, _, _, rfl, rfl, (by show (0 : Int) < 10 ^ (50 : Int).toNat; decide), ?_⟩
    dsimp only
    generalize cell cs 1 % 10 ^ (50 : Int).toNat = m0
    walk_at "nx"
    refine seq_cut (fun σ' H' => H3 = H' ∧ ∃ m : Int, σ' = [some (.ref sc), some (.ref d), some (.int (n : Int)), some (.ref tu), some (.ref al), some (.int m), none, none, none]) (fun N hN => ?_) ?_
    · refine ⟨_, rfl, d, _, _, _, rfl, rfl, SqL.of hd3, dsa2, rfl, _, rfl, ite2 (fun e => ?_) (fun e => hN _ _ ⟨rfl, m0, rfl⟩)⟩
      exact ⟨_, rfl, d, _, _, _, rfl, rfl, SqL.of hd3, dsa3, hN _ _ ⟨rfl, ds3, rfl⟩⟩
    rintro σ4 _ ⟨rfl, m1, rfl⟩
    walk_at "nx"
    refine seq_cut (fun σ' H' => H3 = H' ∧ ∃ m : Int, σ' = [some (.ref sc), some (.ref d), some (.int (n : Int)), some (.ref tu), some (.ref al), some (.int m), none, none, none]) (fun N hN => ?_) ?_
    · refine ⟨_, rfl, d, _, _, _, rfl, rfl, SqL.of hd3, dsa2, _, _, rfl, rfl, _, rfl, ite2 (fun e => ?_) (fun e => hN _ _ ⟨rfl, m1, rfl⟩)⟩
      exact ⟨_, rfl, _, _, rfl, rfl, hN _ _ ⟨rfl, _, rfl⟩⟩
    rintro σ5 _ ⟨rfl, m, rfl⟩
    clear hd3 hsc3
    have lT : ∀ k : Int, (timesOf ts k).length ≤ 1000 := fun k => by rw [timesOf_len]; omega
    -- nought times
    refine ⟨_, rfl, tu, ts, 0, rfl, hT, tt, by omega, fun p H4 np s4 hp => ?_⟩
    rw [timesOf_zero] at hp
    refine ⟨_, rfl, _, _, rfl, alike_tupI hp (same_seqT s4 hA) (by rw [rgI_len]; omega), fun H5 s5 => ⟨_, rfl, ifno ?_⟩⟩
    have s35 := s4.trans s5
    have hT5 := same_seqT s35 hT
    have hA5 := same_seqT s35 hA
    clear hp np s4 s5 s35 hT hA
    -- once more
    refine ⟨_, rfl, _, rfl, _, _, rfl, rfl, tu, ts, _, rfl, hT5, tt, by omega, fun p H6 np s6 hp => ?_⟩
    refine ⟨_, rfl, _, rfl, tu, ts, m, rfl, same_seqT s6 hT5, tt, by omega, fun p2 H7 np2 s7 hp2 => ?_⟩
    refine ⟨_, rfl, p2, tu, timesOf ts m, ts, rfl, hp2, same_seqT (s6.trans s7) hT5, lT m, timesOf_lo tt m, fun p3 H8 np3 s8 hp3 => ?_⟩
    rw [← timesOf_succ tt] at hp3
    refine ⟨_, _, rfl, alike_tupI (same_seqT (s7.trans s8) hp) hp3.sq (lT _), fun H9 s9 => ⟨_, rfl, ifno ?_⟩⟩
    have s59 := s6.trans (s7.trans (s8.trans s9))
    have hT9 := same_seqT s59 hT5
    have hA9 := same_seqT s59 hA5
    clear hp hp2 hp3 s6 s7 s8 s9 s59 hT5 hA5 np np2 np3
    -- step by step
    refine ⟨_, rfl, ?_⟩
    refine ⟨19, rfl, by decide, by decide, for_range (lo := 0) (n := 19) (fun i σ' H' => ∃ (he : Addr) (y7 : Option V), Same H9 H' ∧ SqT K H' he ((timesOf ts (i : Int)).map V.int) ∧ σ' = [some (.ref sc), some (.ref d), some (.int (n : Int)), some (.ref tu), some (.ref al), some (.int m), some (.ref he), y7, none])
      ⟨al, none, Same.refl _, (by rw [show ((0 : Nat) : Int) = 0 from rfl, timesOf_zero]; exact hA9), rfl⟩ ?_ ?_⟩
    · rintro i σ' H10 hi ⟨he, y7, s10, hhe, rfl⟩
      rw [Int.zero_add]
      refine ⟨_, rfl, _, rfl, tu, ts, (i : Int), rfl, same_seqT s10 hT9, tt, by omega, fun p H11 np s11 hp => ?_⟩
      refine ⟨_, rfl, _, _, rfl, alike_tupI hp (same_seqT s11 hhe) (lT _), fun H12 s12 => ⟨_, rfl, ifno ?_⟩⟩
      have s112 := s11.trans s12
      refine ⟨_, rfl, _, rfl, he, tu, timesOf ts (i : Int), ts, rfl, same_seqT s112 hhe, same_seqT (s10.trans s112) hT9, lT _, timesOf_lo tt _, fun p3 H13 np3 s13 hp3 => ?_⟩
      rw [← timesOf_succ tt] at hp3
      exact ⟨p3, _, s10.trans (s112.trans s13), hp3.sq, rfl⟩
    rintro σ6 H10 ⟨he0, y7, s10, _, rfl⟩
    have hT10 := same_seqT s10 hT9
    have hA10 := same_seqT s10 hA9
    clear hT9 hA9 s10
    -- the order
    refine ⟨_, rfl, tu, ts, rfl, hT10, tt, by omega, fun H11 s11 => ?_⟩
    have hT11 := same_seqT s11 hT10
    have hA11 := same_seqT s11 hA10
    have o840 := ord_840 tt (by omega)
    have o1 : 0 < ordOf ts := Nat.pos_of_dvd_of_pos o840 (by decide)
    have o2 : ordOf ts ≤ 840 := Nat.le_of_dvd (by decide) o840
    refine ⟨_, rfl, _, _, _, _, true, rfl, .ty "int", .base (.int _), kit_ty (by decide +kernel), _, rfl, iteF ?_⟩
    refine ⟨_, rfl, _, _, _, _, false, rfl, .ty "bool", .base (.int _), kit_ty (by decide +kernel), _, rfl, iteF ?_⟩
    refine ⟨_, rfl, _, _, rfl, rfl, _, rfl, ?_⟩
    rw [decide_eq_false (show ¬ (ordOf ts : Int) < 1 by omega)]
    refine iteF ⟨_, rfl, _, _, rfl, rfl, _, rfl, ?_⟩
    rw [decide_eq_false (show ¬ (ordOf ts : Int) > 40320 by omega)]
    refine ifno ?_
    -- all steps
    refine ⟨_, rfl, ?_⟩
    refine ⟨_, rfl, (ordOf ts : Int), rfl, by omega, by omega, for_range (lo := 0) (n := ordOf ts) (fun i σ' H' => ∃ (he : Addr) (y7 : Option V), Same H11 H' ∧ SqT K H' he ((timesOf ts (i : Int)).map V.int) ∧ σ' = [some (.ref sc), some (.ref d), some (.int (n : Int)), some (.ref tu), some (.ref al), some (.int m), some (.ref he), y7, some (.int (ordOf ts : Int))])
      ⟨al, y7, Same.refl _, (by rw [show ((0 : Nat) : Int) = 0 from rfl, timesOf_zero]; exact hA11), rfl⟩ ?_ ?_⟩
    · rintro i σ' H12 hi ⟨he, y7, s12, hhe, rfl⟩
      rw [Int.zero_add]
      have hT12 := same_seqT s12 hT11
      have hA12 := same_seqT s12 hA11
      walk_at "nx"
      refine seq_cut (fun σ' H' => H12 = H' ∧ σ' = [some (.ref sc), some (.ref d), some (.int (n : Int)), some (.ref tu), some (.ref al), some (.int m), some (.ref he), some (.int (i : Int)), some (.int (ordOf ts : Int))]) (fun N hN => ?_) ?_
      · refine ⟨_, rfl, _, _, rfl, rfl, _, rfl, ite2 (fun e => ?_) (fun e => iteF (hN _ _ ⟨rfl, rfl⟩))⟩
        have hi0 : (i : Int) > 0 := of_decide_eq_true e
        refine ⟨_, rfl, _, rfl, _, _, dp_tupI hhe, dp_tupI hA12, shaped_tupI _, shaped_tupI _, _, rfl, ?_⟩
        rw [eqv_tupI, decide_eq_false (fun z => by
          have := Nat.le_of_dvd (by omega) ((times_alone tt i).mp z)
          omega)]
        exact iteF (hN _ _ ⟨rfl, rfl⟩)
      rintro σ'' _ ⟨rfl, rfl⟩
      refine ⟨_, rfl, _, rfl, he, tu, timesOf ts (i : Int), ts, rfl, hhe, hT12, lT _, timesOf_lo tt _, fun p3 H13 np3 s13 hp3 => ?_⟩
      rw [← timesOf_succ tt] at hp3
      exact ⟨p3, _, s12.trans s13, hp3.sq, rfl⟩
    rintro σ7 H12 ⟨he, y7', s12, hhe, rfl⟩
    have hT12 := same_seqT s12 hT11
    have hA12 := same_seqT s12 hA11
    refine ⟨_, rfl, _, rfl, _, _, dp_tupI hhe, dp_tupI hA12, shaped_tupI _, shaped_tupI _, ?_⟩
    rw [eqv_tupI, decide_eq_true ((times_alone tt (ordOf ts)).mpr (Nat.dvd_refl _))]
    refine ⟨_, rfl, iteT ?_⟩
    have b0 : 0 ≤ m % 1000 := Int.emod_nonneg _ (by decide)
    have b1 : m % 1000 < 1000 := Int.emod_lt_of_pos _ (by decide)
    obtain ⟨k, hk⟩ : ∃ k : Nat, m % 1000 = (k : Int) := ⟨(m % 1000).toNat, by omega⟩
    refine ⟨_, rfl, _, rfl, _, rfl, _, _, rfl, rfl, (by show (0 : Int) < 1000; decide), _, _, rfl, rfl, ?_, ?_⟩
    · show CMulW (ordOf ts : Int) (m % 1000)
      exact wide_mul (a := 60) (b := 60) (by omega) (by omega) (by decide) (by decide) (by decide)
    · refine ⟨tu, ts, (ordOf ts : Int) * (m % 1000), rfl, hT12, tt, by omega, fun p H13 np s13 hp => ?_⟩
      have e : timesOf ts ((ordOf ts : Int) * (m % 1000)) = rgI ts.length := by
        rw [hk, show (ordOf ts : Int) * (k : Int) = ((ordOf ts * k : Nat) : Int) by push_cast; rfl]
        exact (times_alone tt _).mpr (Nat.dvd_mul_right _ _)
      rw [e] at hp
      exact ⟨_, rfl, _, _, rfl, alike_tupI hp (same_seqT s13 hA12) (by rw [rgI_len]; omega), fun H14 s14 => q _⟩

end

/-! ### what the top has left -/
theorem all_mk {l : PySem.W.OpenLaw} {w : World} {K : PySem.W.Frag} {h : Heap} {mg : Str → Option Value} {fa : Addr} (X : K.In h) (G : h.Ns mainGlobals mg)
    (d_l_cell : DefIn K "_law_cell" s_l_cell)
    (d_l_draws : DefIn K "_law_draws" s_l_draws)
    (d_l_turn : DefIn K "_law_turn" s_l_turn)
    (d_l_after : DefIn K "_law_after" s_l_after)
    (d_l_same : DefIn K "_law_same" s_l_same)
    (d_rounds : DefIn K "rounds" s_rounds)
    (d_common_part : DefIn K "common_part" s_common_part)
    (d_order_of : DefIn K "order_of" s_order_of)
    (d_times : DefIn K "times" s_times)
    (d_law : DefIn K "law" s_law)
    (z0 : PySem.W.nsIn K mainGlobals "len" = some none) (z1 : PySem.W.nsIn K mainGlobals "range" = some none) (z2 : PySem.W.nsIn K mainGlobals "list" = some none) (z3 : PySem.W.nsIn K mainGlobals "tuple" = some none) (z4 : PySem.W.nsIn K mainGlobals "int" = some none) (z5 : PySem.W.nsIn K mainGlobals "bool" = some none) (z6 : PySem.W.nsIn K mainGlobals "str" = some none) (z7 : PySem.W.nsIn K mainGlobals "dict" = some none) (z8 : PySem.W.nsIn K mainGlobals "ValueError" = some none) (z9 : PySem.W.nsIn K mainGlobals "sorted" = some none) (z10 : PySem.W.nsIn K mainGlobals "isinstance" = some none) (z11 : PySem.W.nsIn K mainGlobals "abs" = some none) (z12 : PySem.W.nsIn K mainGlobals "all" = some none) (z13 : PySem.W.nsIn K mainGlobals "any" = some none) (z14 : PySem.W.nsIn K mainGlobals "sum" = some none) (z15 : PySem.W.nsIn K mainGlobals "min" = some none) (z16 : PySem.W.nsIn K mainGlobals "max" = some none) (z17 : PySem.W.nsIn K mainGlobals "enumerate" = some none) : mg "law" = some (.ref fa) →
    ∃ fd : FuncData, (∀ (s : Shared) (v : Value), BindsTo s fd ⟨[v], []⟩ [("_law_script", v)]) ∧ ∀ base : Heap, K.In base → base.Ns mainGlobals mg → FnOk l.prog w K mg base CX0 3 fa fd p_law (spLaw K) := by
  intro hfa
  have b : Blt mg := blt_of X G z0 z1 z2 z3 z4 z5 z6 z7 z8 z9 z10 z11 z12 z13 z14 z15 z16 z17
  obtain ⟨f_l_cell, fd_l_cell, D_l_cell⟩ := dn_of X G (ps := p_l_cell) d_l_cell (fun _ _ _ _ _ _ us hl => match us, hl with | [_, _], _ => rfl)
  obtain ⟨f_l_draws, fd_l_draws, D_l_draws⟩ := dn_of X G (ps := p_l_draws) d_l_draws (fun _ _ _ _ _ _ us hl => match us, hl with | [_, _], _ => rfl)
  obtain ⟨f_l_turn, fd_l_turn, D_l_turn⟩ := dn_of X G (ps := p_l_turn) d_l_turn (fun _ _ _ _ _ _ us hl => match us, hl with | [_, _], _ => rfl)
  obtain ⟨f_l_after, fd_l_after, D_l_after⟩ := dn_of X G (ps := p_l_after) d_l_after (fun _ _ _ _ _ _ us hl => match us, hl with | [_, _], _ => rfl)
  obtain ⟨f_l_same, fd_l_same, D_l_same⟩ := dn_of X G (ps := p_l_same) d_l_same (fun _ _ _ _ _ _ us hl => match us, hl with | [_, _], _ => rfl)
  obtain ⟨f_rounds, fd_rounds, D_rounds⟩ := dn_of X G (ps := p_rounds) d_rounds (fun _ _ _ _ _ _ us hl => match us, hl with | [_], _ => rfl)
  obtain ⟨f_common_part, fd_common_part, D_common_part⟩ := dn_of X G (ps := p_common_part) d_common_part (fun _ _ _ _ _ _ us hl => match us, hl with | [_, _], _ => rfl)
  obtain ⟨f_order_of, fd_order_of, D_order_of⟩ := dn_of X G (ps := p_order_of) d_order_of (fun _ _ _ _ _ _ us hl => match us, hl with | [_], _ => rfl)
  obtain ⟨f_times, fd_times, D_times⟩ := dn_of X G (ps := p_times) d_times (fun _ _ _ _ _ _ us hl => match us, hl with | [_, _], _ => rfl)
  obtain ⟨f_law, fd_law, D_law⟩ := dn_of X G (ps := p_law) d_law (fun _ _ _ _ _ _ us hl => match us, hl with | [_], _ => rfl)
  have e := hfa.symm.trans D_law.g
  cases e
  refine ⟨fd_law, fun s v => ?_, fun base _ _ => ?_⟩
  · obtain ⟨_, _, _, _, _, _, _, _, _, rfl, _, _⟩ := D_law.F.ex
    exact .of_eq rfl
  · have c_l_cell := ok_l_cell (P := l.prog) (w := w) (base := base) D_l_cell b 
    have c_l_draws := ok_l_draws (P := l.prog) (w := w) (base := base) D_l_draws b 
    have c_l_turn := ok_l_turn (P := l.prog) (w := w) (base := base) D_l_turn b 
    have c_l_after := ok_l_after (P := l.prog) (w := w) (base := base) D_l_after b 
    have c_l_same := ok_l_same (P := l.prog) (w := w) (base := base) D_l_same b 
    have c_rounds := ok_rounds (P := l.prog) (w := w) (base := base) D_rounds b 
    have c_common_part := ok_common_part (P := l.prog) (w := w) (base := base) D_common_part b 
    have c_order_of := ok_order_of (P := l.prog) (w := w) (base := base) D_order_of b c_rounds c_common_part
    have c_times := ok_times (P := l.prog) (w := w) (base := base) D_times b c_rounds
    exact ok_law D_law b c_l_cell c_l_draws c_l_turn c_l_after c_l_same c_order_of c_times

end Kin

open PySem PySem.W PyProof.Rows
set_option maxRecDepth 100000 in
set_option maxHeartbeats 0 in
theorem PySem.Challenge.cw_kinhearth_k05_done_many_times_holds : PySem.Challenge.rw_kinhearth_k05_done_many_times.Holds := by
  w_on; o_law; k_head; (case hw => w_witness2)
  k_fill
  refine L2.walk_of (l := PySem.Challenge.rw_kinhearth_k05_done_many_times) (n := 63) (k := 3) (x := "_law_script") (CX := fun _ => L2.CX0) (sp := fun w => Kin.spLaw _) rfl (by decide) rfl ⟨rfl, by decide, by decide⟩ (fun w h Y => PySem.W.kIn_of Y) ?F (fun _ _ a ns hl _ hS => ⟨a, ns, rfl, hS, hl, fun _ => rfl⟩) (fun _ _ _ _ _ h => h)
  case F =>
    intro w mg fa h KX G
    refine' Kin.all_mk KX G ?d_l_cell ?d_l_draws ?d_l_turn ?d_l_after ?d_l_same ?d_rounds ?d_common_part ?d_order_of ?d_times ?d_law ?z0 ?z1 ?z2 ?z3 ?z4 ?z5 ?z6 ?z7 ?z8 ?z9 ?z10 ?z11 ?z12 ?z13 ?z14 ?z15 ?z16 ?z17
    (case d_l_cell => (refine' Kin.defIn_mk ?a ?l ?c ?k; (case a => k_is); (case l => k_is); (case c => k_is); (case k => k_is)))
    (case d_l_draws => (refine' Kin.defIn_mk ?a ?l ?c ?k; (case a => k_is); (case l => k_is); (case c => k_is); (case k => k_is)))
    (case d_l_turn => (refine' Kin.defIn_mk ?a ?l ?c ?k; (case a => k_is); (case l => k_is); (case c => k_is); (case k => k_is)))
    (case d_l_after => (refine' Kin.defIn_mk ?a ?l ?c ?k; (case a => k_is); (case l => k_is); (case c => k_is); (case k => k_is)))
    (case d_l_same => (refine' Kin.defIn_mk ?a ?l ?c ?k; (case a => k_is); (case l => k_is); (case c => k_is); (case k => k_is)))
    (case d_rounds => (refine' Kin.defIn_mk ?a ?l ?c ?k; (case a => k_is); (case l => k_is); (case c => k_is); (case k => k_is)))
    (case d_common_part => (refine' Kin.defIn_mk ?a ?l ?c ?k; (case a => k_is); (case l => k_is); (case c => k_is); (case k => k_is)))
    (case d_order_of => (refine' Kin.defIn_mk ?a ?l ?c ?k; (case a => k_is); (case l => k_is); (case c => k_is); (case k => k_is)))
    (case d_times => (refine' Kin.defIn_mk ?a ?l ?c ?k; (case a => k_is); (case l => k_is); (case c => k_is); (case k => k_is)))
    (case d_law => (refine' Kin.defIn_mk ?a ?l ?c ?k; (case a => k_is); (case l => k_is); (case c => k_is); (case k => k_is)))
    (case z0 => k_is)
    (case z1 => k_is)
    (case z2 => k_is)
    (case z3 => k_is)
    (case z4 => k_is)
    (case z5 => k_is)
    (case z6 => k_is)
    (case z7 => k_is)
    (case z8 => k_is)
    (case z9 => k_is)
    (case z10 => k_is)
    (case z11 => k_is)
    (case z12 => k_is)
    (case z13 => k_is)
    (case z14 => k_is)
    (case z15 => k_is)
    (case z16 => k_is)
    (case z17 => k_is)
