import PyProof.Rows.All
import PySem.Challenge.RW_signsmooth_k54_whole_standing
import HandS.ForMost
import HandS.Defaults
import HandS.Head0
import HandS.Head1
import HandS.Head2
import HandS.HeadEnd
import HandS.HeadHook1
import HandS.HeadHook2
import HandS.HeadHook3
import HandS.HeadHook4
import HandS.IsInst
import HandS.Wide
import HandS.WideBits
import HandS.TupAny
import HandS.Conv
import HandS.RevRange
import HandS.Evl
import KE.KDictDisplayH
import HandS.TupLen
set_option Elab.async false
set_option linter.all false
set_option maxRecDepth 100000
set_option maxHeartbeats 0
namespace Smo
open PySem PySem.Spec PyProof.Rows L2
def topS (i : Nat) : Stmt := PySem.Challenge.pw_signsmooth_k54_whole_standing.main.body.getD i (.Pass ⟨0, 0, 0, 0⟩)
def dD (i : Nat) (x : Str) (dfl : List He.Dv) : He.DefD := ⟨(x, none), x, x, defArgs (topS i), defBody (topS i), defScope (topS i), dfl, []⟩
def hFn : List He.DefD := [dD 9 "is_whole" [], dD 10 "divisor" [], dD 11 "is_fraction" [], dD 12 "fraction" [.int 1], dD 13 "sum_of" [], dD 14 "product_of" [], dD 15 "quotient_of" [], dD 18 "is_row_of" [], dD 19 "is_table" [], dD 20 "look_table" [], dD 21 "is_choice" [], dD 22 "look_choice" [], dD 23 "part_of" [], dD 25 "whole_row" [], dD 26 "whole_rows" [], dD 27 "lead_row" [], dD 28 "whole_determinant" [], dD 29 "determinant" [], dD 30 "minor" [], dD 32 "across" [], dD 33 "thickened" [], dD 35 "are_marks" [], dD 36 "is_free" [], dD 37 "is_staircase" [], dD 38 "look_stairs" [], dD 39 "plainest" [], dD 40 "stands" [], dD 42 "_law_cell" [], dD 43 "_law_numbers" [], dD 44 "_law_divisor" [], dD 45 "_law_made" [], dD 46 "_law_size" [], dD 47 "_law_rows" [], dD 48 "_law_minors" [], dD 49 "_law_plus" [], dD 50 "_law_part" [], dD 51 "_law_across" [], dD 52 "_law_places" [], dD 53 "_law_thick" [], dD 54 "_law_options" [], dD 55 "_law_stair" [], dD 56 "_law_numbered" [], dD 57 "_law_masks" [], dD 58 "_law_cut" [], dD 59 "_law_asked" [], dD 60 "law" []]
def hFa : List He.Fa := [.glo "is_whole", .glo "divisor", .glo "is_fraction", .glo "fraction", .glo "sum_of", .glo "product_of", .glo "quotient_of", .glo "is_row_of", .glo "is_table", .glo "look_table", .glo "is_choice", .glo "look_choice", .glo "part_of", .glo "whole_row", .glo "whole_rows", .glo "lead_row", .glo "whole_determinant", .glo "determinant", .glo "minor", .glo "across", .glo "thickened", .glo "are_marks", .glo "is_free", .glo "is_staircase", .glo "look_stairs", .glo "plainest", .glo "stands", .glo "_law_cell", .glo "_law_numbers", .glo "_law_divisor", .glo "_law_made", .glo "_law_size", .glo "_law_rows", .glo "_law_minors", .glo "_law_plus", .glo "_law_part", .glo "_law_across", .glo "_law_places", .glo "_law_thick", .glo "_law_options", .glo "_law_stair", .glo "_law_numbered", .glo "_law_masks", .glo "_law_cut", .glo "_law_asked", .glo "law", .glo "NOUGHT", .int "MOST" 7, .free "abs", .free "all", .free "bool", .free "enumerate", .free "int", .free "isinstance", .free "len", .free "list", .free "range", .free "reversed", .free "sum", .free "tuple", .free "zip"]
def hEx (K : PySem.W.Frag) : Bool := He.tupB K "NOUGHT" [.int 0, .int 1]
abbrev hRow : PySem.W.OpenRow := PySem.W.OpenLaw.row PySem.Challenge.rw_signsmooth_k54_whole_standing
abbrev hHk : PySem.W.Hook := He.hookX 4 hFa hFn [] [] hEx
def hOb (s : PySem.W.SharedT) : He.AlX := He.obsX 4 hFa hFn [] [] hEx (HandSHeadRun.getT s)
theorem hOb_eq (s : PySem.W.SharedT) : hOb s = hHk.obs s.abs := He.obsX_eq (HandSHeadRun.getT_eq s)

def hLoose0 : List PySem.Str := [PySem.Str.ofString "SmoothError", PySem.Str.ofString "NoFraction", PySem.Str.ofString "NoTable", PySem.Str.ofString "NoChoice", PySem.Str.ofString "NoSquare", PySem.Str.ofString "NoStairs", PySem.Str.ofString "NOUGHT", PySem.Str.ofString "MOST", PySem.Str.ofString "is_whole", PySem.Str.ofString "divisor", PySem.Str.ofString "is_fraction", PySem.Str.ofString "fraction", PySem.Str.ofString "sum_of", PySem.Str.ofString "product_of", PySem.Str.ofString "quotient_of", PySem.Str.ofString "is_row_of", PySem.Str.ofString "is_table", PySem.Str.ofString "look_table", PySem.Str.ofString "is_choice", PySem.Str.ofString "look_choice"]
def hLoose1 : List PySem.Str := [PySem.Str.ofString "part_of", PySem.Str.ofString "whole_row", PySem.Str.ofString "whole_rows", PySem.Str.ofString "lead_row", PySem.Str.ofString "whole_determinant", PySem.Str.ofString "determinant", PySem.Str.ofString "minor", PySem.Str.ofString "across", PySem.Str.ofString "thickened", PySem.Str.ofString "are_marks", PySem.Str.ofString "is_free", PySem.Str.ofString "is_staircase", PySem.Str.ofString "look_stairs", PySem.Str.ofString "plainest", PySem.Str.ofString "stands", PySem.Str.ofString "_law_cell", PySem.Str.ofString "_law_numbers", PySem.Str.ofString "_law_divisor", PySem.Str.ofString "_law_made", PySem.Str.ofString "_law_size"]
def hLoose2 : List PySem.Str := [PySem.Str.ofString "_law_rows", PySem.Str.ofString "_law_minors", PySem.Str.ofString "_law_plus", PySem.Str.ofString "_law_part", PySem.Str.ofString "_law_across", PySem.Str.ofString "_law_places", PySem.Str.ofString "_law_thick", PySem.Str.ofString "_law_options", PySem.Str.ofString "_law_stair", PySem.Str.ofString "_law_numbered", PySem.Str.ofString "_law_masks", PySem.Str.ofString "_law_cut", PySem.Str.ofString "_law_asked"]
def hLoose : List PySem.Str := hLoose0 ++ hLoose1 ++ hLoose2
theorem hRun (w : World) : HandSHeadRun.RunEq hRow (PySem.W.view hRow.prog [60]) hHk hOb 6000 hLoose w := by
  intro os
  kernel_rfl
end Smo

set_option Elab.async false
set_option linter.all false
set_option maxRecDepth 100000
set_option maxHeartbeats 4000000
namespace Smo
open PySem PySem.Spec PyProof.Rows L2
/-! ### what the top has written -/
structure Wd (K : PySem.W.Frag) (mg : Str → Option Value) : Prop where
  fn : ∀ d ∈ hFn, ∃ fd, FunD K d.name d.qual d.params d.body d.scope (d.dvs K) (d.kws K) (He.fAd K d.at_) fd
  glo : ∀ (n : Nat) (x : Str), hFa[n]? = some (He.Fa.glo x) → mg x = some (.ref (He.ga K x))
  free : ∀ (n : Nat) (x : Str), hFa[n]? = some (He.Fa.free x) → mg x = none
  most : ∃ t, mg "MOST" = some (.int 7 t)
  nought : ∀ H, SqT K H (He.ga K "NOUGHT") [.int 0, .int 1]
/-- a def keeps its promise, and is to be called by its name -/
structure Has (P : Program) (w : World) (K : PySem.W.Frag) (mg : Str → Option Value) (base : Heap) (x : Str) (k : Nat) (ps : List Str) (sp : Sp) : Prop where
  ex : ∃ (f : Addr) (fd : FuncData), FnOk P w K mg base CX0 k f fd ps sp ∧ mg x = some (.ref f) ∧ PySem.W.keepIn K (.ref f) = true ∧ Binds K fd ps []
theorem pe_has {X : Cx} {x : Str} {k : Nat} {ps : List Str} {sp : Sp} {e : Expr} {es : List Expr} {t : TA} {p pos : Pos} (h : Has X.prog X.w X.K X.mg X.base x k ps sp) (hr : Room k X.A)
    (ha : PA X (e :: es) t) (hg : Gl X x := by rfl) (hdb : (x == ("__debug__" : Str)) = false := by decide) (he : starEach (e :: es) X.env = (false, eval e X.env) :: starEach es X.env := by rfl) (hpl : (backTo pos (starEach es X.env)).any (·.1) = false := by rfl) :
    PE X (.Call (.Name x p) (e :: es) [] pos) (tCall sp [] E0 t) := by
  obtain ⟨f, fd, F, hm, hk, hb⟩ := h.ex
  exact pe_call F hr hg hm hk hb .nil pass0 ha hdb he hpl
theorem Has.mono {P : Program} {w : World} {K : PySem.W.Frag} {mg : Str → Option Value} {base : Heap} {x : Str} {j k : Nat} {ps : List Str} {sp : Sp} (h : Has P w K mg base x j ps sp) (hk : j ≤ k) : Has P w K mg base x k ps sp := by
  obtain ⟨f, fd, F, r⟩ := h.ex
  exact ⟨f, fd, F.mono hk, r⟩
theorem has_of {P : Program} {w : World} {K : PySem.W.Frag} {mg : Str → Option Value} {base : Heap} {x : Str} {k : Nat} {N ps : List Str} {sp : Sp} (W : Wd K mg) (n i : Nat) (hd : hFn[n]? = some (dD i x [])) (hx : hFa[n]? = some (He.Fa.glo x)) (S : FnScope N ps (defScope (topS i)))
    (hb : ∀ (kV doc pm : Value) (an : Option Addr) (cdv ct : Value) (us : List Value), us.length = ps.length → bindArgs (PySem.W.fnOf x x (defArgs (topS i)) (defBody (topS i)) (defScope (topS i)) .none kV doc pm an cdv ct) ⟨us, []⟩ = pure (ps.zip us))
    (len : ∀ vs H Q E, sp vs H Q E → vs.length = ps.length)
    (hbody : ∀ (f : Addr) (cdv : Value) (A : Around) (outer : List Env) (s : Shared) (H : Hp) (vs : List V) (Q : VK) (E : XK), Room k (A.deeper (envOfC x (defScope (topS i)) s.heap.objs.size f cdv)) → sp vs H Q E →
      ∃ t, PSs (cxOf CX0 P w K mg base N x (defScope (topS i)) f cdv A outer s H E).nox (defBody (topS i)) t ∧ t { nx := fun _ H' => Q .non H', rt := Q } (start N vs) H) :
    Has P w K mg base x (k + 1) ps sp := by
  obtain ⟨fd, F⟩ := W.fn _ (List.mem_of_getElem? hd)
  have F' : FunD K x x (defArgs (topS i)) (defBody (topS i)) (defScope (topS i)) [] [] (He.fAd K (x, none)) fd := F
  exact ⟨_, fd, FunD.ok F' S len (fun cdv A outer s H vs Q E hr h => by
    obtain ⟨t, h1, h2⟩ := hbody (He.fAd K (x, none)) cdv A outer s H vs Q E hr h
    exact ⟨t, PSs.nox h1, h2⟩), W.glo n x hx, F'.kp, FunD.bindsN F' hb⟩
/-- fraction's second parameter has a default; it is called with both -/
theorem has_fraction {P : Program} {w : World} {K : PySem.W.Frag} {mg : Str → Option Value} {base : Heap} {k : Nat} {N : List Str} {sp : Sp} (W : Wd K mg) (S : FnScope N ["top", "bottom"] (defScope (topS 12)))
    (len : ∀ vs H Q E, sp vs H Q E → vs.length = ["top", "bottom"].length)
    (hbody : ∀ (f : Addr) (cdv : Value) (A : Around) (outer : List Env) (s : Shared) (H : Hp) (vs : List V) (Q : VK) (E : XK), Room k (A.deeper (envOfC "fraction" (defScope (topS 12)) s.heap.objs.size f cdv)) → sp vs H Q E →
      ∃ t, PSs (cxOf CX0 P w K mg base N "fraction" (defScope (topS 12)) f cdv A outer s H E).nox (defBody (topS 12)) t ∧ t { nx := fun _ H' => Q .non H', rt := Q } (start N vs) H) :
    Has P w K mg base "fraction" (k + 1) ["top", "bottom"] sp := by
  obtain ⟨fd, F⟩ := W.fn (dD 12 "fraction" [.int 1]) (List.mem_of_getElem? (i := 3) rfl)
  have F' : FunD K "fraction" "fraction" (defArgs (topS 12)) (defBody (topS 12)) (defScope (topS 12)) [.int 1] [] (He.fAd K ("fraction", none)) fd := F
  obtain ⟨ds, r, b⟩ := FunD.binds1 (ps := ["top", "bottom"]) F' 2 1 (by simp) (by simp) (fun T kV doc pm an cdv ct us its hu hi => match us, hu, its, hi with | [_, _], _, [_], _ => ⟨_, rfl, rfl⟩)
  cases r
  exact ⟨_, fd, FunD.ok F' S len (fun cdv A outer s H vs Q E hr h => by
    obtain ⟨t, h1, h2⟩ := hbody (He.fAd K ("fraction", none)) cdv A outer s H vs Q E hr h
    exact ⟨t, PSs.nox h1, h2⟩), W.glo 3 "fraction" rfl, F'.kp, b⟩
/-! ### heaps -/
theorem same_upd {H : Hp} {p : Addr} {o : HO} (h : H p = none) : Same H (upd H p o) := fun b x e => by
  rw [upd_ne (ne_of_none e h)]
  exact e
/-- a new object beside, changed -/
theorem same_mut {H H' : Hp} {p : Addr} {o : HO} (e : Same H H') (h : H p = none) : Same H (upd H' p o) := fun a u ha => by
  rw [upd_ne (ne_of_none ha h)]
  exact e a u ha
theorem same_seqT {K : PySem.W.Frag} {H H' : Hp} {a : Addr} {xs : List V} (e : Same H H') (h : SqT K H a xs) : SqT K H' a xs := by
  rcases h with (h | ⟨o, h⟩) | h
  · exact .inl (.inl (e _ _ h))
  · exact .inl (.inr ⟨o, e _ _ h⟩)
  · exact .inr h
/-! ### steps of a reading -/
section
variable {σ σ' : L2.St} {H : Hp} {Q : VK} {D : Ends} {K : PySem.W.Frag} {v : V} {te ta tb tc : TE} {t u : TS} {tt t2 : TT} {g : TG}
/-- a slot is set -/
inductive SetAt {α : Type} : List α → Nat → α → List α → Prop
  | zero {x a l} : SetAt (a :: l) 0 x (x :: l)
  | succ {x a l l' n} : SetAt l n x l' → SetAt (a :: l) (n + 1) x (a :: l')
theorem SetAt.eq {α : Type} : ∀ {l l' : List α} {n : Nat} {x : α}, SetAt l n x l' → l.set n x = l'
  | _, _, _, _, .zero => rfl
  | _, _, _, _, .succ h => congrArg _ h.eq
theorem z_start {t : TS} (e : σ = σ') (q : t D σ' H) : t D σ H := by rw [e]; exact q
theorem z_seq (h : t { D with nx := u D } σ H) : tSeq t u D σ H := h
theorem z_asg (h : te σ H fun x H1 => g x σ H1 D.nx) : tAsg te g D σ H := h
theorem z_name {i : Nat} {R : L2.St → Hp → Prop} (hs : SetAt σ i (some v) σ') (q : R σ' H) : gName i v σ H R := by
  show R (σ.set i (some v)) H
  rw [hs.eq]; exact q
theorem z_ret (h : te σ H D.rt) : tRet te D σ H := h
theorem z_drop (h : te σ H fun _ H1 => D.nx σ H1) : tDrop te D σ H := h
theorem z_next (h : D.nx σ H) : tNext D σ H := h
theorem z_if (h : tt σ H fun b H1 => if b = true then t D σ H1 else u D σ H1) : tIfS tt t u D σ H := h
theorem z_cont (h : D.ct σ H) : tCont D σ H := h
inductive GetAt {α : Type} : List α → Nat → α → Prop
  | zero {a l} : GetAt (a :: l) 0 a
  | succ {x a l n} : GetAt l n x → GetAt (a :: l) (n + 1) x
theorem GetAt.eq {α : Type} : ∀ {l : List α} {n : Nat} {x : α}, GetAt l n x → l[n]? = some x
  | _, _, _, .zero => rfl
  | _, _, _, .succ h => h.eq
theorem z_var {i : Nat} (h : GetAt σ i (some v)) (q : Q v H) : tVar i σ H Q := ⟨v, h.eq, q⟩
theorem z_c (q : Q v H) : tC v σ H Q := q
theorem z_op {r : R2} (h : ta σ H fun x H1 => tb σ H1 fun y H2 => r x y H2 Q) : tOp r ta tb σ H Q := h
theorem z_un {r : V → Hp → VK → Prop} (h : ta σ H fun x H1 => r x H1 Q) : tUn r ta σ H Q := h
theorem z_I0 {f : Int → Int → V} {i j : Int} (q : Q (f i j) H) : rI0 f (.int i) (.int j) H Q := ⟨i, j, rfl, rfl, q⟩
theorem z_I {C : Int → Int → Prop} {f : Int → Int → V} {i j : Int} (c : C i j) (q : Q (f i j) H) : rI C f (.int i) (.int j) H Q := ⟨i, j, rfl, rfl, c, q⟩
theorem z_U {f : Int → V} {i : Int} (q : Q (f i) H) : rU f (.int i) H Q := ⟨i, rfl, q⟩
theorem z_eqI {i j : Int} (q : Q (.bl (decide (i = j))) H) : rEq (.int i) (.int j) H Q := ⟨rfl, by
  have e : decide (V.int i = V.int j) = decide (i = j) := by
    by_cases h : i = j
    · rw [decide_eq_true h, decide_eq_true (congrArg V.int h)]
    · rw [decide_eq_false h, decide_eq_false fun z => h (V.int.inj z)]
  rw [e]; exact q⟩
theorem z_neI {i j : Int} (q : Q (.bl (decide (i ≠ j))) H) : rNe (.int i) (.int j) H Q := ⟨rfl, by
  have e : (!decide (V.int i = V.int j)) = decide (i ≠ j) := by
    by_cases h : i = j
    · rw [decide_eq_true (congrArg V.int h), decide_eq_false (fun z => z h)]; rfl
    · rw [decide_eq_true (show i ≠ j from h), decide_eq_false fun z => h (V.int.inj z)]; rfl
  rw [e]; exact q⟩
theorem z_eqB {i j : Bool} (q : Q (.bl (i == j)) H) : rEq (.bl i) (.bl j) H Q := ⟨by cases i <;> cases j <;> rfl, by
  have e : decide (V.bl i = V.bl j) = (i == j) := by cases i <;> cases j <;> rfl
  rw [e]; exact q⟩
theorem z_test {R : Bool → Hp → Prop} (h : te σ H fun x H1 => ∃ c, x = .bl c ∧ R c H1) : tTest te σ H R := h
theorem z_B {R : Bool → Hp → Prop} (h : te σ H fun x H1 => ∃ c, x = .bl c ∧ R c H1) : tB te σ H R := h
theorem z_bl {c : Bool} {R : Bool → Prop} (h : R c) : ∃ c', V.bl c = .bl c' ∧ R c' := ⟨c, rfl, h⟩
theorem z_not {R : Bool → Hp → Prop} (h : tt σ H fun c H1 => R (!c) H1) : tNot tt σ H R := h
theorem z_and {R : Bool → Hp → Prop} (h : tt σ H fun c H1 => if c = true then t2 σ H1 R else R false H1) : tAnd tt t2 σ H R := h
theorem z_or {R : Bool → Hp → Prop} (h : tt σ H fun c H1 => if c = true then R true H1 else t2 σ H1 R) : tOr tt t2 σ H R := h
theorem z_andV (h : ta σ H fun x H1 => ∃ c, x = .bl c ∧ if c = true then tb σ H1 Q else Q (.bl false) H1) : tAndV ta tb σ H Q := h
theorem z_notV (h : ta σ H fun x H1 => ∃ c, x = .bl c ∧ Q (.bl (!c)) H1) : tNotV ta σ H Q := h
theorem z_chain {r r' : R2} (h : ta σ H fun x H1 => tb σ H1 fun y H2 => r x y H2 fun z H3 => ∃ k, z = .bl k ∧ (if k = true then tc σ H3 fun w' H4 => r' y w' H4 Q else Q (.bl false) H3)) : tChain r r' ta tb tc σ H Q := h
theorem z_call {sp : Sp} {dvs : List V} {E : XK} {ta : TA} (h : ta σ H fun vs H1 => sp (vs ++ dvs) H1 Q E) : tCall sp dvs E ta σ H Q := h
theorem z_CB {r : List V → Hp → VK → Prop} {ta : TA} (h : ta σ H fun vs H1 => r vs H1 Q) : tCB r ta σ H Q := h
theorem z_nil {R : List V → Hp → Prop} (h : R [] H) : tNil σ H R := h
theorem z_cons {ta : TA} {R : List V → Hp → Prop} (h : te σ H fun x H1 => ta σ H1 fun xs H2 => R (x :: xs) H2) : tCons te ta σ H R := h
theorem z_tup {ta : TA} (h : ta σ H fun xs H1 => xs.length ≤ sizeLine ∧ ∀ p, H1 p = none → Q (.ref p) (upd H1 p (.tup xs))) : tTup ta σ H Q := h
theorem z_lst {ta : TA} (h : ta σ H fun xs H1 => xs.length ≤ sizeLine ∧ ∀ p, H1 p = none → Q (.ref p) (upd H1 p (.lst xs))) : tLst ta σ H Q := h
theorem z_ixL {p : Addr} {xs : List V} {i : Int} (h : H p = some (.lst xs)) (ha : atI xs i = some v) (q : Q v H) : rIxL K (.ref p) (.int i) H Q := ⟨p, xs, i, v, rfl, rfl, SqL.of h, ha, q⟩
theorem z_ixT {p : Addr} {xs : List V} {i : Int} (h : H p = some (.tup xs)) (ha : atI xs i = some v) (q : Q v H) : rIxT K (.ref p) (.int i) H Q := ⟨p, xs, i, v, rfl, rfl, SqT.of h, ha, q⟩
theorem z_itT {A B : Prop} {p : Prop} [Decidable p] (hp : p) (h : A) : if decide p = true then A else B := by rw [if_pos (decide_eq_true hp)]; exact h
theorem z_itF {A B : Prop} {p : Prop} [Decidable p] (hp : ¬ p) (h : B) : if decide p = true then A else B := by rw [if_neg (by simp [hp])]; exact h
theorem z_it2 {A B : Prop} {p : Prop} [Decidable p] (h1 : p → A) (h2 : ¬ p → B) : if decide p = true then A else B := by
  by_cases c : p
  · exact z_itT c (h1 c)
  · exact z_itF c (h2 c)
theorem z_t {A B : Prop} (h : A) : if true = true then A else B := h
theorem z_f {A B : Prop} (h : B) : if false = true then A else B := h
theorem z_nt {A B : Prop} (h : B) : if (!true) = true then A else B := h
theorem z_nf {A B : Prop} (h : A) : if (!false) = true then A else B := h
theorem z_nitT {A B : Prop} {p : Prop} [Decidable p] (hp : ¬ p) (h : A) : if (!decide p) = true then A else B := by rw [if_pos (by simp [hp])]; exact h
theorem z_nitF {A B : Prop} {p : Prop} [Decidable p] (hp : p) (h : B) : if (!decide p) = true then A else B := by rw [if_neg (by simp [hp])]; exact h
end
/-! ### the steps that ask nothing, found by their heads -/
class GetC {α : Type} (l : List α) (i : Nat) (x : outParam α) : Prop where
  at_ : GetAt l i x
instance {α : Type} {a : α} {l : List α} : GetC (a :: l) 0 a := ⟨.zero⟩
instance {α : Type} {a x : α} {l : List α} {n : Nat} [h : GetC l n x] : GetC (a :: l) (n + 1) x := ⟨.succ h.at_⟩
class SetC {α : Type} (l : List α) (i : Nat) (x : α) (l' : outParam (List α)) : Prop where
  at_ : SetAt l i x l'
instance {α : Type} {a x : α} {l : List α} : SetC (a :: l) 0 x (x :: l) := ⟨.zero⟩
instance {α : Type} {a x : α} {l l' : List α} {n : Nat} [h : SetC l n x l'] : SetC (a :: l) (n + 1) x (a :: l') := ⟨.succ h.at_⟩
class ZS (g : Prop) (n : outParam Prop) : Prop where
  go : n → g
section
variable {σ σ' : L2.St} {H : Hp} {Q : VK} {D : Ends} {K : PySem.W.Frag} {v : V} {te ta tb tc : TE} {t u : TS} {tt t2 : TT} {g : TG}
instance : ZS (tSeq t u D σ H) (t { D with nx := u D } σ H) := ⟨z_seq⟩
instance : ZS (tAsg te g D σ H) (te σ H fun x H1 => g x σ H1 D.nx) := ⟨z_asg⟩
instance {i : Nat} {R : L2.St → Hp → Prop} [h : SetC σ i (some v) σ'] : ZS (gName i v σ H R) (R σ' H) := ⟨z_name h.at_⟩
instance : ZS (tRet te D σ H) (te σ H D.rt) := ⟨z_ret⟩
instance : ZS (tDrop te D σ H) (te σ H fun _ H1 => D.nx σ H1) := ⟨z_drop⟩
instance : ZS (tNext D σ H) (D.nx σ H) := ⟨z_next⟩
instance : ZS (tIfS tt t u D σ H) (tt σ H fun b H1 => if b = true then t D σ H1 else u D σ H1) := ⟨z_if⟩
instance : ZS (tCont D σ H) (D.ct σ H) := ⟨z_cont⟩
instance {a c d : L2.St → Hp → Prop} {b : VK} : ZS (Ends.nx ⟨a, b, c, d⟩ σ H) (a σ H) := ⟨id⟩
instance {a c d : L2.St → Hp → Prop} {b : VK} : ZS (Ends.rt ⟨a, b, c, d⟩ v H) (b v H) := ⟨id⟩
instance {a c d : L2.St → Hp → Prop} {b : VK} : ZS (Ends.bk ⟨a, b, c, d⟩ σ H) (c σ H) := ⟨id⟩
instance {a c d : L2.St → Hp → Prop} {b : VK} : ZS (Ends.ct ⟨a, b, c, d⟩ σ H) (d σ H) := ⟨id⟩
instance {i : Nat} [h : GetC σ i (some v)] : ZS (tVar i σ H Q) (Q v H) := ⟨z_var h.at_⟩
instance : ZS (tC v σ H Q) (Q v H) := ⟨z_c⟩
instance {r : R2} : ZS (tOp r ta tb σ H Q) (ta σ H fun x H1 => tb σ H1 fun y H2 => r x y H2 Q) := ⟨z_op⟩
instance {r : V → Hp → VK → Prop} : ZS (tUn r ta σ H Q) (ta σ H fun x H1 => r x H1 Q) := ⟨z_un⟩
instance {f : Int → Int → V} {i j : Int} : ZS (rI0 f (.int i) (.int j) H Q) (Q (f i j) H) := ⟨z_I0⟩
instance {f : Int → V} {i : Int} : ZS (rU f (.int i) H Q) (Q (f i) H) := ⟨z_U⟩
instance {i j : Int} : ZS (rEq (.int i) (.int j) H Q) (Q (.bl (decide (i = j))) H) := ⟨z_eqI⟩
instance {i j : Int} : ZS (rNe (.int i) (.int j) H Q) (Q (.bl (decide (i ≠ j))) H) := ⟨z_neI⟩
instance {i j : Bool} : ZS (rEq (.bl i) (.bl j) H Q) (Q (.bl (i == j)) H) := ⟨z_eqB⟩
instance {R : Bool → Hp → Prop} : ZS (tTest te σ H R) (te σ H fun x H1 => ∃ c, x = .bl c ∧ R c H1) := ⟨z_test⟩
instance {R : Bool → Hp → Prop} : ZS (tB te σ H R) (te σ H fun x H1 => ∃ c, x = .bl c ∧ R c H1) := ⟨z_B⟩
instance {c : Bool} {R : Bool → Prop} : ZS (∃ c', V.bl c = .bl c' ∧ R c') (R c) := ⟨z_bl⟩
instance {R : Bool → Hp → Prop} : ZS (tNot tt σ H R) (tt σ H fun c H1 => R (!c) H1) := ⟨z_not⟩
instance {R : Bool → Hp → Prop} : ZS (tAnd tt t2 σ H R) (tt σ H fun c H1 => if c = true then t2 σ H1 R else R false H1) := ⟨z_and⟩
instance {R : Bool → Hp → Prop} : ZS (tOr tt t2 σ H R) (tt σ H fun c H1 => if c = true then R true H1 else t2 σ H1 R) := ⟨z_or⟩
instance : ZS (tAndV ta tb σ H Q) (ta σ H fun x H1 => ∃ c, x = .bl c ∧ if c = true then tb σ H1 Q else Q (.bl false) H1) := ⟨z_andV⟩
instance : ZS (tOrV ta tb σ H Q) (ta σ H fun x H1 => ∃ c, x = .bl c ∧ if c = true then Q (.bl true) H1 else tb σ H1 Q) := ⟨id⟩
instance : ZS (tNotV ta σ H Q) (ta σ H fun x H1 => ∃ c, x = .bl c ∧ Q (.bl (!c)) H1) := ⟨z_notV⟩
instance {r r' : R2} : ZS (tChain r r' ta tb tc σ H Q) (ta σ H fun x H1 => tb σ H1 fun y H2 => r x y H2 fun z H3 => ∃ k, z = .bl k ∧ (if k = true then tc σ H3 fun w' H4 => r' y w' H4 Q else Q (.bl false) H3)) := ⟨z_chain⟩
instance {sp : Sp} {dvs : List V} {E : XK} {ta : TA} : ZS (tCall sp dvs E ta σ H Q) (ta σ H fun vs H1 => sp (vs ++ dvs) H1 Q E) := ⟨z_call⟩
instance {r : List V → Hp → VK → Prop} {ta : TA} : ZS (tCB r ta σ H Q) (ta σ H fun vs H1 => r vs H1 Q) := ⟨z_CB⟩
instance {R : List V → Hp → Prop} : ZS (tNil σ H R) (R [] H) := ⟨z_nil⟩
instance {ta : TA} {R : List V → Hp → Prop} : ZS (tCons te ta σ H R) (te σ H fun x H1 => ta σ H1 fun xs H2 => R (x :: xs) H2) := ⟨z_cons⟩
instance {ta : TA} : ZS (tTup ta σ H Q) (ta σ H fun xs H1 => xs.length ≤ sizeLine ∧ ∀ p, H1 p = none → Q (.ref p) (upd H1 p (.tup xs))) := ⟨z_tup⟩
instance {ta : TA} : ZS (tLst ta σ H Q) (ta σ H fun xs H1 => xs.length ≤ sizeLine ∧ ∀ p, H1 p = none → Q (.ref p) (upd H1 p (.lst xs))) := ⟨z_lst⟩
instance {A B : Prop} : ZS (if true = true then A else B) A := ⟨z_t⟩
instance {A B : Prop} : ZS (if false = true then A else B) B := ⟨z_f⟩
instance {A B : Prop} : ZS (if (!true) = true then A else B) B := ⟨z_nt⟩
instance {A B : Prop} : ZS (if (!false) = true then A else B) A := ⟨z_nf⟩
end
local macro_rules | `(tactic| walk_at "zz") => `(tactic| ((try dsimp only); repeat (refine ZS.go ?_)))
/-! ### rules that name the written part -/
section
variable {X : Cx} {K : PySem.W.Frag}
theorem ix_listK (h : X.K = K := by rfl) : IxR X (rIxL K) := by subst h; exact ix_list
theorem ix_tupK (h : X.K = K := by rfl) : IxR X (rIxT K) := by subst h; exact ix_tup
theorem sl_listK (h : X.K = K := by rfl) : SlR X (rSlL K) := by subst h; exact sl_list
theorem op_inK (h : X.K = K := by rfl) : OpR X (compareOp .In) (rIn K false) := by subst h; exact op_in_seq
theorem op_notInK (h : X.K = K := by rfl) : OpR X (compareOp .NotIn) (rIn K true) := by subst h; exact op_notIn_seq
theorem op_eqDK (hu : X.A.units + 64 < cLine) (h : X.K = K := by rfl) : OpR X (compareOp .Eq) (rEqD K) := by subst h; exact op_eqD hu
theorem op_neDK (hu : X.A.units + 64 < cLine) (h : X.K = K := by rfl) : OpR X (compareOp .NotEq) (rNeD K) := by subst h; exact op_neD hu
theorem op_catAK (h : X.K = K := by rfl) : OpR X (binaryOp .Add) (rCatA K) := by subst h; exact op_catA
theorem cr_sumK (hc : X.calm = true) (h : X.K = K := by rfl) : CallR X (.builtin "sum") (rSum K) := by subst h; exact cr_sum hc
theorem cr_allK (hc : X.calm = true) (h : X.K = K := by rfl) : CallR X (.builtin "all") (rAll K) := by subst h; exact cr_all hc
theorem call_isK1 (h : X.K = K := by rfl) : CallR X (.builtin "isinstance") (rIsi K) := by subst h; exact call_isi
def rLenS (K : PySem.W.Frag) : List V → Hp → VK → Prop := fun xs H Q => ∃ p ys, xs = [.ref p] ∧ (SqL K H p ys ∨ SqT K H p ys) ∧ Q (.int (ys.length : Nat)) H
theorem call_lenK (h : X.K = K := by rfl) : CallR X (.builtin "len") (rLenS K) := by subst h; exact call_len_seq
def rListOf (K : PySem.W.Frag) : List V → Hp → VK → Prop := fun xs H Q => ∃ p ys, xs = [.ref p] ∧ (SqL K H p ys ∨ SqT K H p ys) ∧ ∀ l, H l = none → Q (.ref l) (upd H l (.lst ys))
theorem call_listK (h : X.K = K := by rfl) : CallR X (.type "list") (rListOf K) := by subst h; exact call_list_of
def rTupleOf (K : PySem.W.Frag) : List V → Hp → VK → Prop := fun xs H Q => ∃ p ys, xs = [.ref p] ∧ ((SqL K H p ys ∧ ∀ l, H l = none → Q (.ref l) (upd H l (.tup ys))) ∨ (SqT K H p ys ∧ Q (.ref p) H))
theorem call_tupleK (h : X.K = K := by rfl) : CallR X (.type "tuple") (rTupleOf K) := by subst h; exact call_tuple_of
theorem pi_listK {tg l : Expr} {tl : TE} (hl : PE X l tl) (h : X.K = K := by rfl) : PI X tg l (iList K tl) := by subst h; exact pi_list hl
theorem z_len {p : Addr} {xs : List V} {H : Hp} {Q : VK} (h : H p = some (.lst xs)) (q : Q (.int (xs.length : Nat)) H) : rLenS K [.ref p] H Q := ⟨p, xs, rfl, .inl (SqL.of h), q⟩
theorem z_lenT {p : Addr} {xs : List V} {H : Hp} {Q : VK} (h : H p = some (.tup xs)) (q : Q (.int (xs.length : Nat)) H) : rLenS K [.ref p] H Q := ⟨p, xs, rfl, .inr (SqT.of h), q⟩
end
/-! ### isinstance -/
theorem isi_ty {K : PySem.W.Frag} {H : Hp} {Q : VK} {x : V} {a b : String} {r : Bool} (ty : TyX K H x (.type a)) (h : kitB a b = some r) (q : Q (.bl r) H) : rIsi K [x, .ty b] H Q :=
  ⟨x, .ty b, .type a, .type b, r, rfl, .ty b, ty, kit_ty h, q⟩
theorem op_fdivZ {X : Cx} : OpR X (binaryOp .FloorDiv) (rI (fun _ j => j ≠ 0 ∧ j.natAbs.log2 < 9000) fun i j => .int (i.fdiv j)) := opI fun _ _ _ _ _ _ _ hc q => floordiv_int hc.1 q (.inl (PyProof.noPylong_of_log2 hc.2))
end Smo

set_option Elab.async false
set_option linter.all false
set_option maxRecDepth 100000
set_option maxHeartbeats 4000000
namespace Smo
open PySem PySem.Spec PyProof.Rows L2
local macro_rules | `(tactic| walk_at "zz") => `(tactic| ((try dsimp only); repeat (first | refine ZS.go ?_ | refine And.intro (rfl : wipe _ _ = wipe _ _) ?_)))
/-- a fraction that is whole -/
def Fz (H : Hp) (v : V) (z : Int) : Prop := ∃ t, v = .ref t ∧ H t = some (.tup [.int z, .int 1])
theorem Fz.up {H H' : Hp} {v : V} {z : Int} (e : Same H H') (h : Fz H v z) : Fz H' v z := by
  obtain ⟨t, rfl, h⟩ := h
  exact ⟨t, rfl, e _ _ h⟩
def sp_is_whole : Sp := fun vs H Q _ => ∃ i : Int, vs = [.int i] ∧ Q (.bl true) H
abbrev N_is_whole : List Str := ["thing"]
theorem sc_is_whole : FnScope N_is_whole ["thing"] (defScope (topS 9)) := ⟨rfl, rfl, rfl, by decide +kernel, rfl, by decide +kernel, by decide +kernel⟩
/-- is_whole: 0 thing -/
theorem ok_is_whole {P : Program} {w : World} {K : PySem.W.Frag} {mg : Str → Option Value} {base : Heap} (W : Wd K mg)  : Has P w K mg base "is_whole" 1 ["thing"] sp_is_whole := by
  have f_bool : mg "bool" = none := W.free 50 "bool" rfl
  have f_int : mg "int" = none := W.free 52 "int" rfl
  have f_isinstance : mg "isinstance" = none := W.free 53 "isinstance" rfl
  refine has_of W 0 9 rfl rfl sc_is_whole (fun _ _ _ _ _ _ us hl => match us, hl with | [_], _ => rfl) (fun vs H Q E h => ?_) (fun f cdv A outer s H vs Q E hr h => ?_)
  · obtain ⟨i, rfl, q⟩ := h; rfl
  · obtain ⟨i, rfl, q⟩ := h
    have nd := sc_is_whole.nd
    refine ⟨_, (pss_one (ps_ret (pe_and (pe_callB (call_isK1 (K := K)) (by rfl) f_isinstance (by decide +kernel) (pa_cons (pv 0) (pa_cons (pe_bltn (v := .ty "int") (by rfl) f_int (by decide +kernel) rfl) pa_nil))) (pe_one (pe_not (pe_callB (call_isK1 (K := K)) (by rfl) f_isinstance (by decide +kernel) (pa_cons (pv 0) (pa_cons (pe_bltn (v := .ty "bool") (by rfl) f_bool (by decide +kernel) rfl) pa_nil)))))))), ?_⟩
    refine z_start (σ' := [some _]) (by rfl) ?_
    walk_at "zz"
    refine isi_ty (a := "int") (b := "int") (.base (.int i)) (r := true) (by decide +kernel) ?_
    walk_at "zz"
    refine isi_ty (a := "int") (b := "bool") (.base (.int i)) (r := false) (by decide +kernel) ?_
    walk_at "zz"
    exact q
def sp_divisor : Sp := fun vs H Q _ => ∃ a b : Int, vs = [.int a, .int b] ∧ Q (.int (Int.gcd a b)) H
theorem abs_nat (a : Int) : (if a < 0 then -a else a) = (a.natAbs : Int) := by split <;> omega
theorem gcd_turn {a b : Int} (ha : 0 ≤ a) (hb : 0 < b) : Int.gcd b (a.fmod b) = Int.gcd a b := by
  rw [Int.fmod_eq_emod_of_nonneg a (by omega), Int.gcd_comm a b]
  obtain ⟨n, rfl⟩ := Int.eq_ofNat_of_zero_le ha
  obtain ⟨m, rfl⟩ := Int.eq_ofNat_of_zero_le (Int.le_of_lt hb)
  show Nat.gcd m ((n % m : Nat)) = Nat.gcd m n
  rw [Nat.gcd_comm m n, Nat.gcd_comm m (n % m)]
  exact (Nat.gcd_rec m n).symm ▸ (by rw [Nat.gcd_comm n m, Nat.gcd_rec m n])
abbrev N_divisor : List Str := ["one", "other", "rest"]
theorem sc_divisor : FnScope N_divisor ["one", "other"] (defScope (topS 10)) := ⟨rfl, rfl, rfl, by decide +kernel, rfl, by decide +kernel, by decide +kernel⟩
/-- divisor: 0 one, 1 other, 2 rest -/
theorem ok_divisor {P : Program} {w : World} {K : PySem.W.Frag} {mg : Str → Option Value} {base : Heap} (W : Wd K mg)  : Has P w K mg base "divisor" 1 ["one", "other"] sp_divisor := by
  have f_abs : mg "abs" = none := W.free 48 "abs" rfl
  refine has_of W 1 10 rfl rfl sc_divisor (fun _ _ _ _ _ _ us hl => match us, hl with | [_, _], _ => rfl) (fun vs H Q E h => ?_) (fun f cdv A outer s H vs Q E hr h => ?_)
  · obtain ⟨a, b, rfl, q⟩ := h; rfl
  · obtain ⟨a, b, rfl, q⟩ := h
    have nd := sc_divisor.nd
    refine ⟨_, (pss_cons (ps_set (i := 0) nd rfl (by first | exact Or.inl rfl | exact Or.inr rfl) (pe_callB call_abs (by rfl) f_abs (by decide +kernel) (pa_cons (pv 0) pa_nil)))
      (pss_cons (ps_set (i := 1) nd rfl (by first | exact Or.inl rfl | exact Or.inr rfl) (pe_callB call_abs (by rfl) f_abs (by decide +kernel) (pa_cons (pv 1) pa_nil)))
      (pss_cons (ps_while PassesOwn.never (pt_cmpR op_gt (pv 1) pe_int (nomark _)) (pss_cons (ps_set (i := 2) nd rfl (by first | exact Or.inl rfl | exact Or.inr rfl) (pe_op op_modN (pv 0) (pv 1)))
      (pss_cons (ps_set (i := 0) nd rfl (by first | exact Or.inl rfl | exact Or.inr rfl) (pv 1))
      (pss_one (ps_set (i := 1) nd rfl (by first | exact Or.inl rfl | exact Or.inr rfl) (pv 2))))))
      (pss_one (ps_ret (pv 0)))))), ?_⟩
    refine z_start (σ' := [some _, some _, none]) (by rfl) ?_
    walk_at "zz"
    refine ⟨a, rfl, ?_⟩
    walk_at "zz"
    refine ⟨b, rfl, ?_⟩
    walk_at "zz"
    rw [abs_nat, abs_nat]
    refine while_by (fun σ H' => ∃ (x y : Int) (r : Option V), σ = [some (.int x), some (.int y), r] ∧ 0 ≤ x ∧ 0 ≤ y ∧ Int.gcd x y = Int.gcd a b ∧ H' = H)
      (fun σ _ => match σ with | [_, some (.int y), _] => y.toNat | _ => 0) ⟨(a.natAbs : Int), (b.natAbs : Int), none, rfl, Int.natCast_nonneg _, Int.natCast_nonneg _, by simp [Int.gcd], rfl⟩ ?_ ?_
    case refine_2 =>
      rintro σ H Q Q' hq ⟨x, h1, i, j, e1, e2, c, e3, h⟩
      exact ⟨x, h1, i, j, e1, e2, c, e3, hq _ _ h⟩
    rintro σ H' ⟨x, y, r, rfl, hx, hy, hg, rfl⟩
    walk_at "zz"
    refine z_it2 (fun hc => ?_) (fun hc => ?_)
    · walk_at "zz"
      refine z_I (by omega) ?_
      walk_at "zz"
      have h1 := Int.fmod_nonneg_of_pos x hc
      have h2 := Int.fmod_lt_of_pos x hc
      refine ⟨⟨_, _, _, rfl, hy, h1, ?_, rfl⟩, ?_⟩
      · rw [gcd_turn hx hc, hg]
      · show (x.fmod y).toNat < y.toNat
        omega
    · walk_at "zz"
      have e : y = 0 := by omega
      subst e
      have e : x = ((Int.gcd a b : Nat) : Int) := by
        rw [← hg]
        simp; omega
      rw [e]
      exact q
def sp_is_fraction : Sp := fun vs H Q _ => ∃ v z, vs = [v] ∧ Fz H v z ∧ Q (.bl true) H
abbrev N_is_fraction : List Str := ["thing"]
theorem sc_is_fraction : FnScope N_is_fraction ["thing"] (defScope (topS 11)) := ⟨rfl, rfl, rfl, by decide +kernel, rfl, by decide +kernel, by decide +kernel⟩
/-- is_fraction: 0 thing -/
theorem ok_is_fraction {P : Program} {w : World} {K : PySem.W.Frag} {mg : Str → Option Value} {base : Heap} (W : Wd K mg) (h_is_whole : Has P w K mg base "is_whole" 1 ["thing"] sp_is_whole) (h_divisor : Has P w K mg base "divisor" 1 ["one", "other"] sp_divisor) : Has P w K mg base "is_fraction" 2 ["thing"] sp_is_fraction := by
  have f_isinstance : mg "isinstance" = none := W.free 53 "isinstance" rfl
  have f_len : mg "len" = none := W.free 54 "len" rfl
  have f_tuple : mg "tuple" = none := W.free 59 "tuple" rfl
  refine has_of W 2 11 rfl rfl sc_is_fraction (fun _ _ _ _ _ _ us hl => match us, hl with | [_], _ => rfl) (fun vs H Q E h => ?_) (fun f cdv A outer s H vs Q E hr h => ?_)
  · obtain ⟨v, z, rfl, ⟨t, rfl, ht⟩, q⟩ := h; rfl
  · obtain ⟨v, z, rfl, ⟨t, rfl, ht⟩, q⟩ := h
    have nd := sc_is_fraction.nd
    refine ⟨_, (pss_cons (ps_if (PW.pt (pw_or (pt_not (pt_val (pe_callB (call_isK1 (K := K)) (by rfl) f_isinstance (by decide +kernel) (pa_cons (pv 0) (pa_cons (pe_bltn (v := .ty "tuple") (by rfl) f_tuple (by decide +kernel) rfl) pa_nil))))) (pw_or1 (pt_cmpR op_ne (pe_callB (call_lenK (K := K)) (by rfl) f_len PySem.boot_len (pa_cons (pv 0) pa_nil)) pe_int (nomark _))))) (pss_one (ps_ret pe_bl)) pss_nil)
      (pss_cons (ps_if (PW.pt (pw_or (pt_not (pt_val (pe_has h_is_whole (hr.mono (by decide)) (pa_cons (pe_ix (ix_tupK (K := K)) (pv 0) pe_int (fun _ _ => rfl)) pa_nil)))) (pw_or (pt_not (pt_val (pe_has h_is_whole (hr.mono (by decide)) (pa_cons (pe_ix (ix_tupK (K := K)) (pv 0) pe_int (fun _ _ => rfl)) pa_nil)))) (pw_or1 (pt_cmpR op_lt (pe_ix (ix_tupK (K := K)) (pv 0) pe_int (fun _ _ => rfl)) pe_int (nomark _)))))) (pss_one (ps_ret pe_bl)) pss_nil)
      (pss_one (ps_ret (pe_cmpR op_eq (pe_has h_divisor (hr.mono (by decide)) (pa_cons (pe_ix (ix_tupK (K := K)) (pv 0) pe_int (fun _ _ => rfl)) (pa_cons (pe_ix (ix_tupK (K := K)) (pv 0) pe_int (fun _ _ => rfl)) pa_nil))) pe_int (nomark _)))))), ?_⟩
    refine z_start (σ' := [some _]) (by rfl) ?_
    walk_at "zz"
    refine isi_ty (a := "tuple") (b := "tuple") (.base (.tup ht)) (r := true) (by decide +kernel) ?_
    walk_at "zz"
    refine z_lenT (ht) ?_
    walk_at "zz"
    refine z_itF (by simp) ?_
    walk_at "zz"
    refine z_ixT ht (atI_nat (j := 0) rfl) ?_
    walk_at "zz"
    refine ⟨z, rfl, ?_⟩
    walk_at "zz"
    refine z_ixT ht (atI_nat (j := 1) rfl) ?_
    walk_at "zz"
    refine ⟨1, rfl, ?_⟩
    walk_at "zz"
    refine z_ixT ht (atI_nat (j := 1) rfl) ?_
    walk_at "zz"
    refine z_itF (by decide) ?_
    walk_at "zz"
    refine z_ixT ht (atI_nat (j := 0) rfl) ?_
    walk_at "zz"
    refine z_ixT ht (atI_nat (j := 1) rfl) ?_
    walk_at "zz"
    refine ⟨z, 1, rfl, ?_⟩
    walk_at "zz"
    have e : decide (((Int.gcd z 1 : Nat) : Int) = 1) = true := by simp
    rw [e]
    exact q
def sp_fraction : Sp := fun vs H Q _ => ∃ a : Int, vs = [.int a, .int 1] ∧ ∀ p, H p = none → Q (.ref p) (upd H p (.tup [.int a, .int 1]))
abbrev N_fraction : List Str := ["top", "bottom", "common"]
theorem sc_fraction : FnScope N_fraction ["top", "bottom"] (defScope (topS 12)) := ⟨rfl, rfl, rfl, by decide +kernel, rfl, by decide +kernel, by decide +kernel⟩
/-- fraction: 0 top, 1 bottom, 2 common -/
theorem ok_fraction {P : Program} {w : World} {K : PySem.W.Frag} {mg : Str → Option Value} {base : Heap} (W : Wd K mg) (h_divisor : Has P w K mg base "divisor" 1 ["one", "other"] sp_divisor) : Has P w K mg base "fraction" 2 ["top", "bottom"] sp_fraction := by
  refine has_fraction W sc_fraction (fun vs H Q E h => ?_) (fun f cdv A outer s H vs Q E hr h => ?_)
  · obtain ⟨a, rfl, q⟩ := h; rfl
  · obtain ⟨a, rfl, q⟩ := h
    have nd := sc_fraction.nd
    refine ⟨_, (pss_cons (ps_if (pt_cmpR op_eq (pv 1) pe_int (nomark _)) (pss_one ps_never) pss_nil)
      (pss_cons (ps_set (i := 2) nd rfl (by first | exact Or.inl rfl | exact Or.inr rfl) (pe_has h_divisor (hr.mono (by decide)) (pa_cons (pv 0) (pa_cons (pv 1) pa_nil))))
      (pss_cons (ps_if (pt_cmpR op_lt (pv 1) pe_int (nomark _)) (pss_one (ps_set (i := 2) nd rfl (by first | exact Or.inl rfl | exact Or.inr rfl) (pe_un un_neg (pv 2)))) pss_nil)
      (pss_one (ps_ret (pe_tup (pa_cons (pe_op op_fdivZ (pv 0) (pv 2)) (pa_cons (pe_op op_fdivZ (pv 1) (pv 2)) pa_nil)))))))), ?_⟩
    refine z_start (σ' := [some _, some _, none]) (by rfl) ?_
    walk_at "zz"
    refine z_itF (by decide) ?_
    walk_at "zz"
    refine ⟨a, 1, rfl, ?_⟩
    walk_at "zz"
    refine z_itF (by decide) ?_
    walk_at "zz"
    have e : ((Int.gcd a 1 : Nat) : Int) = 1 := by simp
    rw [e]
    refine z_I ⟨by decide, by decide +kernel⟩ ?_
    walk_at "zz"
    refine z_I ⟨by decide, by decide +kernel⟩ ?_
    walk_at "zz"
    refine ⟨by show 2 ≤ sizeLine; decide, fun p hp => ?_⟩
    have := q p hp
    have e1 : a.fdiv 1 = a := by rw [Int.fdiv_eq_ediv_of_nonneg a (by omega)]; omega
    rw [e1]
    exact this
/-- whole numbers of less than 2 ^ n bits -/
def Sm (n : Nat) (z : Int) : Prop := z.natAbs < 2 ^ n
theorem mul_ok {x y : Int} {n : Nat} (hx : Sm n x) (hy : Sm n y) (h : n ≤ 60000000) : CMulX x y := mulx_ok hx hy (by omega)
theorem sm1 {n : Nat} (h : 1 ≤ n) : Sm n 1 := by
  show 1 < 2 ^ n
  exact Nat.one_lt_two_pow (by omega)
def sp_sum_of : Sp := fun vs H Q _ => ∃ v u a b, vs = [v, u] ∧ Fz H v a ∧ Fz H u b ∧ Sm 1000000 a ∧ Sm 1000000 b ∧ ∀ p, H p = none → Q (.ref p) (upd H p (.tup [.int (a + b), .int 1]))
abbrev N_sum_of : List Str := ["one", "other"]
theorem sc_sum_of : FnScope N_sum_of ["one", "other"] (defScope (topS 13)) := ⟨rfl, rfl, rfl, by decide +kernel, rfl, by decide +kernel, by decide +kernel⟩
/-- sum_of: 0 one, 1 other -/
theorem ok_sum_of {P : Program} {w : World} {K : PySem.W.Frag} {mg : Str → Option Value} {base : Heap} (W : Wd K mg) (h_fraction : Has P w K mg base "fraction" 2 ["top", "bottom"] sp_fraction) : Has P w K mg base "sum_of" 3 ["one", "other"] sp_sum_of := by
  refine has_of W 4 13 rfl rfl sc_sum_of (fun _ _ _ _ _ _ us hl => match us, hl with | [_, _], _ => rfl) (fun vs H Q E h => ?_) (fun f cdv A outer s H vs Q E hr h => ?_)
  · obtain ⟨v, u, a, b, rfl, ⟨t, rfl, ht⟩, ⟨t2, rfl, ht2⟩, sa, sb, q⟩ := h; rfl
  · obtain ⟨v, u, a, b, rfl, ⟨t, rfl, ht⟩, ⟨t2, rfl, ht2⟩, sa, sb, q⟩ := h
    have nd := sc_sum_of.nd
    refine ⟨_, (pss_one (ps_ret (pe_has h_fraction (hr.mono (by decide)) (pa_cons (pe_op op_add (pe_op op_mulX (pe_ix (ix_tupK (K := K)) (pv 0) pe_int (fun _ _ => rfl)) (pe_ix (ix_tupK (K := K)) (pv 1) pe_int (fun _ _ => rfl))) (pe_op op_mulX (pe_ix (ix_tupK (K := K)) (pv 1) pe_int (fun _ _ => rfl)) (pe_ix (ix_tupK (K := K)) (pv 0) pe_int (fun _ _ => rfl)))) (pa_cons (pe_op op_mulX (pe_ix (ix_tupK (K := K)) (pv 0) pe_int (fun _ _ => rfl)) (pe_ix (ix_tupK (K := K)) (pv 1) pe_int (fun _ _ => rfl))) pa_nil))))), ?_⟩
    refine z_start (σ' := [some _, some _]) (by rfl) ?_
    have m1 := sm1 (n := 1000000) (by decide)
    walk_at "zz"
    refine z_ixT ht (atI_nat (j := 0) rfl) ?_
    walk_at "zz"
    refine z_ixT ht2 (atI_nat (j := 1) rfl) ?_
    refine z_I (mul_ok sa m1 (by decide)) ?_
    walk_at "zz"
    refine z_ixT ht2 (atI_nat (j := 0) rfl) ?_
    walk_at "zz"
    refine z_ixT ht (atI_nat (j := 1) rfl) ?_
    refine z_I (mul_ok sb m1 (by decide)) ?_
    walk_at "zz"
    refine z_ixT ht (atI_nat (j := 1) rfl) ?_
    walk_at "zz"
    refine z_ixT ht2 (atI_nat (j := 1) rfl) ?_
    refine z_I (mul_ok m1 m1 (by decide)) ?_
    walk_at "zz"
    refine ⟨a + b, by simp, fun p hp => ?_⟩
    exact q p hp
def sp_product_of : Sp := fun vs H Q _ => ∃ v u a b, vs = [v, u] ∧ Fz H v a ∧ Fz H u b ∧ Sm 1000000 a ∧ Sm 1000000 b ∧ ∀ p, H p = none → Q (.ref p) (upd H p (.tup [.int (a * b), .int 1]))
abbrev N_product_of : List Str := ["one", "other"]
theorem sc_product_of : FnScope N_product_of ["one", "other"] (defScope (topS 14)) := ⟨rfl, rfl, rfl, by decide +kernel, rfl, by decide +kernel, by decide +kernel⟩
/-- product_of: 0 one, 1 other -/
theorem ok_product_of {P : Program} {w : World} {K : PySem.W.Frag} {mg : Str → Option Value} {base : Heap} (W : Wd K mg) (h_fraction : Has P w K mg base "fraction" 2 ["top", "bottom"] sp_fraction) : Has P w K mg base "product_of" 3 ["one", "other"] sp_product_of := by
  refine has_of W 5 14 rfl rfl sc_product_of (fun _ _ _ _ _ _ us hl => match us, hl with | [_, _], _ => rfl) (fun vs H Q E h => ?_) (fun f cdv A outer s H vs Q E hr h => ?_)
  · obtain ⟨v, u, a, b, rfl, ⟨t, rfl, ht⟩, ⟨t2, rfl, ht2⟩, sa, sb, q⟩ := h; rfl
  · obtain ⟨v, u, a, b, rfl, ⟨t, rfl, ht⟩, ⟨t2, rfl, ht2⟩, sa, sb, q⟩ := h
    have nd := sc_product_of.nd
    refine ⟨_, (pss_one (ps_ret (pe_has h_fraction (hr.mono (by decide)) (pa_cons (pe_op op_mulX (pe_ix (ix_tupK (K := K)) (pv 0) pe_int (fun _ _ => rfl)) (pe_ix (ix_tupK (K := K)) (pv 1) pe_int (fun _ _ => rfl))) (pa_cons (pe_op op_mulX (pe_ix (ix_tupK (K := K)) (pv 0) pe_int (fun _ _ => rfl)) (pe_ix (ix_tupK (K := K)) (pv 1) pe_int (fun _ _ => rfl))) pa_nil))))), ?_⟩
    refine z_start (σ' := [some _, some _]) (by rfl) ?_
    have m1 := sm1 (n := 1000000) (by decide)
    walk_at "zz"
    refine z_ixT ht (atI_nat (j := 0) rfl) ?_
    walk_at "zz"
    refine z_ixT ht2 (atI_nat (j := 0) rfl) ?_
    refine z_I (mul_ok sa sb (by decide)) ?_
    walk_at "zz"
    refine z_ixT ht (atI_nat (j := 1) rfl) ?_
    walk_at "zz"
    refine z_ixT ht2 (atI_nat (j := 1) rfl) ?_
    refine z_I (mul_ok m1 m1 (by decide)) ?_
    walk_at "zz"
    refine ⟨a * b, by simp, fun p hp => ?_⟩
    exact q p hp
/-- divided by 1 -/
def sp_quotient_of : Sp := fun vs H Q _ => ∃ v u a, vs = [v, u] ∧ Fz H v a ∧ Fz H u 1 ∧ Sm 1000000 a ∧ ∀ p, H p = none → Q (.ref p) (upd H p (.tup [.int a, .int 1]))
abbrev N_quotient_of : List Str := ["one", "other"]
theorem sc_quotient_of : FnScope N_quotient_of ["one", "other"] (defScope (topS 15)) := ⟨rfl, rfl, rfl, by decide +kernel, rfl, by decide +kernel, by decide +kernel⟩
/-- quotient_of: 0 one, 1 other -/
theorem ok_quotient_of {P : Program} {w : World} {K : PySem.W.Frag} {mg : Str → Option Value} {base : Heap} (W : Wd K mg) (h_fraction : Has P w K mg base "fraction" 2 ["top", "bottom"] sp_fraction) : Has P w K mg base "quotient_of" 3 ["one", "other"] sp_quotient_of := by
  refine has_of W 6 15 rfl rfl sc_quotient_of (fun _ _ _ _ _ _ us hl => match us, hl with | [_, _], _ => rfl) (fun vs H Q E h => ?_) (fun f cdv A outer s H vs Q E hr h => ?_)
  · obtain ⟨v, u, a, rfl, ⟨t, rfl, ht⟩, ⟨t2, rfl, ht2⟩, sa, q⟩ := h; rfl
  · obtain ⟨v, u, a, rfl, ⟨t, rfl, ht⟩, ⟨t2, rfl, ht2⟩, sa, q⟩ := h
    have nd := sc_quotient_of.nd
    refine ⟨_, (pss_one (ps_ret (pe_has h_fraction (hr.mono (by decide)) (pa_cons (pe_op op_mulX (pe_ix (ix_tupK (K := K)) (pv 0) pe_int (fun _ _ => rfl)) (pe_ix (ix_tupK (K := K)) (pv 1) pe_int (fun _ _ => rfl))) (pa_cons (pe_op op_mulX (pe_ix (ix_tupK (K := K)) (pv 0) pe_int (fun _ _ => rfl)) (pe_ix (ix_tupK (K := K)) (pv 1) pe_int (fun _ _ => rfl))) pa_nil))))), ?_⟩
    refine z_start (σ' := [some _, some _]) (by rfl) ?_
    have m1 := sm1 (n := 1000000) (by decide)
    walk_at "zz"
    refine z_ixT ht (atI_nat (j := 0) rfl) ?_
    walk_at "zz"
    refine z_ixT ht2 (atI_nat (j := 1) rfl) ?_
    refine z_I (mul_ok sa m1 (by decide)) ?_
    walk_at "zz"
    refine z_ixT ht (atI_nat (j := 1) rfl) ?_
    walk_at "zz"
    refine z_ixT ht2 (atI_nat (j := 0) rfl) ?_
    refine z_I (mul_ok m1 m1 (by decide)) ?_
    walk_at "zz"
    refine ⟨a, by simp, fun p hp => ?_⟩
    exact q p hp
end Smo

set_option Elab.async false
set_option linter.all false
set_option maxRecDepth 100000
set_option maxHeartbeats 4000000
namespace Smo
open PySem PySem.Spec PyProof.Rows L2
local macro_rules | `(tactic| walk_at "zz") => `(tactic| ((try dsimp only); repeat (first | refine ZS.go ?_ | refine And.intro (rfl : wipe _ _ = wipe _ _) ?_)))
/-! ### rows and tables -/
section
variable {α : Type}
/-- the list at a holds n things, the c-th told by r c -/
def Rw (cell : Hp → V → α → Prop) (H : Hp) (a : Addr) (n : Nat) (r : Nat → α) : Prop := ∃ vs, H a = some (.lst vs) ∧ vs.length = n ∧ ∀ c v, vs[c]? = some v → cell H v (r c)
/-- the list at p holds m such lists -/
def Mt (cell : Hp → V → α → Prop) (H : Hp) (p : Addr) (m n : Nat) (A : Nat → Nat → α) : Prop :=
  ∃ as : List Addr, H p = some (.lst (as.map V.ref)) ∧ as.length = m ∧ ∀ i a, as[i]? = some a → Rw cell H a n (A i)
def CellUp (cell : Hp → V → α → Prop) : Prop := ∀ H H' v x, Same H H' → cell H v x → cell H' v x
theorem Rw.up {cell : Hp → V → α → Prop} (hc : CellUp cell) {H H' : Hp} {a : Addr} {n : Nat} {r : Nat → α} (e : Same H H') (h : Rw cell H a n r) : Rw cell H' a n r := by
  obtain ⟨vs, h1, h2, h3⟩ := h
  exact ⟨vs, e _ _ h1, h2, fun c v hv => hc _ _ _ _ e (h3 c v hv)⟩
theorem Mt.up {cell : Hp → V → α → Prop} (hc : CellUp cell) {H H' : Hp} {p : Addr} {m n : Nat} {A : Nat → Nat → α} (e : Same H H') (h : Mt cell H p m n A) : Mt cell H' p m n A := by
  obtain ⟨as, h1, h2, h3⟩ := h
  exact ⟨as, e _ _ h1, h2, fun i a ha => (h3 i a ha).up hc e⟩
end
/-- an int -/
def Ci (_ : Hp) (v : V) (z : Int) : Prop := v = .int z
theorem Ci.up : CellUp Ci := fun _ _ _ _ _ h => h
theorem Fz.ups : CellUp Fz := fun _ _ _ _ e h => h.up e
theorem get_lt {α : Type} {l : List α} {i : Nat} {x : α} (h : l[i]? = some x) : i < l.length := by
  obtain ⟨h, _⟩ := List.getElem?_eq_some_iff.mp h
  exact h
theorem get_of_lt {α : Type} {l : List α} {i : Nat} (h : i < l.length) : ∃ x, l[i]? = some x := ⟨_, List.getElem?_eq_getElem h⟩
theorem map_of_get {β : Type} {f : Nat → β} {l : List β} {n : Nat} (hl : l.length = n) (h : ∀ i x, l[i]? = some x → x = f i) : l = (List.range n).map f := by
  apply List.ext_getElem?
  intro i
  rw [List.getElem?_map]
  by_cases hi : i < n
  · rw [List.getElem?_range hi]
    obtain ⟨x, hx⟩ := get_of_lt (l := l) (i := i) (by omega)
    rw [hx, h i x hx]; rfl
  · rw [List.getElem?_eq_none (by omega), List.getElem?_eq_none (by simp; omega)]; rfl
theorem Rw.ints {H : Hp} {a : Addr} {n : Nat} {r : Nat → Int} (h : Rw Ci H a n r) : H a = some (.lst (((List.range n).map r).map V.int)) := by
  obtain ⟨vs, h1, h2, h3⟩ := h
  rw [h1, map_of_get (f := fun i => V.int (r i)) h2 h3, List.map_map]; rfl
theorem Rw.of_ints {H : Hp} {a : Addr} {n : Nat} {r : Nat → Int} (h : H a = some (.lst (((List.range n).map r).map V.int))) : Rw Ci H a n r := by
  refine ⟨_, h, by simp, fun c v hv => ?_⟩
  rw [List.getElem?_map, List.getElem?_map] at hv
  have hc : c < n := by
    have := get_lt (l := ((List.range n).map r).map V.int) (i := c) (x := v) (by rw [List.getElem?_map, List.getElem?_map]; exact hv)
    simpa using this
  rw [List.getElem?_range hc] at hv
  exact (Option.some.inj hv).symm
theorem ints_fun (ns : List Int) : ns = (List.range ns.length).map fun i => ns.getD i 0 := by
  refine map_of_get rfl fun i x h => ?_
  rw [List.getD_eq_getElem?_getD, h]; rfl
theorem Rw.of_list {H : Hp} {a : Addr} {ns : List Int} (h : H a = some (.lst (ns.map V.int))) : Rw Ci H a ns.length fun i => ns.getD i 0 := by
  refine Rw.of_ints ?_
  rw [h]
  congr 2
  rw [← ints_fun ns]
/-- the scope of the comprehension that a body hands back, or hands on -/
def rtScope (b : List Stmt) : Scope := match b.getLast? with
  | some (.Return (some (.ListComp _ _ sc _)) _) => sc
  | some (.Return (some (.Call _ [.ListComp _ _ sc _] _ _)) _) => sc
  | _ => { kind := .function, names := [], isGenerator := false, isCoroutine := false }
/-! ### more steps -/
section
variable {σ : L2.St} {H H1 : Hp} {Q : VK} {K : PySem.W.Frag} {v : V} {te tl : TE} {tt : TT} {g : TG} {vs : List Nat} {p : Addr} {xs : List V}
instance {R : It → Hp → Prop} : ZS (iList K tl σ H R) (tl σ H fun x H1 => ∃ a, x = .ref a ∧ (∃ xs, SqL K H1 a xs) ∧ R (Itl K a) H1) := ⟨id⟩
instance {R : Addr → Prop} : ZS (∃ a, V.ref p = .ref a ∧ R a) (R p) := ⟨fun h => ⟨p, rfl, h⟩⟩
/-- what a list comprehension asks of its walk J -/
def LcK (g : TG) (tt : TT) (te : TE) (vs : List Nat) (σ : L2.St) (Q : VK) (J : It) (H1 : Hp) : Prop := ∀ D, H1 D = none → ∃ W : Nat → Nat → Hp → Prop, (∃ m, W 0 m (upd H1 D (.lst []))) ∧ ∀ i m H, W i m H →
  (J.stop i H ∧ Q (.ref D) H) ∨ (J.go i H ∧ ∃ Nx : Hp → Prop, (∀ H', Nx H' → ∃ m', m' < m ∧ W (i + 1) m' H') ∧ ∀ x H', J.yld i H x H' → g x (wipe σ vs) H' fun σ2 H2 => wipe σ2 vs = wipe σ vs ∧ tt σ2 H2 fun b H3 =>
    if b = true then te σ2 H3 fun y H4 => ∃ acc, H4 D = some (.lst acc) ∧ acc.length < sizeLine ∧ Nx (upd H4 D (.lst (acc ++ [y]))) else Nx H3)
instance {wi : TI} : ZS (tLc wi g tt te vs σ H Q) (wi σ H fun J H1 => LcK g tt te vs σ Q J H1) := ⟨id⟩
/-- what a for asks of its walk J -/
def ForK (g : TG) (tb : TS) (D : Ends) (σ : L2.St) (J : It) (H1 : Hp) : Prop := ∃ W : Nat → Nat → L2.St → Hp → Prop, (∃ m, W 0 m σ H1) ∧ ∀ i m σ H, W i m σ H →
  (J.stop i H ∧ D.nx σ H) ∨ (J.go i H ∧ ∃ N : L2.St → Hp → Prop, (∀ σ' H', N σ' H' → ∃ m', m' < m ∧ W (i + 1) m' σ' H') ∧ ∀ x H', J.yld i H x H' → g x σ H' fun σ2 H2 => tb { D with nx := N, ct := N, bk := D.nx } σ2 H2)
instance {wi : TI} {tb : TS} {D : Ends} : ZS (tFor wi g tb D σ H) (wi σ H fun J H1 => ForK g tb D σ J H1) := ⟨id⟩
theorem z_forL {tb : TS} {D : Ends} (hp : H p = some (.lst xs)) (Pv : Nat → L2.St → Hp → Prop) (h0 : Pv 0 σ H) (hl : ∀ i σ H, Pv i σ H → H p = some (.lst xs))
    (hs : ∀ i x σ H, xs[i]? = some x → Pv i σ H → g x σ H fun σ2 H2 => tb { D with nx := Pv (i + 1), ct := Pv (i + 1), bk := D.nx } σ2 H2) (hd : ∀ σ H, Pv xs.length σ H → D.nx σ H) :
    (∃ xs, SqL K H p xs) ∧ ForK g tb D σ (Itl K p) H :=
  ⟨⟨xs, SqL.of hp⟩, for_list (K := K) (a := p) (xs := xs) Pv h0 (fun i σ H _ h => SqL.of (hl i σ H h)) hs hd⟩
theorem z_forR {tb : TS} {D : Ends} {lo : Int} {n : Nat} (Pv : Nat → L2.St → Hp → Prop) (h0 : Pv 0 σ H) (hs : ∀ i σ H, i < n → Pv i σ H → g (.int (lo + (i : Nat))) σ H fun σ2 H2 => tb { D with nx := Pv (i + 1), ct := Pv (i + 1), bk := D.nx } σ2 H2)
    (hd : ∀ σ H, Pv n σ H → D.nx σ H) : ForK g tb D σ (Itr lo n) H := for_range Pv h0 hs hd
/-- the heap without D -/
def hide (D : Addr) (H : Hp) : Hp := fun b => if b = D then none else H b
theorem hide_ne {D b : Addr} {H : Hp} (h : b ≠ D) : hide D H b = H b := if_neg h
theorem hide_upd {D : Addr} {H : Hp} {o : HO} : hide D (upd H D o) = hide D H := by
  funext b
  by_cases h : b = D
  · unfold hide; rw [if_pos h, if_pos h]
  · rw [hide_ne h, hide_ne h, upd_ne h]
theorem hide_same {D : Addr} {H : Hp} : Same (hide D H) H := fun b o h => by
  by_cases e : b = D
  · unfold hide at h; rw [if_pos e] at h; cases h
  · rwa [hide_ne e] at h
theorem hide_up {D : Addr} {H H' : Hp} (e : Same H H') : Same (hide D H) (hide D H') := fun b o h => by
  by_cases c : b = D
  · unfold hide at h; rw [if_pos c] at h; cases h
  · rw [hide_ne c] at h ⊢; exact e _ _ h
theorem hide_at {D b : Addr} {H : Hp} {o : HO} {ys : List V} (hD : H D = some (.lst ys)) (h : H b = some o) (n : ∀ l, o ≠ .lst l) : hide D H b = some o := by
  rw [hide_ne (fun e => by subst e; rw [h] at hD; exact n _ (Option.some.inj hD))]; exact h
theorem Fz.hid {D : Addr} {H : Hp} {v : V} {z : Int} {ys : List V} (hD : H D = some (.lst ys)) (h : Fz H v z) : Fz (hide D H) v z := by
  obtain ⟨t, rfl, h⟩ := h
  exact ⟨t, rfl, hide_at hD h (fun l e => by cases e)⟩
theorem Rw.hid {α : Type} {cell : Hp → V → α → Prop} {D a : Addr} {H : Hp} {n : Nat} {r : Nat → α} (hc : ∀ v x, cell H v x → cell (hide D H) v x) (ha : a ≠ D) (h : Rw cell H a n r) : Rw cell (hide D H) a n r := by
  obtain ⟨vs, h1, h2, h3⟩ := h
  exact ⟨vs, by rw [hide_ne ha]; exact h1, h2, fun c v hv => hc _ _ (h3 c v hv)⟩
class WipeC (σ : L2.St) (vs : List Nat) (σ' : outParam L2.St) : Prop where
  eq : wipe σ vs = σ'
class SetN (l : L2.St) (i : Nat) (l' : outParam L2.St) : Prop where
  eq : l.set i none = l'
instance {a : Option V} {l : L2.St} : SetN (a :: l) 0 (none :: l) := ⟨rfl⟩
instance {a : Option V} {l l' : L2.St} {n : Nat} [h : SetN l n l'] : SetN (a :: l) (n + 1) (a :: l') := ⟨congrArg _ h.eq⟩
instance {σ : L2.St} : WipeC σ [] σ := ⟨rfl⟩
instance {σ σ1 σ2 : L2.St} {v : Nat} {vs : List Nat} [h : WipeC σ vs σ1] [h2 : SetN σ1 v σ2] : WipeC σ (v :: vs) σ2 := ⟨by rw [← h2.eq, ← h.eq]; rfl⟩
instance {σ : L2.St} {f : Str × Nat → Nat} : WipeC σ (List.map f []) σ := ⟨rfl⟩
instance {σ σ1 σ2 : L2.St} {f : Str × Nat → Nat} {a : Str × Nat} {l : List (Str × Nat)} [h : WipeC σ (List.map f l) σ1] [h2 : SetN σ1 (f a) σ2] : WipeC σ (List.map f (a :: l)) σ2 := ⟨by rw [← h2.eq, ← h.eq]; rfl⟩
instance {i : Nat} {v : V} {σ σ1 σ' : L2.St} {vs : List Nat} {H : Hp} {R : L2.St → Hp → Prop} [w : WipeC σ vs σ1] [h : SetC σ1 i (some v) σ'] : ZS (gName i v (wipe σ vs) H R) (R σ' H) := ⟨fun q => by
  rw [w.eq]; exact z_name h.at_ q⟩
/-- what a comprehension has made so far: n values -/
structure Made (H1 : Hp) (D : Addr) (n : Nat) (Φ : Nat → V → Hp → Prop) (H2 : Hp) : Prop where
  same : Same H1 H2
  new : H1 D = none
  lst : ∃ ys, H2 D = some (.lst ys) ∧ ys.length = n ∧ ∀ i y, ys[i]? = some y → Φ i y (hide D H2)
abbrev Stb (Φ : Nat → V → Hp → Prop) : Prop := ∀ i v H H', Same H H' → Φ i v H → Φ i v H'
theorem Made.start {D : Addr} {Φ : Nat → V → Hp → Prop} (h : H1 D = none) : Made H1 D 0 Φ (upd H1 D (.lst [])) :=
  ⟨same_upd h, h, [], upd_same, rfl, fun i y e => by simp at e⟩
theorem Made.more {D : Addr} {n : Nat} {Φ : Nat → V → Hp → Prop} {H2 H3 : Hp} {y : V} (up : Stb Φ) (m : Made H1 D n Φ H2) (e : Same H2 H3) (hy : Φ n y (hide D H3)) (hn : n < 1000000) :
    ∃ acc, H3 D = some (.lst acc) ∧ acc.length < sizeLine ∧ Made H1 D (n + 1) Φ (upd H3 D (.lst (acc ++ [y]))) := by
  obtain ⟨s, w, ys, h1, h2, h3⟩ := m
  refine ⟨ys, e _ _ h1, Nat.lt_of_le_of_lt (by omega : ys.length ≤ 1000000) (by decide), ⟨same_mut (s.trans e) w, w, ys ++ [y], upd_same, by simp [h2], fun i z hz => ?_⟩⟩
  rw [hide_upd]
  by_cases hi : i < ys.length
  · rw [List.getElem?_append_left hi] at hz
    exact up _ _ _ _ (hide_up e) (h3 i z hz)
  · have hl := get_lt hz
    rw [List.length_append, List.length_singleton] at hl
    have hi' : i = n := by omega
    subst hi'
    rw [List.getElem?_append_right (by omega), h2, Nat.sub_self] at hz
    have := Option.some.inj hz
    subst this
    exact hy
/-- [e for x in xs]: one value an item -/
theorem z_mapL (hp : H p = some (.lst xs)) (hn : xs.length < 1000000) (Φ : Nat → V → Hp → Prop) (up : Stb Φ)
    (hs : ∀ D i x H2 ys, xs[i]? = some x → Same H H2 → H2 D = some (.lst ys) → H D = none → ∀ R : VK, (∀ y H4, Same H2 H4 → Φ i y (hide D H4) → R y H4) →
      g x (wipe σ vs) H2 fun σ2 H3 => wipe σ2 vs = wipe σ vs ∧ te σ2 H3 R)
    (hd : ∀ D H2 ys, Same H H2 → H D = none → H2 D = some (.lst ys) → ys.length = xs.length → (∀ i y, ys[i]? = some y → Φ i y (hide D H2)) → Q (.ref D) H2) :
    (∃ xs, SqL K H p xs) ∧ LcK g tYes te vs σ Q (Itl K p) H := by
  refine ⟨⟨xs, SqL.of hp⟩, fun D nD => ?_⟩
  refine lc_list (K := K) (a := p) (xs := xs) (fun i H' => Made H D i Φ H') (Made.start nD) (fun i H' _ m => SqL.of (m.same _ _ hp)) (fun i x H' hx m => ?_) (fun H' m => ?_)
  · obtain ⟨ys, h1, h2, h3⟩ := m.lst
    have hi := get_lt hx
    exact hs D i x H' ys hx m.same h1 m.new _ fun y H4 e hy => m.more up e hy (by omega)
  · obtain ⟨ys, h1, h2, h3⟩ := m.lst
    exact hd D H' ys m.same m.new h1 h2 h3
/-- [e for k in range(n)] -/
theorem z_mapR {lo : Int} {n : Nat} (hn : n < 1000000) (Φ : Nat → V → Hp → Prop) (up : Stb Φ)
    (hs : ∀ D i H2 ys, i < n → Same H H2 → H2 D = some (.lst ys) → H D = none → ∀ R : VK, (∀ y H4, Same H2 H4 → Φ i y (hide D H4) → R y H4) →
      g (.int (lo + (i : Nat))) (wipe σ vs) H2 fun σ2 H3 => wipe σ2 vs = wipe σ vs ∧ te σ2 H3 R)
    (hd : ∀ D H2 ys, Same H H2 → H D = none → H2 D = some (.lst ys) → ys.length = n → (∀ i y, ys[i]? = some y → Φ i y (hide D H2)) → Q (.ref D) H2) :
    LcK g tYes te vs σ Q (Itr lo n) H := by
  intro D nD
  refine lc_range (fun i H' => Made H D i Φ H') (Made.start nD) (fun i H' hi m => ?_) (fun H' m => ?_)
  · obtain ⟨ys, h1, h2, h3⟩ := m.lst
    exact hs D i H' ys hi m.same h1 m.new _ fun y H4 e hy => m.more up e hy (by omega)
  · obtain ⟨ys, h1, h2, h3⟩ := m.lst
    exact hd D H' ys m.same m.new h1 h2 h3
end
theorem ref_at {as : List Addr} {i : Nat} {a : Addr} (h : as[i]? = some a) : (as.map V.ref)[i]? = some (.ref a) := by
  rw [List.getElem?_map, h]; rfl
theorem ref_of {as : List Addr} {i : Nat} {x : V} (h : (as.map V.ref)[i]? = some x) : ∃ a, as[i]? = some a ∧ x = .ref a := by
  rw [List.getElem?_map] at h
  cases e : as[i]? with
  | none => rw [e] at h; cases h
  | some a => rw [e] at h; exact ⟨a, rfl, (Option.some.inj h).symm⟩

/-! ### reading rows and tables -/
section
variable {σ : L2.St} {H H1 : Hp} {Q : VK} {K : PySem.W.Frag} {α : Type} {cell : Hp → V → α → Prop}
theorem Rw.get {a : Addr} {n c : Nat} {r : Nat → α} (h : Rw cell H a n r) (hc : c < n) : ∃ vs v, H a = some (.lst vs) ∧ vs.length = n ∧ vs[c]? = some v ∧ cell H v (r c) := by
  obtain ⟨vs, h1, h2, h3⟩ := h
  obtain ⟨v, hv⟩ := get_of_lt (l := vs) (i := c) (by omega)
  exact ⟨vs, v, h1, h2, hv, h3 c v hv⟩
theorem Mt.get {p : Addr} {m n i : Nat} {A : Nat → Nat → α} (h : Mt cell H p m n A) (hi : i < m) : ∃ (as : List Addr) (a : Addr), H p = some (.lst (as.map V.ref)) ∧ as.length = m ∧ as[i]? = some a ∧ Rw cell H a n (A i) := by
  obtain ⟨as, h1, h2, h3⟩ := h
  obtain ⟨a, ha⟩ := get_of_lt (l := as) (i := i) (by omega)
  exact ⟨as, a, h1, h2, ha, h3 i a ha⟩
theorem z_ixR {a : Addr} {n : Nat} (c : Nat) {r : Nat → α} (h : Rw cell H a n r) (hc : c < n) (q : ∀ v, cell H v (r c) → Q v H) : rIxL K (.ref a) (.int (c : Nat)) H Q := by
  obtain ⟨vs, v, h1, h2, hv, hr⟩ := h.get hc
  exact z_ixL h1 (atI_nat (j := c) hv) (q v hr)
theorem z_ixI {a : Addr} {n : Nat} (c : Nat) {r : Nat → Int} (h : Rw Ci H a n r) (hc : c < n) (q : Q (.int (r c)) H) : rIxL K (.ref a) (.int (c : Nat)) H Q :=
  z_ixR c h hc fun v hv => by cases (hv : v = .int (r c)); exact q
theorem z_ixM {p : Addr} {m n : Nat} (i : Nat) {A : Nat → Nat → α} (h : Mt cell H p m n A) (hi : i < m) (q : ∀ a, Rw cell H a n (A i) → Q (.ref a) H) : rIxL K (.ref p) (.int (i : Nat)) H Q := by
  obtain ⟨as, a, h1, h2, ha, hr⟩ := h.get hi
  exact z_ixL h1 (atI_nat (j := i) (ref_at ha)) (q a hr)
theorem z_lenR {a : Addr} {n : Nat} {r : Nat → α} (h : Rw cell H a n r) (q : Q (.int (n : Nat)) H) : rLenS K [.ref a] H Q := by
  obtain ⟨vs, h1, h2, h3⟩ := h
  exact z_len h1 (by rw [h2]; exact q)
theorem z_lenM {p : Addr} {m n : Nat} {A : Nat → Nat → α} (h : Mt cell H p m n A) (q : Q (.int (m : Nat)) H) : rLenS K [.ref p] H Q := by
  obtain ⟨as, h1, h2, h3⟩ := h
  exact z_len h1 (by rw [List.length_map, h2]; exact q)
instance {ta : TA} {R : It → Hp → Prop} : ZS (iRng1 ta σ H R) (ta σ H fun vs H1 => ∃ j : Int, vs = [.int j] ∧ -(2 ^ 62) ≤ j ∧ j < 2 ^ 62 ∧ R (Itr 0 j.toNat) H1) := ⟨id⟩
instance {ta : TA} {R : It → Hp → Prop} : ZS (iRng2 ta σ H R) (ta σ H fun vs H1 => ∃ i j : Int, vs = [.int i, .int j] ∧ (-(2 ^ 62) ≤ i ∧ i < 2 ^ 62 ∧ -(2 ^ 62) ≤ j ∧ j < 2 ^ 62) ∧ R (Itr i (j - i).toNat) H1) := ⟨id⟩
theorem z_rng1 {n : Nat} {x : Int} {R : It → Hp → Prop} (e : x = (n : Int)) (h : n ≤ 1000000) (q : R (Itr 0 n) H) : ∃ j : Int, [V.int x] = [.int j] ∧ -(2 ^ 62) ≤ j ∧ j < 2 ^ 62 ∧ R (Itr 0 j.toNat) H :=
  ⟨n, by rw [e], by omega, by omega, q⟩
theorem z_rng2 {m n : Nat} {x y : Int} {R : It → Hp → Prop} (e : x = (m : Int)) (e' : y = (n : Int)) (h : m ≤ 1000000) (h' : n ≤ 1000000) (q : R (Itr m (n - m)) H) : ∃ i j : Int, [V.int x, V.int y] = [.int i, .int j] ∧ (-(2 ^ 62) ≤ i ∧ i < 2 ^ 62 ∧ -(2 ^ 62) ≤ j ∧ j < 2 ^ 62) ∧ R (Itr i (j - i).toNat) H :=
  ⟨m, n, by rw [e, e'], by omega, by
    have : ((n : Int) - (m : Int)).toNat = n - m := by omega
    rw [this]; exact q⟩
end

section
variable {σ : L2.St} {H : Hp} {Q : VK} {K : PySem.W.Frag}
instance {T : String} {r : V → List V → Hp → VK → Prop} {to : TE} {t : TA} : ZS (tBM K T r to t σ H Q) (to σ H fun x H1 => tyV K T x H1 ∧ t σ H1 fun xs H2 => r x xs H2 Q) := ⟨id⟩
instance {R : Prop} {v : V} : ZS (v = v ∧ R) R := ⟨fun h => ⟨rfl, h⟩⟩
instance {r : V → Option Int → Option Int → Hp → VK → Prop} {te : TE} {tl th : TO} : ZS (tSl r te tl th σ H Q) (te σ H fun x H1 => tl σ H1 fun l H2 => th σ H2 fun u H3 => r x l u H3 Q) := ⟨id⟩
instance {te : TE} {R : Option Int → Hp → Prop} : ZS (tPart te σ H R) (te σ H fun v H1 => ∃ i, v = .int i ∧ R (some i) H1) := ⟨id⟩
instance {R : Option Int → Hp → Prop} : ZS (tNoPart σ H R) (R none H) := ⟨id⟩
instance {i : Int} {R : Int → Prop} : ZS (∃ j, V.int i = .int j ∧ R j) (R i) := ⟨fun h => ⟨i, rfl, h⟩⟩
theorem z_slice {p : Addr} {xs : List V} {lo hi : Option Int} (h : H p = some (.lst xs)) (q : ∀ e, H e = none → Q (.ref e) (upd H e (.lst (cutV xs lo hi)))) : rSlL K (.ref p) lo hi H Q := ⟨p, xs, rfl, SqL.of h, q⟩
theorem z_gtup {a : Addr} {xs : List V} {n : Nat} {t : TGs} {R : L2.St → Hp → Prop} (h : H a = some (.tup xs)) (hl : xs.length = n) (q : t xs σ H R) : gTup K n t (.ref a) σ H R := ⟨a, xs, rfl, SqT.of h, hl, q⟩
instance {t : TG} {u : TGs} {v : V} {r : List V} {R : L2.St → Hp → Prop} : ZS (gCons t u (v :: r) σ H R) (t v σ H fun σ' H' => u r σ' H' R) := ⟨fun h => ⟨v, r, rfl, h⟩⟩
instance {R : L2.St → Hp → Prop} : ZS (gNil [] σ H R) (R σ H) := ⟨fun h => ⟨rfl, h⟩⟩
theorem z_cut {t u : TS} {D : Ends} (Mid : L2.St → Hp → Prop) (h : t { D with nx := Mid } σ H) (k : ∀ σ' H', Mid σ' H' → u D σ' H') : Evl.tCut t u D σ H := ⟨Mid, h, k⟩
theorem cut_from (xs : List V) (k : Nat) (h : k ≤ xs.length) : cutV xs (some (k : Int)) none = xs.drop k := by
  unfold cutV
  rw [HT.sIx_nat, HT.sIx_none, Nat.min_eq_left h, List.take_of_length_le (by rw [List.length_drop]; omega)]
theorem cut_to (xs : List V) (k : Nat) (h : k ≤ xs.length) : cutV xs none (some (k : Int)) = xs.take k := by
  unfold cutV
  rw [HT.sIx_nat, HT.sIx_none, Nat.min_eq_left h, Nat.sub_zero, List.drop_zero]
theorem cut_mid (xs : List V) (j k : Nat) (hj : j ≤ k) (h : k ≤ xs.length) : cutV xs (some (j : Int)) (some (k : Int)) = (xs.drop j).take (k - j) := by
  unfold cutV
  rw [HT.sIx_nat, HT.sIx_nat, Nat.min_eq_left h, Nat.min_eq_left (by omega)]
theorem z_tyL {p : Addr} {xs : List V} {R : Prop} (h : H p = some (.lst xs)) (q : R) : tyV K "list" (.ref p) H ∧ R := ⟨.inl ⟨rfl, _, SqL.of h⟩, q⟩
theorem z_append {p : Addr} {xs : List V} {y : V} (h : H p = some (.lst xs)) (hn : xs.length < 1000000) (q : Q .non (upd H p (.lst (xs ++ [y])))) : rAppend (.ref p) [y] H Q :=
  ⟨p, xs, y, rfl, rfl, h, Nat.lt_trans hn (by decide), q⟩
end
/-! ### a table of one's own, written in place -/
/-- the rows stand at as; what stood in H0 stands -/
structure Grid {α : Type} (cell : Hp → V → α → Prop) (H0 H : Hp) (p : Addr) (as : List Addr) (m n : Nat) (M : Nat → Nat → α) : Prop where
  same : Same H0 H
  newp : H0 p = none
  lst : H p = some (.lst (as.map V.ref))
  len : as.length = m
  nd : as.Nodup
  np : p ∉ as
  newa : ∀ a ∈ as, H0 a = none
  row : ∀ i a, as[i]? = some a → Rw cell H a n (M i)
/-- a cell leans on no list -/
def CellF {α : Type} (cell : Hp → V → α → Prop) : Prop := ∀ H a l vs v x, H a = some (.lst l) → cell H v x → cell (upd H a (.lst vs)) v x
theorem Ci.fr : CellF Ci := fun _ _ _ _ _ _ _ h => h
theorem Fz.fr : CellF Fz := fun H a l vs v x h ⟨t, e, ht⟩ => ⟨t, e, by
  rw [upd_ne (fun z => by subst z; rw [ht] at h; cases h)]; exact ht⟩
theorem Rw.fr {α : Type} {cell : Hp → V → α → Prop} (hf : CellF cell) {H : Hp} {a D : Addr} {n : Nat} {r : Nat → α} {l vs : List V} (h : Rw cell H a n r) (ha : a ≠ D) (hD : H D = some (.lst l)) : Rw cell (upd H D (.lst vs)) a n r := by
  obtain ⟨ws, h1, h2, h3⟩ := h
  exact ⟨ws, by rw [upd_ne ha]; exact h1, h2, fun c v hv => hf _ _ _ _ _ _ hD (h3 c v hv)⟩
def put2 {α : Type} (M : Nat → Nat → α) (i c : Nat) (x : α) : Nat → Nat → α := fun i' c' => if i' = i ∧ c' = c then x else M i' c'
theorem Grid.mt {α : Type} {cell : Hp → V → α → Prop} {H0 H : Hp} {p : Addr} {as : List Addr} {m n : Nat} {M : Nat → Nat → α} (g : Grid cell H0 H p as m n M) : Mt cell H p m n M := ⟨as, g.lst, g.len, g.row⟩
theorem Grid.set {α : Type} {cell : Hp → V → α → Prop} (hf : CellF cell) {H0 H : Hp} {p a : Addr} {as : List Addr} {m n i c : Nat} {M : Nat → Nat → α} {vs : List V} {v : V} {x : α} (g : Grid cell H0 H p as m n M) (ha : as[i]? = some a) (hv : H a = some (.lst vs)) (hx : cell H v x) :
    Grid cell H0 (upd H a (.lst (vs.set c v))) p as m n (put2 M i c x) := by
  have am : a ∈ as := List.mem_of_getElem? ha
  refine ⟨same_mut g.same (g.newa a am), g.newp, by rw [upd_ne (fun e => g.np (by rw [e]; exact am))]; exact g.lst, g.len, g.nd, g.np, g.newa, fun i' a' ha' => ?_⟩
  obtain ⟨ws, h1, h2, h3⟩ := g.row i' a' ha'
  by_cases e : i' = i
  · subst e
    have ea : a' = a := Option.some.inj (ha'.symm.trans ha)
    subst ea
    have ew : ws = vs := by rw [hv] at h1; exact (HO.lst.inj (Option.some.inj h1)).symm
    subst ew
    refine ⟨_, upd_same, by rw [List.length_set]; exact h2, fun c' u hu => ?_⟩
    rw [List.getElem?_set] at hu
    by_cases ec : c = c'
    · subst ec
      rw [if_pos rfl] at hu
      have : c < ws.length := by
        by_cases z : c < ws.length
        · exact z
        · rw [if_neg z] at hu; cases hu
      rw [if_pos this] at hu
      have := Option.some.inj hu
      subst this
      unfold put2
      rw [if_pos ⟨rfl, rfl⟩]
      exact hf _ _ _ _ _ _ hv hx
    · rw [if_neg ec] at hu
      unfold put2
      rw [if_neg (fun z => ec z.2.symm)]
      exact hf _ _ _ _ _ _ hv (h3 c' u hu)
  · have ne : a' ≠ a := fun z => by
      subst z
      have h4 := get_lt ha
      have h5 := get_lt ha'
      obtain ⟨_, e1⟩ := List.getElem?_eq_some_iff.mp ha
      obtain ⟨_, e2⟩ := List.getElem?_eq_some_iff.mp ha'
      exact e ((List.getElem_inj g.nd).mp (e2.trans e1.symm))
    refine ⟨ws, by rw [upd_ne ne]; exact h1, h2, fun c' u hu => ?_⟩
    unfold put2
    rw [if_neg (fun z => e z.1)]
    exact hf _ _ _ _ _ _ hv (h3 c' u hu)
theorem Grid.up {α : Type} {cell : Hp → V → α → Prop} (hc : CellUp cell) {H0 H H' : Hp} {p : Addr} {as : List Addr} {m n : Nat} {M : Nat → Nat → α} (g : Grid cell H0 H p as m n M) (e : Same H H') : Grid cell H0 H' p as m n M :=
  ⟨g.same.trans e, g.newp, e _ _ g.lst, g.len, g.nd, g.np, g.newa, fun i a ha => (g.row i a ha).up hc e⟩
theorem Grid.cong {α : Type} {cell : Hp → V → α → Prop} {H0 H : Hp} {p : Addr} {as : List Addr} {m n : Nat} {M M' : Nat → Nat → α} (g : Grid cell H0 H p as m n M) (h : ∀ i < m, ∀ c < n, M i c = M' i c) : Grid cell H0 H p as m n M' :=
  ⟨g.same, g.newp, g.lst, g.len, g.nd, g.np, g.newa, fun i a ha => by
    obtain ⟨vs, h1, h2, h3⟩ := g.row i a ha
    have hi : i < m := by rw [← g.len]; exact get_lt ha
    exact ⟨vs, h1, h2, fun c v hv => by rw [← h i hi c (by rw [← h2]; exact get_lt hv)]; exact h3 c v hv⟩⟩
/-! ### a comprehension of new lists -/
structure MadeN (H1 : Hp) (D : Addr) (n : Nat) (Φ : Nat → Addr → Hp → Prop) (H2 : Hp) : Prop where
  same : Same H1 H2
  new : H1 D = none
  lst : ∃ as : List Addr, H2 D = some (.lst (as.map V.ref)) ∧ as.length = n ∧ as.Nodup ∧ D ∉ as ∧ (∀ a ∈ as, H1 a = none ∧ H2 a ≠ none) ∧ ∀ i a, as[i]? = some a → Φ i a (hide D H2)
theorem MadeN.more {H1 : Hp} {D p : Addr} {n : Nat} {Φ : Nat → Addr → Hp → Prop} {H2 H3 : Hp} (up : ∀ i a H H', Same H H' → Φ i a H → Φ i a H') (m : MadeN H1 D n Φ H2) (e : Same H2 H3) (hp : H2 p = none) (hp3 : H3 p ≠ none) (hy : Φ n p (hide D H3)) (hn : n < 1000000) :
    ∃ acc, H3 D = some (.lst acc) ∧ acc.length < sizeLine ∧ MadeN H1 D (n + 1) Φ (upd H3 D (.lst (acc ++ [.ref p]))) := by
  obtain ⟨s, w, as, h1, h2, h3, h4, h5, h6⟩ := m
  have pD : p ≠ D := fun z => by subst z; rw [h1] at hp; cases hp
  refine ⟨as.map V.ref, e _ _ h1, Nat.lt_of_le_of_lt (by rw [List.length_map]; omega : (as.map V.ref).length ≤ 1000000) (by decide), ⟨same_mut (s.trans e) w, w, as ++ [p], by rw [upd_same]; simp, by simp [h2], ?_, ?_, ?_, fun i z hz => ?_⟩⟩
  · rw [List.nodup_append]
    refine ⟨h3, by simp, fun a ha b hb => ?_⟩
    rw [List.mem_singleton] at hb
    subst hb
    intro z
    subst z
    exact (h5 a ha).2 hp
  · intro hm
    rcases List.mem_append.mp hm with h | h
    · exact h4 h
    · exact pD (List.mem_singleton.mp h).symm
  · intro a ha
    rcases List.mem_append.mp ha with h | h
    · refine ⟨(h5 a h).1, ?_⟩
      rw [upd_ne (fun z => h4 (by rw [← z]; exact h))]
      intro z
      cases e2 : H2 a with
      | none => exact (h5 a h).2 e2
      | some o => rw [e _ _ e2] at z; cases z
    · have := List.mem_singleton.mp h
      subst this
      exact ⟨s.free hp, by rw [upd_ne pD]; exact hp3⟩
  · rw [hide_upd]
    by_cases hi : i < as.length
    · rw [List.getElem?_append_left hi] at hz
      exact up _ _ _ _ (hide_up e) (h6 i z hz)
    · have hl := get_lt hz
      rw [List.length_append, List.length_singleton] at hl
      have hi' : i = n := by omega
      subst hi'
      rw [List.getElem?_append_right (by omega), h2, Nat.sub_self] at hz
      have := Option.some.inj hz
      subst this
      exact hy
theorem z_mapN {σ : L2.St} {H : Hp} {Q : VK} {K : PySem.W.Frag} {te : TE} {g : TG} {vs : List Nat} {p : Addr} {xs : List V} (hp : H p = some (.lst xs)) (hn : xs.length < 1000000) (Φ : Nat → Addr → Hp → Prop) (up : ∀ i a H H', Same H H' → Φ i a H → Φ i a H')
    (hs : ∀ D i x H2 ys, xs[i]? = some x → Same H H2 → H2 D = some (.lst ys) → H D = none → ∀ R : VK, (∀ a H4, Same H2 H4 → H2 a = none → H4 a ≠ none → Φ i a (hide D H4) → R (.ref a) H4) →
      g x (wipe σ vs) H2 fun σ2 H3 => wipe σ2 vs = wipe σ vs ∧ te σ2 H3 R)
    (hd : ∀ (D : Addr) (H2 : Hp) (as : List Addr), Same H H2 → H D = none → H2 D = some (.lst (as.map V.ref)) → as.length = xs.length → as.Nodup → D ∉ as → (∀ a ∈ as, H a = none) → (∀ i a, as[i]? = some a → Φ i a (hide D H2)) → Q (.ref D) H2) :
    (∃ xs, SqL K H p xs) ∧ LcK g tYes te vs σ Q (Itl K p) H := by
  refine ⟨⟨xs, SqL.of hp⟩, fun D nD => ?_⟩
  refine lc_list (K := K) (a := p) (xs := xs) (fun i H' => MadeN H D i Φ H') ⟨same_upd nD, nD, [], upd_same, rfl, List.nodup_nil, by simp, by simp, fun i y e => by simp at e⟩ (fun i H' _ m => SqL.of (m.same _ _ hp)) (fun i x H' hx m => ?_) (fun H' m => ?_)
  · obtain ⟨as, h1, h2, h3⟩ := m.lst
    have hi := get_lt hx
    exact hs D i x H' _ hx m.same h1 m.new _ fun a H4 e ha ha4 hy => m.more up e ha ha4 hy (by omega)
  · obtain ⟨as, h1, h2, h3, h4, h5, h6⟩ := m.lst
    exact hd D H' as m.same m.new h1 h2 h3 h4 (fun a ha => (h5 a ha).1) h6
/-- the new list's rows, as a table of one's own -/
theorem grid_of {α : Type} {cell : Hp → V → α → Prop} (hc : CellUp cell) {H H2 : Hp} {D : Addr} {as : List Addr} {m n : Nat} {M : Nat → Nat → α} (s : Same H H2) (nD : H D = none) (hD : H2 D = some (.lst (as.map V.ref))) (hl : as.length = m) (nd : as.Nodup) (np : D ∉ as) (na : ∀ a ∈ as, H a = none)
    (h : ∀ i a, as[i]? = some a → Rw cell (hide D H2) a n (M i)) : Grid cell H H2 D as m n M :=
  ⟨s, nD, hD, hl, nd, np, na, fun i a ha => (h i a ha).up hc hide_same⟩
end Smo

set_option Elab.async false
set_option linter.all false
set_option maxRecDepth 100000
set_option maxHeartbeats 4000000
namespace Smo
open PySem PySem.Spec PyProof.Rows L2
local macro_rules | `(tactic| walk_at "zz") => `(tactic| ((try dsimp only); repeat (first | refine ZS.go ?_ | refine And.intro (rfl : wipe _ _ = wipe _ _) ?_)))
theorem all_trues {ys : List V} {n : Nat} (hl : ys.length = n) (h : ∀ (i : Nat) (y : V), ys[i]? = some y → y = V.bl true) : ys = (List.replicate n true).map V.bl := by
  apply List.ext_getElem?
  intro i
  rw [List.getElem?_map, List.getElem?_replicate]
  by_cases hi : i < n
  · obtain ⟨x, hx⟩ := get_of_lt (l := ys) (i := i) (by omega)
    rw [if_pos hi, hx, h i x hx]; rfl
  · rw [if_neg hi, List.getElem?_eq_none (by omega)]; rfl
theorem all_rep (n : Nat) : (List.replicate n true).all id = true := by
  rw [List.all_eq_true]
  intro x hx
  exact (List.mem_replicate.mp hx).2
def sp_is_row_of : Sp := fun vs H Q _ => ∃ (a : Addr) (n : Nat) (r : Nat → Int), vs = [.ref a, .int n] ∧ Rw Fz H a n r ∧ n ≤ 1000 ∧ ∀ H', Same H H' → Q (.bl true) H'
abbrev N_is_row_of : List Str := ["thing", "many", "number"]
theorem sc_is_row_of : FnScope N_is_row_of ["thing", "many"] (defScope (topS 18)) := ⟨rfl, rfl, rfl, by decide +kernel, rfl, by decide +kernel, by decide +kernel⟩
/-- is_row_of: 0 thing, 1 many, 2 number -/
theorem ok_is_row_of {P : Program} {w : World} {K : PySem.W.Frag} {mg : Str → Option Value} {base : Heap} (W : Wd K mg) (h_is_fraction : Has P w K mg base "is_fraction" 2 ["thing"] sp_is_fraction) : Has P w K mg base "is_row_of" 3 ["thing", "many"] sp_is_row_of := by
  have f_all : mg "all" = none := W.free 49 "all" rfl
  have f_isinstance : mg "isinstance" = none := W.free 53 "isinstance" rfl
  have f_len : mg "len" = none := W.free 54 "len" rfl
  have f_list : mg "list" = none := W.free 55 "list" rfl
  refine has_of W 7 18 rfl rfl sc_is_row_of (fun _ _ _ _ _ _ us hl => match us, hl with | [_, _], _ => rfl) (fun vs H Q E h => ?_) (fun f cdv A outer s H vs Q E hr h => ?_)
  · obtain ⟨a, n, r, rfl, ⟨xs, h1, h2, h3⟩, hn, q⟩ := h; rfl
  · obtain ⟨a, n, r, rfl, ⟨xs, h1, h2, h3⟩, hn, q⟩ := h
    have nd := sc_is_row_of.nd
    refine ⟨_, (pss_one (ps_ret (pe_and (pe_callB (call_isK1 (K := K)) (by rfl) f_isinstance (by decide +kernel) (pa_cons (pv 0) (pa_cons (pe_bltn (v := .ty "list") (by rfl) f_list (by decide +kernel) rfl) pa_nil))) (pe_and (pe_cmpR op_eq (pe_callB (call_lenK (K := K)) (by rfl) f_len PySem.boot_len (pa_cons (pv 0) pa_nil)) (pv 1) (nomark _)) (pe_one (pe_callB (cr_allK (K := K) rfl) (by rfl) f_all (by decide +kernel) (pa_cons (pe_lc (own := [("number", 2)]) (g := gName 2) (tt := tYes) rfl nd (pi_listK (K := K) (pv 0)) (blkOk_by (N := N_is_row_of) (sc := (defScope (topS 18))) (by decide +kernel)) (fun _ _ _ _ _ => (pg_name (i := 2) nd rfl (by first | exact Or.inl rfl | exact Or.inr rfl))) (fun _ _ _ _ _ => pts_nil) (fun _ _ _ _ _ => (pe_has h_is_fraction (hr.mono (by decide)) (pa_cons (pv 2) pa_nil)))) pa_nil))))))), ?_⟩
    refine z_start (σ' := [some _, some _, none]) (by rfl) ?_
    walk_at "zz"
    refine isi_ty (a := "list") (b := "list") (.base (.lst h1)) (r := true) (by decide +kernel) ?_
    walk_at "zz"
    refine z_len (h1) ?_
    walk_at "zz"
    refine z_itT (by simp [h2]) ?_
    walk_at "zz"
    refine z_mapL h1 (by omega) (fun _ v _ => v = .bl true) (fun _ _ _ _ _ h => h) (fun D i x H2 ys hx s hD nD R hR => ?_) (fun D H2 ys s nD hD hl hy => ?_)
    · walk_at "zz"
      exact ⟨x, r i, rfl, (h3 i x hx).up s, hR _ _ (Same.refl _) rfl⟩
    · walk_at "zz"
      have e := all_trues (hl.trans h2) hy
      refine ⟨D, List.replicate n true, rfl, SqL.of (by rw [hD, e]), ?_⟩
      rw [all_rep]
      exact q _ s
def sp_is_table : Sp := fun vs H Q _ => ∃ (p : Addr) (m n : Nat) (A : Nat → Nat → Int), vs = [.ref p] ∧ Mt Fz H p m n A ∧ 1 ≤ m ∧ m ≤ 7 ∧ 1 ≤ n ∧ n ≤ 7 ∧ ∀ H', Same H H' → Q (.bl true) H'
abbrev N_is_table : List Str := ["thing", "many", "row"]
theorem sc_is_table : FnScope N_is_table ["thing"] (defScope (topS 19)) := ⟨rfl, rfl, rfl, by decide +kernel, rfl, by decide +kernel, by decide +kernel⟩
/-- is_table: 0 thing, 1 many, 2 row -/
theorem ok_is_table {P : Program} {w : World} {K : PySem.W.Frag} {mg : Str → Option Value} {base : Heap} (W : Wd K mg) (h_is_row_of : Has P w K mg base "is_row_of" 3 ["thing", "many"] sp_is_row_of) : Has P w K mg base "is_table" 4 ["thing"] sp_is_table := by
  have f_all : mg "all" = none := W.free 49 "all" rfl
  have f_isinstance : mg "isinstance" = none := W.free 53 "isinstance" rfl
  have f_len : mg "len" = none := W.free 54 "len" rfl
  have f_list : mg "list" = none := W.free 55 "list" rfl
  obtain ⟨_, hmost⟩ := W.most
  refine has_of W 8 19 rfl rfl sc_is_table (fun _ _ _ _ _ _ us hl => match us, hl with | [_], _ => rfl) (fun vs H Q E h => ?_) (fun f cdv A outer s H vs Q E hr h => ?_)
  · obtain ⟨p, m, n, A, rfl, ⟨as, h1, h2, h3⟩, m1, m7, n1, n7, q⟩ := h; rfl
  · obtain ⟨p, m, n, A, rfl, ⟨as, h1, h2, h3⟩, m1, m7, n1, n7, q⟩ := h
    have nd := sc_is_table.nd
    refine ⟨_, (pss_cons (ps_if (PW.pt (pw_or (pt_not (pt_val (pe_callB (call_isK1 (K := K)) (by rfl) f_isinstance (by decide +kernel) (pa_cons (pv 0) (pa_cons (pe_bltn (v := .ty "list") (by rfl) f_list (by decide +kernel) rfl) pa_nil))))) (pw_or (pt_not (pt_chain op_le op_le pe_int (pe_callB (call_lenK (K := K)) (by rfl) f_len PySem.boot_len (pa_cons (pv 0) pa_nil)) (pe_glob (v := .int 7) (by rfl) hmost ⟨_, rfl⟩))) (pw_or1 (pt_not (pt_val (pe_callB (call_isK1 (K := K)) (by rfl) f_isinstance (by decide +kernel) (pa_cons (pe_ix (ix_listK (K := K)) (pv 0) pe_int (fun _ _ => rfl)) (pa_cons (pe_bltn (v := .ty "list") (by rfl) f_list (by decide +kernel) rfl) pa_nil))))))))) (pss_one (ps_ret pe_bl)) pss_nil)
      (pss_cons (ps_set (i := 1) nd rfl (by first | exact Or.inl rfl | exact Or.inr rfl) (pe_callB (call_lenK (K := K)) (by rfl) f_len PySem.boot_len (pa_cons (pe_ix (ix_listK (K := K)) (pv 0) pe_int (fun _ _ => rfl)) pa_nil)))
      (pss_one (ps_ret (pe_and (pe_chain op_le op_le pe_int (pv 1) (pe_glob (v := .int 7) (by rfl) hmost ⟨_, rfl⟩)) (pe_one (pe_callB (cr_allK (K := K) rfl) (by rfl) f_all (by decide +kernel) (pa_cons (pe_lc (own := [("row", 2)]) (g := gName 2) (tt := tYes) rfl nd (pi_listK (K := K) (pv 0)) (blkOk_by (N := N_is_table) (sc := (defScope (topS 19))) (by decide +kernel)) (fun _ _ _ _ _ => (pg_name (i := 2) nd rfl (by first | exact Or.inl rfl | exact Or.inr rfl))) (fun _ _ _ _ _ => pts_nil) (fun _ _ _ _ _ => (pe_has h_is_row_of (hr.mono (by decide)) (pa_cons (pv 2) (pa_cons (pv 1) pa_nil))))) pa_nil)))))))), ?_⟩
    refine z_start (σ' := [some _, none, none]) (by rfl) ?_
    obtain ⟨a0, ha0⟩ := get_of_lt (l := as) (i := 0) (by omega)
    obtain ⟨v0, g1, g2, g3⟩ := h3 0 a0 ha0
    walk_at "zz"
    refine isi_ty (a := "list") (b := "list") (.base (.lst h1)) (r := true) (by decide +kernel) ?_
    walk_at "zz"
    refine z_len (h1) ?_
    walk_at "zz"
    refine z_itT (by simp; omega) ?_
    walk_at "zz"
    have e1 : decide (((as.map V.ref).length : Int) ≤ 7) = true := by simp; omega
    rw [e1]
    walk_at "zz"
    refine z_ixL h1 (atI_nat (j := 0) (ref_at ha0)) ?_
    walk_at "zz"
    refine isi_ty (a := "list") (b := "list") (.base (.lst g1)) (r := true) (by decide +kernel) ?_
    walk_at "zz"
    refine z_ixL h1 (atI_nat (j := 0) (ref_at ha0)) ?_
    walk_at "zz"
    refine z_len (g1) ?_
    walk_at "zz"
    refine z_itT (by omega) ?_
    walk_at "zz"
    refine z_itT (by omega) ?_
    walk_at "zz"
    refine z_mapL h1 (by simp; omega) (fun _ v _ => v = .bl true) (fun _ _ _ _ _ h => h) (fun D i x H2 ys hx s hD nD R hR => ?_) (fun D H2 ys s nD hD hl hy => ?_)
    · obtain ⟨a, ha, rfl⟩ := ref_of hx
      walk_at "zz"
      refine ⟨a, n, A i, by rw [g2]; rfl, (h3 i a ha).up Fz.ups s, by omega, fun H' s' => hR _ _ s' rfl⟩
    · walk_at "zz"
      have e := all_trues (n := m) (hl.trans (by simp [h2])) hy
      refine ⟨D, List.replicate m true, rfl, SqL.of (by rw [hD, e]), ?_⟩
      rw [all_rep]
      exact q _ s
def sp_look_table : Sp := fun vs H Q _ => ∃ (p : Addr) (m n : Nat) (A : Nat → Nat → Int), vs = [.ref p] ∧ Mt Fz H p m n A ∧ 1 ≤ m ∧ m ≤ 7 ∧ 1 ≤ n ∧ n ≤ 7 ∧ ∀ H', Same H H' → Q .non H'
abbrev N_look_table : List Str := ["thing"]
theorem sc_look_table : FnScope N_look_table ["thing"] (defScope (topS 20)) := ⟨rfl, rfl, rfl, by decide +kernel, rfl, by decide +kernel, by decide +kernel⟩
/-- look_table: 0 thing -/
theorem ok_look_table {P : Program} {w : World} {K : PySem.W.Frag} {mg : Str → Option Value} {base : Heap} (W : Wd K mg) (h_is_table : Has P w K mg base "is_table" 4 ["thing"] sp_is_table) : Has P w K mg base "look_table" 5 ["thing"] sp_look_table := by
  refine has_of W 9 20 rfl rfl sc_look_table (fun _ _ _ _ _ _ us hl => match us, hl with | [_], _ => rfl) (fun vs H Q E h => ?_) (fun f cdv A outer s H vs Q E hr h => ?_)
  · obtain ⟨p, m, n, A, rfl, h, m1, m7, n1, n7, q⟩ := h; rfl
  · obtain ⟨p, m, n, A, rfl, h, m1, m7, n1, n7, q⟩ := h
    have nd := sc_look_table.nd
    refine ⟨_, (pss_one (ps_if (pt_not (pt_val (pe_has h_is_table (hr.mono (by decide)) (pa_cons (pv 0) pa_nil)))) (pss_one ps_never) pss_nil)), ?_⟩
    refine z_start (σ' := [some _]) (by rfl) ?_
    walk_at "zz"
    refine ⟨p, m, n, A, rfl, h, m1, m7, n1, n7, fun H' s => ?_⟩
    walk_at "zz"
    exact q _ s
/-- a choice: rising numbers below m -/
structure Cho (ns : List Nat) (m : Nat) : Prop where
  ne : ns ≠ []
  up : ns.Pairwise (· < ·)
  lt : ∀ x ∈ ns, x < m
theorem Cho.len {ns : List Nat} {m : Nat} (c : Cho ns m) : ns.length ≤ m := by
  have key : ∀ (l : List Nat) (a : Nat), a ≤ m → l.Pairwise (· < ·) → (∀ x ∈ l, a ≤ x ∧ x < m) → a + l.length ≤ m := by
    intro l
    induction l with
    | nil => intro a h _ _; simpa using h
    | cons b l ih =>
      intro a h hp hl
      obtain ⟨h1, h2⟩ := List.pairwise_cons.mp hp
      have hb := hl b List.mem_cons_self
      have := ih (b + 1) (by omega) h2 fun x hx => ⟨h1 x hx, (hl x (List.mem_cons_of_mem _ hx)).2⟩
      simp only [List.length_cons]
      omega
  have := key ns 0 (Nat.zero_le _) c.up fun x hx => ⟨Nat.zero_le _, c.lt x hx⟩
  omega
def natV (ns : List Nat) : List V := ns.map fun (k : Nat) => V.int (k : Int)
def sp_is_choice : Sp := fun vs H Q _ => ∃ (a : Addr) (ns : List Nat) (m : Nat), vs = [.ref a, .int m] ∧ H a = some (.lst (natV ns)) ∧ Cho ns m ∧ Q (.bl true) H
abbrev N_is_choice : List Str := ["thing", "many", "last", "number"]
theorem sc_is_choice : FnScope N_is_choice ["thing", "many"] (defScope (topS 21)) := ⟨rfl, rfl, rfl, by decide +kernel, rfl, by decide +kernel, by decide +kernel⟩
/-- is_choice: 0 thing, 1 many, 2 last, 3 number -/
theorem ok_is_choice {P : Program} {w : World} {K : PySem.W.Frag} {mg : Str → Option Value} {base : Heap} (W : Wd K mg) (h_is_whole : Has P w K mg base "is_whole" 1 ["thing"] sp_is_whole) : Has P w K mg base "is_choice" 2 ["thing", "many"] sp_is_choice := by
  have f_isinstance : mg "isinstance" = none := W.free 53 "isinstance" rfl
  have f_len : mg "len" = none := W.free 54 "len" rfl
  have f_list : mg "list" = none := W.free 55 "list" rfl
  refine has_of W 10 21 rfl rfl sc_is_choice (fun _ _ _ _ _ _ us hl => match us, hl with | [_, _], _ => rfl) (fun vs H Q E h => ?_) (fun f cdv A outer s H vs Q E hr h => ?_)
  · obtain ⟨a, ns, m, rfl, h1, c, q⟩ := h; rfl
  · obtain ⟨a, ns, m, rfl, h1, c, q⟩ := h
    have nd := sc_is_choice.nd
    refine ⟨_, (pss_cons (ps_if (PW.pt (pw_or (pt_not (pt_val (pe_callB (call_isK1 (K := K)) (by rfl) f_isinstance (by decide +kernel) (pa_cons (pv 0) (pa_cons (pe_bltn (v := .ty "list") (by rfl) f_list (by decide +kernel) rfl) pa_nil))))) (pw_or1 (pt_cmpR op_eq (pe_callB (call_lenK (K := K)) (by rfl) f_len PySem.boot_len (pa_cons (pv 0) pa_nil)) pe_int (nomark _))))) (pss_one (ps_ret pe_bl)) pss_nil)
      (pss_cons (ps_set (i := 2) nd rfl (by first | exact Or.inl rfl | exact Or.inr rfl) (pe_un un_neg pe_int))
      (pss_cons (ps_for PassesOwn.never rfl (pi_listK (K := K) (pv 0)) (pg_name (i := 3) nd rfl (by first | exact Or.inl rfl | exact Or.inr rfl)) (pss_cons (ps_if (PW.pt (pw_or (pt_not (pt_val (pe_has h_is_whole (hr.mono (by decide)) (pa_cons (pv 3) pa_nil)))) (pw_or (pt_cmpR op_le (pv 3) (pv 2) (nomark _)) (pw_or1 (pt_cmpR op_ge (pv 3) (pv 1) (nomark _)))))) (pss_one (ps_ret pe_bl)) pss_nil)
      (pss_one (ps_set (i := 2) nd rfl (by first | exact Or.inl rfl | exact Or.inr rfl) (pv 3)))))
      (pss_one (ps_ret pe_bl))))), ?_⟩
    refine z_start (σ' := [some _, some _, none, none]) (by rfl) ?_
    have hpos : 0 < ns.length := List.length_pos_iff.mpr c.ne
    walk_at "zz"
    refine isi_ty (a := "list") (b := "list") (.base (.lst h1)) (r := true) (by decide +kernel) ?_
    walk_at "zz"
    refine z_len (h1) ?_
    walk_at "zz"
    refine z_itF (by simp [natV]; exact c.ne) ?_
    walk_at "zz"
    refine z_forL h1 (fun i σ H' => ∃ (y : Option V) (l : Int), σ = [some (.ref a), some (.int m), some (.int l), y] ∧ H' = H ∧ (∀ z, ns[i]? = some z → l < z))
      ⟨none, -1, rfl, rfl, fun z _ => by omega⟩ (fun i σ H' hP => ?_) (fun i x σ H' hx hP => ?_) (fun σ H' hP => ?_)
    · obtain ⟨y, l, rfl, rfl, h⟩ := hP
      exact h1
    · obtain ⟨y, l, rfl, rfl, h⟩ := hP
      obtain ⟨z, hz, rfl⟩ : ∃ z, ns[i]? = some z ∧ x = .int z := by
        rw [natV, List.getElem?_map] at hx
        cases e : ns[i]? with
        | none => rw [e] at hx; cases hx
        | some z => rw [e] at hx; exact ⟨z, rfl, (Option.some.inj hx).symm⟩
      have hl := h z hz
      have hm := c.lt z (List.mem_of_getElem? hz)
      walk_at "zz"
      refine ⟨z, rfl, ?_⟩
      walk_at "zz"
      refine z_itF (by omega) ?_
      walk_at "zz"
      refine z_itF (by omega) ?_
      walk_at "zz"
      refine ⟨some (.int z), z, rfl, rfl, fun z' hz' => ?_⟩
      have := List.pairwise_iff_getElem.mp c.up i (i + 1) (get_lt hz) (get_lt hz') (by omega)
      obtain ⟨_, e1⟩ := List.getElem?_eq_some_iff.mp hz
      obtain ⟨_, e2⟩ := List.getElem?_eq_some_iff.mp hz'
      omega
    · obtain ⟨y, l, rfl, rfl, h⟩ := hP
      walk_at "zz"
      exact q
def sp_look_choice : Sp := fun vs H Q _ => ∃ (a : Addr) (ns : List Nat) (m : Nat), vs = [.ref a, .int m] ∧ H a = some (.lst (natV ns)) ∧ Cho ns m ∧ Q .non H
abbrev N_look_choice : List Str := ["thing", "many"]
theorem sc_look_choice : FnScope N_look_choice ["thing", "many"] (defScope (topS 22)) := ⟨rfl, rfl, rfl, by decide +kernel, rfl, by decide +kernel, by decide +kernel⟩
/-- look_choice: 0 thing, 1 many -/
theorem ok_look_choice {P : Program} {w : World} {K : PySem.W.Frag} {mg : Str → Option Value} {base : Heap} (W : Wd K mg) (h_is_choice : Has P w K mg base "is_choice" 2 ["thing", "many"] sp_is_choice) : Has P w K mg base "look_choice" 3 ["thing", "many"] sp_look_choice := by
  refine has_of W 11 22 rfl rfl sc_look_choice (fun _ _ _ _ _ _ us hl => match us, hl with | [_, _], _ => rfl) (fun vs H Q E h => ?_) (fun f cdv A outer s H vs Q E hr h => ?_)
  · obtain ⟨a, ns, m, rfl, h1, c, q⟩ := h; rfl
  · obtain ⟨a, ns, m, rfl, h1, c, q⟩ := h
    have nd := sc_look_choice.nd
    refine ⟨_, (pss_one (ps_if (pt_not (pt_val (pe_has h_is_choice (hr.mono (by decide)) (pa_cons (pv 0) (pa_cons (pv 1) pa_nil))))) (pss_one ps_never) pss_nil)), ?_⟩
    refine z_start (σ' := [some _, some _]) (by rfl) ?_
    walk_at "zz"
    refine ⟨a, ns, m, rfl, h1, c, ?_⟩
    walk_at "zz"
    exact q
def sp_part_of : Sp := fun vs H Q _ => ∃ (p a b : Addr) (m n : Nat) (A : Nat → Nat → Int) (I J : List Nat), vs = [.ref p, .ref a, .ref b] ∧ Mt Fz H p m n A ∧ 1 ≤ m ∧ m ≤ 7 ∧ 1 ≤ n ∧ n ≤ 7 ∧ H a = some (.lst (natV I)) ∧ H b = some (.lst (natV J)) ∧ Cho I m ∧ Cho J n ∧
  ∀ p' H', Same H H' → Mt Fz H' p' I.length J.length (fun i j => A (I.getD i 0) (J.getD j 0)) → Q (.ref p') H'
theorem nats_at {ns : List Nat} {i : Nat} {x : V} (h : (natV ns)[i]? = some x) : ∃ z, ns[i]? = some z ∧ x = .int (z : Int) := by
  rw [natV, List.getElem?_map] at h
  cases e : ns[i]? with
  | none => rw [e] at h; cases h
  | some z => rw [e] at h; exact ⟨z, rfl, (Option.some.inj h).symm⟩
theorem getD_of {ns : List Nat} {i z : Nat} (h : ns[i]? = some z) : ns.getD i 0 = z := by
  rw [List.getD_eq_getElem?_getD, h]; rfl
/-- the rows of a table made by a comprehension -/
theorem refs_of {ys : List V} {Φ : Nat → Addr → Prop} (h : ∀ (i : Nat) (y : V), ys[i]? = some y → ∃ a, y = .ref a ∧ Φ i a) : ∃ as : List Addr, ys = as.map V.ref ∧ ∀ i a, as[i]? = some a → Φ i a := by
  induction ys generalizing Φ with
  | nil => exact ⟨[], rfl, fun i a h => by simp at h⟩
  | cons y ys ih =>
    obtain ⟨a, rfl, ha⟩ := h 0 y rfl
    obtain ⟨as, rfl, hs⟩ := ih (Φ := fun i => Φ (i + 1)) fun i y hy => h (i + 1) y (by simpa using hy)
    refine ⟨a :: as, rfl, fun i b hb => ?_⟩
    cases i with
    | zero => have := Option.some.inj hb; subst this; exact ha
    | succ i => exact hs i b (by simpa using hb)
abbrev N_part_of : List Str := ["table", "rows", "columns", "i", "j"]
theorem sc_part_of : FnScope N_part_of ["table", "rows", "columns"] (defScope (topS 23)) := ⟨rfl, rfl, rfl, by decide +kernel, rfl, by decide +kernel, by decide +kernel⟩
/-- part_of: 0 table, 1 rows, 2 columns, 3 i, 4 j -/
theorem ok_part_of {P : Program} {w : World} {K : PySem.W.Frag} {mg : Str → Option Value} {base : Heap} (W : Wd K mg) (h_look_table : Has P w K mg base "look_table" 5 ["thing"] sp_look_table) (h_look_choice : Has P w K mg base "look_choice" 3 ["thing", "many"] sp_look_choice) : Has P w K mg base "part_of" 6 ["table", "rows", "columns"] sp_part_of := by
  have f_len : mg "len" = none := W.free 54 "len" rfl
  refine has_of W 12 23 rfl rfl sc_part_of (fun _ _ _ _ _ _ us hl => match us, hl with | [_, _, _], _ => rfl) (fun vs H Q E h => ?_) (fun f cdv A outer s H vs Q E hr h => ?_)
  · obtain ⟨p, a, b, m, n, A, I, J, rfl, hT, m1, m7, n1, n7, hI, hJ, cI, cJ, q⟩ := h; rfl
  · obtain ⟨p, a, b, m, n, A, I, J, rfl, hT, m1, m7, n1, n7, hI, hJ, cI, cJ, q⟩ := h
    have nd := sc_part_of.nd
    refine ⟨_, (pss_cons (ps_expr (pe_has h_look_table (hr.mono (by decide)) (pa_cons (pv 0) pa_nil)))
      (pss_cons (ps_expr (pe_has h_look_choice (hr.mono (by decide)) (pa_cons (pv 1) (pa_cons (pe_callB (call_lenK (K := K)) (by rfl) f_len PySem.boot_len (pa_cons (pv 0) pa_nil)) pa_nil))))
      (pss_cons (ps_expr (pe_has h_look_choice (hr.mono (by decide)) (pa_cons (pv 2) (pa_cons (pe_callB (call_lenK (K := K)) (by rfl) f_len PySem.boot_len (pa_cons (pe_ix (ix_listK (K := K)) (pv 0) pe_int (fun _ _ => rfl)) pa_nil)) pa_nil))))
      (pss_one (ps_ret (pe_lc (own := [("i", 3)]) (g := gName 3) (tt := tYes) rfl nd (pi_listK (K := K) (pv 1)) (blkOk_by (N := N_part_of) (sc := (defScope (topS 23))) (by decide +kernel)) (fun _ _ _ _ _ => (pg_name (i := 3) nd rfl (by first | exact Or.inl rfl | exact Or.inr rfl))) (fun _ _ _ _ _ => pts_nil) (fun _ _ _ _ _ => (pe_lc (own := [("j", 4)]) (g := gName 4) (tt := tYes) rfl nd (pi_listK (K := K) (pv 2)) (blkOk_by (N := N_part_of) (sc := (relS (rtScope (defBody (topS 23))) (defScope (topS 23)))) (by decide +kernel)) (fun _ _ _ _ _ => (pg_name (i := 4) nd rfl (by first | exact Or.inl rfl | exact Or.inr rfl))) (fun _ _ _ _ _ => pts_nil) (fun _ _ _ _ _ => (pe_ix (ix_listK (K := K)) (pe_ix (ix_listK (K := K)) (pv 0) (pv 3) (fun _ _ => rfl)) (pv 4) (fun _ _ => rfl))))))))))), ?_⟩
    refine z_start (σ' := [some _, some _, some _, none, none]) (by rfl) ?_
    obtain ⟨as, h1, h2, h3⟩ := id hT
    obtain ⟨a0, ha0⟩ := get_of_lt (l := as) (i := 0) (by omega)
    obtain ⟨v0, g1, g2, g3⟩ := h3 0 a0 ha0
    walk_at "zz"
    refine ⟨p, m, n, A, rfl, hT, m1, m7, n1, n7, fun H' s => ?_⟩
    walk_at "zz"
    refine z_len ((s _ _ h1)) ?_
    walk_at "zz"
    refine ⟨a, I, m, by simp [h2], s _ _ hI, cI, ?_⟩
    walk_at "zz"
    refine z_ixL (s _ _ h1) (atI_nat (j := 0) (ref_at ha0)) ?_
    walk_at "zz"
    refine z_len ((s _ _ g1)) ?_
    walk_at "zz"
    refine ⟨b, J, n, by rw [g2]; rfl, s _ _ hJ, cJ, ?_⟩
    walk_at "zz"
    have lI := cI.len
    have lJ := cJ.len
    refine z_mapL (s _ _ hI) (by simp [natV]; omega) (fun i v H4 => ∃ a, v = .ref a ∧ Rw Fz H4 a J.length fun j => A (I.getD i 0) (J.getD j 0)) (fun i v H H' e ⟨a, h, r⟩ => ⟨a, h, r.up Fz.ups e⟩)
      (fun D i x H2 ys hx s2 hD nD R hR => ?_) (fun D H2 ys s2 nD hD hl hy => ?_)
    · obtain ⟨zi, hzi, rfl⟩ := nats_at hx
      have hi := cI.lt zi (List.mem_of_getElem? hzi)
      obtain ⟨ai, hai⟩ := get_of_lt (l := as) (i := zi) (by omega)
      obtain ⟨vi, k1, k2, k3⟩ := h3 zi ai hai
      have s3 := s.trans s2
      walk_at "zz"
      refine z_mapL (s3 _ _ hJ) (by simp [natV]; omega) (fun j v H4 => Fz H4 v (A zi (J.getD j 0))) (fun i v H H' e h => h.up e)
        (fun D2 j y H3 ys2 hy s4 hD2 nD2 R2 hR2 => ?_) (fun D2 H3 ys2 s4 nD2 hD2 hl2 hy2 => ?_)
      · obtain ⟨zj, hzj, rfl⟩ := nats_at hy
        have hj := cJ.lt zj (List.mem_of_getElem? hzj)
        obtain ⟨v, hv⟩ := get_of_lt (l := vi) (i := zj) (by omega)
        have s5 := s3.trans s4
        walk_at "zz"
        refine z_ixL (s5 _ _ h1) (atI_nat (j := zi) (ref_at hai)) ?_
        walk_at "zz"
        refine z_ixL (s5 _ _ k1) (atI_nat (j := zj) hv) ?_
        refine hR2 v H3 (Same.refl _) ?_
        rw [getD_of hzj]
        exact ((k3 zj v hv).up s5).hid hD2
      · refine hR _ H3 s4 ⟨D2, rfl, Rw.hid (fun v x hv => hv.hid (s4 _ _ hD)) (fun e => by rw [e, hD] at nD2; cases nD2) ?_⟩
        refine ⟨ys2, hD2, by rw [hl2]; simp [natV], fun c v hv => ?_⟩
        rw [getD_of hzi]
        exact (hy2 c v hv).up hide_same
    · obtain ⟨bs, rfl, hb⟩ := refs_of hy
      refine q D H2 (s.trans s2) ⟨bs, hD, by simpa [natV] using hl, fun i a ha => ?_⟩
      exact (hb i a ha).up Fz.ups hide_same
end Smo

/-! Determinants by lists: rows from the last to the first, columns from the last to the first. -/
namespace Smo
section
variable {R : Type} [Lean.Grind.CommRing R]
/-- one row expanded over a list of columns; F tells what stands for the rest -/
def ex (r : Nat → R) : (List Nat → R) → List Nat → R
  | _, [] => 0
  | F, c :: cs => r c * F cs - ex r (fun L => F (c :: L)) cs
/-- the determinant of the rows rs in the columns J -/
def det : List (Nat → R) → List Nat → R
  | [] => fun J => if J = [] then 1 else 0
  | r :: rs => ex r (det rs)
theorem ex_congr {r r' : Nat → R} : ∀ {J : List Nat} {F F' : List Nat → R}, (∀ c ∈ J, r c = r' c) → (∀ L, (∀ c ∈ L, c ∈ J) → F L = F' L) → ex r F J = ex r' F' J
  | [], _, _, _, _ => rfl
  | c :: cs, F, F', h1, h2 => by
    unfold ex
    rw [h1 c List.mem_cons_self, h2 cs (fun x hx => List.mem_cons_of_mem _ hx)]
    rw [ex_congr (J := cs) (F := fun L => F (c :: L)) (F' := fun L => F' (c :: L)) (fun x hx => h1 x (List.mem_cons_of_mem _ hx))
      (fun L hL => h2 (c :: L) (fun x hx => by
        rcases List.mem_cons.mp hx with e | e
        · rw [e]; exact List.mem_cons_self
        · exact List.mem_cons_of_mem _ (hL x e)))]
theorem ex_lin {r : Nat → R} {a b : R} : ∀ {J : List Nat} {F G : List Nat → R}, ex r (fun L => a * F L + b * G L) J = a * ex r F J + b * ex r G J
  | [], _, _ => by unfold ex; grind
  | c :: cs, F, G => by
    unfold ex
    have := ex_lin (r := r) (a := a) (b := b) (J := cs) (F := fun L => F (c :: L)) (G := fun L => G (c :: L))
    grind
theorem ex_sub {r : Nat → R} {J : List Nat} {F G : List Nat → R} : ex r (fun L => F L - G L) J = ex r F J - ex r G J := by
  have := ex_lin (r := r) (a := 1) (b := -1) (J := J) (F := F) (G := G)
  have e : (fun L => F L - G L) = (fun L => 1 * F L + -1 * G L) := by funext L; grind
  rw [e, this]; grind
theorem ex_smul {r : Nat → R} {a : R} {J : List Nat} {F : List Nat → R} : ex r (fun L => a * F L) J = a * ex r F J := by
  have := ex_lin (r := r) (a := a) (b := 0) (J := J) (F := F) (G := F)
  have e : (fun L => a * F L) = (fun L => a * F L + 0 * F L) := by funext L; grind
  rw [e, this]; grind
theorem ex_neg {r : Nat → R} {J : List Nat} {F : List Nat → R} : ex r (fun L => - F L) J = - ex r F J := by
  have := ex_smul (r := r) (a := -1) (J := J) (F := F)
  have e : (fun L => - F L) = (fun L => -1 * F L) := by funext L; grind
  rw [e, this]; grind
theorem ex_zero {r : Nat → R} {J : List Nat} {F : List Nat → R} (h : ∀ L, (∀ c ∈ L, c ∈ J) → F L = 0) : ex r F J = 0 := by
  rw [ex_congr (r' := r) (F' := fun L => 0 * F L) (fun _ _ => rfl) (fun L hL => by rw [h L hL]; grind), ex_smul]; grind
/-- linear in the row -/
theorem ex_row {r s : Nat → R} {a b : R} : ∀ {J : List Nat} {F : List Nat → R}, ex (fun c => a * r c + b * s c) F J = a * ex r F J + b * ex s F J
  | [], _ => by unfold ex; grind
  | c :: cs, F => by
    unfold ex
    have := ex_row (r := r) (s := s) (a := a) (b := b) (J := cs) (F := fun L => F (c :: L))
    grind
theorem ex_row0 {r : Nat → R} : ∀ {J : List Nat} {F : List Nat → R}, (∀ c ∈ J, r c = 0) → ex r F J = 0
  | [], _, _ => rfl
  | c :: cs, F, h => by
    unfold ex
    rw [h c List.mem_cons_self, ex_row0 (J := cs) fun x hx => h x (List.mem_cons_of_mem _ hx)]; grind
/-- two rows change places -/
theorem ex_swap {r s : Nat → R} : ∀ {J : List Nat} {F : List Nat → R}, ex r (ex s F) J = - ex s (ex r F) J
  | [], _ => by unfold ex; grind
  | c :: cs, F => by
    have ih := ex_swap (r := r) (s := s) (J := cs) (F := fun L => F (c :: L))
    have e1 : ex r (ex s F) (c :: cs) = r c * ex s F cs - (s c * ex r F cs - ex r (ex s fun L => F (c :: L)) cs) := by
      show r c * ex s F cs - ex r (fun L => s c * F L - ex s (fun L => F (c :: L)) L) cs = _
      rw [ex_sub, ex_smul]
    have e2 : ex s (ex r F) (c :: cs) = s c * ex r F cs - (r c * ex s F cs - ex s (ex r fun L => F (c :: L)) cs) := by
      show s c * ex r F cs - ex s (fun L => r c * F L - ex r (fun L => F (c :: L)) L) cs = _
      rw [ex_sub, ex_smul]
    rw [e1, e2, ih]; grind
/-- a length that does not fit -/
theorem det_len : ∀ {rs : List (Nat → R)} {J : List Nat}, rs.length ≠ J.length → det rs J = 0
  | [], [], h => absurd rfl h
  | [], c :: cs, _ => by unfold det; rw [if_neg (by simp)]
  | r :: rs, [], _ => rfl
  | r :: rs, c :: cs, h => by
    have hl : rs.length ≠ cs.length := fun e => h (by simp [e])
    show r c * det rs cs - ex r (fun L => det rs (c :: L)) cs = 0
    rw [det_len hl]
    have key : ∀ (J : List Nat) (F : List Nat → R) (n : Nat), J.length ≠ n + 1 → (∀ L, L.length ≠ n → F L = 0) → ex r F J = 0 := by
      intro J
      induction J with
      | nil => intros; rfl
      | cons d ds ih =>
        intro F n h1 h2
        unfold ex
        rw [h2 ds (fun e => h1 (by simp [e]))]
        cases n with
        | zero =>
          have : ex r (fun L => F (d :: L)) ds = 0 := ex_zero fun L _ => h2 _ (by simp)
          rw [this]; grind
        | succ n =>
          rw [ih (fun L => F (d :: L)) n (fun e => h1 (by simp [e])) (fun L hL => h2 _ (fun e => hL (by simpa using e)))]; grind
    have : ex r (fun L => det rs (c :: L)) cs = 0 := by
      cases hr : rs.length with
      | zero =>
        refine ex_zero fun L _ => det_len ?_
        simp [hr]
      | succ n =>
        refine key cs _ n (fun e => hl (by omega)) fun L hL => det_len ?_
        rw [hr]; simp; omega
    rw [this]; grind
/-- F changes its sign where two neighbours change places -/
def Alt (F : List Nat → R) : Prop := ∀ L1 a b L2, F (L1 ++ a :: b :: L2) = - F (L1 ++ b :: a :: L2)
theorem Alt.cons {F : List Nat → R} (h : Alt F) (c : Nat) : Alt fun L => F (c :: L) := fun L1 a b L2 => h (c :: L1) a b L2
theorem ex_alt {r : Nat → R} : ∀ {L1 : List Nat} {F : List Nat → R} (_ : Alt F) (a b : Nat) (L2 : List Nat), ex r F (L1 ++ a :: b :: L2) = - ex r F (L1 ++ b :: a :: L2)
  | [], F, h, a, b, L2 => by
    show r a * F (b :: L2) - (r b * F (a :: L2) - ex r (fun L => F (a :: b :: L)) L2) = -(r b * F (a :: L2) - (r a * F (b :: L2) - ex r (fun L => F (b :: a :: L)) L2))
    have e : (fun L => F (a :: b :: L)) = fun L => - F (b :: a :: L) := by funext L; exact h [] a b L
    rw [e, ex_neg]; grind
  | c :: L1, F, h, a, b, L2 => by
    show r c * F (L1 ++ a :: b :: L2) - ex r (fun L => F (c :: L)) (L1 ++ a :: b :: L2) = -(r c * F (L1 ++ b :: a :: L2) - ex r (fun L => F (c :: L)) (L1 ++ b :: a :: L2))
    rw [h L1 a b L2, ex_alt (h.cons c) a b L2]; grind
theorem det_alt : ∀ rs : List (Nat → R), Alt (det rs)
  | [] => fun L1 a b L2 => by
    unfold det
    rw [if_neg (by simp), if_neg (by simp)]; grind
  | _ :: rs => fun _ a b L2 => ex_alt (det_alt rs) a b L2
/-- a row once more among the others -/
theorem det_row_dup {s : Nat → R} (two : ∀ x : R, x = -x → x = 0) : ∀ {l1 : List (Nat → R)} {l2 : List (Nat → R)} {J : List Nat}, det (s :: (l1 ++ s :: l2)) J = 0
  | [], l2, J => by
    show ex s (ex s (det l2)) J = 0
    exact two _ ex_swap
  | x :: l1, l2, J => by
    show ex s (ex x (det (l1 ++ s :: l2))) J = 0
    rw [ex_swap]
    have : ex x (ex s (det (l1 ++ s :: l2))) J = 0 := ex_zero fun L _ => det_row_dup two (l1 := l1)
    rw [this]; grind
theorem det_row_mem {s : Nat → R} (two : ∀ x : R, x = -x → x = 0) {rs : List (Nat → R)} {J : List Nat} (h : s ∈ rs) : det (s :: rs) J = 0 := by
  obtain ⟨l1, l2, rfl⟩ := List.append_of_mem h
  exact det_row_dup two
theorem alt_dup {F : List Nat → R} (two : ∀ x : R, x = -x → x = 0) (h : Alt F) (a : Nat) : ∀ (M L1 L2 : List Nat), F (L1 ++ a :: (M ++ a :: L2)) = 0
  | [], L1, L2 => two _ (h L1 a a L2)
  | m :: M, L1, L2 => by
    rw [show L1 ++ a :: (m :: M ++ a :: L2) = L1 ++ a :: m :: (M ++ a :: L2) from rfl, h L1 a m]
    have := alt_dup two h a M (L1 ++ [m]) L2
    rw [show L1 ++ [m] ++ a :: (M ++ a :: L2) = L1 ++ m :: a :: (M ++ a :: L2) by simp] at this
    rw [this]; grind
/-- a column twice -/
theorem det_col_dup {rs : List (Nat → R)} (two : ∀ x : R, x = -x → x = 0) {a : Nat} {L1 M L2 : List Nat} : det rs (L1 ++ a :: (M ++ a :: L2)) = 0 := alt_dup two (det_alt rs) a M L1 L2
/-- a column of noughts -/
theorem det_col_zero {z : Nat} : ∀ {rs : List (Nat → R)}, (∀ r ∈ rs, r z = 0) → ∀ {J : List Nat}, z ∈ J → det rs J = 0
  | [], _, J, h => by
    unfold det
    rw [if_neg (by rintro rfl; simp at h)]
  | r :: rs, h0, J, h => by
    have key : ∀ (J : List Nat) (F : List Nat → R), z ∈ J → (∀ L, z ∈ L → F L = 0) → ex r F J = 0 := by
      intro J
      induction J with
      | nil => intro F h; simp at h
      | cons c cs ih =>
        intro F h hF
        unfold ex
        by_cases hc : z ∈ cs
        · rw [hF cs hc, ih _ hc fun L hL => hF _ (List.mem_cons_of_mem _ hL)]; grind
        · have e : z = c := by
            rcases List.mem_cons.mp h with e | e
            · exact e
            · exact absurd e hc
          subst e
          rw [h0 r List.mem_cons_self, ex_zero fun L _ => hF _ List.mem_cons_self]; grind
    exact key J _ h fun L hL => det_col_zero (fun r hr => h0 r (List.mem_cons_of_mem _ hr)) hL
/-- the column a, to which t times the column b was put -/
def colPut (a b : Nat) (t : R) (r : Nat → R) : Nat → R := fun c => if c = a then r a + t * r b else r c
structure ColRel (a b : Nat) (t : R) (F' F : List Nat → R) : Prop where
  out : ∀ L, a ∉ L → F' L = F L
  inn : ∀ L1 L2, a ∉ L1 → a ∉ L2 → F' (L1 ++ a :: L2) = F (L1 ++ a :: L2) + t * F (L1 ++ b :: L2)
theorem ColRel.cons {a b : Nat} {t : R} {F' F : List Nat → R} (h : ColRel a b t F' F) {c : Nat} (hc : c ≠ a) : ColRel a b t (fun L => F' (c :: L)) (fun L => F (c :: L)) :=
  ⟨fun L hL => h.out _ (by simp [hL]; exact fun e => hc e.symm), fun L1 L2 h1 h2 => h.inn (c :: L1) L2 (by simp [h1]; exact fun e => hc e.symm) h2⟩
theorem colPut_ne {a b c : Nat} {t : R} {r : Nat → R} (h : c ≠ a) : colPut a b t r c = r c := if_neg h
theorem colPut_at {a b : Nat} {t : R} {r : Nat → R} : colPut a b t r a = r a + t * r b := if_pos rfl
theorem ex_col_inn {a b : Nat} {t : R} {r : Nat → R} : ∀ {L1 : List Nat} {F' F : List Nat → R}, ColRel a b t F' F → ∀ L2, a ∉ L1 → a ∉ L2 →
    ex (colPut a b t r) F' (L1 ++ a :: L2) = ex r F (L1 ++ a :: L2) + t * ex r F (L1 ++ b :: L2)
  | [], F', F, h, L2, _, h2 => by
    show colPut a b t r a * F' L2 - ex (colPut a b t r) (fun L => F' (a :: L)) L2 = (r a * F L2 - ex r (fun L => F (a :: L)) L2) + t * (r b * F L2 - ex r (fun L => F (b :: L)) L2)
    rw [colPut_at, h.out L2 h2]
    have e : ex (colPut a b t r) (fun L => F' (a :: L)) L2 = ex r (fun L => 1 * F (a :: L) + t * F (b :: L)) L2 :=
      ex_congr (fun c hc => colPut_ne (fun e => h2 (e ▸ hc))) fun L hL => by
        rw [show F' (a :: L) = F (a :: L) + t * F (b :: L) from h.inn [] L (by simp) (fun m => h2 (hL a m))]; grind
    rw [e, ex_lin]; grind
  | c :: L1, F', F, h, L2, h1, h2 => by
    have hc : c ≠ a := fun e => h1 (by simp [e])
    have h1' : a ∉ L1 := fun m => h1 (List.mem_cons_of_mem _ m)
    show colPut a b t r c * F' (L1 ++ a :: L2) - ex (colPut a b t r) (fun L => F' (c :: L)) (L1 ++ a :: L2) = (r c * F (L1 ++ a :: L2) - ex r (fun L => F (c :: L)) (L1 ++ a :: L2)) + t * (r c * F (L1 ++ b :: L2) - ex r (fun L => F (c :: L)) (L1 ++ b :: L2))
    rw [colPut_ne hc, h.inn L1 L2 h1' h2, ex_col_inn (h.cons hc) L2 h1' h2]; grind
theorem ex_col {a b : Nat} {t : R} {r : Nat → R} {F' F : List Nat → R} (h : ColRel a b t F' F) : ColRel a b t (ex (colPut a b t r) F') (ex r F) where
  out := fun L hL => by
    induction L generalizing F' F with
    | nil => rfl
    | cons c cs ih =>
      have hc : c ≠ a := fun e => hL (by simp [e])
      have hs : a ∉ cs := fun m => hL (List.mem_cons_of_mem _ m)
      unfold ex
      rw [colPut_ne hc, h.out cs hs, ih (h.cons hc) hs]
  inn := fun L1 L2 h1 h2 => ex_col_inn h L2 h1 h2
theorem det_col {a b : Nat} {t : R} : ∀ rs : List (Nat → R), ColRel a b t (det (rs.map (colPut a b t))) (det rs)
  | [] => ⟨fun _ _ => rfl, fun L1 L2 _ _ => by
    show (if L1 ++ a :: L2 = [] then (1 : R) else 0) = (if L1 ++ a :: L2 = [] then 1 else 0) + t * (if L1 ++ b :: L2 = [] then 1 else 0)
    rw [if_neg (by simp), if_neg (by simp)]; grind⟩
  | _ :: rs => ex_col (det_col rs)
end
theorem two_rat (x : Rat) (h : x = -x) : x = 0 := by grind
theorem two_int (x : Int) (h : x = -x) : x = 0 := by omega
/-- whole numbers seen as fractions -/
theorem ex_cast {r : Nat → Int} {r' : Nat → Rat} (hr : ∀ c, r' c = (r c : Rat)) : ∀ {J : List Nat} {F : List Nat → Int} {F' : List Nat → Rat}, (∀ L, F' L = (F L : Rat)) → ex r' F' J = ((ex r F J : Int) : Rat)
  | [], _, _, _ => rfl
  | c :: cs, F, F', h => by
    unfold ex
    rw [hr, h, ex_cast hr (J := cs) (F := fun L => F (c :: L)) (F' := fun L => F' (c :: L)) (fun L => h _)]
    simp [Rat.intCast_sub, Rat.intCast_mul]
theorem det_cast : ∀ {rs : List (Nat → Int)} {J : List Nat}, det (rs.map fun r c => (r c : Rat)) J = ((det rs J : Int) : Rat)
  | [], J => by
    unfold det
    simp only [List.map]
    split <;> rfl
  | r :: rs, J => ex_cast (fun _ => rfl) fun _ => det_cast
/-- rows times numbers -/
theorem det_scale : ∀ {l : List (Rat × (Nat → Rat))} {J : List Nat}, det (l.map fun p c => p.1 * p.2 c) J = (l.map (·.1)).foldr (· * ·) 1 * det (l.map (·.2)) J
  | [], J => by
    show det [] J = 1 * det [] J
    grind
  | p :: l, J => by
    show ex (fun c => p.1 * p.2 c) (det (l.map fun p c => p.1 * p.2 c)) J = (p.1 * (l.map (·.1)).foldr (· * ·) 1) * ex p.2 (det (l.map (·.2))) J
    have e : det (l.map fun p c => p.1 * p.2 c) = fun J => (l.map (·.1)).foldr (· * ·) 1 * det (l.map (·.2)) J := by funext J; exact det_scale
    rw [e, ex_smul]
    have e2 : ex (fun c => p.1 * p.2 c) (det (l.map (·.2))) J = p.1 * ex p.2 (det (l.map (·.2))) J := by
      have := ex_row (r := p.2) (s := p.2) (a := p.1) (b := 0) (J := J) (F := det (l.map (·.2)))
      have e3 : (fun c => p.1 * p.2 c) = (fun c => p.1 * p.2 c + 0 * p.2 c) := by funext c; grind
      rw [e3, this]; grind
    rw [e2]; grind
end Smo

/-! The elimination by divisions without a rest tells whether a determinant is nought. -/
namespace Smo
section
variable {R : Type} [Lean.Grind.CommRing R]
/-- rows k-1, .., 0; columns k-1, .., 0 -/
def rl (A : Nat → Nat → R) : Nat → List (Nat → R)
  | 0 => []
  | k + 1 => A k :: rl A k
def cl : Nat → List Nat
  | 0 => []
  | k + 1 => k :: cl k
theorem cl_lt : ∀ {k c : Nat}, c ∈ cl k → c < k
  | k + 1, c, h => by
    rcases List.mem_cons.mp h with e | e
    · omega
    · have := cl_lt e; omega
theorem cl_len : ∀ k, (cl k).length = k
  | 0 => rfl
  | k + 1 => by show (cl k).length + 1 = k + 1; rw [cl_len k]
theorem rl_len (A : Nat → Nat → R) : ∀ k, (rl A k).length = k
  | 0 => rfl
  | k + 1 => by show (rl A k).length + 1 = k + 1; rw [rl_len A k]
theorem det_perm {l l' : List (Nat → R)} (h : l.Perm l') : ∃ c : R, (c = 1 ∨ c = -1) ∧ ∀ J, det l J = c * det l' J := by
  induction h with
  | nil => exact ⟨1, .inl rfl, fun J => by grind⟩
  | cons r _ ih =>
    obtain ⟨c, hc, h⟩ := ih
    refine ⟨c, hc, fun J => ?_⟩
    show ex r (det _) J = c * ex r (det _) J
    rw [← ex_smul]
    exact ex_congr (fun _ _ => rfl) fun L _ => h L
  | swap r s l => exact ⟨-1, .inr rfl, fun J => by
      show ex s (ex r (det l)) J = -1 * ex r (ex s (det l)) J
      rw [ex_swap]; grind⟩
  | trans _ _ ih1 ih2 =>
    obtain ⟨c, hc, h⟩ := ih1
    obtain ⟨d, hd, h'⟩ := ih2
    refine ⟨c * d, ?_, fun J => by rw [h, h']; grind⟩
    rcases hc with rfl | rfl <;> rcases hd with rfl | rfl <;> first | (left; grind) | (right; grind)
theorem ex_term {r : Nat → R} : ∀ {J : List Nat} {F : List Nat → R}, (∀ J1 c J2, J = J1 ++ c :: J2 → r c = 0 ∨ F (J1 ++ J2) = 0) → ex r F J = 0
  | [], _, _ => rfl
  | c :: cs, F, h => by
    unfold ex
    rw [ex_term (J := cs) (F := fun L => F (c :: L)) fun J1 d J2 e => h (c :: J1) d J2 (by rw [e]; rfl)]
    rcases h [] c cs rfl with e | e
    · rw [e]; grind
    · rw [show F cs = 0 from e]; grind
/-- more rows than columns on which they are not nought -/
theorem det_few {k : Nat} : ∀ {rs rs2 : List (Nat → R)} {J : List Nat}, (∀ r ∈ rs, ∀ c ≤ k, r c = 0) → (J.filter fun c => decide (k < c)).length < rs.length → det (rs ++ rs2) J = 0
  | [], _, _, _, h => by simp at h
  | r :: rs, rs2, J, h0, h => by
    show ex r (det (rs ++ rs2)) J = 0
    refine ex_term fun J1 c J2 e => ?_
    by_cases hc : c ≤ k
    · exact .inl (h0 r List.mem_cons_self c hc)
    · refine .inr (det_few (fun s hs => h0 s (List.mem_cons_of_mem _ hs)) ?_)
      rw [e, List.filter_append, List.length_append, List.filter_cons, if_pos (by simp; omega)] at h
      rw [List.filter_append, List.length_append]
      simp only [List.length_cons] at h
      omega
/-- the product of the first k pivots -/
def pivs (G : Nat → Nat → R) : Nat → R
  | 0 => 1
  | k + 1 => G k k * pivs G k
theorem det_tri {G : Nat → Nat → R} : ∀ {k : Nat}, (∀ i < k, ∀ c < i, G i c = 0) → det (rl G k) (cl k) = pivs G k
  | 0, _ => by
    show (if ([] : List Nat) = [] then (1 : R) else 0) = 1
    rw [if_pos rfl]
  | k + 1, h => by
    show G k k * det (rl G k) (cl k) - ex (G k) (fun L => det (rl G k) (k :: L)) (cl k) = G k k * pivs G k
    rw [det_tri fun i hi c hc => h i (by omega) c hc, ex_row0 fun c hc => h k (by omega) c (cl_lt hc)]; grind
theorem det_top {G : Nat → Nat → R} {k j : Nat} {g : Nat → R} (h : ∀ i < k, ∀ c < i, G i c = 0) (hg : ∀ c < k, g c = 0) : det (g :: rl G k) (j :: cl k) = g j * pivs G k := by
  show g j * det (rl G k) (cl k) - ex g (fun L => det (rl G k) (j :: L)) (cl k) = g j * pivs G k
  rw [det_tri h, ex_row0 fun c hc => hg c (cl_lt hc)]; grind
theorem det_put {a g : Nat → R} {B : List (Nat → R)} (h : ∀ J, det (a :: B) J = det (g :: B) J) : ∀ (L : List (Nat → R)) (J : List Nat), det (a :: (L ++ B)) J = det (g :: (L ++ B)) J
  | [], J => h J
  | r :: L, J => by
    show ex a (ex r (det (L ++ B))) J = ex g (ex r (det (L ++ B))) J
    rw [ex_swap (r := a), ex_swap (r := g)]
    congr 1
    exact ex_congr (fun _ _ => rfl) fun M _ => det_put h L M
end
/-- where the elimination stands behind k columns: A' the table with its rows in another order, G what Gauss makes of it -/
structure Gs (A' : Nat → Nat → Int) (n k : Nat) (G : Nat → Nat → Rat) : Prop where
  tri : ∀ i < n, ∀ c, c < i → c < k → G i c = 0
  piv : ∀ i < k, G i i ≠ 0
  low : ∀ J, det (rl (fun i c => (A' i c : Rat)) k) J = det (rl G k) J
  top : ∀ i, k ≤ i → i < n → ∀ J, det ((fun c => (A' i c : Rat)) :: rl (fun i c => (A' i c : Rat)) k) J = det (G i :: rl G k) J
structure Bi (A : Nat → Nat → Int) (n k : Nat) (R : Nat → Nat → Int) (last : Int) : Prop where
  ex : ∃ (A' : Nat → Nat → Int) (G : Nat → Nat → Rat), (rl A' n).Perm (rl A n) ∧ Gs A' n k G ∧ (last : Rat) = pivs G k ∧ ∀ i, k ≤ i → i < n → ∀ j, k ≤ j → j < n → (R i j : Rat) = pivs G k * G i j
theorem Bi.start (A : Nat → Nat → Int) (n : Nat) : Bi A n 0 A 1 :=
  ⟨A, fun i c => (A i c : Rat), List.Perm.refl _, ⟨fun i _ c _ h => by omega, fun i h => by omega, fun J => rfl, fun i _ _ J => rfl⟩, rfl, fun i _ _ j _ _ => by
    show (A i j : Rat) = 1 * (A i j : Rat)
    grind⟩
theorem pivs_ne {G : Nat → Nat → Rat} : ∀ {k : Nat}, (∀ i < k, G i i ≠ 0) → pivs G k ≠ 0
  | 0, _ => by show (1 : Rat) ≠ 0; grind
  | k + 1, h => by
    have h1 := pivs_ne (k := k) fun i hi => h i (by omega)
    have h2 := h k (by omega)
    show G k k * pivs G k ≠ 0
    intro e
    rcases Rat.mul_eq_zero.mp e with e | e
    · exact h2 e
    · exact h1 e
theorem rl_congr {R : Type} {A B : Nat → Nat → R} : ∀ {k : Nat}, (∀ i < k, A i = B i) → rl A k = rl B k
  | 0, _ => rfl
  | k + 1, h => by
    show A k :: rl A k = B k :: rl B k
    rw [h k (by omega), rl_congr fun i hi => h i (by omega)]
/-- rows i and k change places -/
def swp {R : Type} (i k : Nat) (A : Nat → R) : Nat → R := fun a => if a = i then A k else if a = k then A i else A a
theorem swp_ne {R : Type} {i k a : Nat} {A : Nat → R} (h : a ≠ i) (h' : a ≠ k) : swp i k A a = A a := by unfold swp; rw [if_neg h, if_neg h']
theorem rl_swp {R : Type} {A : Nat → Nat → R} {i k : Nat} (hki : k ≤ i) : ∀ {n : Nat}, i < n → (rl (swp i k A) n).Perm (rl A n) := by
  intro n hn
  by_cases e : i = k
  · subst e
    rw [rl_congr (B := A) fun a _ => by unfold swp; split <;> simp_all]
  · have key : ∀ {n : Nat}, k < n → n ≤ i → ∃ l1 l2 : List (Nat → R), rl A n = l1 ++ A k :: l2 ∧ rl (swp i k A) n = l1 ++ A i :: l2 := by
      intro n
      induction n with
      | zero => intro h; omega
      | succ n ih =>
        intro h1 h2
        by_cases hk : k = n
        · subst hk
          refine ⟨[], rl A k, rfl, ?_⟩
          show swp i k A k :: rl (swp i k A) k = A i :: rl A k
          rw [rl_congr (B := A) fun a ha => swp_ne (by omega) (by omega)]
          congr 1
          unfold swp
          rw [if_neg (by omega), if_pos rfl]
        · obtain ⟨l1, l2, e1, e2⟩ := ih (by omega) (by omega)
          refine ⟨A n :: l1, l2, by show A n :: rl A n = _; rw [e1]; rfl, ?_⟩
          show swp i k A n :: rl (swp i k A) n = _
          rw [e2, swp_ne (by omega) (by omega)]; rfl
    revert hn
    induction n with
    | zero => intro hn; omega
    | succ n ih =>
      intro hn
      by_cases hi : i = n
      · subst hi
        obtain ⟨l1, l2, e1, e2⟩ := key (n := i) (by omega) (by omega)
        show (swp i k A i :: rl (swp i k A) i).Perm (A i :: rl A i)
        rw [e1, e2]
        have e3 : swp i k A i = A k := by unfold swp; rw [if_pos rfl]
        rw [e3]
        refine (List.Perm.cons _ List.perm_middle).trans ?_
        refine (List.Perm.swap _ _ _).trans ?_
        exact List.Perm.cons _ List.perm_middle.symm
      · show (swp i k A n :: rl (swp i k A) n).Perm (A n :: rl A n)
        rw [swp_ne (by omega) (by omega)]
        exact List.Perm.cons _ (ih (by omega))
theorem Gs.swap {A' : Nat → Nat → Int} {G : Nat → Nat → Rat} {n k i : Nat} (h : Gs A' n k G) (hk : k ≤ i) (hi : i < n) : Gs (swp i k A') n k (swp i k G) := by
  have e1 : rl (fun i' c => (swp i k A' i' c : Rat)) k = rl (fun i c => (A' i c : Rat)) k := rl_congr fun a ha => by
    funext c
    rw [swp_ne (A := A') (by omega) (by omega)]
  have e2 : rl (swp i k G) k = rl G k := rl_congr fun a ha => swp_ne (by omega) (by omega)
  refine ⟨fun a ha c h1 h2 => ?_, fun a ha => ?_, fun J => by rw [e1, e2]; exact h.low J, fun a h1 h2 J => ?_⟩
  · by_cases e : a = i
    · subst e
      unfold swp
      rw [if_pos rfl]
      by_cases e' : k = c
      · omega
      · exact h.tri k (by omega) c (by omega) h2
    · by_cases e' : a = k
      · subst e'
        unfold swp
        rw [if_neg e, if_pos rfl]
        exact h.tri i hi c (by omega) h2
      · rw [swp_ne e e']
        exact h.tri a ha c h1 h2
  · rw [swp_ne (by omega) (by omega)]
    exact h.piv a ha
  · rw [e1, e2]
    unfold swp
    by_cases e : a = i
    · simp only [if_pos e]
      exact h.top k (Nat.le_refl _) (by omega) J
    · by_cases e' : a = k
      · simp only [if_neg e, if_pos e']
        exact h.top i hk hi J
      · simp only [if_neg e, if_neg e']
        exact h.top a h1 h2 J
theorem pivs_congr {G G' : Nat → Nat → Rat} : ∀ {k : Nat}, (∀ i < k, G i = G' i) → pivs G k = pivs G' k
  | 0, _ => rfl
  | k + 1, h => by
    show G k k * pivs G k = G' k k * pivs G' k
    rw [h k (by omega), pivs_congr fun i hi => h i (by omega)]
theorem Bi.swap {A : Nat → Nat → Int} {n k i : Nat} {R : Nat → Nat → Int} {last : Int} (h : Bi A n k R last) (hk : k ≤ i) (hi : i < n) : Bi A n k (swp i k R) last := by
  obtain ⟨A', G, p, g, hl, hR⟩ := h.ex
  have e2 : pivs (swp i k G) k = pivs G k := pivs_congr fun a ha => swp_ne (by omega) (by omega)
  refine ⟨swp i k A', swp i k G, (rl_swp hk hi).trans p, g.swap hk hi, by rw [e2]; exact hl, fun a h1 h2 j h3 h4 => ?_⟩
  rw [e2]
  unfold swp
  by_cases e : a = i
  · rw [if_pos e, if_pos e]
    exact hR k (Nat.le_refl _) (by omega) j h3 h4
  · by_cases e' : a = k
    · rw [if_neg e, if_neg e, if_pos e', if_pos e']
      exact hR i hk hi j h3 h4
    · rw [if_neg e, if_neg e, if_neg e', if_neg e']
      exact hR a h1 h2 j h3 h4
/-- one turn -/
def elm (R : Nat → Nat → Int) (k : Nat) (last : Int) : Nat → Nat → Int := fun i j => if k < i ∧ k < j then (R i j * R k k - R i k * R k j).fdiv last else R i j
theorem Bi.turn {A : Nat → Nat → Int} {n k : Nat} {R : Nat → Nat → Int} {last : Int} (h : Bi A n k R last) (hk : k < n) (hp : R k k ≠ 0) : Bi A n (k + 1) (elm R k last) (R k k) := by
  obtain ⟨A', G, p, g, hl, hR⟩ := h.ex
  have hpv : pivs G k ≠ 0 := pivs_ne g.piv
  have hkk := hR k (Nat.le_refl _) hk k (Nat.le_refl _) hk
  have hG : G k k ≠ 0 := by
    intro e
    rw [e] at hkk
    have : (R k k : Rat) = 0 := by rw [hkk]; grind
    exact hp (Rat.intCast_eq_zero_iff.mp this)
  let G' : Nat → Nat → Rat := fun i => if k < i then fun c => 1 * G i c + (-(G i k / G k k)) * G k c else G i
  have eG : ∀ i, ¬ k < i → G' i = G i := fun i hi => if_neg hi
  have eH : ∀ i, k < i → G' i = fun c => 1 * G i c + (-(G i k / G k k)) * G k c := fun i hi => if_pos hi
  have e2 : rl G' (k + 1) = rl G (k + 1) := rl_congr fun a ha => eG a (by omega)
  have e3 : pivs G' (k + 1) = G k k * pivs G k := by
    show G' k k * pivs G' k = _
    rw [eG k (by omega), pivs_congr (G := G') (G' := G) fun i hi => eG i (by omega)]
  have low1 : ∀ J, det (rl (fun i c => (A' i c : Rat)) (k + 1)) J = det (rl G (k + 1)) J := fun J => g.top k (Nat.le_refl _) hk J
  have top1 : ∀ i, k < i → i < n → ∀ J, det ((fun c => (A' i c : Rat)) :: rl (fun i c => (A' i c : Rat)) (k + 1)) J = det (G' i :: rl G' (k + 1)) J := fun i h1 h2 J => by
    rw [e2, eH i h1]
    have s1 : det ((fun c => (A' i c : Rat)) :: rl (fun i c => (A' i c : Rat)) (k + 1)) J = det ((fun c => (A' i c : Rat)) :: rl G (k + 1)) J :=
      ex_congr (fun _ _ => rfl) fun L _ => low1 L
    have s2 : det ((fun c => (A' i c : Rat)) :: ([G k] ++ rl G k)) J = det (G i :: ([G k] ++ rl G k)) J := by
      refine det_put (fun L => ?_) [G k] J
      rw [← g.top i (by omega) h2 L]
      exact ex_congr (fun _ _ => rfl) fun M _ => (g.low M).symm
    rw [s1]
    refine s2.trans ?_
    have s3 : det ((fun c => 1 * G i c + (-(G i k / G k k)) * G k c) :: rl G (k + 1)) J = 1 * det (G i :: rl G (k + 1)) J + (-(G i k / G k k)) * det (G k :: rl G (k + 1)) J := ex_row
    have s4 : det (G k :: rl G (k + 1)) J = 0 := det_row_dup two_rat (l1 := [])
    rw [s3, s4]
    show det (G i :: rl G (k + 1)) J = _
    grind
  have tri1 : ∀ i < n, ∀ c, c < i → c < k + 1 → G' i c = 0 := fun i hi c h1 h2 => by
    by_cases hki : k < i
    · rw [eH i hki]
      by_cases hc : c = k
      · subst hc
        show 1 * G i c + (-(G i c / G c c)) * G c c = 0
        grind
      · have a1 := g.tri i hi c h1 (by omega)
        have a2 := g.tri k hk c (by omega) (by omega)
        show 1 * G i c + (-(G i k / G k k)) * G k c = 0
        rw [a1, a2]; grind
    · rw [eG i hki]
      exact g.tri i hi c h1 (by omega)
  refine ⟨A', G', p, ⟨tri1, fun i hi => ?_, fun J => by rw [low1 J, e2], fun i h1 h2 J => top1 i (by omega) h2 J⟩, by rw [e3, hkk]; grind, fun i h1 h2 j h3 h4 => ?_⟩
  · rw [eG i (by omega)]
    by_cases hik : i = k
    · subst hik; exact hG
    · exact g.piv i (by omega)
  · -- the division leaves no rest
    have hij := hR i (by omega) h2 j (by omega) h4
    have hik := hR i (by omega) h2 k (Nat.le_refl _) hk
    have hkj := hR k (Nat.le_refl _) hk j (by omega) h4
    have hY : ((det (A' i :: rl A' (k + 1)) (j :: cl (k + 1)) : Int) : Rat) = G' i j * pivs G' (k + 1) := by
      have : ((fun c => (A' i c : Rat)) :: rl (fun i c => (A' i c : Rat)) (k + 1)) = (A' i :: rl A' (k + 1)).map fun r c => (r c : Rat) := by
        have : ∀ m, rl (fun i c => (A' i c : Rat)) m = (rl A' m).map fun r c => (r c : Rat) := by
          intro m
          induction m with
          | zero => rfl
          | succ m ih => show _ :: rl _ m = _; rw [ih]; rfl
        rw [this]; rfl
      rw [← det_cast, ← this, top1 i (by omega) h2]
      exact det_top (fun a ha c hc => tri1 a (by omega) c hc (by omega)) fun c hc => tri1 i h2 c (by omega) hc
    have hX : R i j * R k k - R i k * R k j = last * det (A' i :: rl A' (k + 1)) (j :: cl (k + 1)) := by
      have : ((R i j * R k k - R i k * R k j : Int) : Rat) = ((last * det (A' i :: rl A' (k + 1)) (j :: cl (k + 1)) : Int) : Rat) := by
        rw [Rat.intCast_sub, Rat.intCast_mul, Rat.intCast_mul, Rat.intCast_mul, hY, hij, hik, hkj, hkk, hl, e3, eH i (by omega)]
        show pivs G k * G i j * (pivs G k * G k k) - pivs G k * G i k * (pivs G k * G k j) = pivs G k * ((1 * G i j + (-(G i k / G k k)) * G k j) * (G k k * pivs G k))
        grind
      exact Rat.intCast_inj.mp this
    have hlast : last ≠ 0 := by
      intro e
      rw [e] at hl
      exact hpv hl.symm
    have : elm R k last i j = det (A' i :: rl A' (k + 1)) (j :: cl (k + 1)) := by
      unfold elm
      rw [if_pos ⟨by omega, by omega⟩, hX, Int.mul_fdiv_cancel_left _ hlast]
    rw [this, hY]; grind
theorem Bi.last_ne {A : Nat → Nat → Int} {n k : Nat} {R : Nat → Nat → Int} {last : Int} (h : Bi A n k R last) : last ≠ 0 := by
  obtain ⟨A', G, p, g, hl, hR⟩ := h.ex
  intro e
  rw [e] at hl
  exact pivs_ne g.piv hl.symm
theorem rl_map (A : Nat → Nat → Int) : ∀ m, rl (fun i c => (A i c : Rat)) m = (rl A m).map fun r c => (r c : Rat)
  | 0 => rfl
  | m + 1 => by show _ :: rl _ m = _; rw [rl_map A m]; rfl
/-- at the end -/
theorem Bi.done {A : Nat → Nat → Int} {n : Nat} {R : Nat → Nat → Int} {last : Int} (h : Bi A (n + 1) n R last) : R n n = 0 ↔ det (rl A (n + 1)) (cl (n + 1)) = 0 := by
  obtain ⟨A', G, p, g, hl, hR⟩ := h.ex
  obtain ⟨c, hc, hd⟩ := det_perm p
  have h1 := hR n (Nat.le_refl _) (by omega) n (Nat.le_refl _) (by omega)
  have h2 : ((det (rl A' (n + 1)) (cl (n + 1)) : Int) : Rat) = G n n * pivs G n := by
    rw [← det_cast, ← rl_map]
    rw [show rl (fun i c => (A' i c : Rat)) (n + 1) = (fun c => (A' n c : Rat)) :: rl (fun i c => (A' i c : Rat)) n from rfl, g.top n (Nat.le_refl _) (by omega)]
    exact det_top (fun a ha c hc => g.tri a (by omega) c hc (by omega)) fun c hc => g.tri n (by omega) c hc hc
  have h3 : R n n = det (rl A' (n + 1)) (cl (n + 1)) := Rat.intCast_inj.mp (by rw [h1, h2]; grind)
  rw [h3, hd]
  rcases hc with rfl | rfl <;> omega
/-- no pivot is left -/
theorem Bi.none {A : Nat → Nat → Int} {n k : Nat} {R : Nat → Nat → Int} {last : Int} (h : Bi A n k R last) (hk : k < n) (h0 : ∀ i, k ≤ i → i < n → R i k = 0) : det (rl A n) (cl n) = 0 := by
  obtain ⟨A', G, p, g, hl, hR⟩ := h.ex
  obtain ⟨c, hc, hd⟩ := det_perm p
  have hpv : pivs G k ≠ 0 := pivs_ne g.piv
  have hz : ∀ i, k ≤ i → i < n → ∀ c ≤ k, G i c = 0 := fun i h1 h2 c hc => by
    by_cases e : c = k
    · subst e
      have := hR i h1 h2 c (Nat.le_refl _) hk
      rw [h0 i h1 h2] at this
      have h3 : pivs G c * G i c = 0 := by rw [← this]; rfl
      rcases Rat.mul_eq_zero.mp h3 with e | e
      · exact absurd e hpv
      · exact e
    · exact g.tri i h2 c (by omega) (by omega)
  have full : ∀ m, k ≤ m → m ≤ n → ∀ J, det (rl (fun i c => (A' i c : Rat)) m) J = det (rl G m) J := by
    intro m
    induction m with
    | zero =>
      intro h1 _ J
      have : k = 0 := by omega
      subst this
      exact g.low J
    | succ m ih =>
      intro h1 h2 J
      by_cases e : k = m + 1
      · subst e; exact g.low J
      · have s1 : det ((fun c => (A' m c : Rat)) :: rl (fun i c => (A' i c : Rat)) m) J = det ((fun c => (A' m c : Rat)) :: rl G m) J :=
          ex_congr (fun _ _ => rfl) fun L _ => ih (by omega) (by omega) L
        refine s1.trans ?_
        have split : ∀ m, k ≤ m → ∃ L, rl G m = L ++ rl G k := by
          intro m
          induction m with
          | zero =>
            intro h
            have : k = 0 := by omega
            subst this
            exact ⟨[], rfl⟩
          | succ m ih =>
            intro h
            by_cases e : k = m + 1
            · subst e; exact ⟨[], rfl⟩
            · obtain ⟨L, hL⟩ := ih (by omega)
              exact ⟨G m :: L, by show G m :: rl G m = _; rw [hL]; rfl⟩
        obtain ⟨L, hL⟩ := split m (by omega)
        show det ((fun c => (A' m c : Rat)) :: rl G m) J = det (G m :: rl G m) J
        rw [hL]
        refine det_put (fun M => ?_) L J
        rw [← g.top m (by omega) (by omega) M]
        exact ex_congr (fun _ _ => rfl) fun N _ => (g.low N).symm
  have zero : det (rl G n) (cl n) = 0 := by
    have split : ∀ m, k ≤ m → m ≤ n → ∃ L, rl G m = L ++ rl G k ∧ L.length = m - k ∧ ∀ r ∈ L, ∀ c ≤ k, r c = 0 := by
      intro m
      induction m with
      | zero =>
        intro h _
        have : k = 0 := by omega
        subst this
        exact ⟨[], rfl, rfl, by simp⟩
      | succ m ih =>
        intro h h'
        by_cases e : k = m + 1
        · subst e; exact ⟨[], rfl, by simp, by simp⟩
        · obtain ⟨L, hL, h1, h2⟩ := ih (by omega) (by omega)
          refine ⟨G m :: L, by show G m :: rl G m = _; rw [hL]; rfl, by simp [h1]; omega, fun r hr => ?_⟩
          rcases List.mem_cons.mp hr with e | e
          · rw [e]; exact hz m (by omega) (by omega)
          · exact h2 r e
    obtain ⟨L, hL, h1, h2⟩ := split n (by omega) (Nat.le_refl _)
    rw [hL]
    refine det_few h2 ?_
    have cnt : ∀ m, ((cl m).filter fun c => decide (k < c)).length = m - (k + 1) := by
      intro m
      induction m with
      | zero => rw [Nat.zero_sub]; rfl
      | succ m ih =>
        show ((m :: cl m).filter fun c => decide (k < c)).length = _
        rw [List.filter_cons]
        split
        · rename_i hh
          have : k < m := of_decide_eq_true hh
          rw [List.length_cons, ih]; omega
        · rename_i hh
          have : ¬ k < m := fun z => hh (decide_eq_true z)
          rw [ih]; omega
    rw [cnt, h1]; omega
  have h2 : ((det (rl A' n) (cl n) : Int) : Rat) = 0 := by
    rw [← det_cast, ← rl_map, full n (by omega) (Nat.le_refl _), zero]
  have h3 := Rat.intCast_eq_zero_iff.mp h2
  have := hd (cl n)
  rw [h3] at this
  rcases hc with rfl | rfl <;> omega
end Smo

set_option Elab.async false
set_option linter.all false
set_option maxRecDepth 100000
set_option maxHeartbeats 4000000
namespace Smo
open PySem PySem.Spec PyProof.Rows L2
local macro_rules | `(tactic| walk_at "zz") => `(tactic| ((try dsimp only); repeat (first | refine ZS.go ?_ | refine And.intro (rfl : wipe _ _ = wipe _ _) ?_)))
def sp_whole_row : Sp := fun vs H Q _ => ∃ (a : Addr) (n : Nat) (r : Nat → Int), vs = [.ref a] ∧ Rw Fz H a n r ∧ n ≤ 7 ∧ (∀ c < n, Sm 1000000 (r c)) ∧
  ∀ t l H', Same H H' → H' t = some (.tup [.ref l, .int 1]) → H l = none → Rw Ci H' l n r → Q (.ref t) H'
abbrev N_whole_row : List Str := ["row", "factor", "number"]
theorem sc_whole_row : FnScope N_whole_row ["row"] (defScope (topS 25)) := ⟨rfl, rfl, rfl, by decide +kernel, rfl, by decide +kernel, by decide +kernel⟩
/-- whole_row: 0 row, 1 factor, 2 number -/
theorem ok_whole_row {P : Program} {w : World} {K : PySem.W.Frag} {mg : Str → Option Value} {base : Heap} (W : Wd K mg) (h_divisor : Has P w K mg base "divisor" 1 ["one", "other"] sp_divisor) : Has P w K mg base "whole_row" 2 ["row"] sp_whole_row := by
  refine has_of W 13 25 rfl rfl sc_whole_row (fun _ _ _ _ _ _ us hl => match us, hl with | [_], _ => rfl) (fun vs H Q E h => ?_) (fun f cdv A outer s H vs Q E hr h => ?_)
  · obtain ⟨a, n, r, rfl, ⟨xs, h1, h2, h3⟩, hn, hs, q⟩ := h; rfl
  · obtain ⟨a, n, r, rfl, ⟨xs, h1, h2, h3⟩, hn, hs, q⟩ := h
    have nd := sc_whole_row.nd
    refine ⟨_, (pss_cons (ps_set (i := 1) nd rfl (by first | exact Or.inl rfl | exact Or.inr rfl) pe_int)
      (pss_cons (ps_for PassesOwn.never rfl (pi_listK (K := K) (pv 0)) (pg_name (i := 2) nd rfl (by first | exact Or.inl rfl | exact Or.inr rfl)) (pss_one (ps_set (i := 1) nd rfl (by first | exact Or.inl rfl | exact Or.inr rfl) (pe_op op_fdivZ (pe_op op_mulX (pv 1) (pe_ix (ix_tupK (K := K)) (pv 2) pe_int (fun _ _ => rfl))) (pe_has h_divisor (hr.mono (by decide)) (pa_cons (pv 1) (pa_cons (pe_ix (ix_tupK (K := K)) (pv 2) pe_int (fun _ _ => rfl)) pa_nil)))))))
      (pss_one (ps_ret (pe_tup (pa_cons (pe_lc (own := [("number", 2)]) (g := gName 2) (tt := tYes) rfl nd (pi_listK (K := K) (pv 0)) (blkOk_by (N := N_whole_row) (sc := (defScope (topS 25))) (by decide +kernel)) (fun _ _ _ _ _ => (pg_name (i := 2) nd rfl (by first | exact Or.inl rfl | exact Or.inr rfl))) (fun _ _ _ _ _ => pts_nil) (fun _ _ _ _ _ => (pe_op op_mulX (pe_ix (ix_tupK (K := K)) (pv 2) pe_int (fun _ _ => rfl)) (pe_op op_fdivZ (pv 1) (pe_ix (ix_tupK (K := K)) (pv 2) pe_int (fun _ _ => rfl)))))) (pa_cons (pv 1) pa_nil))))))), ?_⟩
    refine z_start (σ' := [some _, none, none]) (by rfl) ?_
    have m1 := sm1 (n := 1000000) (by decide)
    walk_at "zz"
    refine z_forL h1 (fun i σ H' => ∃ y : Option V, σ = [some (.ref a), some (.int 1), y] ∧ H' = H) ⟨none, rfl, rfl⟩ (fun i σ H' hP => ?_) (fun i x σ H' hx hP => ?_) (fun σ H' hP => ?_)
    · obtain ⟨y, rfl, rfl⟩ := hP
      exact h1
    · obtain ⟨y, rfl, rfl⟩ := hP
      obtain ⟨t, rfl, ht⟩ := h3 i x hx
      walk_at "zz"
      refine z_ixT ht (atI_nat (j := 1) rfl) ?_
      refine z_I (mul_ok m1 m1 (by decide)) ?_
      walk_at "zz"
      refine z_ixT ht (atI_nat (j := 1) rfl) ?_
      walk_at "zz"
      refine ⟨1, 1, rfl, ?_⟩
      refine z_I ⟨by decide, by decide +kernel⟩ ?_
      walk_at "zz"
      exact ⟨some (.ref t), rfl, rfl⟩
    · obtain ⟨y, rfl, rfl⟩ := hP
      walk_at "zz"
      refine z_mapL h1 (by omega) (fun i v H4 => Ci H4 v (r i)) (fun i v H H' e h => h) (fun D i x H2 ys hx s hD nD R hR => ?_) (fun D H2 ys s nD hD hl hy => ?_)
      · obtain ⟨t, rfl, ht⟩ := h3 i x hx
        have ht2 := s _ _ ht
        walk_at "zz"
        refine z_ixT ht2 (atI_nat (j := 0) rfl) ?_
        walk_at "zz"
        refine z_ixT ht2 (atI_nat (j := 1) rfl) ?_
        refine z_I ⟨by decide, by decide +kernel⟩ ?_
        refine z_I (mul_ok (hs i (by rw [← h2]; exact get_lt hx)) m1 (by decide)) ?_
        refine hR _ _ (Same.refl _) ?_
        show V.int (r i * Int.fdiv 1 1) = V.int (r i)
        rw [show Int.fdiv 1 1 = 1 from rfl, Int.mul_one]
      · walk_at "zz"
        refine ⟨by show 2 ≤ sizeLine; decide, fun p hp => ?_⟩
        have pD : D ≠ p := fun e => by rw [← e, hD] at hp; cases hp
        refine q p D _ (s.trans (same_upd hp)) upd_same nD ⟨ys, by rw [upd_ne pD]; exact hD, by rw [hl, h2], fun c v hv => hy c v hv⟩
def sp_whole_rows : Sp := fun vs H Q _ => ∃ (p : Addr) (m n : Nat) (A : Nat → Nat → Int), vs = [.ref p] ∧ Mt Fz H p m n A ∧ m ≤ 7 ∧ n ≤ 7 ∧ (∀ i < m, ∀ c < n, Sm 1000000 (A i c)) ∧
  ∀ t l H', Same H H' → H' t = some (.tup [.ref l, .int 1]) → Mt Ci H' l m n A → Q (.ref t) H'
abbrev N_whole_rows : List Str := ["table", "rows", "factor", "row", "whole"]
theorem sc_whole_rows : FnScope N_whole_rows ["table"] (defScope (topS 26)) := ⟨rfl, rfl, rfl, by decide +kernel, rfl, by decide +kernel, by decide +kernel⟩
/-- whole_rows: 0 table, 1 rows, 2 factor, 3 row, 4 whole -/
theorem ok_whole_rows {P : Program} {w : World} {K : PySem.W.Frag} {mg : Str → Option Value} {base : Heap} (W : Wd K mg) (h_whole_row : Has P w K mg base "whole_row" 2 ["row"] sp_whole_row) : Has P w K mg base "whole_rows" 3 ["table"] sp_whole_rows := by
  refine has_of W 14 26 rfl rfl sc_whole_rows (fun _ _ _ _ _ _ us hl => match us, hl with | [_], _ => rfl) (fun vs H Q E h => ?_) (fun f cdv A outer s H vs Q E hr h => ?_)
  · obtain ⟨p, m, n, A, rfl, ⟨as, h1, h2, h3⟩, hm, hn, hs, q⟩ := h; rfl
  · obtain ⟨p, m, n, A, rfl, ⟨as, h1, h2, h3⟩, hm, hn, hs, q⟩ := h
    have nd := sc_whole_rows.nd
    refine ⟨_, (pss_cons (ps_set (i := 1) nd rfl (by first | exact Or.inl rfl | exact Or.inr rfl) (pe_lst pa_nil))
      (pss_cons (ps_set (i := 2) nd rfl (by first | exact Or.inl rfl | exact Or.inr rfl) pe_int)
      (pss_cons (ps_for PassesOwn.never rfl (pi_listK (K := K) (pv 0)) (pg_name (i := 3) nd rfl (by first | exact Or.inl rfl | exact Or.inr rfl)) (pss_cons (ps_set (i := 4) nd rfl (by first | exact Or.inl rfl | exact Or.inr rfl) (pe_has h_whole_row (hr.mono (by decide)) (pa_cons (pv 3) pa_nil)))
      (pss_cons (ps_expr (pe_bm PySem.F.plainAttrs_list PySem.F.slot_list_append PySem.F.type_list_append mt_append (pv 1) (pa_cons (pe_ix (ix_tupK (K := K)) (pv 4) pe_int (fun _ _ => rfl)) pa_nil)))
      (pss_one (ps_set (i := 2) nd rfl (by first | exact Or.inl rfl | exact Or.inr rfl) (pe_op op_mulX (pv 2) (pe_ix (ix_tupK (K := K)) (pv 4) pe_int (fun _ _ => rfl))))))))
      (pss_one (ps_ret (pe_tup (pa_cons (pv 1) (pa_cons (pv 2) pa_nil)))))))), ?_⟩
    refine z_start (σ' := [some _, none, none, none, none]) (by rfl) ?_
    have m1 := sm1 (n := 1000000) (by decide)
    walk_at "zz"
    refine ⟨by show 0 ≤ sizeLine; exact Nat.zero_le _, fun D nD => ?_⟩
    walk_at "zz"
    refine z_forL (xs := as.map V.ref) (same_upd nD _ _ h1) (fun i σ H' => ∃ (y z : Option V) (bs : List Addr), σ = [some (.ref p), some (.ref D), some (.int 1), y, z] ∧ Same H H' ∧ H' D = some (.lst (bs.map V.ref)) ∧ bs.length = i ∧ ∀ j b, bs[j]? = some b → b ≠ D ∧ Rw Ci H' b n (A j))
      ⟨none, none, [], rfl, same_upd nD, upd_same, rfl, fun j b e => by simp at e⟩ (fun i σ H' hP => ?_) (fun i x σ H' hx hP => ?_) (fun σ H' hP => ?_)
    · obtain ⟨y, z, bs, rfl, s, hD, hl, hb⟩ := hP
      exact s _ _ h1
    · obtain ⟨y, z, bs, rfl, s, hD, hl, hb⟩ := hP
      obtain ⟨a, ha, rfl⟩ := ref_of hx
      have hi : i < m := by rw [← h2]; exact get_lt ha
      walk_at "zz"
      refine ⟨a, n, A i, rfl, (h3 i a ha).up Fz.ups s, hn, fun c hc => hs i hi c hc, fun t l H4 s4 ht nl hr4 => ?_⟩
      have hD4 := s4 _ _ hD
      have lD : l ≠ D := fun e => by rw [e, hD] at nl; cases nl
      walk_at "zz"
      refine z_tyL hD4 ?_
      walk_at "zz"
      refine z_ixT ht (atI_nat (j := 0) rfl) ?_
      walk_at "zz"
      refine z_append hD4 (by simp [hl]; omega) ?_
      walk_at "zz"
      have tD : t ≠ D := fun e => by rw [e, hD4] at ht; cases ht
      have ht' : (upd H4 D (.lst (bs.map V.ref ++ [V.ref l]))) t = some (.tup [.ref l, .int 1]) := by rw [upd_ne tD]; exact ht
      refine z_ixT ht' (atI_nat (j := 1) rfl) ?_
      refine z_I (mul_ok m1 m1 (by decide)) ?_
      walk_at "zz"
      refine ⟨_, _, bs ++ [l], rfl, same_mut (s.trans s4) nD, by rw [upd_same]; simp, by simp [hl], fun j b hj => ?_⟩
      by_cases hjl : j < bs.length
      · rw [List.getElem?_append_left hjl] at hj
        obtain ⟨b1, b2⟩ := hb j b hj
        exact ⟨b1, (b2.up Ci.up s4).fr Ci.fr b1 hD4⟩
      · have hlt := get_lt hj
        rw [List.length_append, List.length_singleton] at hlt
        have ej : j = i := by omega
        rw [List.getElem?_append_right (by omega), ej, hl, Nat.sub_self] at hj
        have eb := Option.some.inj hj
        subst eb
        rw [ej]
        exact ⟨lD, hr4.fr Ci.fr lD hD4⟩
    · obtain ⟨y, z, bs, rfl, s, hD, hl, hb⟩ := hP
      walk_at "zz"
      refine ⟨by show 2 ≤ sizeLine; decide, fun t ht => ?_⟩
      have tD : D ≠ t := fun e => by rw [← e, hD] at ht; cases ht
      refine q t D _ (s.trans (same_upd ht)) upd_same ⟨bs, by rw [upd_ne tD]; exact hD, by rw [hl]; simp [h2], fun j b hj => ?_⟩
      exact (hb j b hj).2.up Ci.up (same_upd ht)
def sp_lead_row : Sp := fun vs H Q _ => ∃ (p : Addr) (n k : Nat) (R : Nat → Nat → Int), vs = [.ref p, .int (k : Nat)] ∧ Mt Ci H p n n R ∧ n ≤ 7 ∧ k < n ∧
  (∀ i : Nat, k ≤ i → i < n → R i k ≠ 0 → Q (.int (i : Nat)) H) ∧ ((∀ i, k ≤ i → i < n → R i k = 0) → Q .non H)
abbrev N_lead_row : List Str := ["rows", "k", "i"]
theorem sc_lead_row : FnScope N_lead_row ["rows", "k"] (defScope (topS 27)) := ⟨rfl, rfl, rfl, by decide +kernel, rfl, by decide +kernel, by decide +kernel⟩
/-- lead_row: 0 rows, 1 k, 2 i -/
theorem ok_lead_row {P : Program} {w : World} {K : PySem.W.Frag} {mg : Str → Option Value} {base : Heap} (W : Wd K mg)  : Has P w K mg base "lead_row" 1 ["rows", "k"] sp_lead_row := by
  have f_len : mg "len" = none := W.free 54 "len" rfl
  have f_range : mg "range" = none := W.free 56 "range" rfl
  refine has_of W 15 27 rfl rfl sc_lead_row (fun _ _ _ _ _ _ us hl => match us, hl with | [_, _], _ => rfl) (fun vs H Q E h => ?_) (fun f cdv A outer s H vs Q E hr h => ?_)
  · obtain ⟨p, n, k, R, rfl, hM, hn, hk, q1, q2⟩ := h; rfl
  · obtain ⟨p, n, k, R, rfl, hM, hn, hk, q1, q2⟩ := h
    have nd := sc_lead_row.nd
    refine ⟨_, (pss_cons (ps_for PassesOwn.never rfl (pi_range2 rfl f_range (pa_cons (pv 1) (pa_cons (pe_callB (call_lenK (K := K)) (by rfl) f_len PySem.boot_len (pa_cons (pv 0) pa_nil)) pa_nil))) (pg_name (i := 2) nd rfl (by first | exact Or.inl rfl | exact Or.inr rfl)) (pss_one (ps_if (pt_cmpR op_ne (pe_ix (ix_listK (K := K)) (pe_ix (ix_listK (K := K)) (pv 0) (pv 2) (fun _ _ => rfl)) (pv 1) (fun _ _ => rfl)) pe_int (nomark _)) (pss_one (ps_ret (pv 2))) pss_nil)))
      (pss_one (ps_ret pe_non))), ?_⟩
    refine z_start (σ' := [some _, some _, none]) (by rfl) ?_
    walk_at "zz"
    refine z_lenM hM ?_
    walk_at "zz"
    refine z_rng2 rfl rfl (by omega) (by omega) ?_
    refine z_forR (fun i σ H' => ∃ y : Option V, σ = [some (.ref p), some (.int (k : Nat)), y] ∧ H' = H ∧ ∀ j, k ≤ j → j < k + i → R j k = 0) ⟨none, rfl, rfl, fun j h1 h2 => by omega⟩ (fun i σ H' hi hP => ?_) (fun σ H' hP => ?_)
    · obtain ⟨y, rfl, rfl, h0⟩ := hP
      have e : (k : Int) + (i : Nat) = ((k + i : Nat) : Int) := by omega
      walk_at "zz"
      rw [e]
      refine z_ixM (k + i) hM (by omega) fun a ha => ?_
      walk_at "zz"
      refine z_ixI k ha (by omega) ?_
      walk_at "zz"
      refine z_it2 (fun h => ?_) (fun h => ?_)
      · walk_at "zz"
        exact q1 (k + i) (by omega) (by omega) h
      · walk_at "zz"
        refine ⟨_, rfl, rfl, fun j h1 h2 => ?_⟩
        by_cases e2 : j = k + i
        · subst e2
          by_cases z : R (k + i) k = 0
          · exact z
          · exact absurd z h
        · exact h0 j h1 (by omega)
    · obtain ⟨y, rfl, rfl, h0⟩ := hP
      walk_at "zz"
      exact q2 fun i h1 h2 => h0 i h1 (by omega)
def bb : Nat → Nat
  | 0 => 25
  | t + 1 => 2 * bb t + 1
theorem bb_le : ∀ t, t ≤ 7 → bb t ≤ 4000 := by decide
theorem Sm.mono {a b : Nat} {z : Int} (h : Sm a z) (hab : a ≤ b) : Sm b z := Nat.lt_of_lt_of_le h (Nat.pow_le_pow_right (by decide) hab)
theorem log_of {b : Nat} {z : Int} (h : Sm b z) (hb : b ≤ 8999) : z.natAbs.log2 < 9000 := PySem.Flt.log2_lt_of (by decide) (h.mono (by omega : b ≤ 9000))
theorem sm_elim {b : Nat} {x y z w l : Int} (hx : Sm b x) (hy : Sm b y) (hz : Sm b z) (hw : Sm b w) : Sm (2 * b + 1) ((x * y - z * w).fdiv l) := by
  have h1 : (x * y).natAbs < 2 ^ (b + b) := by
    rw [Int.natAbs_mul, Nat.pow_add]; exact Nat.mul_lt_mul'' hx hy
  have h2 : (z * w).natAbs < 2 ^ (b + b) := by
    rw [Int.natAbs_mul, Nat.pow_add]; exact Nat.mul_lt_mul'' hz hw
  have h3 := Int.natAbs_fdiv_le_natAbs (x * y - z * w) l
  show _ < 2 ^ (2 * b + 1)
  have h4 : 2 ^ (2 * b + 1) = 2 ^ (b + b) + 2 ^ (b + b) := by rw [show 2 * b + 1 = (b + b) + 1 by omega, Nat.pow_succ]; omega
  omega
/-- a turn's table, the rows ahead of i0 and of row i0 the columns ahead of j0 done -/
def elmP (R : Nat → Nat → Int) (k : Nat) (last : Int) (i0 j0 : Nat) : Nat → Nat → Int := fun i j => if k < i ∧ k < j ∧ (i < i0 ∨ (i = i0 ∧ j < j0)) then (R i j * R k k - R i k * R k j).fdiv last else R i j
theorem at_last {xs : List V} {v : V} (h : xs[xs.length - 1]? = some v) : atI xs (-1) = some v := by
  have hl := get_lt h
  unfold atI ixN
  rw [if_neg (by decide), if_pos (by omega)]
  show xs[(-1 + (xs.length : Int)).toNat]? = some v
  rw [show (-1 + (xs.length : Int)).toNat = xs.length - 1 by omega]
  exact h
theorem z_setL {p : Addr} {xs : List V} {c : Nat} {v : V} {H : Hp} {R : Hp → Prop} (h : H p = some (.lst xs)) (hc : c < xs.length) (q : R (upd H p (.lst (xs.set c v)))) : rSetL (.ref p) (.int (c : Nat)) v H R :=
  ⟨p, xs, c, c, rfl, rfl, h, by unfold ixN; rw [if_pos (by omega), if_pos (by omega)]; rfl, q⟩
instance {σ : L2.St} {H : Hp} {v : V} {to ti : TE} {t : TSet} {R : L2.St → Hp → Prop} : ZS (gSub to ti t v σ H R) (to σ H fun o H1 => ti σ H1 fun i H2 => t o i v H2 fun H3 => R σ H3) := ⟨id⟩
/-- the rows' addresses, two of them changed -/
theorem Grid.swap {α : Type} {cell : Hp → V → α → Prop} (hf : CellF cell) {H0 H : Hp} {p : Addr} {as : List Addr} {m n i k : Nat} {ai ak : Addr} {M : Nat → Nat → α} (g : Grid cell H0 H p as m n M) (hi : as[i]? = some ai) (hk : as[k]? = some ak) :
    Grid cell H0 (upd H p (.lst (((as.set i ak).set k ai).map V.ref))) p ((as.set i ak).set k ai) m n (swp i k M) := by
  have li := get_lt hi
  have lk := get_lt hk
  have at' : ∀ x, ((as.set i ak).set k ai)[x]? = if x = k then some ai else if x = i then some ak else as[x]? := fun x => by
    rw [List.getElem?_set, List.getElem?_set, List.length_set]
    by_cases e : k = x
    · subst e; simp [lk]
    · rw [if_neg e, if_neg (show ¬ x = k from fun z => e z.symm)]
      by_cases e2 : i = x
      · subst e2; simp [li]
      · rw [if_neg e2, if_neg (show ¬ x = i from fun z => e2 z.symm)]
  have inj : ∀ (x y : Nat) (a : Addr), as[x]? = some a → as[y]? = some a → x = y := fun x y a h1 h2 => by
    obtain ⟨_, e1⟩ := List.getElem?_eq_some_iff.mp h1
    obtain ⟨_, e2⟩ := List.getElem?_eq_some_iff.mp h2
    exact (List.getElem_inj g.nd).mp (e1.trans e2.symm)
  have old : ∀ x a, ((as.set i ak).set k ai)[x]? = some a → ∃ y, as[y]? = some a ∧ (x = k ∧ y = i ∨ x ≠ k ∧ x = i ∧ y = k ∨ x ≠ k ∧ x ≠ i ∧ y = x) := fun x a h => by
    rw [at'] at h
    by_cases e : x = k
    · rw [if_pos e] at h; exact ⟨i, by rw [hi]; exact h, .inl ⟨e, rfl⟩⟩
    · rw [if_neg e] at h
      by_cases e2 : x = i
      · rw [if_pos e2] at h; exact ⟨k, by rw [hk]; exact h, .inr (.inl ⟨e, e2, rfl⟩)⟩
      · rw [if_neg e2] at h; exact ⟨x, h, .inr (.inr ⟨e, e2, rfl⟩)⟩
  have mem : ∀ a ∈ (as.set i ak).set k ai, a ∈ as := fun a ha => by
    obtain ⟨x, hx⟩ := List.getElem?_of_mem ha
    obtain ⟨y, hy, _⟩ := old x a hx
    exact List.mem_of_getElem? hy
  refine ⟨same_mut g.same g.newp, g.newp, upd_same, by simp [g.len], ?_, fun h => g.np (mem _ h), fun a ha => g.newa a (mem a ha), fun x a hx => ?_⟩
  · rw [List.nodup_iff_pairwise_ne, List.pairwise_iff_getElem]
    intro x y hx hy hxy e
    obtain ⟨y1, h1, c1⟩ := old x _ (List.getElem?_eq_getElem hx)
    obtain ⟨y2, h2, c2⟩ := old y _ (List.getElem?_eq_getElem hy)
    rw [← e] at h2
    have := inj _ _ _ h1 h2
    omega
  · obtain ⟨y, hy, c⟩ := old x a hx
    have r := g.row y a hy
    have na : a ≠ p := fun e => g.np (by rw [← e]; exact List.mem_of_getElem? hy)
    have r' := r.fr (vs := ((as.set i ak).set k ai).map V.ref) hf na g.lst
    have e : swp i k M x = M y := by
      unfold swp
      rcases c with ⟨c1, c2⟩ | ⟨c1, c2, c3⟩ | ⟨c1, c2, c3⟩
      · by_cases z : x = i
        · rw [if_pos z, c2, ← z, c1]
        · rw [if_neg z, if_pos c1, c2]
      · rw [if_pos c2, c3]
      · rw [if_neg c2, if_neg c1, c3]
    rw [e]; exact r'
def sp_whole_determinant : Sp := fun vs H Q _ => ∃ (p : Addr) (n : Nat) (A : Nat → Nat → Int), vs = [.ref p] ∧ Mt Ci H p n n A ∧ 1 ≤ n ∧ n ≤ 7 ∧ (∀ i < n, ∀ c < n, Sm 25 (A i c)) ∧
  ∀ d H', Same H H' → (d = 0 ↔ det (rl A n) (cl n) = 0) → Q (.int d) H'
abbrev N_whole_determinant : List Str := ["rows", "sign", "last", "k", "i", "row", "j"]
theorem sc_whole_determinant : FnScope N_whole_determinant ["rows"] (defScope (topS 28)) := ⟨rfl, rfl, rfl, by decide +kernel, rfl, by decide +kernel, by decide +kernel⟩
/-- whole_determinant: 0 rows, 1 sign, 2 last, 3 k, 4 i, 5 row, 6 j -/
theorem ok_whole_determinant {P : Program} {w : World} {K : PySem.W.Frag} {mg : Str → Option Value} {base : Heap} (W : Wd K mg) (h_lead_row : Has P w K mg base "lead_row" 1 ["rows", "k"] sp_lead_row) : Has P w K mg base "whole_determinant" 2 ["rows"] sp_whole_determinant := by
  have f_len : mg "len" = none := W.free 54 "len" rfl
  have f_list : mg "list" = none := W.free 55 "list" rfl
  have f_range : mg "range" = none := W.free 56 "range" rfl
  refine has_of W 16 28 rfl rfl sc_whole_determinant (fun _ _ _ _ _ _ us hl => match us, hl with | [_], _ => rfl) (fun vs H Q E h => ?_) (fun f cdv A outer s H vs Q E hr h => ?_)
  · obtain ⟨p, n, A, rfl, ⟨as, h1, h2, h3⟩, hn1, hn, hs, q⟩ := h; rfl
  · obtain ⟨p, n, A, rfl, ⟨as, h1, h2, h3⟩, hn1, hn, hs, q⟩ := h
    have nd := sc_whole_determinant.nd
    refine ⟨_, (pss_cons (ps_setLc (i := 0) (own := [("row", 5)]) (g := gName 5) (tt := tYes) rfl nd rfl rfl (sw_true rfl rfl rfl (by decide +kernel)) (pi_listK (K := K) (pv 0)) (blkOk_by (N := N_whole_determinant) (sc := (defScope (topS 28))) (by decide +kernel)) (fun _ _ _ _ _ => (pg_name (i := 5) nd rfl (by first | exact Or.inl rfl | exact Or.inr rfl))) (fun _ _ _ _ _ => pts_nil) (fun _ _ _ _ _ => (pe_callTy (call_listK (K := K)) (by rfl) f_list (by decide +kernel) (pa_cons (pv 5) pa_nil))))
      (pss_cons (ps_set (i := 1) nd rfl (by first | exact Or.inl rfl | exact Or.inr rfl) pe_int)
      (pss_cons (ps_set (i := 2) nd rfl (by first | exact Or.inl rfl | exact Or.inr rfl) pe_int)
      (pss_cons (ps_for PassesOwn.never rfl (pi_range1 rfl f_range (pa_cons (pe_op op_sub (pe_callB (call_lenK (K := K)) (by rfl) f_len PySem.boot_len (pa_cons (pv 0) pa_nil)) pe_int) pa_nil)) (pg_name (i := 3) nd rfl (by first | exact Or.inl rfl | exact Or.inr rfl)) (pss_cons (ps_set (i := 4) nd rfl (by first | exact Or.inl rfl | exact Or.inr rfl) (pe_has h_lead_row (hr.mono (by decide)) (pa_cons (pv 0) (pa_cons (pv 3) pa_nil))))
      (pss_cons (ps_if (pt_cmpR op_isN (pv 4) pe_non (nomark _)) (pss_one (ps_ret pe_int)) pss_nil)
      (Evl.pss_cut (ps_if (pt_cmpR op_gt (pv 4) (pv 3) (nomark _)) (pss_cons (ps_asg (pe_tup (pa_cons (pe_ix (ix_listK (K := K)) (pv 0) (pv 3) (fun _ _ => rfl)) (pa_cons (pe_ix (ix_listK (K := K)) (pv 0) (pv 4) (fun _ _ => rfl)) pa_nil))) (pg_tup (n := 2) rfl (pgs_cons (pg_sub (pv 0) (pv 4) set_list) (pgs_cons (pg_sub (pv 0) (pv 3) set_list) pgs_nil))))
      (pss_one (ps_set (i := 1) nd rfl (by first | exact Or.inl rfl | exact Or.inr rfl) (pe_un un_neg (pv 1))))) pss_nil)
      (pss_cons (ps_for PassesOwn.never rfl (pi_listK (K := K) (pe_slice (sl_listK (K := K)) (pv 0) (po_some (pe_op op_add (pv 3) pe_int)) po_none)) (pg_name (i := 5) nd rfl (by first | exact Or.inl rfl | exact Or.inr rfl)) (pss_one (ps_for PassesOwn.never rfl (pi_range2 rfl f_range (pa_cons (pe_op op_add (pv 3) pe_int) (pa_cons (pe_callB (call_lenK (K := K)) (by rfl) f_len PySem.boot_len (pa_cons (pv 0) pa_nil)) pa_nil))) (pg_name (i := 6) nd rfl (by first | exact Or.inl rfl | exact Or.inr rfl)) (pss_one (ps_asg (pe_op op_fdivZ (pe_op op_sub (pe_op op_mulX (pe_ix (ix_listK (K := K)) (pv 5) (pv 6) (fun _ _ => rfl)) (pe_ix (ix_listK (K := K)) (pe_ix (ix_listK (K := K)) (pv 0) (pv 3) (fun _ _ => rfl)) (pv 3) (fun _ _ => rfl))) (pe_op op_mulX (pe_ix (ix_listK (K := K)) (pv 5) (pv 3) (fun _ _ => rfl)) (pe_ix (ix_listK (K := K)) (pe_ix (ix_listK (K := K)) (pv 0) (pv 3) (fun _ _ => rfl)) (pv 6) (fun _ _ => rfl)))) (pv 2)) (pg_sub (pv 5) (pv 6) set_list))))))
      (pss_one (ps_set (i := 2) nd rfl (by first | exact Or.inl rfl | exact Or.inr rfl) (pe_ix (ix_listK (K := K)) (pe_ix (ix_listK (K := K)) (pv 0) (pv 3) (fun _ _ => rfl)) (pv 3) (fun _ _ => rfl)))))))))
      (pss_one (ps_ret (pe_op op_mulX (pv 1) (pe_ix (ix_listK (K := K)) (pe_ix (ix_listK (K := K)) (pv 0) (pe_un un_neg pe_int) (fun _ _ => rfl)) (pe_un un_neg pe_int) (fun _ _ => rfl))))))))), ?_⟩
    refine z_start (σ' := [some _, none, none, none, none, none, none]) (by rfl) ?_
    walk_at "zz"
    refine z_mapN h1 (by simp; omega) (fun i a H4 => Rw Ci H4 a n (A i)) (fun i a H H' e h => h.up Ci.up e) (fun D i x H2 ys hx s hD nD R hR => ?_) (fun D H2 bs s nD hD hl nd np na hb => ?_)
    · obtain ⟨a, ha, rfl⟩ := ref_of hx
      obtain ⟨vs, k1, k2, k3⟩ := h3 i a ha
      walk_at "zz"
      refine ⟨a, vs, rfl, .inl (SqL.of (s _ _ k1)), fun l nl => ?_⟩
      refine hR l _ (same_upd nl) nl (by rw [upd_same]; exact fun z => by cases z) ?_
      have lD : l ≠ D := fun e => by rw [e, hD] at nl; cases nl
      exact ⟨vs, by rw [hide_ne lD, upd_same], k2, k3⟩
    · have g : Grid Ci H H2 D bs n n A := grid_of Ci.up s nD hD (by rw [hl]; simp [h2]) nd np na hb
      clear hl nd np na hb hD nD s
      walk_at "zz"
      refine z_lenM g.mt ?_
      walk_at "zz"
      refine z_rng1 (n := n - 1) (by omega) (by omega) ?_
      refine z_forR (fun t σ H' => ∃ (as : List Addr) (R : Nat → Nat → Int) (sg last : Int) (y3 y4 y5 y6 : Option V), σ = [some (.ref D), some (.int sg), some (.int last), y3, y4, y5, y6] ∧ Grid Ci H H' D as n n R ∧ Bi A n t R last ∧ (sg = 1 ∨ sg = -1) ∧ (∀ i < n, ∀ c < n, Sm (bb t) (R i c)) ∧ Sm (bb t) last)
        ⟨bs, A, 1, 1, none, none, none, none, rfl, g, Bi.start A n, .inl rfl, hs, sm1 (by decide)⟩ (fun t σ H3 ht hP => ?_) (fun σ H3 hP => ?_)
      · obtain ⟨as, R, sg, last, y3, y4, y5, y6, rfl, g, hB, hsg, hsz, hla⟩ := hP
        walk_at "zz"
        refine ⟨D, n, t, R, by simp, g.mt, hn, by omega, fun i hi1 hi2 hi3 => ?_, fun h0 => ?_⟩
        · walk_at "zz"
          refine z_itF (by simp) ?_
          walk_at "zz"
          refine z_cut (fun σ' H' => ∃ (as' : List Addr) (sg' : Int), σ' = [some (.ref D), some (.int sg'), some (.int last), some (.int (0 + (t : Nat))), some (.int (i : Nat)), y5, y6] ∧ Grid Ci H H' D as' n n (swp i t R) ∧ (sg' = 1 ∨ sg' = -1)) ?_ ?_
          · obtain ⟨at_, hat⟩ := get_of_lt (l := as) (i := t) (by rw [g.len]; omega)
            obtain ⟨ai, hai⟩ := get_of_lt (l := as) (i := i) (by rw [g.len]; omega)
            have e0 : (0 : Int) + (t : Nat) = ((t : Nat) : Int) := by omega
            walk_at "zz"
            refine z_it2 (fun hgt => ?_) (fun hgt => ?_)
            · walk_at "zz"
              rw [e0]
              refine z_ixL g.lst (atI_nat (j := t) (ref_at hat)) ?_
              walk_at "zz"
              refine z_ixL g.lst (atI_nat (j := i) (ref_at hai)) ?_
              walk_at "zz"
              refine ⟨by show 2 ≤ sizeLine; decide, fun T nT => ?_⟩
              have g2 := g.up Ci.up (same_upd (o := .tup [.ref at_, .ref ai]) nT)
              have g3 := g2.swap Ci.fr hai hat
              refine z_gtup upd_same rfl ?_
              walk_at "zz"
              refine z_setL g2.lst (by rw [List.length_map, g.len]; omega) ?_
              walk_at "zz"
              refine z_setL (xs := (as.map V.ref).set i (.ref at_)) upd_same (by rw [List.length_set, List.length_map, g.len]; omega) ?_
              walk_at "zz"
              refine ⟨(as.set i at_).set t ai, -sg, rfl, ?_, by omega⟩
              rw [upd_upd]
              have e4 : (((as.map V.ref).set i (.ref at_)).set t (.ref ai)) = ((as.set i at_).set t ai).map V.ref := by
                rw [List.map_set, List.map_set]
              rw [e4]
              exact g3
            · walk_at "zz"
              have eit : i = t := by omega
              subst eit
              refine ⟨as, sg, rfl, g.cong fun a _ c _ => ?_, hsg⟩
              unfold swp
              by_cases z : a = i
              · rw [if_pos z, z]
              · rw [if_neg z, if_neg z]
          · clear g
            rintro σ' H4 ⟨as2, sg2, rfl, g, hsg2⟩
            have hB2 := hB.swap hi1 hi2
            have hp : swp i t R t t ≠ 0 := by
              unfold swp
              by_cases z : t = i
              · rw [if_pos z]; rw [← z] at hi3; exact hi3
              · rw [if_neg z, if_pos rfl]; exact hi3
            have hsz2 : ∀ a < n, ∀ c < n, Sm (bb t) (swp i t R a c) := fun a ha c hc => by
              unfold swp
              split
              · exact hsz t (by omega) c hc
              · split
                · exact hsz i hi2 c hc
                · exact hsz a ha c hc
            clear hB hsz hi3 hsg
            generalize swp i t R = S at g hB2 hp hsz2
            have e0 : (0 : Int) + (t : Nat) = ((t : Nat) : Int) := by omega
            have e1 : ((t : Nat) : Int) + 1 = ((t + 1 : Nat) : Int) := by omega
            have hla0 : last ≠ 0 := hB2.last_ne
            have hlg : last.natAbs.log2 < 9000 := log_of hla (by have := bb_le t (by omega); omega)
            walk_at "zz"
            rw [e0, e1]
            refine z_slice g.lst fun E1 nE => ?_
            rw [cut_from _ _ (by rw [List.length_map, g.len]; omega)]
            have gE := g.up Ci.up (same_upd (o := .lst ((as2.map V.ref).drop (t + 1))) nE)
            walk_at "zz"
            refine z_forL (xs := (as2.map V.ref).drop (t + 1)) upd_same (fun t2 σ H' => ∃ (y5 y6 : Option V), σ = [some (.ref D), some (.int sg2), some (.int last), some (.int (t : Nat)), some (.int (i : Nat)), y5, y6] ∧ Grid Ci H H' D as2 n n (elmP S t last (t + 1 + t2) 0) ∧ H' E1 = some (.lst ((as2.map V.ref).drop (t + 1))) ∧ E1 ∉ as2)
              ⟨y5, y6, rfl, gE.cong fun a _ c _ => ?_, upd_same, fun h => ?_⟩ (fun t2 σ H' hP => ?_) (fun t2 x σ H' hx hP => ?_) (fun σ H' hP => ?_)
            · unfold elmP
              rw [if_neg (by omega)]
            · obtain ⟨x, hx⟩ := List.getElem?_of_mem h
              obtain ⟨vs, k1, _⟩ := g.row x E1 hx
              rw [k1] at nE; cases nE
            · obtain ⟨y5, y6, rfl, g, hE, nE2⟩ := hP
              exact hE
            · obtain ⟨y5, y6, rfl, g, hE, nE2⟩ := hP
              have hlt := get_lt hx
              rw [List.length_drop, List.length_map, g.len] at hlt
              rw [List.getElem?_drop] at hx
              obtain ⟨ar, har, rfl⟩ := ref_of hx
              have narE : ar ≠ E1 := fun e => nE2 (by rw [← e]; exact List.mem_of_getElem? har)
              obtain ⟨at2, hat2⟩ := get_of_lt (l := as2) (i := t) (by rw [g.len]; omega)
              walk_at "zz"
              rw [e1]
              refine z_lenM g.mt ?_
              walk_at "zz"
              refine z_rng2 rfl rfl (by omega) (by omega) ?_
              refine z_forR (fun t3 σ H' => ∃ (y6 : Option V), σ = [some (.ref D), some (.int sg2), some (.int last), some (.int (t : Nat)), some (.int (i : Nat)), some (.ref ar), y6] ∧ Grid Ci H H' D as2 n n (elmP S t last (t + 1 + t2) (t + 1 + t3)) ∧ H' E1 = some (.lst ((as2.map V.ref).drop (t + 1))))
                ⟨y6, rfl, g.cong fun a _ c _ => ?_, hE⟩ (fun t3 σ H' ht3 hP => ?_) (fun σ H' hP => ?_)
              · unfold elmP
                by_cases c1 : t < a ∧ t < c ∧ (a < t + 1 + t2 ∨ (a = t + 1 + t2 ∧ c < 0))
                · rw [if_pos c1, if_pos (by omega)]
                · rw [if_neg c1, if_neg (by omega)]
              · obtain ⟨y6, rfl, g, hE⟩ := hP
                have er := g.row _ _ har
                have ek := g.row _ _ hat2
                have e3 : ((t + 1 : Nat) : Int) + (t3 : Nat) = ((t + 1 + t3 : Nat) : Int) := by omega
                have v1 : elmP S t last (t + 1 + t2) (t + 1 + t3) (t + 1 + t2) (t + 1 + t3) = S (t + 1 + t2) (t + 1 + t3) := by unfold elmP; rw [if_neg (by omega)]
                have v2 : elmP S t last (t + 1 + t2) (t + 1 + t3) t t = S t t := by unfold elmP; rw [if_neg (by omega)]
                have v3 : elmP S t last (t + 1 + t2) (t + 1 + t3) (t + 1 + t2) t = S (t + 1 + t2) t := by unfold elmP; rw [if_neg (by omega)]
                have v4 : elmP S t last (t + 1 + t2) (t + 1 + t3) t (t + 1 + t3) = S t (t + 1 + t3) := by unfold elmP; rw [if_neg (by omega)]
                have b1 := (hsz2 (t + 1 + t2) (by omega) (t + 1 + t3) (by omega)).mono (bb_le t (by omega))
                have b2 := (hsz2 t (by omega) t (by omega)).mono (bb_le t (by omega))
                have b3 := (hsz2 (t + 1 + t2) (by omega) t (by omega)).mono (bb_le t (by omega))
                have b4 := (hsz2 t (by omega) (t + 1 + t3) (by omega)).mono (bb_le t (by omega))
                walk_at "zz"
                rw [e3]
                refine z_ixI (t + 1 + t3) er (by omega) ?_
                walk_at "zz"
                refine z_ixL g.lst (atI_nat (j := t) (ref_at hat2)) ?_
                walk_at "zz"
                refine z_ixI t ek (by omega) ?_
                rw [v1, v2]
                refine z_I (mul_ok b1 b2 (by decide)) ?_
                walk_at "zz"
                refine z_ixI t er (by omega) ?_
                walk_at "zz"
                refine z_ixL g.lst (atI_nat (j := t) (ref_at hat2)) ?_
                walk_at "zz"
                refine z_ixI (t + 1 + t3) ek (by omega) ?_
                rw [v3, v4]
                refine z_I (mul_ok b3 b4 (by decide)) ?_
                walk_at "zz"
                refine z_I ⟨hla0, hlg⟩ ?_
                walk_at "zz"
                obtain ⟨ws, w1, w2, w3⟩ := er
                refine z_setL w1 (by rw [w2]; omega) ?_
                walk_at "zz"
                refine ⟨_, rfl, (g.set Ci.fr har w1 (x := (S (t + 1 + t2) (t + 1 + t3) * S t t - S (t + 1 + t2) t * S t (t + 1 + t3)).fdiv last) rfl).cong fun a _ c _ => ?_, by rw [upd_ne narE.symm]; exact hE⟩
                unfold put2 elmP
                by_cases c1 : a = t + 1 + t2 ∧ c = t + 1 + t3
                · obtain ⟨rfl, rfl⟩ := c1
                  rw [if_pos ⟨rfl, rfl⟩, if_pos (by omega)]
                · rw [if_neg c1]
                  by_cases c2 : t < a ∧ t < c ∧ (a < t + 1 + t2 ∨ (a = t + 1 + t2 ∧ c < t + 1 + t3))
                  · rw [if_pos c2, if_pos (by omega)]
                  · rw [if_neg c2, if_neg (by omega)]
              · obtain ⟨y6, rfl, g, hE⟩ := hP
                walk_at "zz"
                refine ⟨_, _, rfl, g.cong fun a _ c hc => ?_, hE, nE2⟩
                unfold elmP
                by_cases c1 : t < a ∧ t < c ∧ (a < t + 1 + t2 ∨ (a = t + 1 + t2 ∧ c < t + 1 + (n - (t + 1))))
                · rw [if_pos c1, if_pos (by omega)]
                · rw [if_neg c1, if_neg (by omega)]
            · obtain ⟨y5, y6, rfl, g, hE, nE2⟩ := hP
              rw [List.length_drop, List.length_map, g.len] at g
              have g2 : Grid Ci H H' D as2 n n (elm S t last) := g.cong fun a ha c _ => by
                unfold elmP elm
                by_cases c1 : t < a ∧ t < c
                · rw [if_pos c1, if_pos (by omega)]
                · rw [if_neg c1, if_neg (by omega)]
              have v2 : elm S t last t t = S t t := by unfold elm; rw [if_neg (by omega)]
              obtain ⟨at2, hat2⟩ := get_of_lt (l := as2) (i := t) (by rw [g.len]; omega)
              walk_at "zz"
              refine z_ixL g2.lst (atI_nat (j := t) (ref_at hat2)) ?_
              walk_at "zz"
              refine z_ixI t (g2.row _ _ hat2) (by omega) ?_
              walk_at "zz"
              rw [v2]
              have stp : bb (t + 1) = 2 * bb t + 1 := rfl
              refine ⟨as2, _, sg2, _, _, _, _, _, rfl, g2, hB2.turn (by omega) hp, hsg2, fun a ha c hc => ?_, ?_⟩
              · rw [stp]
                unfold elm
                split
                · exact sm_elim (hsz2 _ ha _ hc) (hsz2 t (by omega) t (by omega)) (hsz2 _ ha t (by omega)) (hsz2 t (by omega) _ hc)
                · exact (hsz2 a ha c hc).mono (by omega)
              · rw [stp]
                exact (hsz2 t (by omega) t (by omega)).mono (by omega)
        · walk_at "zz"
          refine z_itT rfl ?_
          walk_at "zz"
          refine q 0 _ g.same ⟨fun _ => hB.none (by omega) h0, fun _ => rfl⟩
      · obtain ⟨as, R, sg, last, y3, y4, y5, y6, rfl, g, hB, hsg, hsz, hla⟩ := hP
        obtain ⟨m, rfl⟩ : ∃ m, n = m + 1 := ⟨n - 1, by omega⟩
        obtain ⟨bs2, a, e1, e2, ha, hr4⟩ := g.mt.get (i := m) (by omega)
        obtain ⟨ws, v, f1, f2, hv, hvr⟩ := hr4.get (c := m) (by omega)
        walk_at "zz"
        refine z_ixL e1 (at_last (by rw [List.length_map, e2]; exact ref_at ha)) ?_
        walk_at "zz"
        refine z_ixL f1 (at_last (by rw [f2]; exact hv)) ?_
        cases (hvr : v = .int (R m m))
        refine z_I (mul_ok (n := 4000) ?_ ((hsz m (by omega) m (by omega)).mono (bb_le _ (by omega))) (by decide)) ?_
        · rcases hsg with rfl | rfl <;> exact sm1 (by decide)
        · refine q _ _ g.same ?_
          have := hB.done
          rw [← this]
          rcases hsg with rfl | rfl <;> constructor <;> intro h <;> simp at h ⊢ <;> omega
end Smo

/-! Tables thickened: the closed form, and what all determinants of two tables of one staircase have in common. -/
namespace Smo
/-- one place -/
def stp (M : Nat → Nat → Rat) (j b : Nat) : Nat → Nat → Rat := fun i a => if M j b ≠ 0 ∧ i < j ∧ a < b then M i a + M i b * M j a / M j b else M i a
/-- behind k places, of n columns -/
def Th (n : Nat) (T : Nat → Nat → Rat) : Nat → Nat → Nat → Rat
  | 0 => T
  | k + 1 => stp (Th n T k) (k / n) (k % n)
/-- the sum of M b / t b over a < b < e -/
def sm (M t : Nat → Rat) (a : Nat) : Nat → Rat
  | 0 => 0
  | e + 1 => sm M t a e + (if a < e ∧ t e ≠ 0 then M e / t e else 0)
def ps (M t : Nat → Rat) (e a : Nat) : Rat := M a + t a * sm M t a e
theorem sm_no {M t : Nat → Rat} {a : Nat} : ∀ {e : Nat}, e ≤ a + 1 → sm M t a e = 0
  | 0, _ => rfl
  | e + 1, h => by
    unfold sm
    rw [sm_no (e := e) (by omega), if_neg (by omega)]; grind
theorem ps_no {M t : Nat → Rat} {a e : Nat} (h : e ≤ a + 1) : ps M t e a = M a := by
  unfold ps
  rw [sm_no h]; grind
/-- behind j rows -/
def Ck (n : Nat) (T : Nat → Nat → Rat) : Nat → Nat → Nat → Rat
  | 0 => T
  | j + 1 => fun i a => if i < j then ps (Ck n T j i) (T j) n a else Ck n T j i a
theorem Ck_succ {n j i a : Nat} {T : Nat → Nat → Rat} : Ck n T (j + 1) i a = if i < j then ps (Ck n T j i) (T j) n a else Ck n T j i a := rfl
theorem sm_succ {M t : Nat → Rat} {a e : Nat} : sm M t a (e + 1) = sm M t a e + (if a < e ∧ t e ≠ 0 then M e / t e else 0) := rfl
theorem Ck_out {n : Nat} {T : Nat → Nat → Rat} {i a : Nat} : ∀ {j : Nat}, j ≤ i → Ck n T j i a = T i a
  | 0, _ => rfl
  | j + 1, h => by
    unfold Ck
    rw [if_neg (by omega)]
    exact Ck_out (by omega)
theorem Th_form {n : Nat} (T : Nat → Nat → Rat) (j b : Nat) (hb : b ≤ n) (i a : Nat) (ha : a < n) : Th n T (j * n + b) i a = if i < j then ps (Ck n T j i) (T j) b a else T i a := by
  have hn : 0 < n := by omega
  induction j generalizing b i a with
  | zero =>
    induction b generalizing i a with
    | zero => rw [if_neg (by omega)]; simp [Th]
    | succ b ih =>
      rw [if_neg (by omega)]
      show stp (Th n T (0 * n + b)) ((0 * n + b) / n) ((0 * n + b) % n) i a = _
      have e1 : (0 * n + b) / n = 0 := by rw [Nat.zero_mul, Nat.zero_add]; exact Nat.div_eq_of_lt (by omega)
      rw [e1]
      unfold stp
      rw [if_neg (by omega), ih (by omega) i a ha, if_neg (by omega)]
  | succ j ihj =>
    induction b generalizing i a with
    | zero =>
      have := ihj n (Nat.le_refl _) i a ha
      rw [show (j + 1) * n + 0 = j * n + n by rw [Nat.add_mul, Nat.one_mul]; rfl, this]
      by_cases h : i < j
      · rw [if_pos h, if_pos (show i < j + 1 by omega), ps_no (e := 0) (by omega), Ck_succ, if_pos h]
      · rw [if_neg h]
        by_cases h2 : i < j + 1
        · rw [if_pos h2, ps_no (e := 0) (by omega), Ck_succ, if_neg h, Ck_out (by omega)]
        · rw [if_neg h2]
    | succ b ih =>
      show stp (Th n T ((j + 1) * n + b)) (((j + 1) * n + b) / n) (((j + 1) * n + b) % n) i a = _
      have e1 : ((j + 1) * n + b) / n = j + 1 := by
        rw [Nat.mul_comm, Nat.mul_add_div hn, Nat.div_eq_of_lt (by omega), Nat.add_zero]
      have e2 : ((j + 1) * n + b) % n = b := by
        rw [Nat.mul_comm, Nat.mul_add_mod, Nat.mod_eq_of_lt (by omega)]
      rw [e1, e2]
      have hij := ih (by omega) i a ha
      have hjb := ih (by omega) (j + 1) b (by omega)
      have hja := ih (by omega) (j + 1) a ha
      have hib := ih (by omega) i b (by omega)
      rw [if_neg (by omega)] at hjb hja
      unfold stp
      rw [hjb, hja, hib, hij]
      by_cases h : i < j + 1
      · rw [if_pos h, if_pos h, if_pos h]
        by_cases h2 : a < b
        · by_cases h3 : T (j + 1) b = 0
          · rw [if_neg (by simp [h3])]
            unfold ps
            rw [sm_succ, if_neg (by simp [h3])]; grind
          · rw [if_pos ⟨h3, h, h2⟩, ps_no (a := b) (by omega)]
            unfold ps
            rw [sm_succ, if_pos ⟨h2, h3⟩]
            grind
        · rw [if_neg (fun z => h2 z.2.2), ps_no (by omega), ps_no (by omega)]
      · rw [if_neg (fun z => h z.2.1), if_neg h, if_neg h]
/-- the whole table -/
theorem Th_all {m n : Nat} (T : Nat → Nat → Rat) {i a : Nat} (hi : i < m) (ha : a < n) : Th n T (m * n) i a = Ck n T m i a := by
  have := Th_form T m 0 (Nat.zero_le n) i a ha
  rw [if_pos hi, ps_no (by omega)] at this
  exact this
/-! ### what is alike -/
/-- both are nought or both are above -/
def Like (x y : Rat) : Prop := 0 ≤ x ∧ 0 ≤ y ∧ (x = 0 ↔ y = 0)
theorem Like.zero : Like 0 0 := ⟨Rat.le_refl, Rat.le_refl, Iff.rfl⟩
theorem Like.add {x y u v : Rat} (h : Like x y) (k : Like u v) : Like (x + u) (y + v) := by
  obtain ⟨a, b, c⟩ := h
  obtain ⟨d, e, f⟩ := k
  refine ⟨Rat.add_nonneg a d, Rat.add_nonneg b e, ?_⟩
  constructor
  · intro z
    have x0 : x = 0 := by grind
    have u0 : u = 0 := by grind
    rw [c.mp x0, f.mp u0]; grind
  · intro z
    have y0 : y = 0 := by grind
    have v0 : v = 0 := by grind
    rw [c.mpr y0, f.mpr v0]; grind
theorem Like.mul {x y s t : Rat} (hs : 0 < s) (ht : 0 < t) (h : Like x y) : Like (s * x) (t * y) := by
  obtain ⟨a, b, c⟩ := h
  refine ⟨Rat.mul_nonneg (Rat.le_of_lt hs) a, Rat.mul_nonneg (Rat.le_of_lt ht) b, ?_⟩
  constructor
  · intro z
    rcases Rat.mul_eq_zero.mp z with e | e
    · rw [e] at hs; exact absurd hs (Rat.lt_irrefl)
    · rw [c.mp e]; grind
  · intro z
    rcases Rat.mul_eq_zero.mp z with e | e
    · rw [e] at ht; exact absurd ht (Rat.lt_irrefl)
    · rw [c.mpr e]; grind
/-- falling lists -/
abbrev Fall (J : List Nat) : Prop := J.Pairwise (· > ·)
/-- all determinants of rows I (below m, falling) and falling columns are alike -/
def Alike (m : Nat) (A B : Nat → Nat → Rat) : Prop := ∀ I J : List Nat, Fall I → (∀ i ∈ I, i < m) → Fall J → Like (det (I.map A) J) (det (I.map B) J)
theorem map_colPut {a b : Nat} {t : Rat} {A A' : Nat → Nat → Rat} {I : List Nat} (h : ∀ i ∈ I, A' i = colPut a b t (A i)) : I.map A' = (I.map A).map (colPut a b t) := by
  rw [List.map_map]
  exact List.map_congr_left h
/-- a column put to another one, only columns of noughts between them -/
theorem Alike.col {m k s : Nat} {A B A' B' : Nat → Nat → Rat} {x y : Rat} (h : Alike m A B) (hks : k < s) (hx : 0 < x) (hy : 0 < y)
    (zA : ∀ i < m, ∀ c, k < c → c < s → A i c = 0) (zB : ∀ i < m, ∀ c, k < c → c < s → B i c = 0)
    (eA : ∀ i < m, A' i = colPut k s x (A i)) (eB : ∀ i < m, B' i = colPut k s y (B i)) : Alike m A' B' := fun I J hI hIm hJ => by
  rw [map_colPut fun i hi => eA i (hIm i hi), map_colPut fun i hi => eB i (hIm i hi)]
  by_cases hk : k ∈ J
  · obtain ⟨J1, J2, rfl⟩ := List.append_of_mem hk
    have hp := List.pairwise_append.mp hJ
    obtain ⟨p1, p2, p3⟩ := hp
    obtain ⟨p4, p5⟩ := List.pairwise_cons.mp p2
    have n1 : k ∉ J1 := fun hm => by
      have := p3 k hm k List.mem_cons_self
      omega
    have n2 : k ∉ J2 := fun hm => by
      have := p4 k hm
      omega
    rw [(det_col _).inn J1 J2 n1 n2, (det_col _).inn J1 J2 n1 n2]
    have h1 := h I (J1 ++ k :: J2) hI hIm hJ
    by_cases hs : s ∈ J1
    · obtain ⟨L1, L2, rfl⟩ := List.append_of_mem hs
      have e : (L1 ++ s :: L2) ++ s :: J2 = L1 ++ s :: (L2 ++ s :: J2) := by simp
      rw [e, det_col_dup two_rat, det_col_dup two_rat]
      have e2 : ∀ z : Rat, z + x * 0 = z := by intro z; grind
      have e3 : ∀ z : Rat, z + y * 0 = z := by intro z; grind
      rw [e2, e3]
      exact h1
    · by_cases hz : ∃ c ∈ J1, c < s
      · obtain ⟨c, hc, hcs⟩ := hz
        have hck := p3 c hc k List.mem_cons_self
        have q1 : det (I.map A) (J1 ++ s :: J2) = 0 := det_col_zero (z := c) (fun r hr => by
          obtain ⟨i, hi, rfl⟩ := List.mem_map.mp hr
          exact zA i (hIm i hi) c hck hcs) (List.mem_append_left _ hc)
        have q2 : det (I.map B) (J1 ++ s :: J2) = 0 := det_col_zero (z := c) (fun r hr => by
          obtain ⟨i, hi, rfl⟩ := List.mem_map.mp hr
          exact zB i (hIm i hi) c hck hcs) (List.mem_append_left _ hc)
        rw [q1, q2]
        have e2 : ∀ z : Rat, z + x * 0 = z := by intro z; grind
        have e3 : ∀ z : Rat, z + y * 0 = z := by intro z; grind
        rw [e2, e3]
        exact h1
      · refine h1.add (Like.mul hx hy (h I (J1 ++ s :: J2) hI hIm ?_))
        refine List.pairwise_append.mpr ⟨p1, List.pairwise_cons.mpr ⟨fun c hc => ?_, p5⟩, fun c hc d hd => ?_⟩
        · have := p4 c hc
          show s > c
          omega
        · rcases List.mem_cons.mp hd with e | e
          · subst e
            show c > d
            have : c ≠ d := fun z => hs (z ▸ hc)
            have : ¬ c < d := fun z => hz ⟨c, hc, z⟩
            omega
          · exact p3 c hc d (List.mem_cons_of_mem _ e)
  · rw [(det_col _).out J hk, (det_col _).out J hk]
    exact h I J hI hIm hJ
/-- a new last row with one number in the last column that isn't of noughts, or of noughts alone -/
theorem Alike.row {m s : Nat} {A B : Nat → Nat → Rat} {x y : Rat} (h : Alike m A B) (hx : 0 < x) (hy : 0 < y) (zA : ∀ i < m, ∀ c, s < c → A i c = 0) (zB : ∀ i < m, ∀ c, s < c → B i c = 0)
    (rA : ∀ c, A m c = if c = s then x else 0) (rB : ∀ c, B m c = if c = s then y else 0) : Alike (m + 1) A B := fun I J hI hIm hJ => by
  cases I with
  | nil => exact h [] J hI (by simp) hJ
  | cons i I =>
    obtain ⟨f1, f2⟩ := List.pairwise_cons.mp hI
    by_cases him : i = m
    · subst him
      have hIm' : ∀ a ∈ I, a < i := fun a ha => f1 a ha
      cases J with
      | nil => exact Like.zero
      | cons c J =>
        obtain ⟨g1, g2⟩ := List.pairwise_cons.mp hJ
        show Like (A i c * det (I.map A) J - ex (A i) (fun L => det (I.map A) (c :: L)) J) (B i c * det (I.map B) J - ex (B i) (fun L => det (I.map B) (c :: L)) J)
        by_cases hcs : s < c
        · have q1 : ex (A i) (fun L => det (I.map A) (c :: L)) J = 0 := ex_zero fun L _ => det_col_zero (z := c) (fun r hr => by
            obtain ⟨a, ha, rfl⟩ := List.mem_map.mp hr
            exact zA a (hIm' a ha) c hcs) List.mem_cons_self
          have q2 : ex (B i) (fun L => det (I.map B) (c :: L)) J = 0 := ex_zero fun L _ => det_col_zero (z := c) (fun r hr => by
            obtain ⟨a, ha, rfl⟩ := List.mem_map.mp hr
            exact zB a (hIm' a ha) c hcs) List.mem_cons_self
          rw [q1, q2, rA, rB, if_neg (by omega), if_neg (by omega)]
          have e : ∀ z : Rat, 0 * z - 0 = 0 := by intro z; grind
          rw [e, e]
          exact Like.zero
        · have q1 : ex (A i) (fun L => det (I.map A) (c :: L)) J = 0 := ex_row0 fun d hd => by
            have := g1 d hd
            rw [rA, if_neg (by omega)]
          have q2 : ex (B i) (fun L => det (I.map B) (c :: L)) J = 0 := ex_row0 fun d hd => by
            have := g1 d hd
            rw [rB, if_neg (by omega)]
          rw [q1, q2, rA, rB]
          have e : ∀ u z : Rat, u * z - 0 = u * z := by intro u z; grind
          rw [e, e]
          by_cases hc : c = s
          · rw [if_pos hc, if_pos hc]
            exact Like.mul hx hy (h I J f2 hIm' g2)
          · rw [if_neg hc, if_neg hc]
            have e : ∀ z : Rat, 0 * z = 0 := by intro z; grind
            rw [e, e]
            exact Like.zero
    · have hi := hIm i List.mem_cons_self
      exact h (i :: I) J hI (fun a ha => by
        rcases List.mem_cons.mp ha with e | e
        · omega
        · have := f1 a e
          omega) hJ
theorem Alike.row0 {m : Nat} {A B : Nat → Nat → Rat} (h : Alike m A B) (rA : ∀ c, A m c = 0) (rB : ∀ c, B m c = 0) : Alike (m + 1) A B := fun I J hI hIm hJ => by
  cases I with
  | nil => exact h [] J hI (by simp) hJ
  | cons i I =>
    obtain ⟨f1, f2⟩ := List.pairwise_cons.mp hI
    by_cases him : i = m
    · subst him
      have q1 : det ((i :: I).map A) J = 0 := ex_row0 fun c _ => rA c
      have q2 : det ((i :: I).map B) J = 0 := ex_row0 fun c _ => rB c
      rw [q1, q2]
      exact Like.zero
    · have hi := hIm i List.mem_cons_self
      exact h (i :: I) J hI (fun a ha => by
        rcases List.mem_cons.mp ha with e | e
        · omega
        · have := f1 a e
          omega) hJ
theorem Alike.cong {m : Nat} {A B A' B' : Nat → Nat → Rat} (h : Alike m A B) (eA : ∀ i < m, A' i = A i) (eB : ∀ i < m, B' i = B i) : Alike m A' B' := fun I J hI hIm hJ => by
  rw [List.map_congr_left (g := A) fun i hi => eA i (hIm i hi), List.map_congr_left (g := B) fun i hi => eB i (hIm i hi)]
  exact h I J hI hIm hJ
end Smo

namespace Smo
/-- numbers from 0 on, in n columns, and the staircase's rule -/
structure Stair (n : Nat) (T : Nat → Nat → Rat) : Prop where
  nn : ∀ i c, 0 ≤ T i c
  out : ∀ i c, n ≤ c → T i c = 0
  rule : ∀ i c, T i c = 0 → (∀ c' < c, T i c' = 0) ∨ ∀ i' < i, T i' c = 0
theorem sm_next {M t : Nat → Rat} {k s : Nat} (hks : k < s) (hs : t s ≠ 0) (h0 : ∀ c, k < c → c < s → t c = 0) : ∀ {n : Nat}, s < n → sm M t k n = M s / t s + sm M t s n
  | n + 1, hn => by
    rw [sm_succ, sm_succ]
    by_cases e : s = n
    · subst e
      have key : ∀ e, e ≤ s → sm M t k e = 0 := by
        intro e
        induction e with
        | zero => intro _; rfl
        | succ e ih =>
          intro he
          rw [sm_succ, ih (by omega)]
          by_cases hk : k < e
          · rw [if_neg (fun z => z.2 (h0 e hk (by omega)))]; grind
          · rw [if_neg (fun z => hk z.1)]; grind
      rw [key s (Nat.le_refl _), sm_no (by omega), if_pos ⟨hks, hs⟩, if_neg (by omega)]; grind
    · rw [sm_next hks hs h0 (n := n) (by omega)]
      by_cases h : t n ≠ 0
      · rw [if_pos ⟨by omega, h⟩, if_pos ⟨by omega, h⟩]; grind
      · rw [if_neg (fun z => h z.2), if_neg (fun z => h z.2)]; grind
theorem sm_last {M t : Nat → Rat} {s : Nat} (h0 : ∀ c, s < c → t c = 0) : ∀ {n : Nat}, sm M t s n = 0
  | 0 => rfl
  | n + 1 => by
    rw [sm_succ, sm_last h0 (n := n)]
    by_cases hk : s < n
    · rw [if_neg (fun z => z.2 (h0 n hk))]; grind
    · rw [if_neg (fun z => hk z.1)]; grind
theorem Ck_zero {n : Nat} {T : Nat → Nat → Rat} {c : Nat} : ∀ {j : Nat}, (∀ i < j, T i c = 0) → ∀ i < j, Ck n T j i c = 0
  | j + 1, h, i, hi => by
    rw [Ck_succ]
    by_cases hij : i < j
    · rw [if_pos hij]
      unfold ps
      rw [Ck_zero (fun a ha => h a (by omega)) i hij, h j (by omega)]; grind
    · rw [if_neg hij, Ck_out (by omega)]
      exact h i hi
/-- the table while row j is laid: the columns from k on are done; s the row's last column that isn't 0 -/
def Xs (n : Nat) (T : Nat → Nat → Rat) (j s k : Nat) : Nat → Nat → Rat := fun i c => if i < j then (if k ≤ c then ps (Ck n T j i) (T j) n c else Ck n T j i c) else (if k ≤ c ∨ c = s then T j c else 0)
theorem ps_zero {M t : Nat → Rat} {e a : Nat} (h : t a = 0) : ps M t e a = M a := by
  unfold ps
  rw [h]; grind
structure Two (n : Nat) (T U : Nat → Nat → Rat) : Prop where
  t : Stair n T
  u : Stair n U
  same : ∀ i c, T i c = 0 ↔ U i c = 0
theorem pos_of {x : Rat} (h : 0 ≤ x) (h0 : x ≠ 0) : 0 < x := by grind
theorem Xs_zero {n : Nat} {T : Nat → Nat → Rat} (h : Stair n T) {j s k l c : Nat} (hl : T j l ≠ 0) (hlc : l < c) (hc : T j c = 0) : ∀ i < j + 1, Xs n T j s k i c = 0 := fun i hi => by
  have hz : ∀ i' < j, T i' c = 0 := by
    rcases h.rule j c hc with z | z
    · exact absurd (z l hlc) hl
    · exact z
  unfold Xs
  by_cases hij : i < j
  · rw [if_pos hij, ps_zero hc, Ck_zero hz i hij]; simp
  · rw [if_neg hij, hc]; simp
theorem Xs_same {n : Nat} {T : Nat → Nat → Rat} {j s k : Nat} (h : T j k = 0 ∨ (k = s ∧ ∀ c, s < c → T j c = 0)) (i : Nat) : Xs n T j s k i = Xs n T j s (k + 1) i := by
  funext c
  unfold Xs
  by_cases e : c = k
  · subst e
    by_cases hij : i < j
    · rw [if_pos hij, if_pos hij, if_pos (Nat.le_refl c), if_neg (show ¬ c + 1 ≤ c by omega)]
      rcases h with h | ⟨hcs, h⟩
      · exact ps_zero h
      · have : sm (Ck n T j i) (T j) c n = 0 := by
          rw [← hcs] at h
          exact sm_last h
        unfold ps
        rw [this]; grind
    · rw [if_neg hij, if_neg hij, if_pos (Or.inl (Nat.le_refl c))]
      rcases h with h | ⟨rfl, h⟩
      · rw [h]; simp
      · rw [if_pos (Or.inr rfl)]
  · have e1 : (k ≤ c) = (k + 1 ≤ c) := by apply propext; omega
    simp only [e1]
theorem Xs_col {n : Nat} {T : Nat → Nat → Rat} {j s k q : Nat} (hkq : k < q) (hqn : q < n) (hq : T j q ≠ 0) (h0 : ∀ c, k < c → c < q → T j c = 0) (hks : k ≠ s) (i : Nat) : Xs n T j s k i = colPut k q (T j k / T j q) (Xs n T j s (k + 1) i) := by
  funext c
  unfold colPut
  by_cases e : c = k
  · subst e
    rw [if_pos rfl]
    unfold Xs
    by_cases hij : i < j
    · rw [if_pos hij, if_pos hij, if_pos hij, if_pos (Nat.le_refl c), if_neg (by omega), if_pos (by omega)]
      unfold ps
      rw [sm_next hkq hq h0 hqn]
      grind
    · rw [if_neg hij, if_neg hij, if_neg hij, if_pos (Or.inl (Nat.le_refl c)), if_neg (by omega), if_pos (by omega)]
      grind
  · rw [if_neg e]
    unfold Xs
    have e1 : (k ≤ c) = (k + 1 ≤ c) := by apply propext; omega
    simp only [e1]
theorem first_from {p : Nat → Prop} : ∀ (d k s : Nat), s = k + d → p s → ∃ q, k ≤ q ∧ q ≤ s ∧ p q ∧ ∀ c, k ≤ c → c < q → ¬ p c
  | 0, k, s, h, hp => ⟨s, by omega, Nat.le_refl _, hp, fun c _ _ => by omega⟩
  | d + 1, k, s, h, hp => by
    by_cases hk : p k
    · exact ⟨k, Nat.le_refl _, by omega, hk, fun c _ _ => by omega⟩
    · obtain ⟨q, h1, h2, h3, h4⟩ := first_from d (k + 1) s (by omega) hp
      exact ⟨q, by omega, h2, h3, fun c hc1 hc2 => by
        by_cases e : c = k
        · subst e; exact hk
        · exact h4 c (by omega) hc2⟩
theorem last_of {p : Nat → Prop} : ∀ (n : Nat), (∃ c < n, p c) → ∃ s < n, p s ∧ ∀ c, s < c → c < n → ¬ p c
  | 0, ⟨c, h, _⟩ => by omega
  | n + 1, ⟨c, h, hp⟩ => by
    by_cases hn : p n
    · exact ⟨n, by omega, hn, fun c _ _ => by omega⟩
    · have hc : c ≠ n := fun e => hn (e ▸ hp)
      obtain ⟨s, h1, h2, h3⟩ := last_of n ⟨c, by omega, hp⟩
      exact ⟨s, by omega, h2, fun d hd1 hd2 => by
        by_cases e : d = n
        · subst e; exact hn
        · exact h3 d hd1 (by omega)⟩
/-- THE LAW: all determinants of two thickened tables of one staircase are alike -/
theorem alike_Ck {n : Nat} {T U : Nat → Nat → Rat} (h : Two n T U) : ∀ j, Alike j (Ck n T j) (Ck n U j)
  | 0 => fun I J _ hI _ => by
    cases I with
    | nil =>
      show Like (det [] J) (det [] J)
      unfold det
      split
      · exact ⟨by decide, by decide, Iff.rfl⟩
      · exact Like.zero
    | cons i I => exact absurd (hI i List.mem_cons_self) (by omega)
  | j + 1 => by
    have ih := alike_Ck h j
    by_cases hr : ∃ c < n, T j c ≠ 0
    · obtain ⟨s, hsn, hs, hl⟩ := last_of n hr
      have hl' : ∀ c, s < c → T j c = 0 := fun c hc => by
        by_cases hcn : c < n
        · have := hl c hc hcn
          by_cases z : T j c = 0
          · exact z
          · exact absurd z this
        · exact h.t.out j c (by omega)
      have hsU : U j s ≠ 0 := fun z => hs ((h.same j s).mpr z)
      have hlU : ∀ c, s < c → U j c = 0 := fun c hc => (h.same j c).mp (hl' c hc)
      have key : ∀ d, d ≤ n → Alike (j + 1) (Xs n T j s (n - d)) (Xs n U j s (n - d)) := by
        intro d
        induction d with
        | zero =>
          intro _
          have base : ∀ (V : Nat → Nat → Rat), Stair n V → ∀ i < j, Xs n V j s (n - 0) i = Ck n V j i := fun V hV i hi => by
            funext c
            unfold Xs
            rw [if_pos hi]
            split
            · rw [ps_zero (hV.out j c (by omega))]
            · rfl
          have row : ∀ (V : Nat → Nat → Rat), Stair n V → ∀ c, Xs n V j s (n - 0) j c = if c = s then V j s else 0 := fun V hV c => by
            unfold Xs
            rw [if_neg (by omega)]
            by_cases e : c = s
            · subst e; rw [if_pos (Or.inr rfl), if_pos rfl]
            · rw [if_neg e]
              by_cases e2 : n - 0 ≤ c
              · rw [if_pos (Or.inl e2), hV.out j c (by omega)]
              · rw [if_neg (by omega)]
          exact (ih.cong (base T h.t) (base U h.u)).row (pos_of (h.t.nn j s) hs) (pos_of (h.u.nn j s) hsU)
            (fun i hi c hc => Xs_zero h.t hs hc (hl' c hc) i (by omega)) (fun i hi c hc => Xs_zero h.u hsU hc (hlU c hc) i (by omega)) (row T h.t) (row U h.u)
        | succ d ihd =>
          intro hd
          have ihd := ihd (by omega)
          have e : n - d = (n - (d + 1)) + 1 := by omega
          rw [e] at ihd
          generalize n - (d + 1) = k at ihd ⊢
          by_cases hk : T j k = 0 ∨ (k = s ∧ ∀ c, s < c → T j c = 0)
          · have hkU : U j k = 0 ∨ (k = s ∧ ∀ c, s < c → U j c = 0) := by
              rcases hk with z | z
              · exact .inl ((h.same j k).mp z)
              · exact .inr ⟨z.1, hlU⟩
            exact ihd.cong (fun i _ => Xs_same hk i) fun i _ => Xs_same hkU i
          · have hk0 : T j k ≠ 0 := fun z => hk (.inl z)
            have hks : k ≠ s := fun z => hk (.inr ⟨z, hl'⟩)
            have hkls : k < s := by
              by_cases z : s < k
              · exact absurd (hl' k z) hk0
              · omega
            obtain ⟨q, q1, q2, q3, q4⟩ := first_from (p := fun c => T j c ≠ 0) (s - (k + 1)) (k + 1) s (by omega) hs
            have q5 : ∀ c, k < c → c < q → T j c = 0 := fun c h1 h2 => by
              by_cases z : T j c = 0
              · exact z
              · exact absurd z (q4 c (by omega) h2)
            have q3U : U j q ≠ 0 := fun z => q3 ((h.same j q).mpr z)
            have hkU : U j k ≠ 0 := fun z => hk0 ((h.same j k).mpr z)
            have q5U : ∀ c, k < c → c < q → U j c = 0 := fun c h1 h2 => (h.same j c).mp (q5 c h1 h2)
            have dpos : ∀ (V : Nat → Nat → Rat), Stair n V → V j k ≠ 0 → V j q ≠ 0 → 0 < V j k / V j q := fun V hV a b => by
              have a1 := pos_of (hV.nn j k) a
              have b1 := pos_of (hV.nn j q) b
              rw [Rat.div_def]
              exact Rat.mul_pos a1 (Rat.inv_pos.mpr b1)
            exact ihd.col (k := k) (s := q) (by omega) (dpos T h.t hk0 q3) (dpos U h.u hkU q3U)
              (fun i hi c c1 c2 => Xs_zero h.t hk0 c1 (q5 c c1 c2) i hi) (fun i hi c c1 c2 => Xs_zero h.u hkU c1 (q5U c c1 c2) i hi)
              (fun i _ => Xs_col (by omega) (by omega) q3 q5 hks i) (fun i _ => Xs_col (by omega) (by omega) q3U q5U hks i)
      have last := key n (Nat.le_refl _)
      rw [Nat.sub_self] at last
      have fin : ∀ (V : Nat → Nat → Rat), ∀ i < j + 1, Ck n V (j + 1) i = Xs n V j s 0 i := fun V i hi => by
        funext c
        rw [Ck_succ]
        unfold Xs
        rw [if_pos (Nat.zero_le c), if_pos (Or.inl (Nat.zero_le c))]
        by_cases hij : i < j
        · rw [if_pos hij, if_pos hij]
        · rw [if_neg hij, if_neg hij, Ck_out (by omega)]
          have : i = j := by omega
          rw [this]
      exact last.cong (fin T) (fin U)
    · have hz : ∀ c, T j c = 0 := fun c => by
        by_cases hcn : c < n
        · by_cases z : T j c = 0
          · exact z
          · exact absurd ⟨c, hcn, z⟩ hr
        · exact h.t.out j c (by omega)
      have hzU : ∀ c, U j c = 0 := fun c => (h.same j c).mp (hz c)
      have fin : ∀ (V : Nat → Nat → Rat), (∀ c, V j c = 0) → ∀ i < j, Ck n V (j + 1) i = Ck n V j i := fun V hV i hi => by
        funext c
        rw [Ck_succ, if_pos hi, ps_zero (hV c)]
      refine (ih.cong (fin T hz) (fin U hzU)).row0 (fun c => ?_) fun c => ?_
      · rw [Ck_succ, if_neg (by omega), Ck_out (Nat.le_refl _), hz]
      · rw [Ck_succ, if_neg (by omega), Ck_out (Nat.le_refl _), hzU]
end Smo

namespace Smo
/-! How large the numbers of a thickened table are. -/
theorem mul_le_mul_r {a b c d : Rat} (h1 : a ≤ b) (h2 : c ≤ d) (h3 : 0 ≤ a) (h4 : 0 ≤ d) : a * c ≤ b * d := by
  have e1 : a * c ≤ a * d := Rat.mul_le_mul_of_nonneg_left h2 h3
  have e2 : a * d ≤ b * d := Rat.mul_le_mul_of_nonneg_right h1 h4
  exact Rat.le_trans e1 e2
theorem div_nn {a b : Rat} (ha : 0 ≤ a) (hb : 0 ≤ b) : 0 ≤ a / b := by
  rw [Rat.div_def]
  by_cases h : b = 0
  · rw [h]; simp
  · exact Rat.mul_nonneg ha (Rat.le_of_lt (Rat.inv_pos.mpr (pos_of hb h)))
structure Tame (T : Nat → Nat → Rat) (V ρ : Rat) : Prop where
  nn : ∀ i a, 0 ≤ T i a
  le : ∀ i a, T i a ≤ V
  ra : ∀ j a b, T j b ≠ 0 → T j a / T j b ≤ ρ
  r0 : 0 ≤ ρ
  v0 : 0 ≤ V
theorem sm_bd {M t : Nat → Rat} {V ρ : Rat} {a : Nat} (hM : ∀ c, 0 ≤ M c ∧ M c ≤ V) (ht : ∀ c, 0 ≤ t c) (hr : ∀ c, t c ≠ 0 → t a / t c ≤ ρ) (h0 : 0 ≤ ρ) (hV : 0 ≤ V) : ∀ e : Nat, 0 ≤ t a * sm M t a e ∧ t a * sm M t a e ≤ (e : Rat) * (ρ * V)
  | 0 => by
    show 0 ≤ t a * 0 ∧ t a * 0 ≤ ((0 : Nat) : Rat) * (ρ * V)
    constructor <;> simp
  | e + 1 => by
    obtain ⟨h1, h2⟩ := sm_bd hM ht hr h0 hV e
    rw [sm_succ]
    have hρV := Rat.mul_nonneg h0 hV
    have ec : ((e + 1 : Nat) : Rat) = (e : Rat) + 1 := by simp
    rw [ec]
    by_cases c : a < e ∧ t e ≠ 0
    · rw [if_pos c]
      have q1 : t a * (M e / t e) = (t a / t e) * M e := by
        rw [Rat.div_def, Rat.div_def]; grind
      have q2 : 0 ≤ (t a / t e) * M e := Rat.mul_nonneg (div_nn (ht a) (ht e)) (hM e).1
      have q3 : (t a / t e) * M e ≤ ρ * V := mul_le_mul_r (hr e c.2) (hM e).2 (div_nn (ht a) (ht e)) hV
      have q4 : t a * (sm M t a e + M e / t e) = t a * sm M t a e + (t a / t e) * M e := by rw [← q1]; grind
      rw [q4]
      constructor <;> grind
    · rw [if_neg c]
      have q4 : t a * (sm M t a e + 0) = t a * sm M t a e := by grind
      rw [q4]
      constructor
      · exact h1
      · grind
theorem ps_bd {M t : Nat → Rat} {V ρ : Rat} {e : Nat} (a : Nat) (hM : ∀ c, 0 ≤ M c ∧ M c ≤ V) (ht : ∀ c, 0 ≤ t c) (hr : ∀ c, t c ≠ 0 → t a / t c ≤ ρ) (h0 : 0 ≤ ρ) (hV : 0 ≤ V) (he : e ≤ 7) : 0 ≤ ps M t e a ∧ ps M t e a ≤ V * (1 + 7 * ρ) := by
  obtain ⟨h1, h2⟩ := sm_bd hM ht hr h0 hV e
  obtain ⟨h3, h4⟩ := hM a
  have hρV := Rat.mul_nonneg h0 hV
  have e7 : (e : Rat) * (ρ * V) ≤ 7 * (ρ * V) := Rat.mul_le_mul_of_nonneg_right (by
    have : ((e : Nat) : Rat) ≤ ((7 : Nat) : Rat) := Rat.natCast_le_natCast.mpr he
    exact this) hρV
  unfold ps
  constructor <;> grind
theorem Ck_bd {n : Nat} {T : Nat → Nat → Rat} {V ρ : Rat} (h : Tame T V ρ) (hn : n ≤ 7) : ∀ j i a, 0 ≤ Ck n T j i a ∧ Ck n T j i a ≤ V * (1 + 7 * ρ) ^ j
  | 0, i, a => ⟨h.nn i a, by
    show T i a ≤ V * (1 + 7 * ρ) ^ 0
    have := h.le i a
    rw [Rat.pow_zero]; grind⟩
  | j + 1, i, a => by
    have ih := Ck_bd h hn j
    have hW : 0 ≤ 1 + 7 * ρ := by have := h.r0; grind
    have hVj : 0 ≤ V * (1 + 7 * ρ) ^ j := Rat.mul_nonneg h.v0 (Rat.pow_nonneg hW)
    rw [Ck_succ]
    have ep : V * (1 + 7 * ρ) ^ (j + 1) = (V * (1 + 7 * ρ) ^ j) * (1 + 7 * ρ) := by rw [Rat.pow_succ]; grind
    rw [ep]
    by_cases c : i < j
    · rw [if_pos c]
      exact ps_bd a (fun c => ih i c) (fun c => h.nn j c) (fun c hc => h.ra j a c hc) h.r0 hVj hn
    · rw [if_neg c]
      obtain ⟨h1, h2⟩ := ih i a
      refine ⟨h1, ?_⟩
      have := Rat.mul_nonneg hVj h.r0
      grind
theorem Th_bd {n : Nat} {T : Nat → Nat → Rat} {V ρ : Rat} (h : Tame T V ρ) (hn : n ≤ 7) {k i a : Nat} (ha : a < n) : 0 ≤ Th n T k i a ∧ Th n T k i a ≤ V * (1 + 7 * ρ) ^ (k / n + 1) := by
  have hn0 : 0 < n := by omega
  have f := Th_form T (k / n) (k % n) (Nat.le_of_lt (Nat.mod_lt _ hn0)) i a ha
  rw [Nat.mul_comm, Nat.div_add_mod] at f
  rw [f]
  have hW : 0 ≤ 1 + 7 * ρ := by have := h.r0; grind
  have hVj : 0 ≤ V * (1 + 7 * ρ) ^ (k / n) := Rat.mul_nonneg h.v0 (Rat.pow_nonneg hW)
  have ep : V * (1 + 7 * ρ) ^ (k / n + 1) = (V * (1 + 7 * ρ) ^ (k / n)) * (1 + 7 * ρ) := by rw [Rat.pow_succ]; grind
  rw [ep]
  by_cases c : i < k / n
  · rw [if_pos c]
    exact ps_bd a (fun c => Ck_bd h hn _ i c) (fun c => h.nn _ c) (fun c hc => h.ra _ a c hc) h.r0 hVj (Nat.le_trans (Nat.le_of_lt (Nat.mod_lt _ hn0)) hn)
  · rw [if_neg c]
    have h1 := h.nn i a
    have h2 := (Ck_bd h hn (k / n) i a).2
    rw [Ck_out (by omega)] at h2
    refine ⟨h1, ?_⟩
    have := Rat.mul_nonneg hVj h.r0
    grind
theorem mul_den (q : Rat) : q * (q.den : Rat) = (q.num : Rat) := by
  have h := Rat.mkRat_self q
  have h2 : (mkRat q.num q.den) = (q.num : Rat) / (q.den : Rat) := Rat.mkRat_eq_div ..
  have hd : (q.den : Rat) ≠ 0 := by
    intro e
    exact q.den_nz (Rat.natCast_inj.mp (by rw [e]; rfl))
  rw [h] at h2
  generalize (q.num : Rat) = n at *
  generalize (q.den : Rat) = d at *
  rw [h2]
  grind
theorem of_mul {q : Rat} {t b : Int} (hb : 0 < b) (h : q * (b : Rat) = (t : Rat)) : t / (Int.gcd t b : Int) = q.num ∧ b / (Int.gcd t b : Int) = (q.den : Int) := by
  have hb0 : (b : Rat) ≠ 0 := by
    intro e
    have : b = 0 := Rat.intCast_eq_zero_iff.mp e
    omega
  have e : q = Rat.divInt t b := by
    rw [Rat.divInt_eq_div]; grind
  subst e
  refine ⟨?_, ?_⟩
  · rw [Rat.num_divInt, Int.sign_eq_one_of_pos hb, Int.one_mul, Int.gcd_comm]
  · rw [Rat.den_divInt, if_neg (by omega), Int.gcd_comm]
    have : (b.natAbs : Int) = b := by omega
    rw [Int.natCast_ediv, this]
/-- q times N is whole -/
def Iz (N : Nat) (q : Rat) : Prop := ∃ z : Int, q * (N : Rat) = (z : Rat)
theorem Iz.zero {N : Nat} : Iz N 0 := ⟨0, by simp⟩
theorem Iz.add {N : Nat} {p q : Rat} (h : Iz N p) (k : Iz N q) : Iz N (p + q) := by
  obtain ⟨x, hx⟩ := h
  obtain ⟨y, hy⟩ := k
  refine ⟨x + y, ?_⟩
  rw [Rat.intCast_add, ← hx, ← hy]; grind
theorem Iz.mul {N M : Nat} {p q : Rat} (h : Iz N p) (k : Iz M q) : Iz (N * M) (p * q) := by
  obtain ⟨x, hx⟩ := h
  obtain ⟨y, hy⟩ := k
  refine ⟨x * y, ?_⟩
  rw [Rat.intCast_mul, ← hx, ← hy, Rat.natCast_mul]; grind
theorem Iz.more {N M : Nat} {p : Rat} (h : Iz N p) : Iz (N * M) p := by
  have := h.mul (M := M) (q := 1) ⟨(M : Int), by rw [Rat.intCast_natCast]; grind⟩
  have e : p * 1 = p := by grind
  rw [e] at this
  exact this
theorem Iz.den {N : Nat} {q : Rat} (h : Iz N q) (hN : 0 < N) : q.den ∣ N := by
  obtain ⟨z, hz⟩ := h
  have hd : (q.den : Rat) ≠ 0 := by
    intro e
    exact q.den_nz (Rat.natCast_inj.mp (by rw [e]; rfl))
  have h2 : (q.num : Rat) * (N : Rat) = (z : Rat) * (q.den : Rat) := by
    rw [← hz]
    have : q * (q.den : Rat) = (q.num : Rat) := mul_den q
    rw [← this]; grind
  have h3 : q.num * (N : Int) = z * (q.den : Int) := by
    have : ((q.num * (N : Int) : Int) : Rat) = ((z * (q.den : Int) : Int) : Rat) := by
      rw [Rat.intCast_mul, Rat.intCast_mul]
      exact h2
    exact Rat.intCast_inj.mp this
  have h4 : q.den ∣ q.num.natAbs * N := by
    have : (q.den : Int) ∣ q.num * (N : Int) := ⟨z, by rw [h3, Int.mul_comm]⟩
    have := Int.natAbs_dvd_natAbs.mpr this
    rw [Int.natAbs_mul] at this
    exact this
  exact Nat.Coprime.dvd_of_dvd_mul_left q.reduced.symm h4
theorem sizes {N : Nat} {q V : Rat} (h : Iz N q) (hN : 0 < N) (h0 : 0 ≤ q) (hV : q ≤ V) {B : Nat} (hB : V * (N : Rat) ≤ (B : Rat)) : q.den ≤ N ∧ q.num.natAbs ≤ B := by
  have hd := Nat.le_of_dvd hN (h.den hN)
  refine ⟨hd, ?_⟩
  have h1 : q * (q.den : Rat) = (q.num : Rat) := mul_den q
  have hn : 0 ≤ q.num := Rat.num_nonneg.mpr h0
  have h2 : (q.num : Rat) ≤ V * (N : Rat) := by
    rw [← h1]
    exact mul_le_mul_r hV (Rat.natCast_le_natCast.mpr hd) h0 (by
      have : ((0 : Nat) : Rat) ≤ (N : Rat) := Rat.natCast_le_natCast.mpr (Nat.zero_le N)
      exact this)
  have h3 : (q.num : Rat) ≤ (B : Rat) := Rat.le_trans h2 hB
  have h4 : q.num ≤ (B : Int) := Rat.intCast_le_intCast.mp h3
  omega
theorem sm_iz {M t : Nat → Rat} {N E a : Nat} (hM : ∀ c, Iz N (M c)) (hr : ∀ c, t c ≠ 0 → Iz E (t a / t c)) : ∀ e, Iz (N * E) (t a * sm M t a e)
  | 0 => by
    show Iz (N * E) (t a * 0)
    have : t a * 0 = 0 := by grind
    rw [this]; exact Iz.zero
  | e + 1 => by
    have ih := sm_iz hM hr e
    rw [sm_succ]
    by_cases c : a < e ∧ t e ≠ 0
    · rw [if_pos c]
      have q1 : t a * (sm M t a e + M e / t e) = t a * sm M t a e + M e * (t a / t e) := by
        rw [Rat.div_def, Rat.div_def]; grind
      rw [q1]
      exact ih.add ((hM e).mul (hr e c.2))
    · rw [if_neg c]
      have q4 : t a * (sm M t a e + 0) = t a * sm M t a e := by grind
      rw [q4]; exact ih
structure Even (T : Nat → Nat → Rat) (E : Nat) : Prop where
  a : ∀ i c, Iz E (T i c)
  r : ∀ j a b, T j b ≠ 0 → Iz E (T j a / T j b)
theorem ps_iz {M t : Nat → Rat} {N E e : Nat} (a : Nat) (hM : ∀ c, Iz N (M c)) (hr : ∀ c, t c ≠ 0 → Iz E (t a / t c)) : Iz (N * E) (ps M t e a) :=
  (hM a).more.add (sm_iz hM hr e)
theorem Ck_iz {n E : Nat} {T : Nat → Nat → Rat} (h : Even T E) : ∀ j i a, Iz (E ^ (j + 1)) (Ck n T j i a)
  | 0, i, a => by
    have := h.a i a
    rw [show E ^ (0 + 1) = E by simp]
    exact this
  | j + 1, i, a => by
    have ih := Ck_iz (n := n) h j
    rw [Ck_succ, Nat.pow_succ]
    by_cases c : i < j
    · rw [if_pos c]
      exact ps_iz a (fun c => ih i c) fun c hc => h.r j a c hc
    · rw [if_neg c]
      exact (ih i a).more
theorem Th_iz {n E : Nat} {T : Nat → Nat → Rat} (h : Even T E) (hn0 : 0 < n) {k i a : Nat} (ha : a < n) : Iz (E ^ (k / n + 2)) (Th n T k i a) := by
  have f := Th_form T (k / n) (k % n) (Nat.le_of_lt (Nat.mod_lt _ hn0)) i a ha
  rw [Nat.mul_comm, Nat.div_add_mod] at f
  rw [f, Nat.pow_succ]
  by_cases c : i < k / n
  · rw [if_pos c]
    exact ps_iz a (fun c => Ck_iz h _ i c) fun c hc => h.r _ a c hc
  · rw [if_neg c]
    have := Ck_iz (n := n) h (k / n) i a
    rw [Ck_out (by omega)] at this
    exact this.more
/-! ### the plainest table: whole numbers, each pivot 1 -/
def stpI (M : Nat → Nat → Int) (j b : Nat) : Nat → Nat → Int := fun i a => if M j b ≠ 0 ∧ i < j ∧ a < b then M i a + M i b * M j a else M i a
def ThI (n : Nat) (T : Nat → Nat → Int) : Nat → Nat → Nat → Int
  | 0 => T
  | k + 1 => stpI (ThI n T k) (k / n) (k % n)
abbrev castT (T : Nat → Nat → Int) : Nat → Nat → Rat := fun i a => (T i a : Rat)
theorem ThI_cast {n : Nat} {T : Nat → Nat → Int} (hn0 : 0 < n) (h01 : ∀ i a, T i a = 0 ∨ T i a = 1) : ∀ k i a, a < n → ((ThI n T k i a : Int) : Rat) = Th n (castT T) k i a
  | 0, _, _, _ => rfl
  | k + 1, i, a, ha => by
    have ih := ThI_cast hn0 h01 k
    have hb := Nat.mod_lt k hn0
    have f := Th_form (castT T) (k / n) (k % n) (Nat.le_of_lt hb) (k / n) (k % n) hb
    rw [Nat.mul_comm, Nat.div_add_mod, if_neg (Nat.lt_irrefl _)] at f
    have e1 := ih (k / n) (k % n) hb
    rw [f] at e1
    have e2 : ThI n T k (k / n) (k % n) = T (k / n) (k % n) := Rat.intCast_inj.mp e1
    show ((stpI (ThI n T k) (k / n) (k % n) i a : Int) : Rat) = stp (Th n (castT T) k) (k / n) (k % n) i a
    unfold stpI stp
    rw [e2, f]
    rcases h01 (k / n) (k % n) with z | z
    · rw [if_neg (by rw [z]; simp), if_neg (by show ¬ ((T _ _ : Rat) ≠ 0 ∧ _); rw [z]; simp)]
      exact ih i a ha
    · by_cases c : i < k / n ∧ a < k % n
      · rw [if_pos ⟨by rw [z]; decide, c⟩, if_pos ⟨by show (T _ _ : Rat) ≠ 0; rw [z]; decide, c⟩]
        rw [Rat.intCast_add, Rat.intCast_mul, ih i a ha, ih i (k % n) hb, ih (k / n) a ha]
        show _ = _ + _ / (T (k / n) (k % n) : Rat)
        rw [z]
        have : ∀ x : Rat, x / ((1 : Int) : Rat) = x := by intro x; rw [show ((1 : Int) : Rat) = 1 from rfl]; grind
        rw [this]
      · rw [if_neg (fun w => c w.2), if_neg (fun w => c w.2)]
        exact ih i a ha
theorem ThI_row {n : Nat} {T : Nat → Nat → Int} (hn0 : 0 < n) (h01 : ∀ i a, T i a = 0 ∨ T i a = 1) {k i a : Nat} (ha : a < n) (hi : k / n ≤ i) : ThI n T k i a = T i a := by
  have hb := Nat.mod_lt k hn0
  have f := Th_form (castT T) (k / n) (k % n) (Nat.le_of_lt hb) i a ha
  rw [Nat.mul_comm, Nat.div_add_mod, if_neg (by omega)] at f
  have e1 := ThI_cast hn0 h01 k i a ha
  rw [f] at e1
  exact Rat.intCast_inj.mp e1
theorem tame01 {T : Nat → Nat → Int} (h01 : ∀ i a, T i a = 0 ∨ T i a = 1) : Tame (castT T) 1 1 where
  nn := fun i a => by
    show (0 : Rat) ≤ (T i a : Rat)
    rcases h01 i a with z | z <;> rw [z] <;> decide
  le := fun i a => by
    show (T i a : Rat) ≤ 1
    rcases h01 i a with z | z <;> rw [z] <;> decide
  ra := fun j a b h => by
    show (T j a : Rat) / (T j b : Rat) ≤ 1
    rcases h01 j b with z | z
    · exact absurd (show (T j b : Rat) = 0 by rw [z]; rfl) h
    · rw [z]
      rcases h01 j a with y | y <;> rw [y] <;> decide +kernel
  r0 := by decide
  v0 := by decide
theorem ThI_sm {n : Nat} {T : Nat → Nat → Int} (hn0 : 0 < n) (hn : n ≤ 7) (h01 : ∀ i a, T i a = 0 ∨ T i a = 1) {k i a : Nat} (ha : a < n) (hk : k ≤ 7 * n) : (ThI n T k i a).natAbs < 2 ^ 25 := by
  have e1 := ThI_cast hn0 h01 k i a ha
  obtain ⟨h1, h2⟩ := Th_bd (tame01 h01) hn (k := k) (i := i) ha
  rw [← e1] at h1 h2
  have hj : k / n + 1 ≤ 8 := by
    have : k / n ≤ 7 := Nat.div_le_of_le_mul (by rw [Nat.mul_comm]; exact hk)
    omega
  have h3 : (1 : Rat) * (1 + 7 * 1) ^ (k / n + 1) ≤ ((16777216 : Int) : Rat) := by
    have key : ∀ m ≤ 8, (1 : Rat) * (1 + 7 * 1) ^ m ≤ ((16777216 : Int) : Rat) := by decide +kernel
    exact key _ hj
  have h4 : ThI n T k i a ≤ 16777216 := Rat.intCast_le_intCast.mp (Rat.le_trans h2 h3)
  have h5 : 0 ≤ ThI n T k i a := Rat.intCast_le_intCast.mp h1
  omega
end Smo

set_option Elab.async false
set_option linter.all false
set_option maxRecDepth 100000
set_option maxHeartbeats 4000000
namespace Smo
open PySem PySem.Spec PyProof.Rows L2
local macro_rules | `(tactic| walk_at "zz") => `(tactic| ((try dsimp only); repeat (first | refine ZS.go ?_ | refine And.intro (rfl : wipe _ _ = wipe _ _) ?_)))
def sp_determinant : Sp := fun vs H Q _ => ∃ (p : Addr) (n : Nat) (A : Nat → Nat → Int), vs = [.ref p] ∧ Mt Fz H p n n A ∧ 1 ≤ n ∧ n ≤ 7 ∧ (∀ i < n, ∀ c < n, Sm 25 (A i c)) ∧
  ∀ t d H', Same H H' → H' t = some (.tup [.int d, .int 1]) → (d = 0 ↔ det (rl A n) (cl n) = 0) → Q (.ref t) H'
abbrev N_determinant : List Str := ["table", "whole"]
theorem sc_determinant : FnScope N_determinant ["table"] (defScope (topS 29)) := ⟨rfl, rfl, rfl, by decide +kernel, rfl, by decide +kernel, by decide +kernel⟩
/-- determinant: 0 table, 1 whole -/
theorem ok_determinant {P : Program} {w : World} {K : PySem.W.Frag} {mg : Str → Option Value} {base : Heap} (W : Wd K mg) (h_look_table : Has P w K mg base "look_table" 5 ["thing"] sp_look_table) (h_whole_rows : Has P w K mg base "whole_rows" 3 ["table"] sp_whole_rows) (h_fraction : Has P w K mg base "fraction" 2 ["top", "bottom"] sp_fraction) (h_whole_determinant : Has P w K mg base "whole_determinant" 2 ["rows"] sp_whole_determinant) : Has P w K mg base "determinant" 6 ["table"] sp_determinant := by
  have f_len : mg "len" = none := W.free 54 "len" rfl
  refine has_of W 17 29 rfl rfl sc_determinant (fun _ _ _ _ _ _ us hl => match us, hl with | [_], _ => rfl) (fun vs H Q E h => ?_) (fun f cdv A outer s H vs Q E hr h => ?_)
  · obtain ⟨p, n, A, rfl, hM, hn1, hn, hs, q⟩ := h; rfl
  · obtain ⟨p, n, A, rfl, hM, hn1, hn, hs, q⟩ := h
    have nd := sc_determinant.nd
    refine ⟨_, (pss_cons (ps_expr (pe_has h_look_table (hr.mono (by decide)) (pa_cons (pv 0) pa_nil)))
      (pss_cons (ps_if (pt_cmpR op_ne (pe_callB (call_lenK (K := K)) (by rfl) f_len PySem.boot_len (pa_cons (pv 0) pa_nil)) (pe_callB (call_lenK (K := K)) (by rfl) f_len PySem.boot_len (pa_cons (pe_ix (ix_listK (K := K)) (pv 0) pe_int (fun _ _ => rfl)) pa_nil)) (nomark _)) (pss_one ps_never) pss_nil)
      (pss_cons (ps_set (i := 1) nd rfl (by first | exact Or.inl rfl | exact Or.inr rfl) (pe_has h_whole_rows (hr.mono (by decide)) (pa_cons (pv 0) pa_nil)))
      (pss_one (ps_ret (pe_has h_fraction (hr.mono (by decide)) (pa_cons (pe_has h_whole_determinant (hr.mono (by decide)) (pa_cons (pe_ix (ix_tupK (K := K)) (pv 1) pe_int (fun _ _ => rfl)) pa_nil)) (pa_cons (pe_ix (ix_tupK (K := K)) (pv 1) pe_int (fun _ _ => rfl)) pa_nil)))))))), ?_⟩
    refine z_start (σ' := [some _, none]) (by rfl) ?_
    walk_at "zz"
    refine ⟨p, n, n, A, rfl, hM, hn1, hn, hn1, hn, fun H1 s1 => ?_⟩
    have hM1 := hM.up Fz.ups s1
    walk_at "zz"
    refine z_lenM hM1 ?_
    walk_at "zz"
    refine z_ixM 0 hM1 (by omega) fun a ha => ?_
    walk_at "zz"
    refine z_lenR ha ?_
    walk_at "zz"
    refine z_itF (by simp) ?_
    walk_at "zz"
    refine ⟨p, n, n, A, rfl, hM1, hn, hn, fun i hi c hc => (hs i hi c hc).mono (by decide), fun t l H2 s2 ht hl => ?_⟩
    walk_at "zz"
    refine z_ixT ht (atI_nat (j := 0) rfl) ?_
    walk_at "zz"
    refine ⟨l, n, A, rfl, hl, hn1, hn, hs, fun d H3 s3 hd => ?_⟩
    walk_at "zz"
    refine z_ixT (s3 _ _ ht) (atI_nat (j := 1) rfl) ?_
    walk_at "zz"
    refine ⟨d, rfl, fun t2 n2 => ?_⟩
    exact q t2 d _ (s1.trans (s2.trans (s3.trans (same_upd n2)))) upd_same hd
def sp_minor : Sp := fun vs H Q _ => ∃ (p a b : Addr) (m n : Nat) (A : Nat → Nat → Int) (I J : List Nat), vs = [.ref p, .ref a, .ref b] ∧ Mt Fz H p m n A ∧ 1 ≤ m ∧ m ≤ 7 ∧ 1 ≤ n ∧ n ≤ 7 ∧ H a = some (.lst (natV I)) ∧ H b = some (.lst (natV J)) ∧ Cho I m ∧ Cho J n ∧ I.length = J.length ∧ (∀ i < m, ∀ c < n, Sm 25 (A i c)) ∧
  ∀ t d H', Same H H' → H' t = some (.tup [.int d, .int 1]) → (d = 0 ↔ det (rl (fun i j => A (I.getD i 0) (J.getD j 0)) I.length) (cl I.length) = 0) → Q (.ref t) H'
theorem getD_lt {ns : List Nat} {m i : Nat} (c : Cho ns m) (h : i < ns.length) : ns.getD i 0 < m := by
  obtain ⟨x, hx⟩ := get_of_lt h
  rw [getD_of hx]
  exact c.lt x (List.mem_of_getElem? hx)
abbrev N_minor : List Str := ["table", "rows", "columns"]
theorem sc_minor : FnScope N_minor ["table", "rows", "columns"] (defScope (topS 30)) := ⟨rfl, rfl, rfl, by decide +kernel, rfl, by decide +kernel, by decide +kernel⟩
/-- minor: 0 table, 1 rows, 2 columns -/
theorem ok_minor {P : Program} {w : World} {K : PySem.W.Frag} {mg : Str → Option Value} {base : Heap} (W : Wd K mg) (h_determinant : Has P w K mg base "determinant" 6 ["table"] sp_determinant) (h_part_of : Has P w K mg base "part_of" 6 ["table", "rows", "columns"] sp_part_of) : Has P w K mg base "minor" 7 ["table", "rows", "columns"] sp_minor := by
  refine has_of W 18 30 rfl rfl sc_minor (fun _ _ _ _ _ _ us hl => match us, hl with | [_, _, _], _ => rfl) (fun vs H Q E h => ?_) (fun f cdv A outer s H vs Q E hr h => ?_)
  · obtain ⟨p, a, b, m, n, A, I, J, rfl, hM, m1, m7, n1, n7, hI, hJ, cI, cJ, eIJ, hs, q⟩ := h; rfl
  · obtain ⟨p, a, b, m, n, A, I, J, rfl, hM, m1, m7, n1, n7, hI, hJ, cI, cJ, eIJ, hs, q⟩ := h
    have nd := sc_minor.nd
    refine ⟨_, (pss_one (ps_ret (pe_has h_determinant (hr.mono (by decide)) (pa_cons (pe_has h_part_of (hr.mono (by decide)) (pa_cons (pv 0) (pa_cons (pv 1) (pa_cons (pv 2) pa_nil)))) pa_nil)))), ?_⟩
    refine z_start (σ' := [some _, some _, some _]) (by rfl) ?_
    walk_at "zz"
    refine ⟨p, a, b, m, n, A, I, J, rfl, hM, m1, m7, n1, n7, hI, hJ, cI, cJ, fun p' H1 s1 hM1 => ?_⟩
    walk_at "zz"
    rw [← eIJ] at hM1
    have := cI.len
    have h0 := List.length_pos_iff.mpr cI.ne
    refine ⟨p', I.length, _, rfl, hM1, by omega, by omega, fun i hi c hc => hs _ (getD_lt cI hi) _ (getD_lt cJ (by omega)), fun t d H2 s2 ht hd => ?_⟩
    exact q t d H2 (s1.trans s2) ht hd
def sp_across : Sp := fun vs H Q _ => ∃ (p : Addr) (m n j b i a : Nat) (M : Nat → Nat → Int), vs = [.ref p, .int (j : Nat), .int (b : Nat), .int (i : Nat), .int (a : Nat)] ∧ Mt Fz H p m n M ∧ j < m ∧ i < m ∧ b < n ∧ a < n ∧ M j b = 1 ∧ Sm 30 (M i b) ∧ Sm 30 (M j a) ∧
  ∀ t H', Same H H' → H' t = some (.tup [.int (M i b * M j a), .int 1]) → Q (.ref t) H'
theorem Sm.mul {a b c : Nat} {x y : Int} (hx : Sm a x) (hy : Sm b y) (h : a + b ≤ c) : Sm c (x * y) := by
  have h1 : (x * y).natAbs < 2 ^ (a + b) := by
    rw [Int.natAbs_mul, Nat.pow_add]; exact Nat.mul_lt_mul'' hx hy
  exact Sm.mono (a := a + b) h1 h
abbrev N_across : List Str := ["rows", "j", "b", "i", "a"]
theorem sc_across : FnScope N_across ["rows", "j", "b", "i", "a"] (defScope (topS 32)) := ⟨rfl, rfl, rfl, by decide +kernel, rfl, by decide +kernel, by decide +kernel⟩
/-- across: 0 rows, 1 j, 2 b, 3 i, 4 a -/
theorem ok_across {P : Program} {w : World} {K : PySem.W.Frag} {mg : Str → Option Value} {base : Heap} (W : Wd K mg) (h_quotient_of : Has P w K mg base "quotient_of" 3 ["one", "other"] sp_quotient_of) (h_product_of : Has P w K mg base "product_of" 3 ["one", "other"] sp_product_of) : Has P w K mg base "across" 4 ["rows", "j", "b", "i", "a"] sp_across := by
  refine has_of W 19 32 rfl rfl sc_across (fun _ _ _ _ _ _ us hl => match us, hl with | [_, _, _, _, _], _ => rfl) (fun vs H Q E h => ?_) (fun f cdv A outer s H vs Q E hr h => ?_)
  · obtain ⟨p, m, n, j, b, i, a, M, rfl, hM, hj, hi, hb, ha, h1, s1, s2, q⟩ := h; rfl
  · obtain ⟨p, m, n, j, b, i, a, M, rfl, hM, hj, hi, hb, ha, h1, s1, s2, q⟩ := h
    have nd := sc_across.nd
    refine ⟨_, (pss_one (ps_ret (pe_has h_quotient_of (hr.mono (by decide)) (pa_cons (pe_has h_product_of (hr.mono (by decide)) (pa_cons (pe_ix (ix_listK (K := K)) (pe_ix (ix_listK (K := K)) (pv 0) (pv 3) (fun _ _ => rfl)) (pv 2) (fun _ _ => rfl)) (pa_cons (pe_ix (ix_listK (K := K)) (pe_ix (ix_listK (K := K)) (pv 0) (pv 1) (fun _ _ => rfl)) (pv 4) (fun _ _ => rfl)) pa_nil))) (pa_cons (pe_ix (ix_listK (K := K)) (pe_ix (ix_listK (K := K)) (pv 0) (pv 1) (fun _ _ => rfl)) (pv 2) (fun _ _ => rfl)) pa_nil))))), ?_⟩
    refine z_start (σ' := [some _, some _, some _, some _, some _]) (by rfl) ?_
    walk_at "zz"
    refine z_ixM i hM hi fun r hr1 => ?_
    walk_at "zz"
    refine z_ixR b hr1 hb fun v hv => ?_
    walk_at "zz"
    refine z_ixM j hM hj fun r2 hr2 => ?_
    walk_at "zz"
    refine z_ixR a hr2 ha fun u hu => ?_
    walk_at "zz"
    refine ⟨v, u, _, _, rfl, hv, hu, s1.mono (by decide), s2.mono (by decide), fun t nt => ?_⟩
    have st := same_upd (o := .tup [.int (M i b * M j a), .int 1]) nt
    walk_at "zz"
    refine z_ixM j (hM.up Fz.ups st) hj fun r3 hr3 => ?_
    walk_at "zz"
    refine z_ixR b hr3 hb fun w hw => ?_
    walk_at "zz"
    rw [h1] at hw
    refine ⟨_, w, M i b * M j a, rfl, ⟨t, rfl, upd_same⟩, hw, (s1.mul s2 (by decide)), fun t2 nt2 => ?_⟩
    exact q t2 _ (st.trans (same_upd nt2)) upd_same
/-- a place's turn, the rows ahead of i0 and of row i0 the columns ahead of a0 done -/
def stpP (M : Nat → Nat → Int) (j b i0 a0 : Nat) : Nat → Nat → Int := fun i a => if i < j ∧ a < b ∧ (i < i0 ∨ (i = i0 ∧ a < a0)) then M i a + M i b * M j a else M i a
theorem z_neN {K : PySem.W.Frag} {mg : Str → Option Value} (W : Wd K mg) {H : Hp} {Q : VK} {v : V} {z : Int} (h : Fz H v z) (q : Q (.bl (decide (z ≠ 0))) H) : rNeD K v (.ref (He.ga K "NOUGHT")) H Q := by
  obtain ⟨t, rfl, ht⟩ := h
  refine ⟨.tuple [.int z, .int 1], .tuple [.int 0, .int 1], .tup (SqT.of ht) (.cons (.int z) (.cons (.int 1) .nil)), .tup (W.nought H) (.cons (.int 0) (.cons (.int 1) .nil)), rfl, rfl, ?_⟩
  have e : (!PyData.eqv (.tuple [.int z, .int 1]) (.tuple [.int 0, .int 1])) = decide (z ≠ 0) := by
    simp [PyData.eqv, PyData.eqvAll, Bool.beq_eq_decide_eq]
  rw [e]
  exact q
def sp_thickened : Sp := fun vs H Q _ => ∃ (p : Addr) (m n : Nat) (T : Nat → Nat → Int), vs = [.ref p] ∧ Mt Fz H p m n T ∧ 1 ≤ m ∧ m ≤ 7 ∧ 1 ≤ n ∧ n ≤ 7 ∧ (∀ i a, T i a = 0 ∨ T i a = 1) ∧
  ∀ p' H', Same H H' → Mt Fz H' p' m n (ThI n T (m * n)) → Q (.ref p') H'
abbrev N_thickened : List Str := ["table", "rows", "j", "b", "i", "a", "row"]
theorem sc_thickened : FnScope N_thickened ["table"] (defScope (topS 33)) := ⟨rfl, rfl, rfl, by decide +kernel, rfl, by decide +kernel, by decide +kernel⟩
/-- thickened: 0 table, 1 rows, 2 j, 3 b, 4 i, 5 a, 6 row -/
theorem ok_thickened {P : Program} {w : World} {K : PySem.W.Frag} {mg : Str → Option Value} {base : Heap} (W : Wd K mg) (h_look_table : Has P w K mg base "look_table" 5 ["thing"] sp_look_table) (h_sum_of : Has P w K mg base "sum_of" 3 ["one", "other"] sp_sum_of) (h_across : Has P w K mg base "across" 4 ["rows", "j", "b", "i", "a"] sp_across) : Has P w K mg base "thickened" 6 ["table"] sp_thickened := by
  have f_len : mg "len" = none := W.free 54 "len" rfl
  have f_list : mg "list" = none := W.free 55 "list" rfl
  have f_range : mg "range" = none := W.free 56 "range" rfl
  have hnought := W.glo 46 "NOUGHT" rfl
  refine has_of W 20 33 rfl rfl sc_thickened (fun _ _ _ _ _ _ us hl => match us, hl with | [_], _ => rfl) (fun vs H Q E h => ?_) (fun f cdv A outer s H vs Q E hr h => ?_)
  · obtain ⟨p, m, n, T, rfl, hM, m1, m7, n1, n7, h01, q⟩ := h; rfl
  · obtain ⟨p, m, n, T, rfl, hM, m1, m7, n1, n7, h01, q⟩ := h
    have nd := sc_thickened.nd
    refine ⟨_, (pss_cons (ps_expr (pe_has h_look_table (hr.mono (by decide)) (pa_cons (pv 0) pa_nil)))
      (pss_cons (ps_setLc (i := 1) (own := [("row", 6)]) (g := gName 6) (tt := tYes) rfl nd rfl rfl (sw_true rfl rfl rfl (by decide +kernel)) (pi_listK (K := K) (pv 0)) (blkOk_by (N := N_thickened) (sc := (defScope (topS 33))) (by decide +kernel)) (fun _ _ _ _ _ => (pg_name (i := 6) nd rfl (by first | exact Or.inl rfl | exact Or.inr rfl))) (fun _ _ _ _ _ => pts_nil) (fun _ _ _ _ _ => (pe_callTy (call_listK (K := K)) (by rfl) f_list (by decide +kernel) (pa_cons (pv 6) pa_nil))))
      (pss_cons (ps_for PassesOwn.never rfl (pi_range1 rfl f_range (pa_cons (pe_callB (call_lenK (K := K)) (by rfl) f_len PySem.boot_len (pa_cons (pv 1) pa_nil)) pa_nil)) (pg_name (i := 2) nd rfl (by first | exact Or.inl rfl | exact Or.inr rfl)) (pss_one (ps_for PassesOwn.never rfl (pi_range1 rfl f_range (pa_cons (pe_callB (call_lenK (K := K)) (by rfl) f_len PySem.boot_len (pa_cons (pe_ix (ix_listK (K := K)) (pv 1) pe_int (fun _ _ => rfl)) pa_nil)) pa_nil)) (pg_name (i := 3) nd rfl (by first | exact Or.inl rfl | exact Or.inr rfl)) (pss_one (ps_if (pt_cmpR (op_neDK (K := K) hr.units) (pe_ix (ix_listK (K := K)) (pe_ix (ix_listK (K := K)) (pv 1) (pv 2) (fun _ _ => rfl)) (pv 3) (fun _ _ => rfl)) (pe_glob (v := .ref (He.ga K "NOUGHT")) (by rfl) hnought rfl) (nomark _)) (pss_one (ps_for PassesOwn.never rfl (pi_range1 rfl f_range (pa_cons (pv 2) pa_nil)) (pg_name (i := 4) nd rfl (by first | exact Or.inl rfl | exact Or.inr rfl)) (pss_one (ps_for PassesOwn.never rfl (pi_range1 rfl f_range (pa_cons (pv 3) pa_nil)) (pg_name (i := 5) nd rfl (by first | exact Or.inl rfl | exact Or.inr rfl)) (pss_one (ps_asg (pe_has h_sum_of (hr.mono (by decide)) (pa_cons (pe_ix (ix_listK (K := K)) (pe_ix (ix_listK (K := K)) (pv 1) (pv 4) (fun _ _ => rfl)) (pv 5) (fun _ _ => rfl)) (pa_cons (pe_has h_across (hr.mono (by decide)) (pa_cons (pv 1) (pa_cons (pv 2) (pa_cons (pv 3) (pa_cons (pv 4) (pa_cons (pv 5) pa_nil)))))) pa_nil))) (pg_sub (pe_ix (ix_listK (K := K)) (pv 1) (pv 4) (fun _ _ => rfl)) (pv 5) set_list))))))) pss_nil)))))
      (pss_one (ps_ret (pv 1)))))), ?_⟩
    refine z_start (σ' := [some _, none, none, none, none, none, none]) (by rfl) ?_
    obtain ⟨as0, h1, h2, h3⟩ := id hM
    walk_at "zz"
    refine ⟨p, m, n, T, rfl, hM, m1, m7, n1, n7, fun H1 s1 => ?_⟩
    walk_at "zz"
    refine z_mapN (s1 _ _ h1) (by simp; omega) (fun i a H4 => Rw Fz H4 a n (T i)) (fun i a H H' e h => h.up Fz.ups e) (fun D i x H2 ys hx s hD nD R hR => ?_) (fun D H2 bs s nD hD hl nd np na hb => ?_)
    · obtain ⟨a, ha, rfl⟩ := ref_of hx
      have s12 := s1.trans s
      obtain ⟨vs, k1, k2, k3⟩ := (h3 i a ha).up Fz.ups s12
      walk_at "zz"
      refine ⟨a, vs, rfl, .inl (SqL.of k1), fun l nl => ?_⟩
      refine hR l _ (same_upd nl) nl (by rw [upd_same]; exact fun z => by cases z) ?_
      have lD : l ≠ D := fun e => by rw [e, hD] at nl; cases nl
      have hDl : (upd H2 l (.lst vs)) D = some (.lst ys) := by rw [upd_ne lD.symm]; exact hD
      exact ⟨vs, by rw [hide_ne lD, upd_same], k2, fun c v hv => ((k3 c v hv).up (same_upd nl)).hid hDl⟩
    · have g : Grid Fz H1 H2 D bs m n T := grid_of Fz.ups s nD hD (by rw [hl]; simp [h2]) nd np na hb
      clear hl nd np na hb hD nD s
      walk_at "zz"
      refine z_lenM g.mt ?_
      walk_at "zz"
      refine z_rng1 rfl (by omega) ?_
      refine z_forR (fun j σ H' => ∃ (y1 y2 y3 y4 y5 : Option V), σ = [some (.ref p), some (.ref D), y1, y2, y3, y4, y5] ∧ Grid Fz H1 H' D bs m n (ThI n T (j * n)))
        ⟨none, none, none, none, none, rfl, g.cong fun i _ c _ => by rw [Nat.zero_mul]; rfl⟩ (fun j σ H3 hj hP => ?_) (fun σ H3 hP => ?_)
      · obtain ⟨y1, y2, y3, y4, y5, rfl, g⟩ := hP
        have e0 : (0 : Int) + (j : Nat) = ((j : Nat) : Int) := by omega
        walk_at "zz"
        rw [e0]
        refine z_ixM 0 g.mt (by omega) fun r0 hr0 => ?_
        walk_at "zz"
        refine z_lenR hr0 ?_
        walk_at "zz"
        refine z_rng1 rfl (by omega) ?_
        refine z_forR (fun b σ H' => ∃ (y2 y3 y4 y5 : Option V), σ = [some (.ref p), some (.ref D), some (.int (j : Nat)), y2, y3, y4, y5] ∧ Grid Fz H1 H' D bs m n (ThI n T (j * n + b)))
          ⟨_, _, _, _, rfl, g⟩ (fun b σ H4 hb hP => ?_) (fun σ H4 hP => ?_)
        · obtain ⟨y2, y3, y4, y5, rfl, g⟩ := hP
          have e1 : (0 : Int) + (b : Nat) = ((b : Nat) : Int) := by omega
          have k1 : (j * n + b) / n = j := by rw [Nat.mul_comm, Nat.mul_add_div (by omega), Nat.div_eq_of_lt hb, Nat.add_zero]
          have k2 : (j * n + b) % n = b := by rw [Nat.mul_comm, Nat.mul_add_mod, Nat.mod_eq_of_lt hb]
          have hk : j * n + b ≤ 7 * n := by
            have : (j + 1) * n ≤ 7 * n := Nat.mul_le_mul_right n (by omega)
            rw [Nat.add_mul, Nat.one_mul] at this
            omega
          have vjb : ThI n T (j * n + b) j b = T j b := ThI_row (by omega) h01 hb (by rw [k1]; exact Nat.le_refl _)
          have nxt : ThI n T (j * n + (b + 1)) = stpI (ThI n T (j * n + b)) j b := by
            show stpI (ThI n T (j * n + b)) ((j * n + b) / n) ((j * n + b) % n) = _
            rw [k1, k2]
          have hsm : ∀ i a, a < n → Sm 30 (ThI n T (j * n + b) i a) := fun i a ha => Sm.mono (a := 25) (ThI_sm (by omega) n7 h01 ha hk) (by decide)
          generalize ThI n T (j * n + b) = M at g vjb nxt hsm
          walk_at "zz"
          rw [e1]
          refine z_ixM j g.mt hj fun r1 hr1 => ?_
          walk_at "zz"
          refine z_ixR b hr1 hb fun v hv => ?_
          walk_at "zz"
          refine z_neN W hv ?_
          walk_at "zz"
          refine z_it2 (fun hne => ?_) (fun hne => ?_)
          · have hone : M j b = 1 := by
              rw [vjb]
              rcases h01 j b with z | z
              · exact absurd (vjb.trans z) hne
              · exact z
            walk_at "zz"
            refine z_rng1 rfl (by omega) ?_
            refine z_forR (fun i σ H' => ∃ (y4 y5 y6 : Option V), σ = [some (.ref p), some (.ref D), some (.int (j : Nat)), some (.int (b : Nat)), y4, y5, y6] ∧ Grid Fz H1 H' D bs m n (stpP M j b i 0))
              ⟨_, _, _, rfl, g.cong fun i _ c _ => ?_⟩ (fun i σ H5 hi hP => ?_) (fun σ H5 hP => ?_)
            · unfold stpP
              rw [if_neg (by omega)]
            · obtain ⟨y4, y5, y6, rfl, g⟩ := hP
              have e2 : (0 : Int) + (i : Nat) = ((i : Nat) : Int) := by omega
              walk_at "zz"
              rw [e2]
              refine z_rng1 rfl (by omega) ?_
              refine z_forR (fun a σ H' => ∃ (y5 y6 : Option V), σ = [some (.ref p), some (.ref D), some (.int (j : Nat)), some (.int (b : Nat)), some (.int (i : Nat)), y5, y6] ∧ Grid Fz H1 H' D bs m n (stpP M j b i a))
                ⟨_, _, rfl, g⟩ (fun a σ H6 ha hP => ?_) (fun σ H6 hP => ?_)
              · obtain ⟨y5, y6, rfl, g⟩ := hP
                have e3 : (0 : Int) + (a : Nat) = ((a : Nat) : Int) := by omega
                have v1 : stpP M j b i a i a = M i a := by unfold stpP; rw [if_neg (by omega)]
                have v2 : stpP M j b i a i b = M i b := by unfold stpP; rw [if_neg (by omega)]
                have v3 : stpP M j b i a j a = M j a := by unfold stpP; rw [if_neg (by omega)]
                have v4 : stpP M j b i a j b = 1 := by unfold stpP; rw [if_neg (by omega)]; exact hone
                obtain ⟨ai, hai⟩ := get_of_lt (l := bs) (i := i) (by rw [g.len]; omega)
                walk_at "zz"
                rw [e3]
                refine z_ixL g.lst (atI_nat (j := i) (ref_at hai)) ?_
                walk_at "zz"
                refine z_ixR a (g.row _ _ hai) (by omega) fun v1' hv1 => ?_
                rw [v1] at hv1
                walk_at "zz"
                refine ⟨D, m, n, j, b, i, a, _, rfl, g.mt, hj, by omega, hb, by omega, v4, by rw [v2]; exact hsm i b hb, by rw [v3]; exact hsm j a (by omega), fun t H7 s7 ht => ?_⟩
                rw [v2, v3] at ht
                have g7 := g.up Fz.ups s7
                refine ⟨_, _, _, _, rfl, hv1.up s7, ⟨t, rfl, ht⟩, (hsm i a (by omega)).mono (by decide), (hsm i b hb).mul (hsm j a (by omega)) (by decide), fun t2 nt2 => ?_⟩
                have g8 := g7.up Fz.ups (same_upd (o := .tup [.int (M i a + M i b * M j a), .int 1]) nt2)
                walk_at "zz"
                refine z_ixL g8.lst (atI_nat (j := i) (ref_at hai)) ?_
                walk_at "zz"
                obtain ⟨ws, w1, w2, w3⟩ := g8.row _ _ hai
                refine z_setL w1 (by rw [w2]; omega) ?_
                walk_at "zz"
                refine ⟨_, _, rfl, (g8.set Fz.fr hai w1 (x := M i a + M i b * M j a) ⟨t2, rfl, upd_same⟩).cong fun i' _ c _ => ?_⟩
                unfold put2 stpP
                by_cases c1 : i' = i ∧ c = a
                · obtain ⟨rfl, rfl⟩ := c1
                  rw [if_pos ⟨rfl, rfl⟩, if_pos (by omega)]
                · rw [if_neg c1]
                  by_cases c2 : i' < j ∧ c < b ∧ (i' < i ∨ (i' = i ∧ c < a))
                  · rw [if_pos c2, if_pos (by omega)]
                  · rw [if_neg c2, if_neg (by omega)]
              · obtain ⟨y5, y6, rfl, g⟩ := hP
                walk_at "zz"
                refine ⟨_, _, _, rfl, g.cong fun i' _ c _ => ?_⟩
                unfold stpP
                by_cases c1 : i' < j ∧ c < b ∧ (i' < i ∨ (i' = i ∧ c < b))
                · rw [if_pos c1, if_pos (by omega)]
                · rw [if_neg c1, if_neg (by omega)]
            · obtain ⟨y4, y5, y6, rfl, g⟩ := hP
              walk_at "zz"
              refine ⟨_, _, _, _, rfl, g.cong fun i' _ c _ => ?_⟩
              rw [nxt]
              unfold stpP stpI
              by_cases c1 : i' < j ∧ c < b
              · rw [if_pos (by omega), if_pos ⟨hne, c1⟩]
              · rw [if_neg (by omega), if_neg (fun z => c1 z.2)]
          · walk_at "zz"
            refine ⟨_, _, _, _, rfl, g.cong fun i _ c _ => ?_⟩
            rw [nxt]
            unfold stpI
            rw [if_neg (fun z => hne z.1)]
        · obtain ⟨y2, y3, y4, y5, rfl, g⟩ := hP
          walk_at "zz"
          refine ⟨_, _, _, _, _, rfl, ?_⟩
          rw [Nat.add_mul, Nat.one_mul]
          exact g
      · obtain ⟨y1, y2, y3, y4, y5, rfl, g⟩ := hP
        walk_at "zz"
        exact q D _ (s1.trans g.same) g.mt
end Smo

set_option Elab.async false
set_option linter.all false
set_option maxRecDepth 100000
set_option maxHeartbeats 4000000
namespace Smo
open PySem PySem.Spec PyProof.Rows L2
local macro_rules | `(tactic| walk_at "zz") => `(tactic| ((try dsimp only); repeat (first | refine ZS.go ?_ | refine And.intro (rfl : wipe _ _ = wipe _ _) ?_)))
section
variable {σ : L2.St} {H : Hp} {Q : VK} {K : PySem.W.Frag} {g : TG} {p : Addr} {xs : List V}
instance {ta : TA} {R : It → Hp → Prop} : ZS (iEnum K ta σ H R) (ta σ H fun vs H1 => ∃ a xs, vs = [.ref a] ∧ SqL K H1 a xs ∧ R (Ite K a) H1) := ⟨id⟩
theorem z_enum {R : It → Hp → Prop} (h : H p = some (.lst xs)) (q : R (Ite K p) H) : ∃ a xs, [V.ref p] = [.ref a] ∧ SqL K H a xs ∧ R (Ite K a) H := ⟨p, xs, rfl, SqL.of h, q⟩
/-- for i, x in enumerate(xs) -/
theorem z_forE {tb : TS} {D : Ends} (Pv : Nat → L2.St → Hp → Prop) (h0 : Pv 0 σ H) (hl : ∀ i σ H, Pv i σ H → H p = some (.lst xs))
    (hs : ∀ i x T σ H, xs[i]? = some x → Pv i σ H → H T = none → g (.ref T) σ (upd H T (.tup [.int (i : Nat), x])) fun σ2 H2 => tb { D with nx := Pv (i + 1), ct := Pv (i + 1), bk := D.nx } σ2 H2) (hd : ∀ σ H, Pv xs.length σ H → D.nx σ H) :
    ForK g tb D σ (Ite K p) H := by
  refine ⟨fun i m σ H => m = xs.length - i ∧ i ≤ xs.length ∧ Pv i σ H, ⟨_, rfl, Nat.zero_le _, h0⟩, ?_⟩
  rintro i m σ H ⟨rfl, hi, hp⟩
  have hq := hl i σ H hp
  by_cases c : i < xs.length
  · obtain ⟨x, hx⟩ := get_of_lt c
    refine .inr ⟨⟨xs, x, SqL.of hq, hx⟩, Pv (i + 1), fun σ' H' p' => ⟨xs.length - (i + 1), by omega, rfl, by omega, p'⟩, fun v H' y => ?_⟩
    obtain ⟨T, x', rfl, nT, rfl, f⟩ := y
    have e : x' = x := Option.some.inj ((f _ (SqL.of hq)).symm.trans hx)
    subst e
    exact hs i x' T σ H hx hp nT
  · have e : i = xs.length := by omega
    subst e
    exact .inl ⟨⟨xs, SqL.of hq, Nat.le_refl _⟩, hd σ H hp⟩
end
/-- marks that are a staircase -/
structure Mks (m n : Nat) (S : Nat → Nat → Int) : Prop where
  h01 : ∀ i a, S i a = 0 ∨ S i a = 1
  out : ∀ i a, n ≤ a → S i a = 0
  rule : ∀ i, i < m → ∀ c, c < n → S i c = 0 → (∀ c' < c, S i c' = 0) ∨ ∀ i' < i, S i' c = 0
def sp_are_marks : Sp := fun vs H Q _ => ∃ (a : Addr) (n : Nat) (r : Nat → Int), vs = [.ref a, .int (n : Nat)] ∧ Rw Ci H a n r ∧ n ≤ 7 ∧ (∀ c, r c = 0 ∨ r c = 1) ∧ ∀ H', Same H H' → Q (.bl true) H'
abbrev N_are_marks : List Str := ["thing", "many", "mark"]
theorem sc_are_marks : FnScope N_are_marks ["thing", "many"] (defScope (topS 35)) := ⟨rfl, rfl, rfl, by decide +kernel, rfl, by decide +kernel, by decide +kernel⟩
/-- are_marks: 0 thing, 1 many, 2 mark -/
theorem ok_are_marks {P : Program} {w : World} {K : PySem.W.Frag} {mg : Str → Option Value} {base : Heap} (W : Wd K mg) (h_is_whole : Has P w K mg base "is_whole" 1 ["thing"] sp_is_whole) : Has P w K mg base "are_marks" 2 ["thing", "many"] sp_are_marks := by
  have f_all : mg "all" = none := W.free 49 "all" rfl
  have f_isinstance : mg "isinstance" = none := W.free 53 "isinstance" rfl
  have f_len : mg "len" = none := W.free 54 "len" rfl
  have f_list : mg "list" = none := W.free 55 "list" rfl
  refine has_of W 21 35 rfl rfl sc_are_marks (fun _ _ _ _ _ _ us hl => match us, hl with | [_, _], _ => rfl) (fun vs H Q E h => ?_) (fun f cdv A outer s H vs Q E hr h => ?_)
  · obtain ⟨a, n, r, rfl, ⟨xs, h1, h2, h3⟩, hn, h01, q⟩ := h; rfl
  · obtain ⟨a, n, r, rfl, ⟨xs, h1, h2, h3⟩, hn, h01, q⟩ := h
    have nd := sc_are_marks.nd
    refine ⟨_, (pss_cons (ps_if (PW.pt (pw_or (pt_not (pt_val (pe_callB (call_isK1 (K := K)) (by rfl) f_isinstance (by decide +kernel) (pa_cons (pv 0) (pa_cons (pe_bltn (v := .ty "list") (by rfl) f_list (by decide +kernel) rfl) pa_nil))))) (pw_or1 (pt_cmpR op_ne (pe_callB (call_lenK (K := K)) (by rfl) f_len PySem.boot_len (pa_cons (pv 0) pa_nil)) (pv 1) (nomark _))))) (pss_one (ps_ret pe_bl)) pss_nil)
      (pss_one (ps_ret (pe_callB (cr_allK (K := K) rfl) (by rfl) f_all (by decide +kernel) (pa_cons (pe_lc (own := [("mark", 2)]) (g := gName 2) (tt := tYes) rfl nd (pi_listK (K := K) (pv 0)) (blkOk_by (N := N_are_marks) (sc := (defScope (topS 35))) (by decide +kernel)) (fun _ _ _ _ _ => (pg_name (i := 2) nd rfl (by first | exact Or.inl rfl | exact Or.inr rfl))) (fun _ _ _ _ _ => pts_nil) (fun _ _ _ _ _ => (pe_and (pe_has h_is_whole (hr.mono (by decide)) (pa_cons (pv 2) pa_nil)) (pe_one (pe_chain op_le op_le pe_int (pv 2) pe_int))))) pa_nil))))), ?_⟩
    refine z_start (σ' := [some _, some _, none]) (by rfl) ?_
    walk_at "zz"
    refine isi_ty (a := "list") (b := "list") (.base (.lst h1)) (r := true) (by decide +kernel) ?_
    walk_at "zz"
    refine z_len h1 ?_
    walk_at "zz"
    refine z_itF (by rw [h2]; simp) ?_
    walk_at "zz"
    refine z_mapL h1 (by omega) (fun _ v _ => v = .bl true) (fun _ _ _ _ _ h => h) (fun D i x H2 ys hx s hD nD R hR => ?_) (fun D H2 ys s nD hD hl hy => ?_)
    · cases (h3 i x hx : x = .int (r i))
      walk_at "zz"
      refine ⟨r i, rfl, ?_⟩
      walk_at "zz"
      refine z_itT (by rcases h01 i with z | z <;> omega) ?_
      walk_at "zz"
      refine hR _ _ (Same.refl _) ?_
      rw [decide_eq_true (by rcases h01 i with z | z <;> omega)]
    · walk_at "zz"
      have e := all_trues (n := n) (hl.trans h2) hy
      refine ⟨D, List.replicate n true, rfl, SqL.of (by rw [hD, e]), ?_⟩
      rw [all_rep]
      exact q _ s
theorem z_notin {K : PySem.W.Frag} {H : Hp} {Q : VK} {p : Addr} {ns : List Int} (h : H p = some (.lst (ns.map V.int))) (q : Q (.bl (!decide (1 ∈ ns))) H) : rIn K true (.int 1) (.ref p) H Q := by
  refine ⟨p, _, rfl, .inl (SqL.of h), rfl, ?_, ?_⟩
  · rw [List.all_eq_true]
    intro x hx
    obtain ⟨z, _, rfl⟩ := List.mem_map.mp hx
    rfl
  · have e : inV (.int 1) (ns.map V.int) = decide (1 ∈ ns) := by
      unfold inV
      rw [List.any_map]
      by_cases c : (1 : Int) ∈ ns
      · rw [decide_eq_true c, List.any_eq_true]
        exact ⟨1, c, rfl⟩
      · rw [decide_eq_false c, List.any_eq_false]
        intro x hx hh
        have : x = 1 := by simpa [eqV] using hh
        exact c (this ▸ hx)
    rw [e]
    exact q
def sp_is_free : Sp := fun vs H Q _ => ∃ (p : Addr) (m n i j : Nat) (S : Nat → Nat → Int), vs = [.ref p, .int (i : Nat), .int (j : Nat)] ∧ Mt Ci H p m n S ∧ m ≤ 7 ∧ i < m ∧ j < n ∧ ((∀ c < j, S i c = 0) ∨ ∀ a < i, S a j = 0) ∧ ∀ H', Same H H' → Q (.bl true) H'
abbrev N_is_free : List Str := ["marks", "i", "j", "row"]
theorem sc_is_free : FnScope N_is_free ["marks", "i", "j"] (defScope (topS 36)) := ⟨rfl, rfl, rfl, by decide +kernel, rfl, by decide +kernel, by decide +kernel⟩
/-- is_free: 0 marks, 1 i, 2 j, 3 row -/
theorem ok_is_free {P : Program} {w : World} {K : PySem.W.Frag} {mg : Str → Option Value} {base : Heap} (W : Wd K mg)  : Has P w K mg base "is_free" 1 ["marks", "i", "j"] sp_is_free := by
  refine has_of W 22 36 rfl rfl sc_is_free (fun _ _ _ _ _ _ us hl => match us, hl with | [_, _, _], _ => rfl) (fun vs H Q E h => ?_) (fun f cdv A outer s H vs Q E hr h => ?_)
  · obtain ⟨p, m, n, i, j, S, rfl, hM, hm, hi, hj, hc, q⟩ := h; rfl
  · obtain ⟨p, m, n, i, j, S, rfl, hM, hm, hi, hj, hc, q⟩ := h
    have nd := sc_is_free.nd
    refine ⟨_, (pss_one (ps_ret (pe_or (pe_cmpR (op_notInK (K := K)) pe_int (pe_slice (sl_listK (K := K)) (pe_ix (ix_listK (K := K)) (pv 0) (pv 1) (fun _ _ => rfl)) po_none (po_some (pv 2))) (by rfl)) (pe_one (pe_cmpR (op_notInK (K := K)) pe_int (pe_lc (own := [("row", 3)]) (g := gName 3) (tt := tYes) rfl nd (pi_listK (K := K) (pe_slice (sl_listK (K := K)) (pv 0) po_none (po_some (pv 1)))) (blkOk_by (N := N_is_free) (sc := (defScope (topS 36))) (by decide +kernel)) (fun _ _ _ _ _ => (pg_name (i := 3) nd rfl (by first | exact Or.inl rfl | exact Or.inr rfl))) (fun _ _ _ _ _ => pts_nil) (fun _ _ _ _ _ => (pe_ix (ix_listK (K := K)) (pv 3) (pv 2) (fun _ _ => rfl)))) (by rfl)))))), ?_⟩
    refine z_start (σ' := [some _, some _, some _, none]) (by rfl) ?_
    obtain ⟨as, h1, h2, h3⟩ := id hM
    walk_at "zz"
    refine z_ixM i hM hi fun a ha => ?_
    have ha1 := ha.ints
    walk_at "zz"
    refine z_slice ha1 fun e ne => ?_
    rw [cut_to _ _ (by simp; omega), ← List.map_take]
    have s1 := same_upd (o := .lst ((((List.range n).map (S i)).take j).map V.int)) ne
    walk_at "zz"
    refine z_notin upd_same ?_
    walk_at "zz"
    by_cases hin : (1 : Int) ∈ ((List.range n).map (S i)).take j
    · have above : ∀ a < i, S a j = 0 := by
        rcases hc with z | z
        · exfalso
          obtain ⟨x, hx⟩ := List.getElem?_of_mem hin
          have hxj : x < j := by
            have := get_lt hx
            rw [List.length_take] at this
            omega
          rw [List.getElem?_take, if_pos hxj, List.getElem?_map, List.getElem?_range (by omega)] at hx
          have := Option.some.inj hx
          have := z x hxj
          omega
        · exact z
      rw [decide_eq_true hin]
      walk_at "zz"
      refine z_slice (s1 _ _ h1) fun e2 ne2 => ?_
      have s2 := s1.trans (same_upd (o := .lst (cutV (as.map V.ref) none (some ((i : Nat) : Int)))) ne2)
      walk_at "zz"
      refine z_mapL (xs := cutV (as.map V.ref) none (some ((i : Nat) : Int))) upd_same (by rw [cut_to _ _ (by simp; omega)]; simp; omega) (fun k v _ => v = .int (S k j)) (fun _ _ _ _ _ h => h) (fun D k x H2 ys hx s hD nD R hR => ?_) (fun D H2 ys s nD hD hl hy => ?_)
      · rw [cut_to _ _ (by simp; omega), ← List.map_take] at hx
        obtain ⟨ak, hak, rfl⟩ := ref_of hx
        have hak' : as[k]? = some ak := by
          rw [List.getElem?_take] at hak
          split at hak
          · exact hak
          · cases hak
        walk_at "zz"
        refine z_ixI j ((h3 k ak hak').up Ci.up (s2.trans s)) hj ?_
        exact hR _ _ (Same.refl _) rfl
      · rw [cut_to _ _ (by simp; omega), List.length_take, List.length_map, h2, Nat.min_eq_left (by omega)] at hl
        have e := map_of_get (f := fun k => V.int (S k j)) hl hy
        have e' : ys = ((List.range i).map fun k => S k j).map V.int := by rw [e, List.map_map]; rfl
        rw [e'] at hD
        walk_at "zz"
        refine z_notin hD ?_
        have nin : ¬ (1 : Int) ∈ (List.range i).map fun k => S k j := fun hmem => by
          obtain ⟨k, hk, hk2⟩ := List.mem_map.mp hmem
          have := above k (List.mem_range.mp hk)
          omega
        rw [decide_eq_false nin]
        exact q _ (s2.trans s)
    · rw [decide_eq_false hin]
      walk_at "zz"
      exact q _ s1
def sp_is_staircase : Sp := fun vs H Q _ => ∃ (p : Addr) (m n : Nat) (S : Nat → Nat → Int), vs = [.ref p] ∧ Mt Ci H p m n S ∧ 1 ≤ m ∧ m ≤ 7 ∧ 1 ≤ n ∧ n ≤ 7 ∧ Mks m n S ∧ ∀ H', Same H H' → Q (.bl true) H'
abbrev N_is_staircase : List Str := ["thing", "many", "i", "row", "j", "mark"]
theorem sc_is_staircase : FnScope N_is_staircase ["thing"] (defScope (topS 37)) := ⟨rfl, rfl, rfl, by decide +kernel, rfl, by decide +kernel, by decide +kernel⟩
/-- is_staircase: 0 thing, 1 many, 2 i, 3 row, 4 j, 5 mark -/
theorem ok_is_staircase {P : Program} {w : World} {K : PySem.W.Frag} {mg : Str → Option Value} {base : Heap} (W : Wd K mg) (h_are_marks : Has P w K mg base "are_marks" 2 ["thing", "many"] sp_are_marks) (h_is_free : Has P w K mg base "is_free" 1 ["marks", "i", "j"] sp_is_free) : Has P w K mg base "is_staircase" 3 ["thing"] sp_is_staircase := by
  have f_all : mg "all" = none := W.free 49 "all" rfl
  have f_enumerate : mg "enumerate" = none := W.free 51 "enumerate" rfl
  have f_isinstance : mg "isinstance" = none := W.free 53 "isinstance" rfl
  have f_len : mg "len" = none := W.free 54 "len" rfl
  have f_list : mg "list" = none := W.free 55 "list" rfl
  obtain ⟨_, hmost⟩ := W.most
  refine has_of W 23 37 rfl rfl sc_is_staircase (fun _ _ _ _ _ _ us hl => match us, hl with | [_], _ => rfl) (fun vs H Q E h => ?_) (fun f cdv A outer s H vs Q E hr h => ?_)
  · obtain ⟨p, m, n, S, rfl, hM, m1, m7, n1, n7, hS, q⟩ := h; rfl
  · obtain ⟨p, m, n, S, rfl, hM, m1, m7, n1, n7, hS, q⟩ := h
    have nd := sc_is_staircase.nd
    refine ⟨_, (pss_cons (ps_if (PW.pt (pw_or (pt_not (pt_val (pe_callB (call_isK1 (K := K)) (by rfl) f_isinstance (by decide +kernel) (pa_cons (pv 0) (pa_cons (pe_bltn (v := .ty "list") (by rfl) f_list (by decide +kernel) rfl) pa_nil))))) (pw_or (pt_not (pt_chain op_le op_le pe_int (pe_callB (call_lenK (K := K)) (by rfl) f_len PySem.boot_len (pa_cons (pv 0) pa_nil)) (pe_glob (v := .int 7) (by rfl) hmost ⟨_, rfl⟩))) (pw_or1 (pt_not (pt_val (pe_callB (call_isK1 (K := K)) (by rfl) f_isinstance (by decide +kernel) (pa_cons (pe_ix (ix_listK (K := K)) (pv 0) pe_int (fun _ _ => rfl)) (pa_cons (pe_bltn (v := .ty "list") (by rfl) f_list (by decide +kernel) rfl) pa_nil))))))))) (pss_one (ps_ret pe_bl)) pss_nil)
      (pss_cons (ps_set (i := 1) nd rfl (by first | exact Or.inl rfl | exact Or.inr rfl) (pe_callB (call_lenK (K := K)) (by rfl) f_len PySem.boot_len (pa_cons (pe_ix (ix_listK (K := K)) (pv 0) pe_int (fun _ _ => rfl)) pa_nil)))
      (pss_cons (ps_if (PW.pt (pw_or (pt_not (pt_chain op_le op_le pe_int (pv 1) (pe_glob (v := .int 7) (by rfl) hmost ⟨_, rfl⟩))) (pw_or1 (pt_not (pt_val (pe_callB (cr_allK (K := K) rfl) (by rfl) f_all (by decide +kernel) (pa_cons (pe_lc (own := [("row", 3)]) (g := gName 3) (tt := tYes) rfl nd (pi_listK (K := K) (pv 0)) (blkOk_by (N := N_is_staircase) (sc := (defScope (topS 37))) (by decide +kernel)) (fun _ _ _ _ _ => (pg_name (i := 3) nd rfl (by first | exact Or.inl rfl | exact Or.inr rfl))) (fun _ _ _ _ _ => pts_nil) (fun _ _ _ _ _ => (pe_has h_are_marks (hr.mono (by decide)) (pa_cons (pv 3) (pa_cons (pv 1) pa_nil))))) pa_nil))))))) (pss_one (ps_ret pe_bl)) pss_nil)
      (pss_cons (ps_for PassesOwn.never rfl (pi_enum (by rfl) f_enumerate (pa_cons (pv 0) pa_nil)) (pg_tup (n := 2) rfl (pgs_cons (pg_name (i := 2) nd rfl (by first | exact Or.inl rfl | exact Or.inr rfl)) (pgs_cons (pg_name (i := 3) nd rfl (by first | exact Or.inl rfl | exact Or.inr rfl)) pgs_nil))) (pss_one (ps_for PassesOwn.never rfl (pi_enum (by rfl) f_enumerate (pa_cons (pv 3) pa_nil)) (pg_tup (n := 2) rfl (pgs_cons (pg_name (i := 4) nd rfl (by first | exact Or.inl rfl | exact Or.inr rfl)) (pgs_cons (pg_name (i := 5) nd rfl (by first | exact Or.inl rfl | exact Or.inr rfl)) pgs_nil))) (pss_one (ps_if (PW.pt (pw_and (pt_cmpR op_eq (pv 5) pe_int (nomark _)) (pw_and1 (pt_not (pt_val (pe_has h_is_free (hr.mono (by decide)) (pa_cons (pv 0) (pa_cons (pv 2) (pa_cons (pv 4) pa_nil))))))))) (pss_one (ps_ret pe_bl)) pss_nil)))))
      (pss_one (ps_ret pe_bl)))))), ?_⟩
    refine z_start (σ' := [some _, none, none, none, none, none]) (by rfl) ?_
    obtain ⟨as, h1, h2, h3⟩ := id hM
    obtain ⟨a0, ha0⟩ := get_of_lt (l := as) (i := 0) (by omega)
    obtain ⟨v0, g1, g2, g3⟩ := h3 0 a0 ha0
    walk_at "zz"
    refine isi_ty (a := "list") (b := "list") (.base (.lst h1)) (r := true) (by decide +kernel) ?_
    walk_at "zz"
    refine z_len h1 ?_
    walk_at "zz"
    refine z_itT (by simp; omega) ?_
    walk_at "zz"
    have e1 : decide (((as.map V.ref).length : Int) ≤ 7) = true := by simp; omega
    rw [e1]
    walk_at "zz"
    refine z_ixL h1 (atI_nat (j := 0) (ref_at ha0)) ?_
    walk_at "zz"
    refine isi_ty (a := "list") (b := "list") (.base (.lst g1)) (r := true) (by decide +kernel) ?_
    walk_at "zz"
    refine z_ixL h1 (atI_nat (j := 0) (ref_at ha0)) ?_
    walk_at "zz"
    refine z_len g1 ?_
    rw [g2]
    walk_at "zz"
    refine z_itT (by omega) ?_
    walk_at "zz"
    have e2 : decide (((n : Nat) : Int) ≤ 7) = true := by simp; omega
    rw [e2]
    walk_at "zz"
    refine z_mapL h1 (by simp; omega) (fun _ v _ => v = .bl true) (fun _ _ _ _ _ h => h) (fun D i x H2 ys hx s hD nD R hR => ?_) (fun D H2 ys s nD hD hl hy => ?_)
    · obtain ⟨a, ha, rfl⟩ := ref_of hx
      walk_at "zz"
      refine ⟨a, n, S i, rfl, (h3 i a ha).up Ci.up s, n7, hS.h01 i, fun H' s' => hR _ _ s' rfl⟩
    · walk_at "zz"
      have e := all_trues (n := m) (hl.trans (by simp [h2])) hy
      refine ⟨D, List.replicate m true, rfl, SqL.of (by rw [hD, e]), ?_⟩
      rw [all_rep]
      walk_at "zz"
      refine z_enum (s _ _ h1) ?_
      refine z_forE (xs := as.map V.ref) (fun i σ H' => ∃ y1 y2 y3 y4 : Option V, σ = [some (.ref p), some (.int (n : Nat)), y1, y2, y3, y4] ∧ Same H H') ⟨_, _, _, _, rfl, s⟩ (fun i σ H' hP => ?_) (fun i x T σ H' hx hP nT => ?_) (fun σ H' hP => ?_)
      · obtain ⟨y1, y2, y3, y4, rfl, s⟩ := hP
        exact s _ _ h1
      · obtain ⟨y1, y2, y3, y4, rfl, s⟩ := hP
        obtain ⟨a, ha, rfl⟩ := ref_of hx
        have hi : i < m := by rw [← h2]; exact get_lt ha
        have s2 := s.trans (same_upd (o := .tup [.int (i : Nat), .ref a]) nT)
        have hr2 := (h3 i a ha).up Ci.up s2
        refine z_gtup upd_same rfl ?_
        walk_at "zz"
        refine z_enum hr2.ints ?_
        refine z_forE (xs := ((List.range n).map (S i)).map V.int) (fun j σ H' => ∃ y3 y4 : Option V, σ = [some (.ref p), some (.int (n : Nat)), some (.int (i : Nat)), some (.ref a), y3, y4] ∧ Same H H') ⟨_, _, rfl, s2⟩ (fun j σ H' hP => ?_) (fun j x T σ H' hx hP nT => ?_) (fun σ H' hP => ?_)
        · obtain ⟨y3, y4, rfl, s⟩ := hP
          exact ((h3 i a ha).up Ci.up s).ints
        · obtain ⟨y3, y4, rfl, s⟩ := hP
          have hj : j < n := by
            have := get_lt hx
            simpa using this
          have ex : x = .int (S i j) := by
            rw [List.getElem?_map, List.getElem?_map, List.getElem?_range hj] at hx
            exact (Option.some.inj hx).symm
          subst ex
          have s2 := s.trans (same_upd (o := .tup [.int (j : Nat), .int (S i j)]) nT)
          refine z_gtup upd_same rfl ?_
          walk_at "zz"
          refine z_it2 (fun h0 => ?_) (fun h0 => ?_)
          · walk_at "zz"
            refine ⟨p, m, n, i, j, S, rfl, hM.up Ci.up s2, m7, hi, hj, hS.rule i hi j hj h0, fun H3 s3 => ?_⟩
            walk_at "zz"
            exact ⟨_, _, rfl, s2.trans s3⟩
          · walk_at "zz"
            exact ⟨_, _, rfl, s2⟩
        · obtain ⟨y3, y4, rfl, s⟩ := hP
          walk_at "zz"
          exact ⟨_, _, _, _, rfl, s⟩
      · obtain ⟨y1, y2, y3, y4, rfl, s⟩ := hP
        walk_at "zz"
        exact q _ s
def sp_look_stairs : Sp := fun vs H Q _ => ∃ (p : Addr) (m n : Nat) (S : Nat → Nat → Int), vs = [.ref p] ∧ Mt Ci H p m n S ∧ 1 ≤ m ∧ m ≤ 7 ∧ 1 ≤ n ∧ n ≤ 7 ∧ Mks m n S ∧ ∀ H', Same H H' → Q .non H'
abbrev N_look_stairs : List Str := ["thing"]
theorem sc_look_stairs : FnScope N_look_stairs ["thing"] (defScope (topS 38)) := ⟨rfl, rfl, rfl, by decide +kernel, rfl, by decide +kernel, by decide +kernel⟩
/-- look_stairs: 0 thing -/
theorem ok_look_stairs {P : Program} {w : World} {K : PySem.W.Frag} {mg : Str → Option Value} {base : Heap} (W : Wd K mg) (h_is_staircase : Has P w K mg base "is_staircase" 3 ["thing"] sp_is_staircase) : Has P w K mg base "look_stairs" 4 ["thing"] sp_look_stairs := by
  refine has_of W 24 38 rfl rfl sc_look_stairs (fun _ _ _ _ _ _ us hl => match us, hl with | [_], _ => rfl) (fun vs H Q E h => ?_) (fun f cdv A outer s H vs Q E hr h => ?_)
  · obtain ⟨p, m, n, S, rfl, hM, m1, m7, n1, n7, hS, q⟩ := h; rfl
  · obtain ⟨p, m, n, S, rfl, hM, m1, m7, n1, n7, hS, q⟩ := h
    have nd := sc_look_stairs.nd
    refine ⟨_, (pss_one (ps_if (pt_not (pt_val (pe_has h_is_staircase (hr.mono (by decide)) (pa_cons (pv 0) pa_nil)))) (pss_one ps_never) pss_nil)), ?_⟩
    refine z_start (σ' := [some _]) (by rfl) ?_
    walk_at "zz"
    refine ⟨p, m, n, S, rfl, hM, m1, m7, n1, n7, hS, fun H' s => ?_⟩
    walk_at "zz"
    exact q _ s
def sp_plainest : Sp := fun vs H Q _ => ∃ (p : Addr) (m n : Nat) (S : Nat → Nat → Int), vs = [.ref p] ∧ Mt Ci H p m n S ∧ 1 ≤ m ∧ m ≤ 7 ∧ 1 ≤ n ∧ n ≤ 7 ∧ Mks m n S ∧ ∀ p' H', Same H H' → Mt Fz H' p' m n (ThI n S (m * n)) → Q (.ref p') H'
abbrev N_plainest : List Str := ["marks", "row", "mark"]
theorem sc_plainest : FnScope N_plainest ["marks"] (defScope (topS 39)) := ⟨rfl, rfl, rfl, by decide +kernel, rfl, by decide +kernel, by decide +kernel⟩
/-- plainest: 0 marks, 1 row, 2 mark -/
theorem ok_plainest {P : Program} {w : World} {K : PySem.W.Frag} {mg : Str → Option Value} {base : Heap} (W : Wd K mg) (h_thickened : Has P w K mg base "thickened" 6 ["table"] sp_thickened) : Has P w K mg base "plainest" 7 ["marks"] sp_plainest := by
  refine has_of W 25 39 rfl rfl sc_plainest (fun _ _ _ _ _ _ us hl => match us, hl with | [_], _ => rfl) (fun vs H Q E h => ?_) (fun f cdv A outer s H vs Q E hr h => ?_)
  · obtain ⟨p, m, n, S, rfl, hM, m1, m7, n1, n7, hS, q⟩ := h; rfl
  · obtain ⟨p, m, n, S, rfl, hM, m1, m7, n1, n7, hS, q⟩ := h
    have nd := sc_plainest.nd
    refine ⟨_, (pss_one (ps_ret (pe_has h_thickened (hr.mono (by decide)) (pa_cons (pe_lc (own := [("row", 1)]) (g := gName 1) (tt := tYes) rfl nd (pi_listK (K := K) (pv 0)) (blkOk_by (N := N_plainest) (sc := (defScope (topS 39))) (by decide +kernel)) (fun _ _ _ _ _ => (pg_name (i := 1) nd rfl (by first | exact Or.inl rfl | exact Or.inr rfl))) (fun _ _ _ _ _ => pts_nil) (fun _ _ _ _ _ => (pe_lc (own := [("mark", 2)]) (g := gName 2) (tt := tYes) rfl nd (pi_listK (K := K) (pv 1)) (blkOk_by (N := N_plainest) (sc := (relS (rtScope (defBody (topS 39))) (defScope (topS 39)))) (by decide +kernel)) (fun _ _ _ _ _ => (pg_name (i := 2) nd rfl (by first | exact Or.inl rfl | exact Or.inr rfl))) (fun _ _ _ _ _ => pts_nil) (fun _ _ _ _ _ => (pe_tup (pa_cons (pv 2) (pa_cons pe_int pa_nil))))))) pa_nil)))), ?_⟩
    refine z_start (σ' := [some _, none, none]) (by rfl) ?_
    obtain ⟨as, h1, h2, h3⟩ := id hM
    walk_at "zz"
    refine z_mapL h1 (by simp; omega) (fun i v H4 => ∃ a, v = .ref a ∧ Rw Fz H4 a n (S i)) (fun i v H H' e ⟨a, h, r⟩ => ⟨a, h, r.up Fz.ups e⟩) (fun D i x H2 ys hx s hD nD R hR => ?_) (fun D H2 ys s nD hD hl hy => ?_)
    · obtain ⟨a, ha, rfl⟩ := ref_of hx
      have hra := (h3 i a ha).up Ci.up s
      walk_at "zz"
      refine z_mapL hra.ints (by simp; omega) (fun j v H4 => Fz H4 v (S i j)) (fun i v H H' e h => h.up e) (fun D2 j y H3 ys2 hy s4 hD2 nD2 R2 hR2 => ?_) (fun D2 H3 ys2 s4 nD2 hD2 hl2 hy2 => ?_)
      · have hj : j < n := by
          have := get_lt hy
          simpa using this
        have ex : y = .int (S i j) := by
          rw [List.getElem?_map, List.getElem?_map, List.getElem?_range hj] at hy
          exact (Option.some.inj hy).symm
        subst ex
        walk_at "zz"
        refine ⟨by show 2 ≤ sizeLine; decide, fun t nt => ?_⟩
        refine hR2 _ _ (same_upd nt) ?_
        refine Fz.hid (ys := ys2) ?_ ⟨t, rfl, upd_same⟩
        rw [upd_ne (fun e => by rw [e, nt] at hD2; cases hD2)]
        exact hD2
      · refine hR _ H3 s4 ⟨D2, rfl, Rw.hid (fun v x hv => hv.hid (s4 _ _ hD)) (fun e => by rw [e, hD] at nD2; cases nD2) ?_⟩
        exact ⟨ys2, hD2, by rw [hl2]; simp, fun c v hv => (hy2 c v hv).up hide_same⟩
    · obtain ⟨bs, rfl, hb⟩ := refs_of hy
      walk_at "zz"
      refine ⟨D, m, n, S, rfl, ⟨bs, hD, by simpa [h2] using hl, fun i a ha => (hb i a ha).up Fz.ups hide_same⟩, m1, m7, n1, n7, hS.h01, fun p' H3 s3 hp => ?_⟩
      exact q p' H3 (s.trans s3) hp
def sp_stands : Sp := fun vs H Q _ => ∃ (p a b : Addr) (m n : Nat) (S : Nat → Nat → Int) (I J : List Nat), vs = [.ref p, .ref a, .ref b] ∧ Mt Ci H p m n S ∧ 1 ≤ m ∧ m ≤ 7 ∧ 1 ≤ n ∧ n ≤ 7 ∧ Mks m n S ∧ H a = some (.lst (natV I)) ∧ H b = some (.lst (natV J)) ∧ Cho I m ∧ Cho J n ∧ I.length = J.length ∧
  ∀ r H', Same H H' → (r = true ↔ det (rl (fun i j => ThI n S (m * n) (I.getD i 0) (J.getD j 0)) I.length) (cl I.length) ≠ 0) → Q (.bl r) H'
abbrev N_stands : List Str := ["marks", "rows", "columns"]
theorem sc_stands : FnScope N_stands ["marks", "rows", "columns"] (defScope (topS 40)) := ⟨rfl, rfl, rfl, by decide +kernel, rfl, by decide +kernel, by decide +kernel⟩
/-- stands: 0 marks, 1 rows, 2 columns -/
theorem ok_stands {P : Program} {w : World} {K : PySem.W.Frag} {mg : Str → Option Value} {base : Heap} (W : Wd K mg) (h_look_stairs : Has P w K mg base "look_stairs" 4 ["thing"] sp_look_stairs) (h_look_choice : Has P w K mg base "look_choice" 3 ["thing", "many"] sp_look_choice) (h_minor : Has P w K mg base "minor" 7 ["table", "rows", "columns"] sp_minor) (h_plainest : Has P w K mg base "plainest" 7 ["marks"] sp_plainest) : Has P w K mg base "stands" 8 ["marks", "rows", "columns"] sp_stands := by
  have f_len : mg "len" = none := W.free 54 "len" rfl
  have hnought := W.glo 46 "NOUGHT" rfl
  refine has_of W 26 40 rfl rfl sc_stands (fun _ _ _ _ _ _ us hl => match us, hl with | [_, _, _], _ => rfl) (fun vs H Q E h => ?_) (fun f cdv A outer s H vs Q E hr h => ?_)
  · obtain ⟨p, a, b, m, n, S, I, J, rfl, hM, m1, m7, n1, n7, hS, hI, hJ, cI, cJ, eIJ, q⟩ := h; rfl
  · obtain ⟨p, a, b, m, n, S, I, J, rfl, hM, m1, m7, n1, n7, hS, hI, hJ, cI, cJ, eIJ, q⟩ := h
    have nd := sc_stands.nd
    refine ⟨_, (pss_cons (ps_expr (pe_has h_look_stairs (hr.mono (by decide)) (pa_cons (pv 0) pa_nil)))
      (pss_cons (ps_expr (pe_has h_look_choice (hr.mono (by decide)) (pa_cons (pv 1) (pa_cons (pe_callB (call_lenK (K := K)) (by rfl) f_len PySem.boot_len (pa_cons (pv 0) pa_nil)) pa_nil))))
      (pss_cons (ps_expr (pe_has h_look_choice (hr.mono (by decide)) (pa_cons (pv 2) (pa_cons (pe_callB (call_lenK (K := K)) (by rfl) f_len PySem.boot_len (pa_cons (pe_ix (ix_listK (K := K)) (pv 0) pe_int (fun _ _ => rfl)) pa_nil)) pa_nil))))
      (pss_cons (ps_if (pt_cmpR op_ne (pe_callB (call_lenK (K := K)) (by rfl) f_len PySem.boot_len (pa_cons (pv 1) pa_nil)) (pe_callB (call_lenK (K := K)) (by rfl) f_len PySem.boot_len (pa_cons (pv 2) pa_nil)) (nomark _)) (pss_one ps_never) pss_nil)
      (pss_one (ps_ret (pe_cmpR (op_neDK (K := K) hr.units) (pe_has h_minor (hr.mono (by decide)) (pa_cons (pe_has h_plainest (hr.mono (by decide)) (pa_cons (pv 0) pa_nil)) (pa_cons (pv 1) (pa_cons (pv 2) pa_nil)))) (pe_glob (v := .ref (He.ga K "NOUGHT")) (by rfl) hnought rfl) (nomark _)))))))), ?_⟩
    refine z_start (σ' := [some _, some _, some _]) (by rfl) ?_
    walk_at "zz"
    refine ⟨p, m, n, S, rfl, hM, m1, m7, n1, n7, hS, fun H1 s1 => ?_⟩
    have hM1 := hM.up Ci.up s1
    walk_at "zz"
    refine z_lenM hM1 ?_
    walk_at "zz"
    refine ⟨a, I, m, rfl, s1 _ _ hI, cI, ?_⟩
    walk_at "zz"
    refine z_ixM 0 hM1 (by omega) fun r hr0 => ?_
    walk_at "zz"
    refine z_lenR hr0 ?_
    walk_at "zz"
    refine ⟨b, J, n, rfl, s1 _ _ hJ, cJ, ?_⟩
    walk_at "zz"
    refine z_len (s1 _ _ hI) ?_
    walk_at "zz"
    refine z_len (s1 _ _ hJ) ?_
    walk_at "zz"
    refine z_itF (by simp [natV, eIJ]) ?_
    walk_at "zz"
    refine ⟨p, m, n, S, rfl, hM1, m1, m7, n1, n7, hS, fun p' H2 s2 hp => ?_⟩
    have s12 := s1.trans s2
    walk_at "zz"
    refine ⟨p', a, b, m, n, _, I, J, rfl, hp, m1, m7, n1, n7, s12 _ _ hI, s12 _ _ hJ, cI, cJ, eIJ, fun i hi c hc => ?_, fun t d H3 s3 ht hd => ?_⟩
    · exact ThI_sm (by omega) n7 hS.h01 hc (Nat.mul_le_mul_right n m7)
    · walk_at "zz"
      refine z_neN W ⟨t, rfl, ht⟩ ?_
      refine q _ H3 (s12.trans s3) ?_
      rw [decide_eq_true_iff]
      exact not_congr hd
end Smo

set_option Elab.async false
set_option linter.all false
set_option maxRecDepth 100000
set_option maxHeartbeats 4000000
set_option exponentiation.threshold 100000
namespace Smo
open PySem PySem.Spec PyProof.Rows L2
local macro_rules | `(tactic| walk_at "zz") => `(tactic| ((try dsimp only); repeat (first | refine ZS.go ?_ | refine And.intro (rfl : wipe _ _ = wipe _ _) ?_)))
def sp__law_cell (K : PySem.W.Frag) : Sp := fun vs H Q _ => ∃ (a : Addr) (ns : List Int) (k : Nat), vs = [.ref a, .int (k : Nat)] ∧ SqL K H a (ns.map V.int) ∧ ∀ z : Int, Q (.int z) H
abbrev N__law_cell : List Str := ["_law_script", "_law_k"]
theorem sc__law_cell : FnScope N__law_cell ["_law_script", "_law_k"] (defScope (topS 42)) := ⟨rfl, rfl, rfl, by decide +kernel, rfl, by decide +kernel, by decide +kernel⟩
/-- _law_cell: 0 _law_script, 1 _law_k -/
theorem ok__law_cell {P : Program} {w : World} {K : PySem.W.Frag} {mg : Str → Option Value} {base : Heap} (W : Wd K mg)  : Has P w K mg base "_law_cell" 1 ["_law_script", "_law_k"] (sp__law_cell K) := by
  have f_len : mg "len" = none := W.free 54 "len" rfl
  refine has_of W 27 42 rfl rfl sc__law_cell (fun _ _ _ _ _ _ us hl => match us, hl with | [_, _], _ => rfl) (fun vs H Q E h => ?_) (fun f cdv A outer s H vs Q E hr h => ?_)
  · obtain ⟨a, ns, k, rfl, hS, q⟩ := h; rfl
  · obtain ⟨a, ns, k, rfl, hS, q⟩ := h
    have nd := sc__law_cell.nd
    refine ⟨_, (pss_cons (ps_if (pt_cmpR op_lt (pv 1) (pe_callB (call_lenK (K := K)) (by rfl) f_len PySem.boot_len (pa_cons (pv 0) pa_nil)) (nomark _)) (pss_one (ps_ret (pe_ix (ix_listK (K := K)) (pv 0) (pv 1) (fun _ _ => rfl)))) pss_nil)
      (pss_one (ps_ret pe_int))), ?_⟩
    refine z_start (σ' := [some _, some _]) (by rfl) ?_
    walk_at "zz"
    refine ⟨a, _, rfl, .inl hS, ?_⟩
    walk_at "zz"
    refine z_it2 (fun h => ?_) (fun h => ?_)
    · rw [List.length_map] at h
      obtain ⟨x, hx⟩ := get_of_lt (l := ns) (i := k) (by omega)
      walk_at "zz"
      refine ⟨a, _, (k : Int), .int x, rfl, rfl, hS, atI_nat (j := k) (by rw [List.getElem?_map, hx]; rfl), ?_⟩
      exact q x
    · walk_at "zz"
      exact q 0
def sp__law_divisor : Sp := sp_divisor
abbrev N__law_divisor : List Str := ["_law_one", "_law_other", "_law_rest"]
theorem sc__law_divisor : FnScope N__law_divisor ["_law_one", "_law_other"] (defScope (topS 44)) := ⟨rfl, rfl, rfl, by decide +kernel, rfl, by decide +kernel, by decide +kernel⟩
/-- _law_divisor: 0 _law_one, 1 _law_other, 2 _law_rest -/
theorem ok__law_divisor {P : Program} {w : World} {K : PySem.W.Frag} {mg : Str → Option Value} {base : Heap} (W : Wd K mg)  : Has P w K mg base "_law_divisor" 1 ["_law_one", "_law_other"] sp__law_divisor := by
  have f_abs : mg "abs" = none := W.free 48 "abs" rfl
  refine has_of W 29 44 rfl rfl sc__law_divisor (fun _ _ _ _ _ _ us hl => match us, hl with | [_, _], _ => rfl) (fun vs H Q E h => ?_) (fun f cdv A outer s H vs Q E hr h => ?_)
  · obtain ⟨a, b, rfl, q⟩ := h; rfl
  · obtain ⟨a, b, rfl, q⟩ := h
    have nd := sc__law_divisor.nd
    refine ⟨_, (pss_cons (ps_set (i := 0) nd rfl (by first | exact Or.inl rfl | exact Or.inr rfl) (pe_callB call_abs (by rfl) f_abs (by decide +kernel) (pa_cons (pv 0) pa_nil)))
      (pss_cons (ps_set (i := 1) nd rfl (by first | exact Or.inl rfl | exact Or.inr rfl) (pe_callB call_abs (by rfl) f_abs (by decide +kernel) (pa_cons (pv 1) pa_nil)))
      (pss_cons (ps_while PassesOwn.never (pt_cmpR op_gt (pv 1) pe_int (nomark _)) (pss_cons (ps_set (i := 2) nd rfl (by first | exact Or.inl rfl | exact Or.inr rfl) (pe_op op_modN (pv 0) (pv 1)))
      (pss_cons (ps_set (i := 0) nd rfl (by first | exact Or.inl rfl | exact Or.inr rfl) (pv 1))
      (pss_one (ps_set (i := 1) nd rfl (by first | exact Or.inl rfl | exact Or.inr rfl) (pv 2))))))
      (pss_one (ps_ret (pv 0)))))), ?_⟩
    refine z_start (σ' := [some _, some _, none]) (by rfl) ?_
    walk_at "zz"
    refine ⟨a, rfl, ?_⟩
    walk_at "zz"
    refine ⟨b, rfl, ?_⟩
    walk_at "zz"
    rw [abs_nat, abs_nat]
    refine while_by (fun σ H' => ∃ (x y : Int) (r : Option V), σ = [some (.int x), some (.int y), r] ∧ 0 ≤ x ∧ 0 ≤ y ∧ Int.gcd x y = Int.gcd a b ∧ H' = H)
      (fun σ _ => match σ with | [_, some (.int y), _] => y.toNat | _ => 0) ⟨(a.natAbs : Int), (b.natAbs : Int), none, rfl, Int.natCast_nonneg _, Int.natCast_nonneg _, by simp [Int.gcd], rfl⟩ ?_ ?_
    case refine_2 =>
      rintro σ H Q Q' hq ⟨x, h1, i, j, e1, e2, c, e3, h⟩
      exact ⟨x, h1, i, j, e1, e2, c, e3, hq _ _ h⟩
    rintro σ H' ⟨x, y, r, rfl, hx, hy, hg, rfl⟩
    walk_at "zz"
    refine z_it2 (fun hc => ?_) (fun hc => ?_)
    · walk_at "zz"
      refine z_I (by omega) ?_
      walk_at "zz"
      have h1 := Int.fmod_nonneg_of_pos x hc
      have h2 := Int.fmod_lt_of_pos x hc
      refine ⟨⟨_, _, _, rfl, hy, h1, ?_, rfl⟩, ?_⟩
      · rw [gcd_turn hx hc, hg]
      · show (x.fmod y).toNat < y.toNat
        omega
    · walk_at "zz"
      have e : y = 0 := by omega
      subst e
      have e : x = ((Int.gcd a b : Nat) : Int) := by
        rw [← hg]
        simp; omega
      rw [e]
      exact q
/-- a fraction -/
def Fr (H : Hp) (v : V) (q : Rat) : Prop := ∃ t, v = .ref t ∧ H t = some (.tup [.int q.num, .int (q.den : Int)])
theorem Fr.ups : CellUp Fr := fun H H' v q e ⟨t, h, ht⟩ => ⟨t, h, e _ _ ht⟩
theorem Fr.fr : CellF Fr := fun H a l vs v x h ⟨t, e, ht⟩ => ⟨t, e, by
  rw [upd_ne (fun z => by subst z; rw [ht] at h; cases h)]; exact ht⟩
theorem Fr.hid {D : Addr} {H : Hp} {v : V} {q : Rat} {ys : List V} (hD : H D = some (.lst ys)) (h : Fr H v q) : Fr (hide D H) v q := by
  obtain ⟨t, rfl, h⟩ := h
  exact ⟨t, rfl, hide_at hD h (fun l e => by cases e)⟩
/-- a fraction's size -/
def Rs (k : Nat) (q : Rat) : Prop := Sm k q.num ∧ Sm k (q.den : Int)
theorem Rs.mono {a b : Nat} {q : Rat} (h : Rs a q) (hab : a ≤ b) : Rs b q := ⟨h.1.mono hab, h.2.mono hab⟩
theorem sm_gcd {t b : Int} {k : Nat} (hb : 0 < b) (h : Sm k b) : Sm k ((Int.gcd t b : Nat) : Int) := by
  have h1 : Int.gcd t b ∣ b.natAbs := Int.gcd_dvd_natAbs_right t b
  have h2 := Nat.le_of_dvd (by omega) h1
  show ((Int.gcd t b : Nat) : Int).natAbs < 2 ^ k
  have h3 : b.natAbs < 2 ^ k := h
  omega
theorem gcd_pos' {t b : Int} (hb : 0 < b) : 0 < Int.gcd t b := Nat.pos_of_ne_zero fun e => by
  have := (Int.gcd_eq_zero_iff.mp e).2
  omega
def sp__law_made : Sp := fun vs H Q _ => ∃ (t b : Int) (q : Rat), vs = [.int t, .int b] ∧ 0 < b ∧ Sm 8000 b ∧ q * (b : Rat) = (t : Rat) ∧
  ∀ p, H p = none → (∀ k, Sm k t → Sm k q.num) → (∀ k, Sm k b → Sm k (q.den : Int)) → Q (.ref p) (upd H p (.tup [.int q.num, .int (q.den : Int)]))
theorem sm_div {t g : Int} {k : Nat} (h : Sm k t) : Sm k (t.fdiv g) := Nat.lt_of_le_of_lt (Int.natAbs_fdiv_le_natAbs t g) h
abbrev N__law_made : List Str := ["_law_top", "_law_bottom", "_law_common"]
theorem sc__law_made : FnScope N__law_made ["_law_top", "_law_bottom"] (defScope (topS 45)) := ⟨rfl, rfl, rfl, by decide +kernel, rfl, by decide +kernel, by decide +kernel⟩
/-- _law_made: 0 _law_top, 1 _law_bottom, 2 _law_common -/
theorem ok__law_made {P : Program} {w : World} {K : PySem.W.Frag} {mg : Str → Option Value} {base : Heap} (W : Wd K mg) (h__law_divisor : Has P w K mg base "_law_divisor" 1 ["_law_one", "_law_other"] sp__law_divisor) : Has P w K mg base "_law_made" 2 ["_law_top", "_law_bottom"] sp__law_made := by
  refine has_of W 30 45 rfl rfl sc__law_made (fun _ _ _ _ _ _ us hl => match us, hl with | [_, _], _ => rfl) (fun vs H Q E h => ?_) (fun f cdv A outer s H vs Q E hr h => ?_)
  · obtain ⟨t, b, q', rfl, hb, hs, he, q⟩ := h; rfl
  · obtain ⟨t, b, q', rfl, hb, hs, he, q⟩ := h
    have nd := sc__law_made.nd
    refine ⟨_, (pss_cons (ps_set (i := 2) nd rfl (by first | exact Or.inl rfl | exact Or.inr rfl) (pe_has h__law_divisor (hr.mono (by decide)) (pa_cons (pv 0) (pa_cons (pv 1) pa_nil))))
      (pss_one (ps_ret (pe_tup (pa_cons (pe_op op_fdivZ (pv 0) (pv 2)) (pa_cons (pe_op op_fdivZ (pv 1) (pv 2)) pa_nil)))))), ?_⟩
    refine z_start (σ' := [some _, some _, none]) (by rfl) ?_
    have hg := gcd_pos' (t := t) hb
    have hlg := log_of ((sm_gcd (t := t) hb hs).mono (by decide : 8000 ≤ 8999)) (Nat.le_refl _)
    obtain ⟨e1, e2⟩ := of_mul hb he
    have f1 : t.fdiv ((Int.gcd t b : Nat) : Int) = q'.num := by rw [Int.fdiv_eq_ediv_of_nonneg t (by omega), e1]
    have f2 : b.fdiv ((Int.gcd t b : Nat) : Int) = (q'.den : Int) := by rw [Int.fdiv_eq_ediv_of_nonneg b (by omega), e2]
    walk_at "zz"
    refine ⟨t, b, rfl, ?_⟩
    walk_at "zz"
    refine z_I ⟨by omega, hlg⟩ ?_
    walk_at "zz"
    refine z_I ⟨by omega, hlg⟩ ?_
    walk_at "zz"
    rw [f1, f2]
    refine ⟨by show 2 ≤ sizeLine; decide, fun p hp => ?_⟩
    exact q p hp (fun k h => by rw [← f1]; exact sm_div h) (fun k h => by rw [← f2]; exact sm_div h)
def sp__law_plus : Sp := fun vs H Q _ => ∃ (v u : V) (x y : Rat), vs = [v, u] ∧ Fr H v x ∧ Fr H u y ∧ Rs 1000 x ∧ Rs 1000 y ∧
  ∀ p, H p = none → Q (.ref p) (upd H p (.tup [.int (x + y).num, .int ((x + y).den : Int)]))
theorem den_pos (q : Rat) : (0 : Int) < (q.den : Int) := by
  have := q.den_nz
  omega
theorem cast_den (q : Rat) : ((q.den : Int) : Rat) = (q.den : Rat) := Rat.intCast_natCast q.den
abbrev N__law_plus : List Str := ["_law_one", "_law_other"]
theorem sc__law_plus : FnScope N__law_plus ["_law_one", "_law_other"] (defScope (topS 49)) := ⟨rfl, rfl, rfl, by decide +kernel, rfl, by decide +kernel, by decide +kernel⟩
/-- _law_plus: 0 _law_one, 1 _law_other -/
theorem ok__law_plus {P : Program} {w : World} {K : PySem.W.Frag} {mg : Str → Option Value} {base : Heap} (W : Wd K mg) (h__law_made : Has P w K mg base "_law_made" 2 ["_law_top", "_law_bottom"] sp__law_made) : Has P w K mg base "_law_plus" 3 ["_law_one", "_law_other"] sp__law_plus := by
  refine has_of W 34 49 rfl rfl sc__law_plus (fun _ _ _ _ _ _ us hl => match us, hl with | [_, _], _ => rfl) (fun vs H Q E h => ?_) (fun f cdv A outer s H vs Q E hr h => ?_)
  · obtain ⟨v, u, x, y, rfl, ⟨t, rfl, ht⟩, ⟨t2, rfl, ht2⟩, ⟨sx, dx⟩, ⟨sy, dy⟩, q⟩ := h; rfl
  · obtain ⟨v, u, x, y, rfl, ⟨t, rfl, ht⟩, ⟨t2, rfl, ht2⟩, ⟨sx, dx⟩, ⟨sy, dy⟩, q⟩ := h
    have nd := sc__law_plus.nd
    refine ⟨_, (pss_one (ps_ret (pe_has h__law_made (hr.mono (by decide)) (pa_cons (pe_op op_add (pe_op op_mulX (pe_ix (ix_tupK (K := K)) (pv 0) pe_int (fun _ _ => rfl)) (pe_ix (ix_tupK (K := K)) (pv 1) pe_int (fun _ _ => rfl))) (pe_op op_mulX (pe_ix (ix_tupK (K := K)) (pv 1) pe_int (fun _ _ => rfl)) (pe_ix (ix_tupK (K := K)) (pv 0) pe_int (fun _ _ => rfl)))) (pa_cons (pe_op op_mulX (pe_ix (ix_tupK (K := K)) (pv 0) pe_int (fun _ _ => rfl)) (pe_ix (ix_tupK (K := K)) (pv 1) pe_int (fun _ _ => rfl))) pa_nil))))), ?_⟩
    refine z_start (σ' := [some _, some _]) (by rfl) ?_
    walk_at "zz"
    refine z_ixT ht (atI_nat (j := 0) rfl) ?_
    walk_at "zz"
    refine z_ixT ht2 (atI_nat (j := 1) rfl) ?_
    refine z_I (mul_ok sx dy (by decide)) ?_
    walk_at "zz"
    refine z_ixT ht2 (atI_nat (j := 0) rfl) ?_
    walk_at "zz"
    refine z_ixT ht (atI_nat (j := 1) rfl) ?_
    refine z_I (mul_ok sy dx (by decide)) ?_
    walk_at "zz"
    refine z_ixT ht (atI_nat (j := 1) rfl) ?_
    walk_at "zz"
    refine z_ixT ht2 (atI_nat (j := 1) rfl) ?_
    refine z_I (mul_ok dx dy (by decide)) ?_
    walk_at "zz"
    refine ⟨_, _, x + y, rfl, Int.mul_pos (den_pos x) (den_pos y), Sm.mul dx dy (by decide), ?_, fun p hp _ _ => q p hp⟩
    rw [Rat.intCast_add, Rat.intCast_mul, Rat.intCast_mul, Rat.intCast_mul, cast_den, cast_den, ← mul_den x, ← mul_den y]
    grind
def sp__law_part : Sp := fun vs H Q _ => ∃ (v u z : V) (x y r : Rat), vs = [v, u, z] ∧ Fr H v x ∧ Fr H u y ∧ Fr H z r ∧ 0 < r ∧ Rs 300 x ∧ Rs 300 y ∧ Rs 300 r ∧
  ∀ p, H p = none → Rs 1000 (x * y / r) → Q (.ref p) (upd H p (.tup [.int (x * y / r).num, .int ((x * y / r).den : Int)]))
abbrev N__law_part : List Str := ["_law_one", "_law_other", "_law_third", "_law_top", "_law_bottom"]
theorem sc__law_part : FnScope N__law_part ["_law_one", "_law_other", "_law_third"] (defScope (topS 50)) := ⟨rfl, rfl, rfl, by decide +kernel, rfl, by decide +kernel, by decide +kernel⟩
/-- _law_part: 0 _law_one, 1 _law_other, 2 _law_third, 3 _law_top, 4 _law_bottom -/
theorem ok__law_part {P : Program} {w : World} {K : PySem.W.Frag} {mg : Str → Option Value} {base : Heap} (W : Wd K mg) (h__law_made : Has P w K mg base "_law_made" 2 ["_law_top", "_law_bottom"] sp__law_made) : Has P w K mg base "_law_part" 3 ["_law_one", "_law_other", "_law_third"] sp__law_part := by
  refine has_of W 35 50 rfl rfl sc__law_part (fun _ _ _ _ _ _ us hl => match us, hl with | [_, _, _], _ => rfl) (fun vs H Q E h => ?_) (fun f cdv A outer s H vs Q E hr h => ?_)
  · obtain ⟨v, u, z, x, y, r, rfl, ⟨t, rfl, ht⟩, ⟨t2, rfl, ht2⟩, ⟨t3, rfl, ht3⟩, hr0, ⟨sx, dx⟩, ⟨sy, dy⟩, ⟨sr, dr⟩, q⟩ := h; rfl
  · obtain ⟨v, u, z, x, y, r, rfl, ⟨t, rfl, ht⟩, ⟨t2, rfl, ht2⟩, ⟨t3, rfl, ht3⟩, hr0, ⟨sx, dx⟩, ⟨sy, dy⟩, ⟨sr, dr⟩, q⟩ := h
    have nd := sc__law_part.nd
    refine ⟨_, (pss_cons (ps_set (i := 3) nd rfl (by first | exact Or.inl rfl | exact Or.inr rfl) (pe_op op_mulX (pe_op op_mulX (pe_ix (ix_tupK (K := K)) (pv 0) pe_int (fun _ _ => rfl)) (pe_ix (ix_tupK (K := K)) (pv 1) pe_int (fun _ _ => rfl))) (pe_ix (ix_tupK (K := K)) (pv 2) pe_int (fun _ _ => rfl))))
      (pss_cons (ps_set (i := 4) nd rfl (by first | exact Or.inl rfl | exact Or.inr rfl) (pe_op op_mulX (pe_op op_mulX (pe_ix (ix_tupK (K := K)) (pv 0) pe_int (fun _ _ => rfl)) (pe_ix (ix_tupK (K := K)) (pv 1) pe_int (fun _ _ => rfl))) (pe_ix (ix_tupK (K := K)) (pv 2) pe_int (fun _ _ => rfl))))
      (pss_cons (ps_if (pt_cmpR op_lt (pv 4) pe_int (nomark _)) (pss_one (ps_ret (pe_has h__law_made (hr.mono (by decide)) (pa_cons (pe_op op_sub pe_int (pv 3)) (pa_cons (pe_op op_sub pe_int (pv 4)) pa_nil))))) pss_nil)
      (pss_one (ps_ret (pe_has h__law_made (hr.mono (by decide)) (pa_cons (pv 3) (pa_cons (pv 4) pa_nil)))))))), ?_⟩
    refine z_start (σ' := [some _, some _, some _, none, none]) (by rfl) ?_
    have rn : 0 < r.num := by
      by_cases h : 0 < r.num
      · exact h
      · exfalso
        have h1 : 0 ≤ r.num := Rat.num_nonneg.mpr (Rat.le_of_lt hr0)
        have h2 : r.num = 0 := by omega
        have h3 := mul_den r
        rw [h2] at h3
        have h4 : r * (r.den : Rat) = 0 := h3
        rcases Rat.mul_eq_zero.mp h4 with e | e
        · rw [e] at hr0; exact absurd hr0 (by decide)
        · exact r.den_nz (Rat.natCast_inj.mp (by rw [e]; rfl))
    have bp : 0 < (x.den : Int) * (y.den : Int) * r.num := Int.mul_pos (Int.mul_pos (den_pos x) (den_pos y)) rn
    have stop : Sm 1000 (x.num * y.num * (r.den : Int)) := Sm.mul (Sm.mul sx sy (Nat.le_refl _)) dr (by decide)
    have sbot : Sm 1000 ((x.den : Int) * (y.den : Int) * r.num) := Sm.mul (Sm.mul dx dy (Nat.le_refl _)) sr (by decide)
    walk_at "zz"
    refine z_ixT ht (atI_nat (j := 0) rfl) ?_
    walk_at "zz"
    refine z_ixT ht2 (atI_nat (j := 0) rfl) ?_
    refine z_I (mul_ok sx sy (by decide)) ?_
    walk_at "zz"
    refine z_ixT ht3 (atI_nat (j := 1) rfl) ?_
    refine z_I (mul_ok (Sm.mul sx sy (Nat.le_refl _)) (dr.mono (by decide : 300 ≤ 300 + 300)) (by decide)) ?_
    walk_at "zz"
    refine z_ixT ht (atI_nat (j := 1) rfl) ?_
    walk_at "zz"
    refine z_ixT ht2 (atI_nat (j := 1) rfl) ?_
    refine z_I (mul_ok dx dy (by decide)) ?_
    walk_at "zz"
    refine z_ixT ht3 (atI_nat (j := 0) rfl) ?_
    refine z_I (mul_ok (Sm.mul dx dy (Nat.le_refl _)) (sr.mono (by decide : 300 ≤ 300 + 300)) (by decide)) ?_
    walk_at "zz"
    refine z_itF (by omega) ?_
    walk_at "zz"
    refine ⟨_, _, x * y / r, rfl, bp, sbot.mono (by decide), ?_, fun p hp h1 h2 => q p hp ⟨h1 _ stop, h2 _ sbot⟩⟩
    rw [Rat.intCast_mul, Rat.intCast_mul, Rat.intCast_mul, Rat.intCast_mul, cast_den, cast_den, cast_den, ← mul_den x, ← mul_den y, ← mul_den r]
    have r0 : r ≠ 0 := fun e => by rw [e] at hr0; exact absurd hr0 (by decide)
    grind
end Smo

set_option Elab.async false
set_option linter.all false
set_option maxRecDepth 100000
set_option maxHeartbeats 4000000
set_option exponentiation.threshold 100000
namespace Smo
open PySem PySem.Spec PyProof.Rows L2
local macro_rules | `(tactic| walk_at "zz") => `(tactic| ((try dsimp only); repeat (first | refine ZS.go ?_ | refine And.intro (rfl : wipe _ _ = wipe _ _) ?_)))
def sp__law_numbers : Sp := fun vs H Q _ => ∃ (z : Int) (a : Addr) (bs : List Nat), vs = [.int z, .ref a] ∧ H a = some (.lst (natV bs)) ∧ bs.length ≤ 100 ∧ (∀ b ∈ bs, 0 < b ∧ b < 1000000) ∧
  ∀ p xs H', Same H H' → H' p = some (.lst (natV xs)) → xs.length = bs.length → (∀ (i x b : Nat), xs[i]? = some x → bs[i]? = some b → x < b) → Q (.ref p) H'
theorem nat_fmod (z : Int) {b : Nat} (hb : 0 < b) : ∃ x : Nat, z.fmod (b : Int) = (x : Int) ∧ x < b := by
  have h1 := Int.fmod_nonneg_of_pos z (show (0 : Int) < b by omega)
  have h2 := Int.fmod_lt_of_pos z (show (0 : Int) < b by omega)
  exact ⟨(z.fmod b).toNat, by omega, by omega⟩
/-- the numbers so far -/
def Nums (bs xs : List Nat) (i : Nat) : Prop := xs.length = i ∧ ∀ (k x b : Nat), xs[k]? = some x → bs[k]? = some b → x < b
theorem Nums.more {bs xs : List Nat} {i x b : Nat} (h : Nums bs xs i) (hb : bs[i]? = some b) (hx : x < b) : Nums bs (xs ++ [x]) (i + 1) := by
  obtain ⟨h1, h2⟩ := h
  refine ⟨by simp [h1], fun k y c hy hc => ?_⟩
  by_cases hk : k < xs.length
  · rw [List.getElem?_append_left hk] at hy
    exact h2 k y c hy hc
  · have hl := get_lt hy
    rw [List.length_append, List.length_singleton] at hl
    have e : k = i := by omega
    subst e
    rw [List.getElem?_append_right (by omega), h1, Nat.sub_self] at hy
    have e1 := Option.some.inj hy
    have e2 := Option.some.inj (hb.symm.trans hc)
    omega
theorem natV_app (xs : List Nat) (x : Nat) : natV xs ++ [V.int (x : Int)] = natV (xs ++ [x]) := by unfold natV; rw [List.map_append]; rfl
theorem natV_len (xs : List Nat) : (natV xs).length = xs.length := List.length_map _
theorem small_nat {b : Nat} (h : b < 1000000) : ((b : Nat) : Int).natAbs.log2 < 9000 := log_of (b := 20) (show (b : Int).natAbs < 2 ^ 20 by omega) (by decide)
abbrev N__law_numbers : List Str := ["_law_cell_here", "_law_bases", "_law_row", "_law_base", "_law_k", "_law_mixed"]
theorem sc__law_numbers : FnScope N__law_numbers ["_law_cell_here", "_law_bases"] (defScope (topS 43)) := ⟨rfl, rfl, rfl, by decide +kernel, rfl, by decide +kernel, by decide +kernel⟩
/-- _law_numbers: 0 _law_cell_here, 1 _law_bases, 2 _law_row, 3 _law_base, 4 _law_k, 5 _law_mixed -/
theorem ok__law_numbers {P : Program} {w : World} {K : PySem.W.Frag} {mg : Str → Option Value} {base : Heap} (W : Wd K mg)  : Has P w K mg base "_law_numbers" 1 ["_law_cell_here", "_law_bases"] sp__law_numbers := by
  have f_abs : mg "abs" = none := W.free 48 "abs" rfl
  have f_enumerate : mg "enumerate" = none := W.free 51 "enumerate" rfl
  refine has_of W 28 43 rfl rfl sc__law_numbers (fun _ _ _ _ _ _ us hl => match us, hl with | [_, _], _ => rfl) (fun vs H Q E h => ?_) (fun f cdv A outer s H vs Q E hr h => ?_)
  · obtain ⟨z, a, bs, rfl, ha, hl, hb, q⟩ := h; rfl
  · obtain ⟨z, a, bs, rfl, ha, hl, hb, q⟩ := h
    have nd := sc__law_numbers.nd
    refine ⟨_, (pss_cons (ps_set (i := 2) nd rfl (by first | exact Or.inl rfl | exact Or.inr rfl) (pe_lst pa_nil))
      (pss_cons (ps_if (pt_cmpR op_ge (pe_callB call_abs (by rfl) f_abs (by decide +kernel) (pa_cons (pv 0) pa_nil)) (pe_op op_pow pe_int pe_int) (nomark _)) (pss_cons (ps_for PassesOwn.never rfl (pi_listK (K := K) (pv 1)) (pg_name (i := 3) nd rfl (by first | exact Or.inl rfl | exact Or.inr rfl)) (pss_cons (ps_expr (pe_bm PySem.F.plainAttrs_list PySem.F.slot_list_append PySem.F.type_list_append mt_append (pv 2) (pa_cons (pe_op op_modN (pv 0) (pv 3)) pa_nil)))
      (pss_one (ps_set (i := 0) nd rfl (by first | exact Or.inl rfl | exact Or.inr rfl) (pe_op op_fdivZ (pv 0) (pv 3))))))
      (pss_one (ps_ret (pv 2)))) pss_nil)
      (pss_cons (ps_for PassesOwn.never rfl (pi_enum (by rfl) f_enumerate (pa_cons (pv 1) pa_nil)) (pg_tup (n := 2) rfl (pgs_cons (pg_name (i := 4) nd rfl (by first | exact Or.inl rfl | exact Or.inr rfl)) (pgs_cons (pg_name (i := 3) nd rfl (by first | exact Or.inl rfl | exact Or.inr rfl)) pgs_nil))) (pss_cons (ps_set (i := 5) nd rfl (by first | exact Or.inl rfl | exact Or.inr rfl) (pe_op op_modN (pe_op op_add (pe_op op_add (pe_op op_add (pe_op op_mulX (pv 0) pe_int) (pe_op op_mulX (pe_op op_mulX (pv 4) (pv 4)) pe_int)) (pe_op op_mulX (pv 4) pe_int)) pe_int) pe_int))
      (pss_one (ps_expr (pe_bm PySem.F.plainAttrs_list PySem.F.slot_list_append PySem.F.type_list_append mt_append (pv 2) (pa_cons (pe_op op_modN (pe_op op_fdivZ (pe_op op_modN (pe_op op_add (pe_op op_add (pe_op op_mulX (pv 5) pe_int) (pv 0)) (pe_op op_mulX pe_int (pv 4))) pe_int) pe_int) (pv 3)) pa_nil))))))
      (pss_one (ps_ret (pv 2)))))), ?_⟩
    refine z_start (σ' := [some _, some _, none, none, none, none]) (by rfl) ?_
    walk_at "zz"
    refine ⟨by show 0 ≤ sizeLine; exact Nat.zero_le _, fun D nD => ?_⟩
    have s0 := same_upd (o := .lst []) nD
    walk_at "zz"
    refine ⟨z, rfl, ?_⟩
    walk_at "zz"
    refine z_I ⟨by decide, by decide, by decide⟩ ?_
    walk_at "zz"
    refine z_it2 (fun hbig => ?_) (fun hsmall => ?_)
    · walk_at "zz"
      refine z_forL (xs := natV bs) (s0 _ _ ha) (fun i σ H' => ∃ (w : Int) (xs : List Nat) (y3 y4 y5 : Option V), σ = [some (.int w), some (.ref a), some (.ref D), y3, y4, y5] ∧ Same H H' ∧ H' D = some (.lst (natV xs)) ∧ Nums bs xs i)
        ⟨z, [], none, none, none, rfl, s0, upd_same, rfl, fun k x b h => by simp at h⟩ (fun i σ H' hP => ?_) (fun i x σ H' hx hP => ?_) (fun σ H' hP => ?_)
      · obtain ⟨w, xs, y3, y4, y5, rfl, s, hD, hN⟩ := hP
        exact s _ _ ha
      · obtain ⟨w, xs, y3, y4, y5, rfl, s, hD, hN⟩ := hP
        obtain ⟨b, hbi, rfl⟩ := nats_at hx
        obtain ⟨b1, b2⟩ := hb b (List.mem_of_getElem? hbi)
        have hi := get_lt hbi
        obtain ⟨r, hr1, hr2⟩ := nat_fmod w b1
        walk_at "zz"
        refine z_tyL hD ?_
        walk_at "zz"
        refine z_I (by omega) ?_
        walk_at "zz"
        rw [hr1]
        refine z_append hD (by rw [natV_len, hN.1]; omega) ?_
        walk_at "zz"
        refine z_I ⟨by omega, small_nat b2⟩ ?_
        walk_at "zz"
        rw [natV_app]
        exact ⟨_, xs ++ [r], _, _, _, rfl, same_mut s nD, upd_same, hN.more hbi hr2⟩
      · obtain ⟨w, xs, y3, y4, y5, rfl, s, hD, hN⟩ := hP
        walk_at "zz"
        rw [natV_len] at hN
        exact q D xs _ s hD hN.1 hN.2
    · have hz : z.natAbs < 2 ^ 60 := by
        have e : ((10 : Int) ^ (Int.toNat 18)) = 1000000000000000000 := by decide
        rw [e] at hsmall
        split at hsmall <;> omega
      walk_at "zz"
      refine z_enum (s0 _ _ ha) ?_
      refine z_forE (xs := natV bs) (fun i σ H' => ∃ (xs : List Nat) (y3 y4 y5 : Option V), σ = [some (.int z), some (.ref a), some (.ref D), y3, y4, y5] ∧ Same H H' ∧ H' D = some (.lst (natV xs)) ∧ Nums bs xs i)
        ⟨[], none, none, none, rfl, s0, upd_same, rfl, fun k x b h => by simp at h⟩ (fun i σ H' hP => ?_) (fun i x T σ H' hx hP nT => ?_) (fun σ H' hP => ?_)
      · obtain ⟨xs, y3, y4, y5, rfl, s, hD, hN⟩ := hP
        exact s _ _ ha
      · obtain ⟨xs, y3, y4, y5, rfl, s, hD, hN⟩ := hP
        obtain ⟨b, hbi, rfl⟩ := nats_at hx
        obtain ⟨b1, b2⟩ := hb b (List.mem_of_getElem? hbi)
        have hi := get_lt hbi
        have sT := same_upd (o := .tup [.int (i : Nat), .int (b : Nat)]) nT
        have hD2 := sT _ _ hD
        have i1 : ((i : Nat) : Int).natAbs < 2 ^ 20 := by omega
        have i2 : (((i : Nat) : Int) * ((i : Nat) : Int)).natAbs < 2 ^ 40 := by
          rw [Int.natAbs_mul]; exact Nat.lt_of_lt_of_eq (Nat.mul_lt_mul'' i1 i1) (by decide)
        refine z_gtup upd_same rfl ?_
        walk_at "zz"
        refine z_I (mulx_ok hz (show (48271 : Int).natAbs < 2 ^ 60 by decide) (by decide)) ?_
        walk_at "zz"
        refine z_I (mulx_ok i1 i1 (by decide)) ?_
        walk_at "zz"
        refine z_I (mulx_ok i2 (show (69621 : Int).natAbs < 2 ^ 60 by decide) (by decide)) ?_
        walk_at "zz"
        refine z_I (mulx_ok i1 (show (16807 : Int).natAbs < 2 ^ 60 by decide) (by decide)) ?_
        walk_at "zz"
        obtain ⟨r1, e1, l1⟩ := nat_fmod (z * 48271 + (i : Nat) * (i : Nat) * 69621 + (i : Nat) * 16807 + 11) (b := 2147483647) (by decide)
        refine z_I (by decide) ?_
        walk_at "zz"
        refine z_tyL hD2 ?_
        walk_at "zz"
        rw [show ((2147483647 : Int)) = ((2147483647 : Nat) : Int) from rfl, e1]
        refine z_I (mulx_ok (a := 40) (b := 40) (show ((r1 : Nat) : Int).natAbs < 2 ^ 40 by omega) (show (40692 : Int).natAbs < 2 ^ 40 by decide) (by decide)) ?_
        walk_at "zz"
        refine z_I (mulx_ok (show (31 : Int).natAbs < 2 ^ 20 by decide) i1 (by decide)) ?_
        walk_at "zz"
        refine z_I (by decide) ?_
        walk_at "zz"
        refine z_I ⟨by decide, by decide +kernel⟩ ?_
        walk_at "zz"
        refine z_I (by omega) ?_
        walk_at "zz"
        obtain ⟨r2, e2, l2⟩ := nat_fmod ((((r1 : Nat) : Int) * 40692 + z + 31 * (i : Nat)).fmod 2147483399 |>.fdiv 7) (b := b) b1
        rw [e2]
        refine z_append hD2 (by rw [natV_len, hN.1]; omega) ?_
        walk_at "zz"
        rw [natV_app]
        exact ⟨xs ++ [r2], _, _, _, rfl, same_mut (s.trans sT) nD, upd_same, hN.more hbi l2⟩
      · obtain ⟨xs, y3, y4, y5, rfl, s, hD, hN⟩ := hP
        walk_at "zz"
        rw [natV_len] at hN
        exact q D xs _ s hD hN.1 hN.2
def sp__law_size : Sp := fun vs H Q _ => ∃ z : Int, vs = [.int z] ∧ ∀ t (m n : Nat) H', Same H H' → H' t = some (.tup [.int (m : Nat), .int (n : Nat)]) → 1 ≤ m → m ≤ 7 → 1 ≤ n → n ≤ 7 → Q (.ref t) H'
abbrev N__law_size : List Str := ["_law_cell_here", "_law_parts"]
theorem sc__law_size : FnScope N__law_size ["_law_cell_here"] (defScope (topS 46)) := ⟨rfl, rfl, rfl, by decide +kernel, rfl, by decide +kernel, by decide +kernel⟩
/-- _law_size: 0 _law_cell_here, 1 _law_parts -/
theorem ok__law_size {P : Program} {w : World} {K : PySem.W.Frag} {mg : Str → Option Value} {base : Heap} (W : Wd K mg) (h__law_numbers : Has P w K mg base "_law_numbers" 1 ["_law_cell_here", "_law_bases"] sp__law_numbers) : Has P w K mg base "_law_size" 2 ["_law_cell_here"] sp__law_size := by
  refine has_of W 31 46 rfl rfl sc__law_size (fun _ _ _ _ _ _ us hl => match us, hl with | [_], _ => rfl) (fun vs H Q E h => ?_) (fun f cdv A outer s H vs Q E hr h => ?_)
  · obtain ⟨z, rfl, q⟩ := h; rfl
  · obtain ⟨z, rfl, q⟩ := h
    have nd := sc__law_size.nd
    refine ⟨_, (pss_cons (ps_set (i := 1) nd rfl (by first | exact Or.inl rfl | exact Or.inr rfl) (pe_has h__law_numbers (hr.mono (by decide)) (pa_cons (pv 0) (pa_cons (pe_lst (pa_cons pe_int (pa_cons pe_int (pa_cons pe_int (pa_cons pe_int (pa_cons pe_int pa_nil)))))) pa_nil))))
      (pss_cons (ps_if (pt_cmpR op_eq (pe_ix (ix_listK (K := K)) (pv 1) pe_int (fun _ _ => rfl)) pe_int (nomark _)) (pss_one (ps_ret (pe_tup (pa_cons (pe_op op_add pe_int (pe_ix (ix_listK (K := K)) (pv 1) pe_int (fun _ _ => rfl))) (pa_cons (pe_op op_add pe_int (pe_ix (ix_listK (K := K)) (pv 1) pe_int (fun _ _ => rfl))) pa_nil))))) pss_nil)
      (pss_one (ps_ret (pe_tup (pa_cons (pe_op op_add pe_int (pe_ix (ix_listK (K := K)) (pv 1) pe_int (fun _ _ => rfl))) (pa_cons (pe_op op_add pe_int (pe_ix (ix_listK (K := K)) (pv 1) pe_int (fun _ _ => rfl))) pa_nil))))))), ?_⟩
    refine z_start (σ' := [some _, none]) (by rfl) ?_
    walk_at "zz"
    refine ⟨by show 5 ≤ sizeLine; decide, fun p hp => ?_⟩
    have s0 := same_upd (o := .lst (natV [8, 4, 4, 7, 7])) hp
    walk_at "zz"
    refine ⟨z, p, [8, 4, 4, 7, 7], rfl, upd_same, by decide, by decide, fun l xs H1 s1 hl hn hx => ?_⟩
    obtain ⟨x0, x1, x2, x3, x4, rfl⟩ : ∃ x0 x1 x2 x3 x4, xs = [x0, x1, x2, x3, x4] := by
      match xs, hn with
      | [a, b, c, d, e], _ => exact ⟨a, b, c, d, e, rfl⟩
    have b1 := hx 1 x1 4 rfl rfl
    have b2 := hx 2 x2 4 rfl rfl
    have b3 := hx 3 x3 7 rfl rfl
    have b4 := hx 4 x4 7 rfl rfl
    have s01 := s0.trans s1
    walk_at "zz"
    refine z_ixL hl (atI_nat (j := 0) rfl) ?_
    walk_at "zz"
    refine z_it2 (fun h => ?_) (fun h => ?_)
    · walk_at "zz"
      refine z_ixL hl (atI_nat (j := 3) rfl) ?_
      walk_at "zz"
      refine z_ixL hl (atI_nat (j := 4) rfl) ?_
      walk_at "zz"
      refine ⟨by show 2 ≤ sizeLine; decide, fun t nt => ?_⟩
      refine q t (1 + x3) (1 + x4) _ (s01.trans (same_upd nt)) ?_ (by omega) (by omega) (by omega) (by omega)
      rw [upd_same, Int.natCast_add, Int.natCast_add]; rfl
    · walk_at "zz"
      refine z_ixL hl (atI_nat (j := 1) rfl) ?_
      walk_at "zz"
      refine z_ixL hl (atI_nat (j := 2) rfl) ?_
      walk_at "zz"
      refine ⟨by show 2 ≤ sizeLine; decide, fun t nt => ?_⟩
      refine q t (1 + x1) (1 + x2) _ (s01.trans (same_upd nt)) ?_ (by omega) (by omega) (by omega) (by omega)
      rw [upd_same, Int.natCast_add, Int.natCast_add]; rfl
end Smo

set_option Elab.async false
set_option linter.all false
set_option maxRecDepth 100000
set_option maxHeartbeats 4000000
set_option exponentiation.threshold 100000
namespace Smo
open PySem PySem.Spec PyProof.Rows L2
local macro_rules | `(tactic| walk_at "zz") => `(tactic| ((try dsimp only); repeat (first | refine ZS.go ?_ | refine And.intro (rfl : wipe _ _ = wipe _ _) ?_)))
def sp__law_places : Sp := fun vs H Q _ => ∃ (p : Addr) (m n : Nat) (T : Nat → Nat → Rat), vs = [.ref p] ∧ Mt Fr H p m n T ∧ 1 ≤ m ∧ m ≤ 7 ∧ 1 ≤ n ∧ n ≤ 7 ∧
  ∀ l ys H', Same H H' → H' l = some (.lst ys) → ys.length = m * n → (∀ (k : Nat) (y : V), ys[k]? = some y → ∃ t, y = .ref t ∧ H' t = some (.tup [.int ((k / n : Nat) : Int), .int ((k % n : Nat) : Int)])) → Q (.ref l) H'
theorem fdiv_nat (k n : Nat) : ((k : Nat) : Int).fdiv (n : Int) = ((k / n : Nat) : Int) := by
  rw [Int.fdiv_eq_ediv_of_nonneg _ (by omega)]; rfl
theorem fmod_nat (k n : Nat) : ((k : Nat) : Int).fmod (n : Int) = ((k % n : Nat) : Int) := by
  rw [Int.fmod_eq_emod_of_nonneg _ (by omega)]; rfl
abbrev N__law_places : List Str := ["_law_table", "_law_wide", "_law_k"]
theorem sc__law_places : FnScope N__law_places ["_law_table"] (defScope (topS 52)) := ⟨rfl, rfl, rfl, by decide +kernel, rfl, by decide +kernel, by decide +kernel⟩
/-- _law_places: 0 _law_table, 1 _law_wide, 2 _law_k -/
theorem ok__law_places {P : Program} {w : World} {K : PySem.W.Frag} {mg : Str → Option Value} {base : Heap} (W : Wd K mg)  : Has P w K mg base "_law_places" 1 ["_law_table"] sp__law_places := by
  have f_len : mg "len" = none := W.free 54 "len" rfl
  have f_range : mg "range" = none := W.free 56 "range" rfl
  refine has_of W 37 52 rfl rfl sc__law_places (fun _ _ _ _ _ _ us hl => match us, hl with | [_], _ => rfl) (fun vs H Q E h => ?_) (fun f cdv A outer s H vs Q E hr h => ?_)
  · obtain ⟨p, m, n, T, rfl, hM, m1, m7, n1, n7, q⟩ := h; rfl
  · obtain ⟨p, m, n, T, rfl, hM, m1, m7, n1, n7, q⟩ := h
    have nd := sc__law_places.nd
    refine ⟨_, (pss_cons (ps_set (i := 1) nd rfl (by first | exact Or.inl rfl | exact Or.inr rfl) (pe_callB (call_lenK (K := K)) (by rfl) f_len PySem.boot_len (pa_cons (pe_ix (ix_listK (K := K)) (pv 0) pe_int (fun _ _ => rfl)) pa_nil)))
      (pss_one (ps_ret (pe_lc (own := [("_law_k", 2)]) (g := gName 2) (tt := tYes) rfl nd (pi_range1 rfl f_range (pa_cons (pe_op op_mulX (pe_callB (call_lenK (K := K)) (by rfl) f_len PySem.boot_len (pa_cons (pv 0) pa_nil)) (pv 1)) pa_nil)) (blkOk_by (N := N__law_places) (sc := (defScope (topS 52))) (by decide +kernel)) (fun _ _ _ _ _ => (pg_name (i := 2) nd rfl (by first | exact Or.inl rfl | exact Or.inr rfl))) (fun _ _ _ _ _ => pts_nil) (fun _ _ _ _ _ => (pe_tup (pa_cons (pe_op op_fdivZ (pv 2) (pv 1)) (pa_cons (pe_op op_modN (pv 2) (pv 1)) pa_nil)))))))), ?_⟩
    refine z_start (σ' := [some _, none, none]) (by rfl) ?_
    have hmn : m * n ≤ 49 := Nat.mul_le_mul m7 n7
    walk_at "zz"
    refine z_ixM 0 hM (by omega) fun a ha => ?_
    walk_at "zz"
    refine z_lenR ha ?_
    walk_at "zz"
    refine z_lenM hM ?_
    walk_at "zz"
    refine z_I (mulx_ok (a := 20) (b := 20) (show ((m : Nat) : Int).natAbs < 2 ^ 20 by omega) (show ((n : Nat) : Int).natAbs < 2 ^ 20 by omega) (by decide)) ?_
    walk_at "zz"
    refine z_rng1 (n := m * n) (Int.natCast_mul m n).symm (by omega) ?_
    refine z_mapR (by omega) (fun k v H4 => ∃ t, v = .ref t ∧ H4 t = some (.tup [.int ((k / n : Nat) : Int), .int ((k % n : Nat) : Int)])) (fun i v H H' e ⟨t, h, r⟩ => ⟨t, h, e _ _ r⟩) (fun D k H2 ys hk s hD nD R hR => ?_) (fun D H2 ys s nD hD hl hy => ?_)
    · have e0 : (0 : Int) + (k : Nat) = ((k : Nat) : Int) := by omega
      walk_at "zz"
      rw [e0]
      refine z_I ⟨by omega, log_of (b := 20) (show ((n : Nat) : Int).natAbs < 2 ^ 20 by omega) (by decide)⟩ ?_
      walk_at "zz"
      refine z_I (by omega) ?_
      walk_at "zz"
      rw [fdiv_nat, fmod_nat]
      refine ⟨by show 2 ≤ sizeLine; decide, fun t nt => ?_⟩
      refine hR _ _ (same_upd nt) ⟨t, rfl, ?_⟩
      refine hide_at (ys := ys) ?_ upd_same (fun l e => by cases e)
      rw [upd_ne (fun e => by rw [e, nt] at hD; cases hD)]
      exact hD
    · refine q D ys H2 s hD hl fun k y hk => ?_
      obtain ⟨t, e, ht⟩ := hy k y hk
      exact ⟨t, e, hide_same _ _ ht⟩
/-- a place's turn, the rows ahead of i0 and of row i0 the columns ahead of a0 done -/
def stpR (M : Nat → Nat → Rat) (j b i0 a0 : Nat) : Nat → Nat → Rat := fun i a => if i < j ∧ a < b ∧ (i < i0 ∨ (i = i0 ∧ a < a0)) then M i a + M i b * M j a / M j b else M i a
/-- all numbers that come are from 0 on and not too large -/
def Fit (m n : Nat) (T : Nat → Nat → Rat) : Prop := ∀ k ≤ m * n, ∀ i < m, ∀ a < n, 0 ≤ Th n T k i a ∧ Rs 300 (Th n T k i a)
def sp__law_across : Sp := fun vs H Q _ => ∃ (p l : Addr) (ys : List V) (m n : Nat) (T : Nat → Nat → Rat), vs = [.ref p, .ref l, .int 1] ∧ Mt Fr H p m n T ∧ 1 ≤ m ∧ m ≤ 7 ∧ 1 ≤ n ∧ n ≤ 7 ∧ Fit m n T ∧ H l = some (.lst ys) ∧ ys.length = m * n ∧ (∀ (k : Nat) (y : V), ys[k]? = some y → ∃ t, y = .ref t ∧ H t = some (.tup [.int ((k / n : Nat) : Int), .int ((k % n : Nat) : Int)])) ∧
  ∀ p' H', Same H H' → Mt Fr H' p' m n (Th n T (m * n)) → Q (.ref p') H'
theorem num_ne (q : Rat) : q.num ≠ 0 ↔ q ≠ 0 := not_congr Rat.num_eq_zero
abbrev N__law_across : List Str := ["_law_table", "_law_places_here", "_law_sign", "_law_rows_here", "_law_j", "_law_b", "_law_i", "_law_a", "_law_part_here", "_law_row"]
theorem sc__law_across : FnScope N__law_across ["_law_table", "_law_places_here", "_law_sign"] (defScope (topS 51)) := ⟨rfl, rfl, rfl, by decide +kernel, rfl, by decide +kernel, by decide +kernel⟩
/-- _law_across: 0 _law_table, 1 _law_places_here, 2 _law_sign, 3 _law_rows_here, 4 _law_j, 5 _law_b, 6 _law_i, 7 _law_a, 8 _law_part_here, 9 _law_row -/
theorem ok__law_across {P : Program} {w : World} {K : PySem.W.Frag} {mg : Str → Option Value} {base : Heap} (W : Wd K mg) (h__law_part : Has P w K mg base "_law_part" 3 ["_law_one", "_law_other", "_law_third"] sp__law_part) (h__law_plus : Has P w K mg base "_law_plus" 3 ["_law_one", "_law_other"] sp__law_plus) : Has P w K mg base "_law_across" 4 ["_law_table", "_law_places_here", "_law_sign"] sp__law_across := by
  have f_list : mg "list" = none := W.free 55 "list" rfl
  have f_range : mg "range" = none := W.free 56 "range" rfl
  refine has_of W 36 51 rfl rfl sc__law_across (fun _ _ _ _ _ _ us hl => match us, hl with | [_, _, _], _ => rfl) (fun vs H Q E h => ?_) (fun f cdv A outer s H vs Q E hr h => ?_)
  · obtain ⟨p, l, ys, m, n, T, rfl, hM, m1, m7, n1, n7, hfit, hl, hyl, hyt, q⟩ := h; rfl
  · obtain ⟨p, l, ys, m, n, T, rfl, hM, m1, m7, n1, n7, hfit, hl, hyl, hyt, q⟩ := h
    have nd := sc__law_across.nd
    refine ⟨_, (pss_cons (ps_setLc (i := 3) (own := [("_law_row", 9)]) (g := gName 9) (tt := tYes) rfl nd rfl rfl (sw_true rfl rfl rfl (by decide +kernel)) (pi_listK (K := K) (pv 0)) (blkOk_by (N := N__law_across) (sc := (defScope (topS 51))) (by decide +kernel)) (fun _ _ _ _ _ => (pg_name (i := 9) nd rfl (by first | exact Or.inl rfl | exact Or.inr rfl))) (fun _ _ _ _ _ => pts_nil) (fun _ _ _ _ _ => (pe_callTy (call_listK (K := K)) (by rfl) f_list (by decide +kernel) (pa_cons (pv 9) pa_nil))))
      (pss_cons (ps_for PassesOwn.never rfl (pi_listK (K := K) (pv 1)) (pg_tup (n := 2) rfl (pgs_cons (pg_name (i := 4) nd rfl (by first | exact Or.inl rfl | exact Or.inr rfl)) (pgs_cons (pg_name (i := 5) nd rfl (by first | exact Or.inl rfl | exact Or.inr rfl)) pgs_nil))) (pss_one (ps_if (pt_cmpR op_ne (pe_ix (ix_tupK (K := K)) (pe_ix (ix_listK (K := K)) (pe_ix (ix_listK (K := K)) (pv 3) (pv 4) (fun _ _ => rfl)) (pv 5) (fun _ _ => rfl)) pe_int (fun _ _ => rfl)) pe_int (nomark _)) (pss_one (ps_for PassesOwn.never rfl (pi_range1 rfl f_range (pa_cons (pv 4) pa_nil)) (pg_name (i := 6) nd rfl (by first | exact Or.inl rfl | exact Or.inr rfl)) (pss_one (ps_for PassesOwn.never rfl (pi_range1 rfl f_range (pa_cons (pv 5) pa_nil)) (pg_name (i := 7) nd rfl (by first | exact Or.inl rfl | exact Or.inr rfl)) (pss_cons (ps_set (i := 8) nd rfl (by first | exact Or.inl rfl | exact Or.inr rfl) (pe_has h__law_part (hr.mono (by decide)) (pa_cons (pe_ix (ix_listK (K := K)) (pe_ix (ix_listK (K := K)) (pv 3) (pv 6) (fun _ _ => rfl)) (pv 5) (fun _ _ => rfl)) (pa_cons (pe_ix (ix_listK (K := K)) (pe_ix (ix_listK (K := K)) (pv 3) (pv 4) (fun _ _ => rfl)) (pv 7) (fun _ _ => rfl)) (pa_cons (pe_ix (ix_listK (K := K)) (pe_ix (ix_listK (K := K)) (pv 3) (pv 4) (fun _ _ => rfl)) (pv 5) (fun _ _ => rfl)) pa_nil)))))
      (pss_one (ps_asg (pe_has h__law_plus (hr.mono (by decide)) (pa_cons (pe_ix (ix_listK (K := K)) (pe_ix (ix_listK (K := K)) (pv 3) (pv 6) (fun _ _ => rfl)) (pv 7) (fun _ _ => rfl)) (pa_cons (pe_tup (pa_cons (pe_op op_mulX (pv 2) (pe_ix (ix_tupK (K := K)) (pv 8) pe_int (fun _ _ => rfl))) (pa_cons (pe_ix (ix_tupK (K := K)) (pv 8) pe_int (fun _ _ => rfl)) pa_nil))) pa_nil))) (pg_sub (pe_ix (ix_listK (K := K)) (pv 3) (pv 6) (fun _ _ => rfl)) (pv 7) set_list)))))))) pss_nil)))
      (pss_one (ps_ret (pv 3))))), ?_⟩
    refine z_start (σ' := [some _, some _, some _, none, none, none, none, none, none, none]) (by rfl) ?_
    obtain ⟨as0, h1, h2, h3⟩ := id hM
    walk_at "zz"
    refine z_mapN h1 (by simp; omega) (fun i a H4 => Rw Fr H4 a n (T i)) (fun i a H H' e h => h.up Fr.ups e) (fun D i x H2 zs hx s hD nD R hR => ?_) (fun D H2 bs s nD hD hl2 nd np na hb => ?_)
    · obtain ⟨a, ha, rfl⟩ := ref_of hx
      obtain ⟨vs, k1, k2, k3⟩ := (h3 i a ha).up Fr.ups s
      walk_at "zz"
      refine ⟨a, vs, rfl, .inl (SqL.of k1), fun l nl => ?_⟩
      refine hR l _ (same_upd nl) nl (by rw [upd_same]; exact fun z => by cases z) ?_
      have lD : l ≠ D := fun e => by rw [e, hD] at nl; cases nl
      have hDl : (upd H2 l (.lst vs)) D = some (.lst zs) := by rw [upd_ne lD.symm]; exact hD
      exact ⟨vs, by rw [hide_ne lD, upd_same], k2, fun c v hv => Fr.hid hDl (Fr.ups _ _ _ _ (same_upd nl) (k3 c v hv))⟩
    · have g : Grid Fr H H2 D bs m n T := grid_of Fr.ups s nD hD (by rw [hl2]; simp [h2]) nd np na hb
      clear hl2 nd np na hb hD nD s
      walk_at "zz"
      refine z_forL (xs := ys) (g.same _ _ hl) (fun k σ H' => ∃ (y4 y5 y6 y7 y8 y9 : Option V), σ = [some (.ref p), some (.ref l), some (.int 1), some (.ref D), y4, y5, y6, y7, y8, y9] ∧ Grid Fr H H' D bs m n (Th n T k))
        ⟨_, _, _, _, _, _, rfl, g⟩ (fun k σ H' hP => ?_) (fun k x σ H3 hx hP => ?_) (fun σ H3 hP => ?_)
      · obtain ⟨y4, y5, y6, y7, y8, y9, rfl, g⟩ := hP
        exact g.same _ _ hl
      · obtain ⟨y4, y5, y6, y7, y8, y9, rfl, g⟩ := hP
        obtain ⟨t, rfl, ht⟩ := hyt k x hx
        have hk : k < m * n := by rw [← hyl]; exact get_lt hx
        have hj : k / n < m := Nat.div_lt_of_lt_mul (by rw [Nat.mul_comm]; exact hk)
        have hb : k % n < n := Nat.mod_lt _ (by omega)
        have nxt : Th n T (k + 1) = stp (Th n T k) (k / n) (k % n) := rfl
        have hM0 := hfit k (by omega)
        rw [nxt]
        generalize k / n = j at *
        generalize k % n = b at *
        generalize Th n T k = M at g hM0
        refine z_gtup (g.same _ _ ht) rfl ?_
        walk_at "zz"
        refine z_ixM j g.mt hj fun r1 hr1 => ?_
        walk_at "zz"
        refine z_ixR b hr1 hb fun v hv => ?_
        obtain ⟨tv, rfl, htv⟩ := id hv
        walk_at "zz"
        refine z_ixT htv (atI_nat (j := 0) rfl) ?_
        walk_at "zz"
        refine z_it2 (fun hne => ?_) (fun hne => ?_)
        · have hne' : M j b ≠ 0 := (num_ne _).mp hne
          have hpos : 0 < M j b := pos_of (hM0 j hj b hb).1 hne'
          walk_at "zz"
          refine z_rng1 rfl (by omega) ?_
          refine z_forR (fun i σ H' => ∃ (y6 y7 y8 y9 : Option V), σ = [some (.ref p), some (.ref l), some (.int 1), some (.ref D), some (.int (j : Nat)), some (.int (b : Nat)), y6, y7, y8, y9] ∧ Grid Fr H H' D bs m n (stpR M j b i 0))
            ⟨_, _, _, _, rfl, g.cong fun i _ c _ => ?_⟩ (fun i σ H5 hi hP => ?_) (fun σ H5 hP => ?_)
          · unfold stpR
            rw [if_neg (by omega)]
          · obtain ⟨y6, y7, y8, y9, rfl, g⟩ := hP
            have e2 : (0 : Int) + (i : Nat) = ((i : Nat) : Int) := by omega
            walk_at "zz"
            rw [e2]
            refine z_rng1 rfl (by omega) ?_
            refine z_forR (fun a σ H' => ∃ (y7 y8 y9 : Option V), σ = [some (.ref p), some (.ref l), some (.int 1), some (.ref D), some (.int (j : Nat)), some (.int (b : Nat)), some (.int (i : Nat)), y7, y8, y9] ∧ Grid Fr H H' D bs m n (stpR M j b i a))
              ⟨_, _, _, rfl, g⟩ (fun a σ H6 ha hP => ?_) (fun σ H6 hP => ?_)
            · obtain ⟨y7, y8, y9, rfl, g⟩ := hP
              have e3 : (0 : Int) + (a : Nat) = ((a : Nat) : Int) := by omega
              have v1 : stpR M j b i a i a = M i a := by unfold stpR; rw [if_neg (by omega)]
              have v2 : stpR M j b i a i b = M i b := by unfold stpR; rw [if_neg (by omega)]
              have v3 : stpR M j b i a j a = M j a := by unfold stpR; rw [if_neg (by omega)]
              have v4 : stpR M j b i a j b = M j b := by unfold stpR; rw [if_neg (by omega)]
              obtain ⟨ai, hai⟩ := get_of_lt (l := bs) (i := i) (by rw [g.len]; omega)
              obtain ⟨aj, haj⟩ := get_of_lt (l := bs) (i := j) (by rw [g.len]; omega)
              walk_at "zz"
              rw [e3]
              refine z_ixL g.lst (atI_nat (j := i) (ref_at hai)) ?_
              walk_at "zz"
              refine z_ixR b (g.row _ _ hai) (by omega) fun u1 hu1 => ?_
              walk_at "zz"
              refine z_ixL g.lst (atI_nat (j := j) (ref_at haj)) ?_
              walk_at "zz"
              refine z_ixR a (g.row _ _ haj) (by omega) fun u2 hu2 => ?_
              walk_at "zz"
              refine z_ixL g.lst (atI_nat (j := j) (ref_at haj)) ?_
              walk_at "zz"
              refine z_ixR b (g.row _ _ haj) (by omega) fun u3 hu3 => ?_
              rw [v2] at hu1
              rw [v3] at hu2
              rw [v4] at hu3
              walk_at "zz"
              refine ⟨u1, u2, u3, _, _, _, rfl, hu1, hu2, hu3, hpos, (hM0 i (by omega) b hb).2, (hM0 j hj a (by omega)).2, (hM0 j hj b hb).2, fun t1 nt1 hsz => ?_⟩
              have g1 := g.up Fr.ups (same_upd (o := .tup [.int (M i b * M j a / M j b).num, .int ((M i b * M j a / M j b).den : Int)]) nt1)
              walk_at "zz"
              refine z_ixL g1.lst (atI_nat (j := i) (ref_at hai)) ?_
              walk_at "zz"
              refine z_ixR a (g1.row _ _ hai) (by omega) fun u4 hu4 => ?_
              rw [v1] at hu4
              walk_at "zz"
              refine z_ixT upd_same (atI_nat (j := 0) rfl) ?_
              refine z_I (mul_ok (n := 1000) (sm1 (by decide)) hsz.1 (by decide)) ?_
              walk_at "zz"
              refine z_ixT upd_same (atI_nat (j := 1) rfl) ?_
              walk_at "zz"
              refine ⟨by show 2 ≤ sizeLine; decide, fun t2 nt2 => ?_⟩
              rw [Int.one_mul]
              have g2 := g1.up Fr.ups (same_upd (o := .tup [.int (M i b * M j a / M j b).num, .int ((M i b * M j a / M j b).den : Int)]) nt2)
              walk_at "zz"
              refine ⟨u4, .ref t2, _, _, rfl, Fr.ups _ _ _ _ (same_upd nt2) hu4, ⟨t2, rfl, upd_same⟩, ((hM0 i (by omega) a (by omega)).2).mono (by decide), hsz, fun t3 nt3 => ?_⟩
              have g3 := g2.up Fr.ups (same_upd (o := .tup [.int (M i a + M i b * M j a / M j b).num, .int ((M i a + M i b * M j a / M j b).den : Int)]) nt3)
              walk_at "zz"
              refine z_ixL g3.lst (atI_nat (j := i) (ref_at hai)) ?_
              walk_at "zz"
              obtain ⟨ws, w1, w2, w3⟩ := g3.row _ _ hai
              refine z_setL w1 (by rw [w2]; omega) ?_
              walk_at "zz"
              refine ⟨_, _, _, rfl, (g3.set Fr.fr hai w1 (x := M i a + M i b * M j a / M j b) ⟨t3, rfl, upd_same⟩).cong fun i' _ c _ => ?_⟩
              unfold put2 stpR
              by_cases c1 : i' = i ∧ c = a
              · obtain ⟨rfl, rfl⟩ := c1
                rw [if_pos ⟨rfl, rfl⟩, if_pos (by omega)]
              · rw [if_neg c1]
                by_cases c2 : i' < j ∧ c < b ∧ (i' < i ∨ (i' = i ∧ c < a))
                · rw [if_pos c2, if_pos (by omega)]
                · rw [if_neg c2, if_neg (by omega)]
            · obtain ⟨y7, y8, y9, rfl, g⟩ := hP
              walk_at "zz"
              refine ⟨_, _, _, _, rfl, g.cong fun i' _ c _ => ?_⟩
              unfold stpR
              by_cases c1 : i' < j ∧ c < b ∧ (i' < i ∨ (i' = i ∧ c < b))
              · rw [if_pos c1, if_pos (by omega)]
              · rw [if_neg c1, if_neg (by omega)]
          · obtain ⟨y6, y7, y8, y9, rfl, g⟩ := hP
            walk_at "zz"
            refine ⟨_, _, _, _, _, _, rfl, g.cong fun i' _ c _ => ?_⟩
            unfold stpR stp
            by_cases c1 : i' < j ∧ c < b
            · rw [if_pos (by omega), if_pos ⟨hne', c1⟩]
            · rw [if_neg (by omega), if_neg (fun z => c1 z.2)]
        · walk_at "zz"
          refine ⟨_, _, _, _, _, _, rfl, g.cong fun i _ c _ => ?_⟩
          unfold stp
          rw [if_neg (fun z => hne ((num_ne _).mpr z.1))]
      · obtain ⟨y4, y5, y6, y7, y8, y9, rfl, g⟩ := hP
        rw [hyl] at g
        walk_at "zz"
        exact q D _ g.same g.mt
def sp__law_thick : Sp := fun vs H Q _ => ∃ (p : Addr) (m n : Nat) (T : Nat → Nat → Rat), vs = [.ref p] ∧ Mt Fr H p m n T ∧ 1 ≤ m ∧ m ≤ 7 ∧ 1 ≤ n ∧ n ≤ 7 ∧ Fit m n T ∧ ∀ p' H', Same H H' → Mt Fr H' p' m n (Th n T (m * n)) → Q (.ref p') H'
abbrev N__law_thick : List Str := ["_law_table"]
theorem sc__law_thick : FnScope N__law_thick ["_law_table"] (defScope (topS 53)) := ⟨rfl, rfl, rfl, by decide +kernel, rfl, by decide +kernel, by decide +kernel⟩
/-- _law_thick: 0 _law_table -/
theorem ok__law_thick {P : Program} {w : World} {K : PySem.W.Frag} {mg : Str → Option Value} {base : Heap} (W : Wd K mg) (h__law_across : Has P w K mg base "_law_across" 4 ["_law_table", "_law_places_here", "_law_sign"] sp__law_across) (h__law_places : Has P w K mg base "_law_places" 1 ["_law_table"] sp__law_places) : Has P w K mg base "_law_thick" 5 ["_law_table"] sp__law_thick := by
  refine has_of W 38 53 rfl rfl sc__law_thick (fun _ _ _ _ _ _ us hl => match us, hl with | [_], _ => rfl) (fun vs H Q E h => ?_) (fun f cdv A outer s H vs Q E hr h => ?_)
  · obtain ⟨p, m, n, T, rfl, hM, m1, m7, n1, n7, hfit, q⟩ := h; rfl
  · obtain ⟨p, m, n, T, rfl, hM, m1, m7, n1, n7, hfit, q⟩ := h
    have nd := sc__law_thick.nd
    refine ⟨_, (pss_one (ps_ret (pe_has h__law_across (hr.mono (by decide)) (pa_cons (pv 0) (pa_cons (pe_has h__law_places (hr.mono (by decide)) (pa_cons (pv 0) pa_nil)) (pa_cons pe_int pa_nil)))))), ?_⟩
    refine z_start (σ' := [some _]) (by rfl) ?_
    walk_at "zz"
    refine ⟨p, m, n, T, rfl, hM, m1, m7, n1, n7, fun l ys H1 s1 hl hyl hyt => ?_⟩
    walk_at "zz"
    refine ⟨p, l, ys, m, n, T, rfl, hM.up Fr.ups s1, m1, m7, n1, n7, hfit, hl, hyl, hyt, fun p' H2 s2 hp => ?_⟩
    exact q p' H2 (s1.trans s2) hp
end Smo

set_option Elab.async false
set_option linter.all false
set_option maxRecDepth 100000
set_option maxHeartbeats 4000000
set_option exponentiation.threshold 100000
namespace Smo
open PySem PySem.Spec PyProof.Rows L2
local macro_rules | `(tactic| walk_at "zz") => `(tactic| ((try dsimp only); repeat (first | refine ZS.go ?_ | refine And.intro (rfl : wipe _ _ = wipe _ _) ?_)))
def sp__law_rows : Sp := fun vs H Q _ => ∃ (p : Addr) (m n : Nat) (T : Nat → Nat → Rat), vs = [.ref p] ∧ Mt Fr H p m n T ∧ m ≤ 7 ∧ n ≤ 7 ∧ (∀ i < m, ∀ c < n, Rs 300 (T i c)) ∧
  ∀ t l z (N : Nat → Nat → Int) (f : Nat → Int) H', Same H H' → H' t = some (.tup [.ref l, .int z]) → Mt Ci H' l m n N → (∀ i < m, 0 < f i ∧ ∀ c < n, (N i c : Rat) = (f i : Rat) * T i c) → (∀ i < m, ∀ c < n, Sm 2500 (N i c)) → Q (.ref t) H'
/-- the least common multiple, by the gcd -/
theorem lcm_turn {f d : Int} (hf : 0 < f) (hd : 0 < d) : 0 < (f * d).fdiv ((Int.gcd f d : Nat) : Int) ∧ f ∣ (f * d).fdiv ((Int.gcd f d : Nat) : Int) ∧ d ∣ (f * d).fdiv ((Int.gcd f d : Nat) : Int) ∧ (f * d).fdiv ((Int.gcd f d : Nat) : Int) ≤ f * d := by
  have hg : 0 < Int.gcd f d := Nat.pos_of_ne_zero fun e => by
    have := (Int.gcd_eq_zero_iff.mp e).2
    omega
  rw [Int.fdiv_eq_ediv_of_nonneg _ (by omega)]
  have h1 : (Int.gcd f d : Int) ∣ f := Int.gcd_dvd_left f d
  have h2 : (Int.gcd f d : Int) ∣ d := Int.gcd_dvd_right f d
  have hg' : (0 : Int) < (Int.gcd f d : Int) := by omega
  generalize (Int.gcd f d : Int) = g at *
  obtain ⟨x, rfl⟩ := h1
  obtain ⟨y, rfl⟩ := h2
  have hx : 0 < x := by first | exact Int.pos_of_mul_pos_right hf hg' | exact Int.pos_of_mul_pos_left hf hg'
  have hy : 0 < y := by first | exact Int.pos_of_mul_pos_right hd hg' | exact Int.pos_of_mul_pos_left hd hg'
  have e : g * x * (g * y) / g = g * x * y := by
    rw [show g * x * (g * y) = g * (g * x * y) by grind, Int.mul_ediv_cancel_left _ (by omega)]
  rw [e]
  refine ⟨Int.mul_pos (Int.mul_pos hg' hx) hy, ⟨y, rfl⟩, ⟨x, by grind⟩, ?_⟩
  have h3 : g * x * y * 1 ≤ g * x * y * g := Int.mul_le_mul_of_nonneg_left (by omega) (Int.le_of_lt (Int.mul_pos (Int.mul_pos hg' hx) hy))
  have h4 : g * x * (g * y) = g * x * y * g := by grind
  rw [h4]; omega
theorem fdiv_mul {f d : Int} (hd : 0 < d) (h : d ∣ f) : f.fdiv d * d = f := by
  rw [Int.fdiv_eq_ediv_of_nonneg _ (by omega), Int.ediv_mul_cancel h]
theorem Sm.of_le {k : Nat} {x y : Int} (h : Sm k y) (h0 : 0 ≤ x) (hxy : x ≤ y) : Sm k x := Nat.lt_of_le_of_lt (by omega : x.natAbs ≤ y.natAbs) h
abbrev N__law_rows : List Str := ["_law_table", "_law_rows_here", "_law_all_bottoms", "_law_row", "_law_factor", "_law_number"]
theorem sc__law_rows : FnScope N__law_rows ["_law_table"] (defScope (topS 47)) := ⟨rfl, rfl, rfl, by decide +kernel, rfl, by decide +kernel, by decide +kernel⟩
/-- _law_rows: 0 _law_table, 1 _law_rows_here, 2 _law_all_bottoms, 3 _law_row, 4 _law_factor, 5 _law_number -/
theorem ok__law_rows {P : Program} {w : World} {K : PySem.W.Frag} {mg : Str → Option Value} {base : Heap} (W : Wd K mg) (h__law_divisor : Has P w K mg base "_law_divisor" 1 ["_law_one", "_law_other"] sp__law_divisor) : Has P w K mg base "_law_rows" 2 ["_law_table"] sp__law_rows := by
  refine has_of W 32 47 rfl rfl sc__law_rows (fun _ _ _ _ _ _ us hl => match us, hl with | [_], _ => rfl) (fun vs H Q E h => ?_) (fun f cdv A outer s H vs Q E hr h => ?_)
  · obtain ⟨p, m, n, T, rfl, ⟨as, h1, h2, h3⟩, hm, hn, hs, q⟩ := h; rfl
  · obtain ⟨p, m, n, T, rfl, ⟨as, h1, h2, h3⟩, hm, hn, hs, q⟩ := h
    have nd := sc__law_rows.nd
    refine ⟨_, (pss_cons (ps_set (i := 1) nd rfl (by first | exact Or.inl rfl | exact Or.inr rfl) (pe_lst pa_nil))
      (pss_cons (ps_set (i := 2) nd rfl (by first | exact Or.inl rfl | exact Or.inr rfl) pe_int)
      (pss_cons (ps_for PassesOwn.never rfl (pi_listK (K := K) (pv 0)) (pg_name (i := 3) nd rfl (by first | exact Or.inl rfl | exact Or.inr rfl)) (pss_cons (ps_set (i := 4) nd rfl (by first | exact Or.inl rfl | exact Or.inr rfl) pe_int)
      (pss_cons (ps_for PassesOwn.never rfl (pi_listK (K := K) (pv 3)) (pg_name (i := 5) nd rfl (by first | exact Or.inl rfl | exact Or.inr rfl)) (pss_one (ps_set (i := 4) nd rfl (by first | exact Or.inl rfl | exact Or.inr rfl) (pe_op op_fdivZ (pe_op op_mulX (pv 4) (pe_ix (ix_tupK (K := K)) (pv 5) pe_int (fun _ _ => rfl))) (pe_has h__law_divisor (hr.mono (by decide)) (pa_cons (pv 4) (pa_cons (pe_ix (ix_tupK (K := K)) (pv 5) pe_int (fun _ _ => rfl)) pa_nil)))))))
      (pss_cons (ps_expr (pe_bm PySem.F.plainAttrs_list PySem.F.slot_list_append PySem.F.type_list_append mt_append (pv 1) (pa_cons (pe_lc (own := [("_law_number", 5)]) (g := gName 5) (tt := tYes) rfl nd (pi_listK (K := K) (pv 3)) (blkOk_by (N := N__law_rows) (sc := (defScope (topS 47))) (by decide +kernel)) (fun _ _ _ _ _ => (pg_name (i := 5) nd rfl (by first | exact Or.inl rfl | exact Or.inr rfl))) (fun _ _ _ _ _ => pts_nil) (fun _ _ _ _ _ => (pe_op op_mulX (pe_ix (ix_tupK (K := K)) (pv 5) pe_int (fun _ _ => rfl)) (pe_op op_fdivZ (pv 4) (pe_ix (ix_tupK (K := K)) (pv 5) pe_int (fun _ _ => rfl)))))) pa_nil)))
      (pss_one (ps_set (i := 2) nd rfl (by first | exact Or.inl rfl | exact Or.inr rfl) (pe_op op_mulX (pv 2) (pv 4))))))))
      (pss_one (ps_ret (pe_tup (pa_cons (pv 1) (pa_cons (pv 2) pa_nil)))))))), ?_⟩
    refine z_start (σ' := [some _, none, none, none, none, none]) (by rfl) ?_
    have m1 := sm1 (n := 1000000) (by decide)
    walk_at "zz"
    refine ⟨by show 0 ≤ sizeLine; exact Nat.zero_le _, fun D nD => ?_⟩
    walk_at "zz"
    refine z_forL (xs := as.map V.ref) (same_upd nD _ _ h1) (fun i σ H' => ∃ (y3 y4 y5 : Option V) (z : Int) (bs : List Addr) (N : Nat → Nat → Int) (f : Nat → Int), σ = [some (.ref p), some (.ref D), some (.int z), y3, y4, y5] ∧ Same H H' ∧ H' D = some (.lst (bs.map V.ref)) ∧ bs.length = i ∧ Sm (3000 * i + 1) z ∧ ∀ j b, bs[j]? = some b → b ≠ D ∧ Rw Ci H' b n (N j) ∧ 0 < f j ∧ ∀ c < n, (N j c : Rat) = (f j : Rat) * T j c ∧ Sm 2500 (N j c))
      ⟨none, none, none, 1, [], fun _ _ => 0, fun _ => 0, rfl, same_upd nD, upd_same, rfl, sm1 (by decide), fun j b e => by simp at e⟩ (fun i σ H' hP => ?_) (fun i x σ H' hx hP => ?_) (fun σ H' hP => ?_)
    · obtain ⟨y3, y4, y5, z, bs, N, f, rfl, s, hD, hl, hz, hb⟩ := hP
      exact s _ _ h1
    · obtain ⟨y3, y4, y5, z, bs, N, f, rfl, s, hD, hl, hz, hb⟩ := hP
      obtain ⟨a, ha, rfl⟩ := ref_of hx
      have hi : i < m := by rw [← h2]; exact get_lt ha
      obtain ⟨ws, w1, w2, w3⟩ := (h3 i a ha).up Fr.ups s
      walk_at "zz"
      refine z_forL (xs := ws) w1 (fun t σ H'' => ∃ (y5 : Option V) (f : Int), σ = [some (.ref p), some (.ref D), some (.int z), some (.ref a), some (.int f), y5] ∧ H'' = H' ∧ 0 < f ∧ Sm (300 * t + 1) f ∧ ∀ c < t, (((T i c).den : Nat) : Int) ∣ f)
        ⟨_, 1, rfl, rfl, by decide, sm1 (by decide), fun c hc => by omega⟩ (fun t σ H'' hP => ?_) (fun t x σ H'' hx2 hP => ?_) (fun σ H'' hP => ?_)
      · obtain ⟨y5, f, rfl, rfl, hf, hsf, hdv⟩ := hP
        exact w1
      · obtain ⟨y5, f, rfl, rfl, hf, hsf, hdv⟩ := hP
        obtain ⟨tq, rfl, htq⟩ := w3 t x hx2
        have ht : t < n := by rw [← w2]; exact get_lt hx2
        have sd := (hs i hi t ht).2
        have dp := den_pos (T i t)
        obtain ⟨l1, l2, l3, l4⟩ := lcm_turn hf dp
        walk_at "zz"
        refine z_ixT htq (atI_nat (j := 1) rfl) ?_
        refine z_I (mul_ok (hsf.mono (by omega)) (sd.mono (by decide)) (n := 1000000) (by decide)) ?_
        walk_at "zz"
        refine z_ixT htq (atI_nat (j := 1) rfl) ?_
        walk_at "zz"
        refine ⟨f, _, rfl, ?_⟩
        refine z_I ⟨by have := gcd_pos' (t := f) dp; omega, log_of (sm_gcd (t := f) dp sd) (by decide)⟩ ?_
        walk_at "zz"
        refine ⟨_, _, rfl, rfl, l1, Sm.of_le (Sm.mul hsf sd (by omega)) (Int.le_of_lt l1) l4, fun c hc => ?_⟩
        by_cases e : c = t
        · subst e; exact l3
        · exact Int.dvd_trans (hdv c (by omega)) l2
      · obtain ⟨y5, f0, rfl, rfl, hf, hsf, hdv⟩ := hP
        rw [w2] at hsf hdv
        have hsf' : Sm 2101 f0 := hsf.mono (by omega)
        walk_at "zz"
        refine z_tyL hD ?_
        walk_at "zz"
        refine z_mapL w1 (by omega) (fun c v H4 => Ci H4 v ((T i c).num * f0.fdiv ((T i c).den : Int))) (fun i v H H' e h => h) (fun E c x H2 ys hx2 s2 hE nE R hR => ?_) (fun E H2 ys s2 nE hE hlE hyE => ?_)
        · obtain ⟨tq, rfl, htq⟩ := w3 c x hx2
          have hc : c < n := by rw [← w2]; exact get_lt hx2
          have sd := (hs i hi c hc)
          walk_at "zz"
          refine z_ixT (s2 _ _ htq) (atI_nat (j := 0) rfl) ?_
          walk_at "zz"
          refine z_ixT (s2 _ _ htq) (atI_nat (j := 1) rfl) ?_
          refine z_I ⟨by have := den_pos (T i c); omega, log_of sd.2 (by decide)⟩ ?_
          refine z_I (mul_ok (sd.1.mono (by decide)) ((sm_div hsf').mono (by decide)) (n := 1000000) (by decide)) ?_
          exact hR _ _ (Same.refl _) rfl
        · have hD2 := s2 _ _ hD
          have eD : E ≠ D := fun e => by rw [e, hD] at nE; cases nE
          walk_at "zz"
          refine z_append hD2 (by simp [hl]; omega) ?_
          walk_at "zz"
          refine z_I (mul_ok (hz.mono (by omega)) (hsf'.mono (by decide)) (n := 1000000) (by decide)) ?_
          walk_at "zz"
          refine ⟨_, _, _, z * f0, bs ++ [E], fun j => if j = i then fun c => (T i c).num * f0.fdiv ((T i c).den : Int) else N j, fun j => if j = i then f0 else f j, rfl, same_mut (s.trans s2) nD, by rw [upd_same]; simp, by simp [hl], Sm.mul hz hsf' (by omega), fun j b hj => ?_⟩
          by_cases hjl : j < bs.length
          · rw [List.getElem?_append_left hjl] at hj
            obtain ⟨b1, b2, b3, b4⟩ := hb j b hj
            have ne : j ≠ i := by omega
            simp only [if_neg ne]
            exact ⟨b1, (b2.up Ci.up s2).fr Ci.fr b1 hD2, b3, b4⟩
          · have hlt := get_lt hj
            rw [List.length_append, List.length_singleton] at hlt
            have ej : j = i := by omega
            rw [List.getElem?_append_right (by omega), ej, hl, Nat.sub_self] at hj
            have eb := Option.some.inj hj
            subst eb
            simp only [if_pos ej]
            rw [ej]
            refine ⟨eD, Rw.fr Ci.fr ⟨ys, hE, hlE.trans w2, hyE⟩ eD hD2, hf, fun c hc => ⟨?_, Sm.mul (hs i hi c hc).1 (sm_div hsf') (by decide)⟩⟩
            have h1 := fdiv_mul (den_pos (T i c)) (hdv c hc)
            have h2 : (f0 : Rat) = ((f0.fdiv ((T i c).den : Int) : Int) : Rat) * ((T i c).den : Rat) := by
              rw [← cast_den, ← Rat.intCast_mul, h1]
            rw [Rat.intCast_mul, h2, ← mul_den (T i c)]
            grind
    · obtain ⟨y3, y4, y5, z, bs, N, f, rfl, s, hD, hl, hz, hb⟩ := hP
      rw [List.length_map, h2] at hl
      walk_at "zz"
      refine ⟨by show 2 ≤ sizeLine; decide, fun t ht => ?_⟩
      have tD : D ≠ t := fun e => by rw [← e, hD] at ht; cases ht
      have gt : ∀ i < m, ∃ b, bs[i]? = some b := fun i hi => get_of_lt (by omega)
      refine q t D z N f _ (s.trans (same_upd ht)) upd_same ⟨bs, by rw [upd_ne tD]; exact hD, hl, fun j b hj => (hb j b hj).2.1.up Ci.up (same_upd ht)⟩ (fun i hi => ?_) (fun i hi c hc => ?_)
      · obtain ⟨b, hbi⟩ := gt i hi
        exact ⟨(hb i b hbi).2.2.1, fun c hc => ((hb i b hbi).2.2.2 c hc).1⟩
      · obtain ⟨b, hbi⟩ := gt i hi
        exact ((hb i b hbi).2.2.2 c hc).2
end Smo

set_option Elab.async false
set_option linter.all false
set_option maxRecDepth 100000
set_option maxHeartbeats 4000000
set_option exponentiation.threshold 100000
namespace Smo
open PySem PySem.Spec PyProof.Rows L2
local macro_rules | `(tactic| walk_at "zz") => `(tactic| ((try dsimp only); repeat (first | refine ZS.go ?_ | refine And.intro (rfl : wipe _ _ = wipe _ _) ?_)))
/-- rows of n marks each, told by Φ -/
def AllR (H : Hp) (as : List Addr) (n : Nat) (Φ : (Nat → Int) → Prop) : Prop := ∀ a ∈ as, ∃ r, Rw Ci H a n r ∧ Φ r
theorem AllR.up {H H' : Hp} {as : List Addr} {n : Nat} {Φ : (Nat → Int) → Prop} (e : Same H H') (h : AllR H as n Φ) : AllR H' as n Φ := fun a ha => by
  obtain ⟨r, h1, h2⟩ := h a ha
  exact ⟨r, h1.up Ci.up e, h2⟩
theorem AllR.fr {H : Hp} {as : List Addr} {n : Nat} {Φ : (Nat → Int) → Prop} {D : Addr} {l vs : List V} (h : AllR H as n Φ) (hn : D ∉ as) (hD : H D = some (.lst l)) : AllR (upd H D (.lst vs)) as n Φ := fun a ha => by
  obtain ⟨r, h1, h2⟩ := h a ha
  exact ⟨r, h1.fr Ci.fr (fun e => hn (by rw [← e]; exact ha)) hD, h2⟩
theorem AllR.imp {H : Hp} {as : List Addr} {n : Nat} {Φ Ψ : (Nat → Int) → Prop} (h : AllR H as n Φ) (f : ∀ r, Φ r → Ψ r) : AllR H as n Ψ := fun a ha => by
  obtain ⟨r, h1, h2⟩ := h a ha
  exact ⟨r, h1, f r h2⟩
theorem AllR.app {H : Hp} {as bs : List Addr} {n : Nat} {Φ : (Nat → Int) → Prop} (h : AllR H as n Φ) (k : AllR H bs n Φ) : AllR H (as ++ bs) n Φ := fun a ha => by
  rcases List.mem_append.mp ha with e | e
  · exact h a e
  · exact k a e
theorem AllR.notin {H : Hp} {as : List Addr} {n : Nat} {Φ : (Nat → Int) → Prop} {p : Addr} (h : AllR H as n Φ) (hp : H p = none) : p ∉ as := fun hm => by
  obtain ⟨r, ⟨vs, h1, _⟩, _⟩ := h p hm
  rw [h1] at hp; cases hp
/-- a row begun: the first mark at f -/
structure POpt (bs : List Bool) (f len : Nat) (r : Nat → Int) : Prop where
  h01 : ∀ c, r c = 0 ∨ r c = 1
  out : ∀ c, len ≤ c → r c = 0
  low : ∀ c < f, r c = 0
  at_ : r f = 1
  hi : ∀ c, f < c → c < len → r c = 0 → bs[c]? = some true
structure Opt (bs : List Bool) (n : Nat) (r : Nat → Int) : Prop where
  h01 : ∀ c, r c = 0 ∨ r c = 1
  out : ∀ c, n ≤ c → r c = 0
  rule : ∀ c < n, r c = 0 → (∀ c' < c, r c' = 0) ∨ bs[c]? = some true
theorem POpt.opt {bs : List Bool} {f n : Nat} {r : Nat → Int} (h : POpt bs f n r) : Opt bs n r := ⟨h.h01, h.out, fun c hc h0 => by
  by_cases h1 : c < f
  · exact .inl fun c' hc' => h.low c' (by omega)
  · by_cases h2 : c = f
    · subst h2
      have := h.at_
      omega
    · exact .inr (h.hi c (by omega) hc h0)⟩
def ext (r : Nat → Int) (len : Nat) (x : Int) : Nat → Int := fun c => if c = len then x else r c
theorem POpt.more {bs : List Bool} {f len : Nat} {r : Nat → Int} {x : Int} (h : POpt bs f len r) (hf : f < len) (hx : x = 1 ∨ x = 0 ∧ bs[len]? = some true) : POpt bs f (len + 1) (ext r len x) := by
  refine ⟨fun c => ?_, fun c hc => ?_, fun c hc => ?_, ?_, fun c h1 h2 h0 => ?_⟩
  · unfold ext
    split
    · rcases hx with e | e
      · exact .inr e
      · exact .inl e.1
    · exact h.h01 c
  · unfold ext
    rw [if_neg (by omega)]
    exact h.out c (by omega)
  · unfold ext
    rw [if_neg (by omega)]
    exact h.low c hc
  · unfold ext
    rw [if_neg (by omega)]
    exact h.at_
  · unfold ext at h0
    by_cases e : c = len
    · rw [if_pos e] at h0
      rcases hx with z | z
      · omega
      · rw [e]; exact z.2
    · rw [if_neg e] at h0
      exact h.hi c h1 (by omega) h0
theorem Rw.snoc {H : Hp} {a q : Addr} {len : Nat} {r : Nat → Int} {x : Int} {vs : List V} (h : Rw Ci H a len r) (hv : H a = some (.lst vs)) (H' : Hp) (hq : H' q = some (.lst (vs ++ [.int x]))) : Rw Ci H' q (len + 1) (ext r len x) := by
  obtain ⟨ws, h1, h2, h3⟩ := h
  have e : ws = vs := by rw [hv] at h1; exact (HO.lst.inj (Option.some.inj h1)).symm
  subst e
  refine ⟨_, hq, by simp [h2], fun c v hc => ?_⟩
  unfold ext
  by_cases hl : c < ws.length
  · rw [List.getElem?_append_left hl] at hc
    rw [if_neg (by omega)]
    exact h3 c v hc
  · have hlt := get_lt hc
    rw [List.length_append, List.length_singleton] at hlt
    rw [if_pos (by omega)]
    rw [List.getElem?_append_right (by omega), show c - ws.length = 0 by omega] at hc
    exact (Option.some.inj hc).symm
theorem z_cat {H : Hp} {Q : VK} {l b : Addr} {xs zs : List V} (h1 : H l = some (.lst xs)) (h2 : H b = some (.lst zs)) (hn : xs.length + zs.length ≤ 1000000) (q : ∀ p, H p = none → Q (.ref p) (upd H p (.lst (xs ++ zs)))) : rCat (.ref l) (.ref b) H Q :=
  ⟨l, b, xs, zs, rfl, rfl, h1, h2, Nat.le_trans hn (by decide), q⟩
def sp__law_options : Sp := fun vs H Q _ => ∃ (a : Addr) (bs : List Bool), vs = [.ref a] ∧ H a = some (.lst (bs.map V.bl)) ∧ bs.length ≤ 7 ∧
  ∀ (p : Addr) (as : List Addr) H', Same H H' → H' p = some (.lst (as.map V.ref)) → as ≠ [] → as.length ≤ 1000 → AllR H' as bs.length (Opt bs bs.length) → Q (.ref p) H'
abbrev N__law_options : List Str := ["_law_clear", "_law_found", "_law_first", "_law_some", "_law_one", "_law_longer", "_law_row", "_law_k"]
theorem sc__law_options : FnScope N__law_options ["_law_clear"] (defScope (topS 54)) := ⟨rfl, rfl, rfl, by decide +kernel, rfl, by decide +kernel, by decide +kernel⟩
/-- _law_options: 0 _law_clear, 1 _law_found, 2 _law_first, 3 _law_some, 4 _law_one, 5 _law_longer, 6 _law_row, 7 _law_k -/
theorem ok__law_options {P : Program} {w : World} {K : PySem.W.Frag} {mg : Str → Option Value} {base : Heap} (W : Wd K mg)  : Has P w K mg base "_law_options" 1 ["_law_clear"] sp__law_options := by
  have f_len : mg "len" = none := W.free 54 "len" rfl
  have f_range : mg "range" = none := W.free 56 "range" rfl
  refine has_of W 39 54 rfl rfl sc__law_options (fun _ _ _ _ _ _ us hl => match us, hl with | [_], _ => rfl) (fun vs H Q E h => ?_) (fun f cdv A outer s H vs Q E hr h => ?_)
  · obtain ⟨a, bs, rfl, ha, hl, q⟩ := h; rfl
  · obtain ⟨a, bs, rfl, ha, hl, q⟩ := h
    have nd := sc__law_options.nd
    refine ⟨_, (pss_cons (ps_set (i := 1) nd rfl (by first | exact Or.inl rfl | exact Or.inr rfl) (pe_lst (pa_cons (pe_lc (own := [("_law_one", 4)]) (g := gName 4) (tt := tYes) rfl nd (pi_listK (K := K) (pv 0)) (blkOk_by (N := N__law_options) (sc := (defScope (topS 54))) (by decide +kernel)) (fun _ _ _ _ _ => (pg_name (i := 4) nd rfl (by first | exact Or.inl rfl | exact Or.inr rfl))) (fun _ _ _ _ _ => pts_nil) (fun _ _ _ _ _ => pe_int)) pa_nil)))
      (pss_cons (ps_for PassesOwn.never rfl (pi_range1 rfl f_range (pa_cons (pe_callB (call_lenK (K := K)) (by rfl) f_len PySem.boot_len (pa_cons (pv 0) pa_nil)) pa_nil)) (pg_name (i := 2) nd rfl (by first | exact Or.inl rfl | exact Or.inr rfl)) (pss_cons (ps_set (i := 3) nd rfl (by first | exact Or.inl rfl | exact Or.inr rfl) (pe_lst (pa_cons (pe_op op_cat (pe_lc (own := [("_law_k", 7)]) (g := gName 7) (tt := tYes) rfl nd (pi_range1 rfl f_range (pa_cons (pv 2) pa_nil)) (blkOk_by (N := N__law_options) (sc := (defScope (topS 54))) (by decide +kernel)) (fun _ _ _ _ _ => (pg_name (i := 7) nd rfl (by first | exact Or.inl rfl | exact Or.inr rfl))) (fun _ _ _ _ _ => pts_nil) (fun _ _ _ _ _ => pe_int)) (pe_lst (pa_cons pe_int pa_nil))) pa_nil)))
      (pss_cons (ps_for PassesOwn.never rfl (pi_listK (K := K) (pe_slice (sl_listK (K := K)) (pv 0) (po_some (pe_op op_add (pv 2) pe_int)) po_none)) (pg_name (i := 4) nd rfl (by first | exact Or.inl rfl | exact Or.inr rfl)) (pss_cons (ps_set (i := 5) nd rfl (by first | exact Or.inl rfl | exact Or.inr rfl) (pe_lst pa_nil))
      (pss_cons (ps_for PassesOwn.never rfl (pi_listK (K := K) (pv 3)) (pg_name (i := 6) nd rfl (by first | exact Or.inl rfl | exact Or.inr rfl)) (Evl.pss_cut (ps_if (pt_val (pv 4)) (pss_one (ps_expr (pe_bm PySem.F.plainAttrs_list PySem.F.slot_list_append PySem.F.type_list_append mt_append (pv 5) (pa_cons (pe_op op_cat (pv 6) (pe_lst (pa_cons pe_int pa_nil))) pa_nil)))) pss_nil)
      (pss_one (ps_expr (pe_bm PySem.F.plainAttrs_list PySem.F.slot_list_append PySem.F.type_list_append mt_append (pv 5) (pa_cons (pe_op op_cat (pv 6) (pe_lst (pa_cons pe_int pa_nil))) pa_nil))))))
      (pss_one (ps_set (i := 3) nd rfl (by first | exact Or.inl rfl | exact Or.inr rfl) (pv 5))))))
      (pss_one (ps_set (i := 1) nd rfl (by first | exact Or.inl rfl | exact Or.inr rfl) (pe_op op_cat (pv 1) (pv 3)))))))
      (pss_one (ps_ret (pv 1))))), ?_⟩
    refine z_start (σ' := [some _, none, none, none, none, none, none, none]) (by rfl) ?_
    walk_at "zz"
    refine z_mapL ha (by simp; omega) (fun _ v _ => v = .int 0) (fun _ _ _ _ _ h => h) (fun D i x H2 ys hx s hD nD R hR => ?_) (fun D H2 ys s nD hD hly hy => ?_)
    · walk_at "zz"
      exact hR _ _ (Same.refl _) rfl
    · walk_at "zz"
      refine ⟨by show 1 ≤ sizeLine; decide, fun F nF => ?_⟩
      have s1 := s.trans (same_upd (o := .lst [.ref D]) nF)
      have hD1 : Rw Ci (upd H2 F (.lst [.ref D])) D bs.length (fun _ => 0) := by
        refine Rw.up Ci.up (same_upd nF) ⟨ys, hD, by rw [hly]; simp, fun c v hv => hy c v hv⟩
      walk_at "zz"
      refine z_len (s1 _ _ ha) ?_
      rw [List.length_map]
      walk_at "zz"
      refine z_rng1 rfl (by omega) ?_
      refine z_forR (fun i σ H' => ∃ (F : Addr) (fs : List Addr) (y2 y3 y4 y5 y6 y7 : Option V), σ = [some (.ref a), some (.ref F), y2, y3, y4, y5, y6, y7] ∧ Same H H' ∧ H' F = some (.lst (fs.map V.ref)) ∧ fs ≠ [] ∧ fs.length ≤ 1 + 64 * i ∧ AllR H' fs bs.length (Opt bs bs.length))
        ⟨F, [D], _, _, _, _, _, _, rfl, s1, upd_same, by simp, by simp, fun b hb => ?_⟩ (fun i σ H' hi hP => ?_) (fun σ H' hP => ?_)
      · rw [List.mem_singleton] at hb
        subst hb
        exact ⟨_, hD1, fun c => .inl rfl, fun c _ => rfl, fun c _ _ => .inl fun c' _ => rfl⟩
      · obtain ⟨F, fs, y2, y3, y4, y5, y6, y7, rfl, s, hF, hne, hfl, hall⟩ := hP
        have e0 : (0 : Int) + (i : Nat) = ((i : Nat) : Int) := by omega
        have e1 : ((i : Nat) : Int) + 1 = ((i + 1 : Nat) : Int) := by omega
        walk_at "zz"
        rw [e0]
        refine z_rng1 rfl (by omega) ?_
        refine z_mapR (by omega) (fun _ v _ => v = .int 0) (fun _ _ _ _ _ h => h) (fun D2 k H2' ys2 hk s2 hD2 nD2 R hR => ?_) (fun D2 H2' ys2 s2 nD2 hD2 hl2 hy2 => ?_)
        · walk_at "zz"
          exact hR _ _ (Same.refl _) rfl
        · walk_at "zz"
          refine ⟨by show 1 ≤ sizeLine; decide, fun O nO => ?_⟩
          have sO := same_upd (o := .lst [.int 1]) nO
          refine z_cat (sO _ _ hD2) upd_same (by simp [hl2]; omega) fun R0 nR0 => ?_
          have sR := same_upd (o := .lst (ys2 ++ [.int 1])) nR0
          walk_at "zz"
          refine ⟨by show 1 ≤ sizeLine; decide, fun S0 nS0 => ?_⟩
          have sS := same_upd (o := .lst [.ref R0]) nS0
          have s3 := s2.trans (sO.trans (sR.trans sS))
          have hz : Rw Ci H2' D2 i (fun _ => 0) := ⟨ys2, hD2, hl2, hy2⟩
          have hR0 := (hz.snoc hD2 _ (upd_same (H := upd H2' O (.lst [.int 1])) (a := R0) (o := .lst (ys2 ++ [.int 1])))).up Ci.up sS
          have hS0 : AllR (upd (upd (upd H2' O (.lst [.int 1])) R0 (.lst (ys2 ++ [.int 1]))) S0 (.lst [.ref R0])) [R0] (i + 1 + 0) (POpt bs i (i + 1 + 0)) := fun b hb => by
            rw [List.mem_singleton] at hb
            subst hb
            refine ⟨_, hR0, fun c => ?_, fun c hc => ?_, fun c hc => ?_, ?_, fun c h1 h2 => by omega⟩
            · unfold ext
              split
              · exact .inr rfl
              · exact .inl rfl
            · unfold ext
              rw [if_neg (by omega)]
            · unfold ext
              rw [if_neg (by omega)]
            · unfold ext
              rw [if_pos rfl]
          walk_at "zz"
          rw [e1]
          refine z_slice (s3 _ _ (s _ _ ha)) fun E1 nE1 => ?_
          rw [cut_from _ _ (by simp; omega)]
          have sE := same_upd (o := .lst ((bs.map V.bl).drop (i + 1))) nE1
          walk_at "zz"
          refine z_forL (xs := (bs.map V.bl).drop (i + 1)) upd_same (fun t σ H'' => ∃ (Sx : Addr) (ss : List Addr) (y4 y5 y6 y7 : Option V), σ = [some (.ref a), some (.ref F), some (.int (i : Nat)), some (.ref Sx), y4, y5, y6, y7] ∧ Same H' H'' ∧ H'' E1 = some (.lst ((bs.map V.bl).drop (i + 1))) ∧ H'' Sx = some (.lst (ss.map V.ref)) ∧ ss ≠ [] ∧ ss.length ≤ 2 ^ t ∧ AllR H'' ss (i + 1 + t) (POpt bs i (i + 1 + t)))
            ⟨S0, [R0], _, _, _, _, rfl, s3.trans sE, upd_same, sE _ _ upd_same, by simp, by simp, hS0.up sE⟩ (fun t σ H'' hP => ?_) (fun t x σ H3 hx hP => ?_) (fun σ H3 hP => ?_)
          · obtain ⟨Sx, ss, y4, y5, y6, y7, rfl, s, hE, _⟩ := hP
            exact hE
          · obtain ⟨Sx, ss, y4, y5, y6, y7, rfl, s4, hE, hSx, hsn, hsl, hss⟩ := hP
            have htl := get_lt hx
            rw [List.length_drop, List.length_map] at htl
            obtain ⟨b1, hb1, rfl⟩ : ∃ b1, bs[i + 1 + t]? = some b1 ∧ x = .bl b1 := by
              rw [List.getElem?_drop, List.getElem?_map] at hx
              cases e : bs[i + 1 + t]? with
              | none => rw [e] at hx; cases hx
              | some z => rw [e] at hx; exact ⟨z, rfl, (Option.some.inj hx).symm⟩
            have p2 : 2 ^ t ≤ 64 := Nat.le_trans (Nat.pow_le_pow_right (by decide) (by omega : t ≤ 6)) (by decide)
            walk_at "zz"
            refine ⟨by show 0 ≤ sizeLine; exact Nat.zero_le _, fun G nG => ?_⟩
            walk_at "zz"
            refine z_forL (xs := ss.map V.ref) (same_upd nG _ _ hSx) (fun u σ H'' => ∃ (gs : List Addr) (y6 y7 : Option V), σ = [some (.ref a), some (.ref F), some (.int (i : Nat)), some (.ref Sx), some (.bl b1), some (.ref G), y6, y7] ∧ Same H3 H'' ∧ H'' G = some (.lst (gs.map V.ref)) ∧ gs.length ≤ 2 * u ∧ (0 < u → gs ≠ []) ∧ G ∉ gs ∧ AllR H'' gs (i + 1 + (t + 1)) (POpt bs i (i + 1 + (t + 1))))
              ⟨[], _, _, rfl, same_upd nG, upd_same, by simp, fun h => by omega, by simp, fun b hb => by simp at hb⟩ (fun u σ H'' hP => ?_) (fun u x σ H4 hx hP => ?_) (fun σ H4 hP => ?_)
            · obtain ⟨gs, y6, y7, rfl, s5, hG, _⟩ := hP
              exact s5 _ _ hSx
            · obtain ⟨gs, y6, y7, rfl, s5, hG, hgl, hgn, hGn, hgs⟩ := hP
              obtain ⟨b, hb, rfl⟩ := ref_of hx
              have hul := get_lt hb
              obtain ⟨r, hr1, hr2⟩ := hss b (List.mem_of_getElem? hb)
              obtain ⟨ws, w1, w2, w3⟩ := id hr1
              walk_at "zz"
              refine z_cut (fun σ' H5 => ∃ (gs : List Addr), σ' = [some (.ref a), some (.ref F), some (.int (i : Nat)), some (.ref Sx), some (.bl b1), some (.ref G), some (.ref b), y7] ∧ Same H3 H5 ∧ H5 G = some (.lst (gs.map V.ref)) ∧ gs.length ≤ 2 * u + 1 ∧ G ∉ gs ∧ AllR H5 gs (i + 1 + (t + 1)) (POpt bs i (i + 1 + (t + 1)))) ?_ ?_
              · walk_at "zz"
                cases b1 with
                | true =>
                  walk_at "zz"
                  refine z_tyL hG ?_
                  walk_at "zz"
                  refine ⟨by show 1 ≤ sizeLine; decide, fun Z nZ => ?_⟩
                  have sZ := same_upd (o := .lst [.int 0]) nZ
                  refine z_cat (sZ _ _ (s5 _ _ w1)) upd_same (by simp [w2]; omega) fun q1 nq1 => ?_
                  have sq := same_upd (o := .lst (ws ++ [.int 0])) nq1
                  have s6 := sZ.trans sq
                  walk_at "zz"
                  refine z_append (s6 _ _ hG) (by simp; omega) ?_
                  have nq : q1 ≠ G := fun e => by rw [e, sZ _ _ hG] at nq1; cases nq1
                  have hq := (hr1.up Ci.up s5).snoc (s5 _ _ w1) _ (upd_same (H := upd H4 Z (.lst [.int 0])) (a := q1) (o := .lst (ws ++ [.int 0])))
                  refine ⟨gs ++ [q1], rfl, same_mut (s5.trans s6) nG, by rw [upd_same]; simp, by simp; omega, by simp [hGn]; exact fun e => nq e.symm, ?_⟩
                  refine ((hgs.up s6).fr hGn (s6 _ _ hG)).app fun c hc => ?_
                  rw [List.mem_singleton] at hc
                  subst hc
                  exact ⟨_, hq.fr Ci.fr nq (s6 _ _ hG), hr2.more (by omega) (.inr ⟨rfl, hb1⟩)⟩
                | false =>
                  walk_at "zz"
                  exact ⟨gs, rfl, s5, hG, by omega, hGn, hgs⟩
              · clear hG hgl hgn hGn hgs s5
                rintro σ' H5 ⟨gs, rfl, s5, hG, hgl, hGn, hgs⟩
                walk_at "zz"
                refine z_tyL hG ?_
                walk_at "zz"
                refine ⟨by show 1 ≤ sizeLine; decide, fun Z nZ => ?_⟩
                have sZ := same_upd (o := .lst [.int 1]) nZ
                refine z_cat (sZ _ _ (s5 _ _ w1)) upd_same (by simp [w2]; omega) fun q1 nq1 => ?_
                have sq := same_upd (o := .lst (ws ++ [.int 1])) nq1
                have s6 := sZ.trans sq
                walk_at "zz"
                refine z_append (s6 _ _ hG) (by simp; omega) ?_
                have nq : q1 ≠ G := fun e => by rw [e, sZ _ _ hG] at nq1; cases nq1
                have hq := (hr1.up Ci.up s5).snoc (s5 _ _ w1) _ (upd_same (H := upd H5 Z (.lst [.int 1])) (a := q1) (o := .lst (ws ++ [.int 1])))
                refine ⟨gs ++ [q1], _, _, rfl, same_mut (s5.trans s6) nG, by rw [upd_same]; simp, by simp; omega, fun _ => by simp, by simp [hGn]; exact fun e => nq e.symm, ?_⟩
                refine ((hgs.up s6).fr hGn (s6 _ _ hG)).app fun c hc => ?_
                rw [List.mem_singleton] at hc
                subst hc
                exact ⟨_, hq.fr Ci.fr nq (s6 _ _ hG), hr2.more (by omega) (.inl rfl)⟩
            · obtain ⟨gs, y6, y7, rfl, s5, hG, hgl, hgn, hGn, hgs⟩ := hP
              rw [List.length_map] at hgl hgn
              have h0 := List.length_pos_iff.mpr hsn
              walk_at "zz"
              exact ⟨G, gs, _, _, _, _, rfl, s4.trans s5, s5 _ _ hE, hG, hgn h0, by rw [Nat.pow_succ]; omega, hgs⟩
          · obtain ⟨Sx, ss, y4, y5, y6, y7, rfl, s4, hE, hSx, hsn, hsl, hss⟩ := hP
            rw [List.length_drop, List.length_map] at hsl hss
            have p2 : 2 ^ (bs.length - (i + 1)) ≤ 64 := Nat.le_trans (Nat.pow_le_pow_right (by decide) (by omega : bs.length - (i + 1) ≤ 6)) (by decide)
            walk_at "zz"
            refine z_cat (s4 _ _ hF) hSx (by simp; omega) fun F2 nF2 => ?_
            have s5 := s4.trans (same_upd (o := .lst (fs.map V.ref ++ ss.map V.ref)) nF2)
            walk_at "zz"
            refine ⟨F2, fs ++ ss, _, _, _, _, _, _, rfl, s.trans s5, by rw [upd_same]; simp, by simp [hne], by simp; omega, (hall.up s5).app ?_⟩
            have e2 : i + 1 + (bs.length - (i + 1)) = bs.length := by omega
            rw [e2] at hss
            exact (hss.up (same_upd nF2)).imp fun r hr => hr.opt
      · obtain ⟨F, fs, y2, y3, y4, y5, y6, y7, rfl, s, hF, hne, hfl, hall⟩ := hP
        walk_at "zz"
        exact q F fs _ s hF hne (by omega) hall
end Smo

set_option Elab.async false
set_option linter.all false
set_option maxRecDepth 100000
set_option maxHeartbeats 4000000
set_option exponentiation.threshold 100000
namespace Smo
open PySem PySem.Spec PyProof.Rows L2
local macro_rules | `(tactic| walk_at "zz") => `(tactic| ((try dsimp only); repeat (first | refine ZS.go ?_ | refine And.intro (rfl : wipe _ _ = wipe _ _) ?_)))
section
variable {σ : L2.St} {H : Hp} {Q : VK} {K : PySem.W.Frag} {te : TE} {g : TG} {vs : List Nat} {p r : Addr} {xs zs : List V}
instance {ta : TA} {R : It → Hp → Prop} : ZS (iZip K ta σ H R) (ta σ H fun vs H1 => ∃ a b xs ys, vs = [.ref a, .ref b] ∧ SqL K H1 a xs ∧ SqL K H1 b ys ∧ R (Itz K a b) H1) := ⟨id⟩
theorem z_zip {R : It → Hp → Prop} (h : H p = some (.lst xs)) (k : H r = some (.lst zs)) (q : R (Itz K p r) H) : ∃ a b xs ys, [V.ref p, V.ref r] = [.ref a, .ref b] ∧ SqL K H a xs ∧ SqL K H b ys ∧ R (Itz K a b) H := ⟨p, r, xs, zs, rfl, SqL.of h, SqL.of k, q⟩
/-- [e for x, z in zip(xs, zs)], both of one length -/
theorem z_mapZ (hp : H p = some (.lst xs)) (hr : H r = some (.lst zs)) (hl : xs.length = zs.length) (hn : xs.length < 1000000) (Φ : Nat → V → Hp → Prop) (up : Stb Φ)
    (hs : ∀ D i x z T H2 ys, xs[i]? = some x → zs[i]? = some z → Same H H2 → H2 D = some (.lst ys) → H D = none → H2 T = none → ∀ R : VK, (∀ y H4, Same H2 H4 → Φ i y (hide D H4) → R y H4) →
      g (.ref T) (wipe σ vs) (upd H2 T (.tup [x, z])) fun σ2 H3 => wipe σ2 vs = wipe σ vs ∧ te σ2 H3 R)
    (hd : ∀ D H2 ys, Same H H2 → H D = none → H2 D = some (.lst ys) → ys.length = xs.length → (∀ i y, ys[i]? = some y → Φ i y (hide D H2)) → Q (.ref D) H2) :
    LcK g tYes te vs σ Q (Itz K p r) H := by
  intro D nD
  refine ⟨fun i m H' => m = xs.length - i ∧ i ≤ xs.length ∧ Made H D i Φ H', ⟨_, rfl, Nat.zero_le _, Made.start nD⟩, ?_⟩
  rintro i m H' ⟨rfl, hi, hm⟩
  have e1 := SqL.of (K := K) (hm.same _ _ hp)
  have e2 := SqL.of (K := K) (hm.same _ _ hr)
  by_cases c : i < xs.length
  · obtain ⟨x, hx⟩ := get_of_lt c
    obtain ⟨z, hz⟩ := get_of_lt (l := zs) (i := i) (by omega)
    obtain ⟨ys, h1, h2, h3⟩ := hm.lst
    refine .inr ⟨⟨xs, zs, x, z, e1, e2, hx, hz⟩, Made H D (i + 1) Φ, fun H'' p' => ⟨xs.length - (i + 1), by omega, rfl, by omega, p'⟩, fun v H'' y => ?_⟩
    obtain ⟨T, x', z', rfl, nT, rfl, f1, f2⟩ := y
    have ex : x' = x := Option.some.inj ((f1 _ e1).symm.trans hx)
    have ez : z' = z := Option.some.inj ((f2 _ e2).symm.trans hz)
    subst ex ez
    exact hs D i x' z' T H' ys hx hz hm.same h1 hm.new nT _ fun y H4 s4 hy => hm.more up s4 hy (by omega)
  · have e : i = xs.length := by omega
    subst e
    obtain ⟨ys, h1, h2, h3⟩ := hm.lst
    exact .inl ⟨⟨xs, zs, e1, e2, .inl (Nat.le_refl _)⟩, hd D H' ys hm.same hm.new h1 h2 h3⟩
end
def sp__law_stair : Sp := fun vs H Q _ => ∃ (z : Int) (m n : Nat), vs = [.int z, .int (m : Nat), .int (n : Nat)] ∧ 1 ≤ m ∧ m ≤ 7 ∧ 1 ≤ n ∧ n ≤ 7 ∧
  ∀ p S H', Same H H' → Mt Ci H' p m n S → Mks m n S → Q (.ref p) H'
def Clr (S : Nat → Nat → Int) (i : Nat) (bs : List Bool) (n : Nat) : Prop := bs.length = n ∧ ∀ (c : Nat) (b : Bool), bs[c]? = some b → (b = true ↔ ∀ k < i, S k c = 0)
abbrev N__law_stair : List Str := ["_law_cell_here", "_law_many", "_law_wide", "_law_marks", "_law_clear", "_law_part_here", "_law_some", "_law_row", "_law_k", "_law_one", "_law_mark"]
theorem sc__law_stair : FnScope N__law_stair ["_law_cell_here", "_law_many", "_law_wide"] (defScope (topS 55)) := ⟨rfl, rfl, rfl, by decide +kernel, rfl, by decide +kernel, by decide +kernel⟩
/-- _law_stair: 0 _law_cell_here, 1 _law_many, 2 _law_wide, 3 _law_marks, 4 _law_clear, 5 _law_part_here, 6 _law_some, 7 _law_row, 8 _law_k, 9 _law_one, 10 _law_mark -/
theorem ok__law_stair {P : Program} {w : World} {K : PySem.W.Frag} {mg : Str → Option Value} {base : Heap} (W : Wd K mg) (h__law_numbers : Has P w K mg base "_law_numbers" 1 ["_law_cell_here", "_law_bases"] sp__law_numbers) (h__law_options : Has P w K mg base "_law_options" 1 ["_law_clear"] sp__law_options) : Has P w K mg base "_law_stair" 2 ["_law_cell_here", "_law_many", "_law_wide"] sp__law_stair := by
  have f_len : mg "len" = none := W.free 54 "len" rfl
  have f_range : mg "range" = none := W.free 56 "range" rfl
  have f_zip : mg "zip" = none := W.free 60 "zip" rfl
  refine has_of W 40 55 rfl rfl sc__law_stair (fun _ _ _ _ _ _ us hl => match us, hl with | [_, _, _], _ => rfl) (fun vs H Q E h => ?_) (fun f cdv A outer s H vs Q E hr h => ?_)
  · obtain ⟨z, m, n, rfl, m1, m7, n1, n7, q⟩ := h; rfl
  · obtain ⟨z, m, n, rfl, m1, m7, n1, n7, q⟩ := h
    have nd := sc__law_stair.nd
    refine ⟨_, (pss_cons (ps_set (i := 3) nd rfl (by first | exact Or.inl rfl | exact Or.inr rfl) (pe_lst pa_nil))
      (pss_cons (ps_setLc (i := 4) (own := [("_law_k", 8)]) (g := gName 8) (tt := tYes) rfl nd rfl rfl (sw_true rfl rfl rfl (by decide +kernel)) (pi_range1 rfl f_range (pa_cons (pv 2) pa_nil)) (blkOk_by (N := N__law_stair) (sc := (defScope (topS 55))) (by decide +kernel)) (fun _ _ _ _ _ => (pg_name (i := 8) nd rfl (by first | exact Or.inl rfl | exact Or.inr rfl))) (fun _ _ _ _ _ => pts_nil) (fun _ _ _ _ _ => pe_bl))
      (pss_cons (ps_for PassesOwn.never rfl (pi_listK (K := K) (pe_has h__law_numbers (hr.mono (by decide)) (pa_cons (pv 0) (pa_cons (pe_lc (own := [("_law_k", 8)]) (g := gName 8) (tt := tYes) rfl nd (pi_range1 rfl f_range (pa_cons (pv 1) pa_nil)) (blkOk_by (N := N__law_stair) (sc := (defScope (topS 55))) (by decide +kernel)) (fun _ _ _ _ _ => (pg_name (i := 8) nd rfl (by first | exact Or.inl rfl | exact Or.inr rfl))) (fun _ _ _ _ _ => pts_nil) (fun _ _ _ _ _ => pe_int)) pa_nil)))) (pg_name (i := 5) nd rfl (by first | exact Or.inl rfl | exact Or.inr rfl)) (pss_cons (ps_set (i := 6) nd rfl (by first | exact Or.inl rfl | exact Or.inr rfl) (pe_has h__law_options (hr.mono (by decide)) (pa_cons (pv 4) pa_nil)))
      (pss_cons (ps_set (i := 7) nd rfl (by first | exact Or.inl rfl | exact Or.inr rfl) (pe_ix (ix_listK (K := K)) (pv 6) (pe_op op_modN (pv 5) (pe_callB (call_lenK (K := K)) (by rfl) f_len PySem.boot_len (pa_cons (pv 6) pa_nil))) (fun _ _ => rfl)))
      (pss_cons (ps_expr (pe_bm PySem.F.plainAttrs_list PySem.F.slot_list_append PySem.F.type_list_append mt_append (pv 3) (pa_cons (pv 7) pa_nil)))
      (pss_one (ps_setLc (i := 4) (own := [("_law_one", 9), ("_law_mark", 10)]) (g := gTup K 2 (gCons (gName 9) (gCons (gName 10) gNil))) (tt := tYes) rfl nd rfl rfl (sw_true rfl rfl rfl (by decide +kernel)) (pi_zip (by rfl) f_zip (pa_cons (pv 4) (pa_cons (pv 7) pa_nil))) (blkOk_by (N := N__law_stair) (sc := (defScope (topS 55))) (by decide +kernel)) (fun _ _ _ _ _ => (pg_tup (n := 2) rfl (pgs_cons (pg_name (i := 9) nd rfl (by first | exact Or.inl rfl | exact Or.inr rfl)) (pgs_cons (pg_name (i := 10) nd rfl (by first | exact Or.inl rfl | exact Or.inr rfl)) pgs_nil)))) (fun _ _ _ _ _ => pts_nil) (fun _ _ _ _ _ => (pe_and (pv 9) (pe_one (pe_cmpR op_eq (pv 10) pe_int (nomark _)))))))))))
      (pss_one (ps_ret (pv 3)))))), ?_⟩
    refine z_start (σ' := [some _, some _, some _, none, none, none, none, none, none, none, none]) (by rfl) ?_
    walk_at "zz"
    refine ⟨by show 0 ≤ sizeLine; exact Nat.zero_le _, fun D nD => ?_⟩
    have sD := same_upd (o := .lst []) nD
    walk_at "zz"
    refine z_rng1 rfl (by omega) ?_
    refine z_mapR (by omega) (fun _ v _ => v = .bl true) (fun _ _ _ _ _ h => h) (fun E k H2 ys hk s hE nE R hR => ?_) (fun E H2 ys s nE hE hl hy => ?_)
    · walk_at "zz"
      exact hR _ _ (Same.refl _) rfl
    · have eys := all_trues (n := n) hl hy
      rw [eys] at hE
      walk_at "zz"
      refine z_rng1 rfl (by omega) ?_
      refine z_mapR (by omega) (fun _ v _ => v = .int 5040) (fun _ _ _ _ _ h => h) (fun B k H3 ys hk s hB nB R hR => ?_) (fun B H3 ys2 s2 nB hB hl2 hy2 => ?_)
      · walk_at "zz"
        exact hR _ _ (Same.refl _) rfl
      · have eys2 : ys2 = natV (List.replicate m 5040) := by
          have := map_of_get (f := fun _ => V.int 5040) hl2 hy2
          rw [this, natV, List.map_replicate]
          apply List.ext_getElem?
          intro i
          rw [List.getElem?_map, List.getElem?_replicate]
          by_cases hi : i < m
          · rw [List.getElem?_range hi, if_pos hi]; rfl
          · rw [if_neg hi, List.getElem?_eq_none (by simp; omega)]; rfl
        rw [eys2] at hB
        walk_at "zz"
        refine ⟨z, B, List.replicate m 5040, rfl, hB, by simp; omega, fun b hb => by rw [(List.mem_replicate.mp hb).2]; decide, fun N xs H4 s4 hN hxl hx => ?_⟩
        rw [List.length_replicate] at hxl
        have s5 := s2.trans s4
        have nDE : D ≠ E := fun e => by rw [← e, upd_same] at nE; cases nE
        walk_at "zz"
        refine z_forL (xs := natV xs) hN (fun i σ H' => ∃ (as : List Addr) (E : Addr) (bs : List Bool) (S : Nat → Nat → Int) (y5 y6 y7 y8 y9 y10 : Option V), σ = [some (.int z), some (.int (m : Nat)), some (.int (n : Nat)), some (.ref D), some (.ref E), y5, y6, y7, y8, y9, y10] ∧ Same H H' ∧ H' N = some (.lst (natV xs)) ∧ H' D = some (.lst (as.map V.ref)) ∧ as.length = i ∧ D ∉ as ∧ E ≠ D ∧ N ≠ D ∧ H' E = some (.lst (bs.map V.bl)) ∧ Clr S i bs n ∧ (∀ k a, as[k]? = some a → Rw Ci H' a n (S k)) ∧ Mks i n S ∧ ∀ k, i ≤ k → ∀ c, S k c = 0)
          ⟨[], E, List.replicate n true, fun _ _ => 0, _, _, _, _, _, _, rfl, sD.trans (s.trans s5), hN, (s.trans s5) _ _ upd_same, rfl, by simp, nDE.symm, fun e => ?_, s5 _ _ hE, ⟨by simp, fun c b hb => ?_⟩, fun k a h => by simp at h, ⟨fun _ _ => .inl rfl, fun _ _ _ => rfl, fun i hi => by omega⟩, fun _ _ _ => rfl⟩ (fun i σ H' hP => ?_) (fun i x σ H' hx' hP => ?_) (fun σ H' hP => ?_)
        · rw [e] at hN
          have := (s.trans s5) D _ upd_same
          rw [this] at hN
          have h2 := HO.lst.inj (Option.some.inj hN)
          have h3 : (natV xs).length = 0 := by rw [← h2]; rfl
          rw [natV_len] at h3
          omega
        · rw [List.getElem?_replicate] at hb
          split at hb
          · have := Option.some.inj hb
            rw [← this]
            exact ⟨fun _ k hk => by omega, fun _ => rfl⟩
          · cases hb
        · obtain ⟨as, E, bs, S, y5, y6, y7, y8, y9, y10, rfl, s, hN, _⟩ := hP
          exact hN
        · obtain ⟨as, E, bs, S, y5, y6, y7, y8, y9, y10, rfl, s, hN, hD, hal, hDn, hED, hND, hE, hC, hR, hS, hS0⟩ := hP
          obtain ⟨pt, hpt, rfl⟩ := nats_at hx'
          have hi : i < m := by rw [← hxl]; exact get_lt hpt
          walk_at "zz"
          refine ⟨E, bs, rfl, hE, by rw [hC.1]; exact n7, fun O os H5 s6 hO hon hol hos => ?_⟩
          rw [hC.1] at hos
          have ho0 := List.length_pos_iff.mpr hon
          walk_at "zz"
          refine z_len hO ?_
          rw [List.length_map]
          refine z_I (by omega) ?_
          walk_at "zz"
          rw [fmod_nat]
          obtain ⟨a, ha⟩ := get_of_lt (l := os) (i := pt % os.length) (Nat.mod_lt _ ho0)
          obtain ⟨r, hr1, hr2⟩ := hos a (List.mem_of_getElem? ha)
          refine z_ixL hO (atI_nat (j := pt % os.length) (ref_at ha)) ?_
          have hD5 := s6 _ _ hD
          walk_at "zz"
          refine z_tyL hD5 ?_
          walk_at "zz"
          refine z_append hD5 (by simp [hal]; omega) ?_
          have aD : a ≠ D := fun e => by
            obtain ⟨ws, w1, w2, w3⟩ := hr1
            rw [e, hD5] at w1
            have h1 := HO.lst.inj (Option.some.inj w1)
            have h2 : ∃ b, ws[0]? = some b := get_of_lt (by omega)
            obtain ⟨b, hb⟩ := h2
            have h3 := w3 0 b hb
            rw [← h1] at hb
            obtain ⟨c, _, hc⟩ := ref_of hb
            rw [hc] at h3
            cases h3
          have hr3 := hr1.fr (vs := as.map V.ref ++ [V.ref a]) Ci.fr aD hD5
          have hE5 : (upd H5 D (.lst (as.map V.ref ++ [V.ref a]))) E = some (.lst (bs.map V.bl)) := by rw [upd_ne hED]; exact s6 _ _ hE
          walk_at "zz"
          refine z_zip hE5 hr3.ints ?_
          refine z_mapZ hE5 hr3.ints (by simp [hC.1]) (by simp [hC.1]; omega) (fun c v _ => ∃ b : Bool, bs[c]? = some b ∧ v = .bl (b && decide (r c = 0))) (fun _ _ _ _ _ h => h) (fun F c x z T H6 ys hxc hzc s7 hF nF nT R hRR => ?_) (fun F H6 ys s7 nF hF hlF hyF => ?_)
          · have hc : c < n := by
              have := get_lt hzc
              simpa using this
            obtain ⟨b, hb, rfl⟩ : ∃ b, bs[c]? = some b ∧ x = .bl b := by
              rw [List.getElem?_map] at hxc
              cases e : bs[c]? with
              | none => rw [e] at hxc; cases hxc
              | some b => rw [e] at hxc; exact ⟨b, rfl, (Option.some.inj hxc).symm⟩
            have ez : z = .int (r c) := by
              rw [List.getElem?_map, List.getElem?_map, List.getElem?_range hc] at hzc
              exact (Option.some.inj hzc).symm
            subst ez
            refine z_gtup upd_same rfl ?_
            walk_at "zz"
            cases b with
            | true =>
              walk_at "zz"
              exact hRR _ _ (same_upd nT) ⟨true, hb, by rw [Bool.true_and]⟩
            | false =>
              walk_at "zz"
              exact hRR _ _ (same_upd nT) ⟨false, hb, rfl⟩
          · have s8 : Same H H6 := by
              refine Same.trans ?_ s7
              exact same_mut (s.trans s6) nD
            obtain ⟨bs', hbs, hbl⟩ : ∃ bs' : List Bool, ys = bs'.map V.bl ∧ bs'.length = n := by
              refine ⟨(List.range n).map fun c => bs.getD c false && decide (r c = 0), ?_, by simp⟩
              have := map_of_get (n := n) (f := fun c => V.bl (bs.getD c false && decide (r c = 0))) (hlF.trans (by simp [hC.1])) (fun c v hv => by
                obtain ⟨b, hb, e⟩ := hyF c v hv
                rw [e, List.getD_eq_getElem?_getD, hb]; rfl)
              rw [this, List.map_map]; rfl
            have hS' : ∀ k c, (if k = i then r else S k) c = if k = i then r c else S k c := fun k c => by split <;> rfl
            walk_at "zz"
            refine ⟨as ++ [a], F, bs', fun k => if k = i then r else S k, _, _, _, _, _, _, rfl, s8, ?_, ?_, by simp [hal], ?_, ?_, hND, ?_, ⟨hbl, fun c b hb => ?_⟩, fun k a' hk => ?_, ⟨fun k c => ?_, fun k c hc => ?_, fun k hk c hc h0 => ?_⟩, fun k hk c => ?_⟩
            · refine s7 _ _ ?_
              rw [upd_ne hND]; exact s6 _ _ hN
            · rw [s7 _ _ upd_same]; simp
            · simp [hDn]; exact fun e => aD e.symm
            · intro e
              rw [e, upd_same] at nF; cases nF
            · rw [hF, hbs]
            · have hy : ys[c]? = some (.bl b) := by rw [hbs, List.getElem?_map, hb]; rfl
              obtain ⟨b0, hb0, e⟩ := hyF c _ hy
              have e := V.bl.inj e
              have h1 := hC.2 c b0 hb0
              rw [e, Bool.and_eq_true, h1, decide_eq_true_iff]
              constructor
              · rintro ⟨h2, h3⟩ k hk
                dsimp only
                rw [hS']
                by_cases e : k = i
                · rw [if_pos e]; exact h3
                · rw [if_neg e]; exact h2 k (by omega)
              · intro h2
                refine ⟨fun k hk => ?_, ?_⟩
                · have := h2 k (by omega)
                  dsimp only at this
                  rw [hS', if_neg (by omega)] at this
                  exact this
                · have := h2 i (by omega)
                  dsimp only at this
                  rw [hS', if_pos rfl] at this
                  exact this
            · (try dsimp only)
              by_cases hkl : k < as.length
              · rw [List.getElem?_append_left hkl] at hk
                rw [if_neg (by omega)]
                exact ((((hR k a' hk).up Ci.up s6).fr Ci.fr (fun e => hDn (by rw [← e]; exact List.mem_of_getElem? hk)) hD5).up Ci.up s7)
              · have hlt := get_lt hk
                rw [List.length_append, List.length_singleton] at hlt
                have ek : k = i := by omega
                rw [List.getElem?_append_right (by omega), ek, hal, Nat.sub_self] at hk
                have ea := Option.some.inj hk
                subst ea
                rw [if_pos ek]
                exact hr3.up Ci.up s7
            · (try dsimp only)
              rw [hS']
              split
              · exact hr2.h01 c
              · exact hS.h01 k c
            · (try dsimp only)
              rw [hS']
              split
              · exact hr2.out c hc
              · exact hS.out k c hc
            · (try dsimp only at h0 ⊢)
              rw [hS'] at h0
              by_cases ek : k = i
              · rw [if_pos ek] at h0
                rcases hr2.rule c hc h0 with h1 | h1
                · exact .inl fun c' hc' => by rw [hS', if_pos ek]; exact h1 c' hc'
                · exact .inr fun k' hk' => by
                    rw [hS', if_neg (by omega)]
                    exact (hC.2 c true h1).mp rfl k' (by omega)
              · rw [if_neg ek] at h0
                rcases hS.rule k (by omega) c hc h0 with h1 | h1
                · exact .inl fun c' hc' => by rw [hS', if_neg ek]; exact h1 c' hc'
                · exact .inr fun k' hk' => by rw [hS', if_neg (by omega)]; exact h1 k' hk'
            · (try dsimp only)
              rw [hS', if_neg (by omega)]
              exact hS0 k (by omega) c
        · obtain ⟨as, E, bs, S, y5, y6, y7, y8, y9, y10, rfl, s, hN, hD, hal, hDn, hED, hND, hE, hC, hR, hS, hS0⟩ := hP
          rw [natV_len, hxl] at hal hS
          walk_at "zz"
          exact q D S _ s ⟨as, hD, hal, hR⟩ hS
end Smo

set_option Elab.async false
set_option linter.all false
set_option maxRecDepth 100000
set_option maxHeartbeats 4000000
set_option exponentiation.threshold 100000
namespace Smo
open PySem PySem.Spec PyProof.Rows L2
local macro_rules | `(tactic| walk_at "zz") => `(tactic| ((try dsimp only); repeat (first | refine ZS.go ?_ | refine And.intro (rfl : wipe _ _ = wipe _ _) ?_)))
/-- a number that is dealt: 1 to 9 over 1 to 6 -/
def Pos96 (q : Rat) : Prop := ∃ a b : Nat, 1 ≤ a ∧ a ≤ 9 ∧ 1 ≤ b ∧ b ≤ 6 ∧ q * ((b : Int) : Rat) = ((a : Int) : Rat)
theorem Pos96.rs {q : Rat} (h : Pos96 q) : Rs 10 q := by
  obtain ⟨a, b, a1, a9, b1, b6, e⟩ := h
  obtain ⟨e1, e2⟩ := of_mul (show (0 : Int) < (b : Int) by omega) e
  have hg := gcd_pos' (t := (a : Int)) (b := (b : Int)) (by omega)
  constructor
  · rw [← e1, ← Int.fdiv_eq_ediv_of_nonneg _ (by omega)]
    exact sm_div (show ((a : Nat) : Int).natAbs < 2 ^ 10 by omega)
  · rw [← e2, ← Int.fdiv_eq_ediv_of_nonneg _ (by omega)]
    exact sm_div (show ((b : Nat) : Int).natAbs < 2 ^ 10 by omega)
/-- the filled boxes of S have such numbers, the others 0 -/
structure Fil (S : Nat → Nat → Int) (T : Nat → Nat → Rat) : Prop where
  zero : ∀ i c, S i c = 0 → T i c = 0
  pos : ∀ i c, S i c = 1 → Pos96 (T i c)
def sp__law_numbered : Sp := fun vs H Q _ => ∃ (p : Addr) (z : Int) (m n : Nat) (S : Nat → Nat → Int), vs = [.ref p, .int z] ∧ Mt Ci H p m n S ∧ 1 ≤ m ∧ m ≤ 7 ∧ 1 ≤ n ∧ n ≤ 7 ∧ Mks m n S ∧
  ∀ p' T H', Same H H' → Mt Fr H' p' m n T → Fil S T → Q (.ref p') H'
theorem fr_int {H : Hp} {t : Addr} {a : Int} (h : H t = some (.tup [.int a, .int 1])) : Fr H (.ref t) (a : Rat) := ⟨t, rfl, h⟩
theorem pos_int {a : Nat} (h1 : 1 ≤ a) (h9 : a ≤ 9) : Pos96 (((a : Nat) : Int) : Rat) := ⟨a, 1, h1, h9, by decide, by decide, by
  have : (((1 : Nat) : Int) : Rat) = 1 := rfl
  rw [this]; grind⟩
abbrev N__law_numbered : List Str := ["_law_marks", "_law_cell_here", "_law_wide", "_law_parts", "_law_rows_here", "_law_i", "_law_row", "_law_numbers_here", "_law_k", "_law_part_here", "_law_mark", "_law_number"]
theorem sc__law_numbered : FnScope N__law_numbered ["_law_marks", "_law_cell_here"] (defScope (topS 56)) := ⟨rfl, rfl, rfl, by decide +kernel, rfl, by decide +kernel, by decide +kernel⟩
/-- _law_numbered: 0 _law_marks, 1 _law_cell_here, 2 _law_wide, 3 _law_parts, 4 _law_rows_here, 5 _law_i, 6 _law_row, 7 _law_numbers_here, 8 _law_k, 9 _law_part_here, 10 _law_mark, 11 _law_number -/
theorem ok__law_numbered {P : Program} {w : World} {K : PySem.W.Frag} {mg : Str → Option Value} {base : Heap} (W : Wd K mg) (h__law_numbers : Has P w K mg base "_law_numbers" 1 ["_law_cell_here", "_law_bases"] sp__law_numbers) (h__law_made : Has P w K mg base "_law_made" 2 ["_law_top", "_law_bottom"] sp__law_made) : Has P w K mg base "_law_numbered" 3 ["_law_marks", "_law_cell_here"] sp__law_numbered := by
  have f_enumerate : mg "enumerate" = none := W.free 51 "enumerate" rfl
  have f_len : mg "len" = none := W.free 54 "len" rfl
  have f_range : mg "range" = none := W.free 56 "range" rfl
  have f_zip : mg "zip" = none := W.free 60 "zip" rfl
  refine has_of W 41 56 rfl rfl sc__law_numbered (fun _ _ _ _ _ _ us hl => match us, hl with | [_, _], _ => rfl) (fun vs H Q E h => ?_) (fun f cdv A outer s H vs Q E hr h => ?_)
  · obtain ⟨p, z, m, n, S, rfl, hM, m1, m7, n1, n7, hS, q⟩ := h; rfl
  · obtain ⟨p, z, m, n, S, rfl, hM, m1, m7, n1, n7, hS, q⟩ := h
    have nd := sc__law_numbered.nd
    refine ⟨_, (pss_cons (ps_set (i := 2) nd rfl (by first | exact Or.inl rfl | exact Or.inr rfl) (pe_callB (call_lenK (K := K)) (by rfl) f_len PySem.boot_len (pa_cons (pe_ix (ix_listK (K := K)) (pv 0) pe_int (fun _ _ => rfl)) pa_nil)))
      (pss_cons (ps_set (i := 3) nd rfl (by first | exact Or.inl rfl | exact Or.inr rfl) (pe_has h__law_numbers (hr.mono (by decide)) (pa_cons (pv 1) (pa_cons (pe_lc (own := [("_law_k", 8)]) (g := gName 8) (tt := tYes) rfl nd (pi_range1 rfl f_range (pa_cons (pe_op op_mulX (pe_callB (call_lenK (K := K)) (by rfl) f_len PySem.boot_len (pa_cons (pv 0) pa_nil)) (pv 2)) pa_nil)) (blkOk_by (N := N__law_numbered) (sc := (defScope (topS 56))) (by decide +kernel)) (fun _ _ _ _ _ => (pg_name (i := 8) nd rfl (by first | exact Or.inl rfl | exact Or.inr rfl))) (fun _ _ _ _ _ => pts_nil) (fun _ _ _ _ _ => pe_int)) pa_nil))))
      (pss_cons (ps_set (i := 4) nd rfl (by first | exact Or.inl rfl | exact Or.inr rfl) (pe_lst pa_nil))
      (pss_cons (ps_for PassesOwn.never rfl (pi_enum (by rfl) f_enumerate (pa_cons (pv 0) pa_nil)) (pg_tup (n := 2) rfl (pgs_cons (pg_name (i := 5) nd rfl (by first | exact Or.inl rfl | exact Or.inr rfl)) (pgs_cons (pg_name (i := 6) nd rfl (by first | exact Or.inl rfl | exact Or.inr rfl)) pgs_nil))) (pss_cons (ps_setLc (i := 7) (own := [("_law_part_here", 9)]) (g := gName 9) (tt := tYes) rfl nd rfl rfl (sw_true rfl rfl rfl (by decide +kernel)) (pi_listK (K := K) (pe_slice (sl_listK (K := K)) (pv 3) (po_some (pe_op op_mulX (pv 2) (pv 5))) (po_some (pe_op op_mulX (pv 2) (pe_op op_add (pv 5) pe_int))))) (blkOk_by (N := N__law_numbered) (sc := (defScope (topS 56))) (by decide +kernel)) (fun _ _ _ _ _ => (pg_name (i := 9) nd rfl (by first | exact Or.inl rfl | exact Or.inr rfl))) (fun _ _ _ _ _ => pts_nil) (fun _ _ _ _ _ => (pe_has h__law_made (hr.mono (by decide)) (pa_cons (pe_op op_add pe_int (pe_op op_modN (pv 9) pe_int)) (pa_cons (pe_op op_add pe_int (pe_op op_fdivZ (pv 9) pe_int)) pa_nil)))))
      (Evl.pss_cut (ps_if (pt_cmpR op_gt (pe_op op_mulX (pe_callB (call_lenK (K := K)) (by rfl) f_len PySem.boot_len (pa_cons (pv 0) pa_nil)) (pv 2)) pe_int (nomark _)) (pss_one (ps_setLc (i := 7) (own := [("_law_part_here", 9)]) (g := gName 9) (tt := tYes) rfl nd rfl rfl (sw_true rfl rfl rfl (by decide +kernel)) (pi_listK (K := K) (pe_slice (sl_listK (K := K)) (pv 3) (po_some (pe_op op_mulX (pv 2) (pv 5))) (po_some (pe_op op_mulX (pv 2) (pe_op op_add (pv 5) pe_int))))) (blkOk_by (N := N__law_numbered) (sc := (defScope (topS 56))) (by decide +kernel)) (fun _ _ _ _ _ => (pg_name (i := 9) nd rfl (by first | exact Or.inl rfl | exact Or.inr rfl))) (fun _ _ _ _ _ => pts_nil) (fun _ _ _ _ _ => (pe_tup (pa_cons (pe_op op_add pe_int (pe_op op_modN (pv 9) pe_int)) (pa_cons pe_int pa_nil)))))) pss_nil)
      (pss_one (ps_expr (pe_bm PySem.F.plainAttrs_list PySem.F.slot_list_append PySem.F.type_list_append mt_append (pv 4) (pa_cons (pe_lc (own := [("_law_mark", 10), ("_law_number", 11)]) (g := gTup K 2 (gCons (gName 10) (gCons (gName 11) gNil))) (tt := tYes) rfl nd (pi_zip (by rfl) f_zip (pa_cons (pv 6) (pa_cons (pv 7) pa_nil))) (blkOk_by (N := N__law_numbered) (sc := (defScope (topS 56))) (by decide +kernel)) (fun _ _ _ _ _ => (pg_tup (n := 2) rfl (pgs_cons (pg_name (i := 10) nd rfl (by first | exact Or.inl rfl | exact Or.inr rfl)) (pgs_cons (pg_name (i := 11) nd rfl (by first | exact Or.inl rfl | exact Or.inr rfl)) pgs_nil)))) (fun _ _ _ _ _ => pts_nil) (fun _ _ _ _ _ => (pe_tup (pa_cons (pe_op op_mulX (pv 10) (pe_ix (ix_tupK (K := K)) (pv 11) pe_int (fun _ _ => rfl))) (pa_cons (pe_op op_sub (pe_op op_add (pe_op op_mulX (pe_ix (ix_tupK (K := K)) (pv 11) pe_int (fun _ _ => rfl)) (pv 10)) pe_int) (pv 10)) pa_nil))))) pa_nil)))))))
      (pss_one (ps_ret (pv 4))))))), ?_⟩
    refine z_start (σ' := [some _, some _, none, none, none, none, none, none, none, none, none, none]) (by rfl) ?_
    obtain ⟨as, h1, h2, h3⟩ := id hM
    have hmn : m * n ≤ 49 := Nat.mul_le_mul m7 n7
    have sm20 : ((m : Nat) : Int).natAbs < 2 ^ 20 := by omega
    have sn20 : ((n : Nat) : Int).natAbs < 2 ^ 20 := by omega
    walk_at "zz"
    refine z_ixM 0 hM (by omega) fun a0 ha0 => ?_
    walk_at "zz"
    refine z_lenR ha0 ?_
    walk_at "zz"
    refine z_lenM hM ?_
    walk_at "zz"
    refine z_I (mulx_ok sm20 sn20 (by decide)) ?_
    walk_at "zz"
    refine z_rng1 (n := m * n) (Int.natCast_mul m n).symm (by omega) ?_
    refine z_mapR (by omega) (fun _ v _ => v = .int 54) (fun _ _ _ _ _ h => h) (fun B k H3 ys hk s hB nB R hR => ?_) (fun B H3 ys2 s2 nB hB hl2 hy2 => ?_)
    · walk_at "zz"
      exact hR _ _ (Same.refl _) rfl
    · have eys2 : ys2 = natV (List.replicate (m * n) 54) := by
        have := map_of_get (f := fun _ => V.int 54) hl2 hy2
        rw [this, natV, List.map_replicate]
        apply List.ext_getElem?
        intro i
        rw [List.getElem?_map, List.getElem?_replicate]
        by_cases hi : i < m * n
        · rw [List.getElem?_range hi, if_pos hi]; rfl
        · rw [if_neg hi, List.getElem?_eq_none (by simp; omega)]; rfl
      rw [eys2] at hB
      walk_at "zz"
      refine ⟨z, B, List.replicate (m * n) 54, rfl, hB, by simp; omega, fun b hb => by rw [(List.mem_replicate.mp hb).2]; decide, fun N xs H4 s4 hN hxl hx => ?_⟩
      rw [List.length_replicate] at hxl
      have hx54 : ∀ (i x : Nat), xs[i]? = some x → x < 54 := fun i x h => hx i x 54 h (by
        rw [List.getElem?_replicate, if_pos (by rw [← hxl]; exact get_lt h)])
      have s5 := s2.trans s4
      walk_at "zz"
      refine ⟨by show 0 ≤ sizeLine; exact Nat.zero_le _, fun D nD => ?_⟩
      have sD := same_upd (o := .lst []) nD
      walk_at "zz"
      refine z_enum ((s5.trans sD) _ _ h1) ?_
      refine z_forE (xs := as.map V.ref) (fun i σ H' => ∃ (bs : List Addr) (T : Nat → Nat → Rat) (y5 y6 y7 y8 y9 y10 y11 : Option V), σ = [some (.ref p), some (.int z), some (.int (n : Nat)), some (.ref N), some (.ref D), y5, y6, y7, y8, y9, y10, y11] ∧ Same H4 H' ∧ H' D = some (.lst (bs.map V.ref)) ∧ bs.length = i ∧ D ∉ bs ∧ (∀ k b, bs[k]? = some b → Rw Fr H' b n (T k)) ∧ (∀ k < i, ∀ c, (S k c = 0 → T k c = 0) ∧ (S k c = 1 → Pos96 (T k c))))
        ⟨[], fun _ _ => 0, _, _, _, _, _, _, _, rfl, sD, upd_same, rfl, by simp, fun k b h => by simp at h, fun k hk => by omega⟩ (fun i σ H' hP => ?_) (fun i x T0 σ H' hx' hP nT => ?_) (fun σ H' hP => ?_)
      · obtain ⟨bs, T, y5, y6, y7, y8, y9, y10, y11, rfl, s, hD, hbl, hDn, hR, hT⟩ := hP
        exact (s5.trans s) _ _ h1
      · obtain ⟨bs, T, y5, y6, y7, y8, y9, y10, y11, rfl, s, hD, hbl, hDn, hR, hT⟩ := hP
        obtain ⟨a, ha, rfl⟩ := ref_of hx'
        have hi : i < m := by rw [← h2]; exact get_lt ha
        have hra := (h3 i a ha).up Ci.up (s5.trans s)
        have sT := same_upd (o := .tup [.int (i : Nat), .ref a]) nT
        have si20 : ((i : Nat) : Int).natAbs < 2 ^ 20 := by omega
        have hin : n * i + n ≤ m * n := by
          have : (i + 1) * n ≤ m * n := Nat.mul_le_mul_right n (by omega)
          rw [Nat.add_mul, Nat.one_mul, Nat.mul_comm i n] at this
          exact this
        have c1 : ((n : Nat) : Int) * ((i : Nat) : Int) = ((n * i : Nat) : Int) := (Int.natCast_mul n i).symm
        have c2 : ((n : Nat) : Int) * (((i : Nat) : Int) + 1) = ((n * i + n : Nat) : Int) := by
          rw [Int.mul_add, c1, Int.mul_one]; omega
        have cutE : cutV (natV xs) (some ((n * i : Nat) : Int)) (some ((n * i + n : Nat) : Int)) = natV ((xs.drop (n * i)).take n) := by
          rw [cut_mid _ _ _ (by omega) (by rw [natV_len, hxl]; exact hin), natV, ← List.map_drop, ← List.map_take]
          congr 3
          omega
        have lenE : ((xs.drop (n * i)).take n).length = n := by simp [hxl]; omega
        have ltE : ∀ (k x : Nat), ((xs.drop (n * i)).take n)[k]? = some x → x < 54 := fun k x h => by
          rw [List.getElem?_take] at h
          split at h
          · rw [List.getElem?_drop] at h
            exact hx54 _ _ h
          · cases h
        generalize (xs.drop (n * i)).take n = ws at cutE lenE ltE
        refine z_gtup upd_same rfl ?_
        walk_at "zz"
        refine z_I (mulx_ok sn20 si20 (by decide)) ?_
        walk_at "zz"
        refine z_I (mulx_ok sn20 (show (((i : Nat) : Int) + 1).natAbs < 2 ^ 20 by omega) (by decide)) ?_
        walk_at "zz"
        rw [c1, c2]
        refine z_slice (sT _ _ (s _ _ hN)) fun E1 nE1 => ?_
        rw [cutE]
        have sE := same_upd (o := .lst (natV ws)) nE1
        have s6 := s.trans (sT.trans sE)
        walk_at "zz"
        refine z_mapL (xs := natV ws) upd_same (by rw [natV_len, lenE]; omega) (fun k v H4 => ∃ q, Fr H4 v q ∧ Pos96 q) (fun i v H H' e ⟨q, h, k⟩ => ⟨q, Fr.ups _ _ _ _ e h, k⟩) (fun Nn k x H7 ys hxk s7 hNn nNn R hRR => ?_) (fun Nn H7 ys s7 nNn hNn hyl hy => ?_)
        · obtain ⟨x, hxk', rfl⟩ := nats_at hxk
          have x54 := ltE k x hxk'
          walk_at "zz"
          refine z_I (by decide) ?_
          walk_at "zz"
          refine z_I ⟨by decide, by decide +kernel⟩ ?_
          walk_at "zz"
          have f1 : (1 : Int) + ((x : Nat) : Int).fmod 9 = ((1 + x % 9 : Nat) : Int) := by
            rw [show (9 : Int) = ((9 : Nat) : Int) from rfl, fmod_nat]; omega
          have f2 : (1 : Int) + ((x : Nat) : Int).fdiv 9 = ((1 + x / 9 : Nat) : Int) := by
            rw [show (9 : Int) = ((9 : Nat) : Int) from rfl, fdiv_nat]; omega
          have hb0 : (((1 + x / 9 : Nat) : Int) : Rat) ≠ 0 := fun e => by
            have := Rat.intCast_eq_zero_iff.mp e
            omega
          have eq : (((1 + x % 9 : Nat) : Int) : Rat) / (((1 + x / 9 : Nat) : Int) : Rat) * (((1 + x / 9 : Nat) : Int) : Rat) = (((1 + x % 9 : Nat) : Int) : Rat) := by
            generalize (((1 + x % 9 : Nat) : Int) : Rat) = u at *
            generalize (((1 + x / 9 : Nat) : Int) : Rat) = w at *
            grind
          refine ⟨_, _, (((1 + x % 9 : Nat) : Int) : Rat) / (((1 + x / 9 : Nat) : Int) : Rat), by rw [f1, f2]; rfl, by omega, show ((1 + x / 9 : Nat) : Int).natAbs < 2 ^ 8000 from Nat.lt_of_lt_of_le (by omega : _ < 2 ^ 10) (Nat.pow_le_pow_right (by decide) (by decide)), eq, fun t nt _ _ => ?_⟩
          refine hRR _ _ (same_upd nt) ⟨_, Fr.hid (ys := ys) ?_ ⟨t, rfl, upd_same⟩, 1 + x % 9, 1 + x / 9, by omega, by omega, by omega, by omega, eq⟩
          rw [upd_ne (fun e => by rw [e, nt] at hNn; cases hNn)]
          exact hNn
        · rw [natV_len, lenE] at hyl
          have s8 := s6.trans s7
          walk_at "zz"
          refine z_cut (fun σ' H8 => ∃ (Nm : Addr) (zs : List V), σ' = [some (.ref p), some (.int z), some (.int (n : Nat)), some (.ref N), some (.ref D), some (.int (i : Nat)), some (.ref a), some (.ref Nm), y8, y9, y10, y11] ∧ Same H' H8 ∧ H8 Nm = some (.lst zs) ∧ zs.length = n ∧ ∀ (k : Nat) (v : V), zs[k]? = some v → ∃ q, Fr H8 v q ∧ Pos96 q) ?_ ?_
          · walk_at "zz"
            refine z_len ((s5.trans s8) _ _ h1) ?_
            rw [List.length_map, h2]
            walk_at "zz"
            refine z_I (mulx_ok sm20 sn20 (by decide)) ?_
            walk_at "zz"
            refine z_it2 (fun h16 => ?_) (fun h16 => ?_)
            · walk_at "zz"
              refine z_I (mulx_ok sn20 si20 (by decide)) ?_
              walk_at "zz"
              refine z_I (mulx_ok sn20 (show (((i : Nat) : Int) + 1).natAbs < 2 ^ 20 by omega) (by decide)) ?_
              walk_at "zz"
              rw [c1, c2]
              refine z_slice ((sT.trans (sE.trans s7)) _ _ (s _ _ hN)) fun E2 nE2 => ?_
              rw [cutE]
              have sE2 := same_upd (o := .lst (natV ws)) nE2
              walk_at "zz"
              refine z_mapL (xs := natV ws) upd_same (by rw [natV_len, lenE]; omega) (fun k v H4 => ∃ q, Fr H4 v q ∧ Pos96 q) (fun i v H H' e ⟨q, h, k⟩ => ⟨q, Fr.ups _ _ _ _ e h, k⟩) (fun Nm k x H9 zs hxk s9 hNm nNm R hRR => ?_) (fun Nm H9 zs s9 nNm hNm hzl hz => ?_)
              · obtain ⟨x, hxk, rfl⟩ := nats_at hxk
                walk_at "zz"
                refine z_I (by decide) ?_
                walk_at "zz"
                refine ⟨by show 2 ≤ sizeLine; decide, fun t nt => ?_⟩
                have f1 : (1 : Int) + ((x : Nat) : Int).fmod 3 = ((1 + x % 3 : Nat) : Int) := by
                  rw [show (3 : Int) = ((3 : Nat) : Int) from rfl, fmod_nat]; omega
                rw [f1]
                refine hRR _ _ (same_upd nt) ⟨_, Fr.hid (ys := zs) ?_ (fr_int upd_same), pos_int (by omega) (by omega)⟩
                rw [upd_ne (fun e => by rw [e, nt] at hNm; cases hNm)]
                exact hNm
              · rw [natV_len, lenE] at hzl
                walk_at "zz"
                refine ⟨Nm, zs, rfl, sT.trans (sE.trans (s7.trans (sE2.trans s9))), hNm, hzl, fun k v hv => ?_⟩
                obtain ⟨q, hq, hp⟩ := hz k v hv
                exact ⟨q, Fr.ups _ _ _ _ hide_same hq, hp⟩
            · walk_at "zz"
              refine ⟨Nn, ys, rfl, sT.trans (sE.trans s7), hNn, hyl, fun k v hv => ?_⟩
              obtain ⟨q, hq, hp⟩ := hy k v hv
              exact ⟨q, Fr.ups _ _ _ _ hide_same hq, hp⟩
          · clear hy hyl hNn nNn
            rintro σ' H8 ⟨Nm, zs, rfl, s9, hNm, hzl, hz⟩
            have hD8 := s9 _ _ hD
            have hra8 := hra.up Ci.up s9
            walk_at "zz"
            refine z_tyL hD8 ?_
            walk_at "zz"
            refine z_zip hra8.ints hNm ?_
            refine z_mapZ hra8.ints hNm (by simp [hzl]) (by simp; omega) (fun c v H4 => ∃ q, Fr H4 v q ∧ (S i c = 0 → q = 0) ∧ (S i c = 1 → Pos96 q)) (fun i v H H' e ⟨q, h, k⟩ => ⟨q, Fr.ups _ _ _ _ e h, k⟩) (fun F c x y T1 H10 us hxc hyc s10 hF nF nT1 R hRR => ?_) (fun F H10 us s10 nF hF hlF hyF => ?_)
            · have hc : c < n := by
                have := get_lt hyc
                omega
              have ex : x = .int (S i c) := by
                rw [List.getElem?_map, List.getElem?_map, List.getElem?_range hc] at hxc
                exact (Option.some.inj hxc).symm
              subst ex
              obtain ⟨q, ⟨t, rfl, ht⟩, hq⟩ := hz c y hyc
              have hrs := hq.rs
              have sT1 := same_upd (o := .tup [.int (S i c), .ref t]) nT1
              have ht2 := (s10.trans sT1) _ _ ht
              have s01 : (S i c).natAbs < 2 ^ 10 := by rcases hS.h01 i c with e | e <;> rw [e] <;> decide
              refine z_gtup upd_same rfl ?_
              walk_at "zz"
              refine z_ixT ht2 (atI_nat (j := 0) rfl) ?_
              refine z_I (mulx_ok s01 hrs.1 (by decide)) ?_
              walk_at "zz"
              refine z_ixT ht2 (atI_nat (j := 1) rfl) ?_
              walk_at "zz"
              refine z_I (mulx_ok hrs.2 s01 (by decide)) ?_
              walk_at "zz"
              refine ⟨by show 2 ≤ sizeLine; decide, fun t3 nt3 => ?_⟩
              have hF3 : ∀ o, (upd (upd H10 T1 (.tup [.int (S i c), .ref t])) t3 o) F = some (.lst us) := fun o => by
                rw [upd_ne (fun e => by rw [← e, sT1 _ _ hF] at nt3; cases nt3)]
                exact sT1 _ _ hF
              rcases hS.h01 i c with e | e
              · refine hRR _ _ (sT1.trans (same_upd nt3)) ⟨0, Fr.hid (hF3 _) ⟨t3, rfl, ?_⟩, fun _ => rfl, fun h => by omega⟩
                rw [upd_same, e]
                have e1 : (0 : Int) * q.num = 0 := Int.zero_mul _
                have e2 : (q.den : Int) * 0 + 1 - 0 = 1 := by omega
                rw [e1, e2]; rfl
              · refine hRR _ _ (sT1.trans (same_upd nt3)) ⟨q, Fr.hid (hF3 _) ⟨t3, rfl, ?_⟩, fun h => by omega, fun _ => hq⟩
                rw [upd_same, e]
                have e1 : (1 : Int) * q.num = q.num := Int.one_mul _
                have e2 : (q.den : Int) * 1 + 1 - 1 = (q.den : Int) := by omega
                rw [e1, e2]
            · have hlF : us.length = n := hlF.trans (by simp)
              have hf : ∀ c, ∃ q : Rat, (∀ v : V, us[c]? = some v → Fr (hide F H10) v q) ∧ (S i c = 0 → q = 0) ∧ (S i c = 1 → Pos96 q) := fun c => by
                cases e : us[c]? with
                | some v =>
                  obtain ⟨q, a1, a2, a3⟩ := hyF c v e
                  exact ⟨q, fun v' hv' => by cases hv'; exact a1, a2, a3⟩
                | none =>
                  have hc : n ≤ c := by rw [← hlF]; exact List.getElem?_eq_none_iff.mp e
                  have h0 := hS.out i c hc
                  exact ⟨0, fun v hv => (by cases hv), fun _ => rfl, fun h => by omega⟩
              obtain ⟨f, hf⟩ := Classical.skolem.mp hf
              have hD10 := s10 _ _ hD8
              have nFD : F ≠ D := fun e => by rw [e, hD8] at nF; cases nF
              walk_at "zz"
              refine z_append hD10 (by simp [hbl]; omega) ?_
              walk_at "zz"
              refine ⟨bs ++ [F], fun k => if k = i then f else T k, _, _, _, _, _, _, _, rfl, ?_, by rw [upd_same]; simp, by simp [hbl], by simp [hDn]; exact fun e => nFD e.symm, fun k b hk => ?_, fun k hk c => ?_⟩
              · exact same_mut (s.trans (s9.trans s10)) nD
              · (try dsimp only)
                by_cases hkl : k < bs.length
                · rw [List.getElem?_append_left hkl] at hk
                  rw [if_neg (by omega)]
                  exact Rw.fr Fr.fr ((hR k b hk).up Fr.ups (s9.trans s10)) (fun e => hDn (by rw [← e]; exact List.mem_of_getElem? hk)) hD10
                · have hlt := get_lt hk
                  rw [List.length_append, List.length_singleton] at hlt
                  have ek : k = i := by omega
                  rw [List.getElem?_append_right (by omega), ek, hbl, Nat.sub_self] at hk
                  have eb := Option.some.inj hk
                  subst eb
                  rw [if_pos ek]
                  exact Rw.fr Fr.fr ⟨us, hF, hlF, fun c v hv => Fr.ups _ _ _ _ hide_same ((hf c).1 v hv)⟩ nFD hD10
              · (try dsimp only)
                by_cases ek : k = i
                · rw [if_pos ek, ek]
                  exact (hf c).2
                · rw [if_neg ek]
                  exact hT k (by omega) c
      · obtain ⟨bs, T, y5, y6, y7, y8, y9, y10, y11, rfl, s, hD, hbl, hDn, hR, hT⟩ := hP
        rw [List.length_map, h2] at hbl hT
        walk_at "zz"
        refine q D (fun k c => if k < m then T k c else (S k c : Rat)) _ (s5.trans s) ⟨bs, hD, hbl, fun k b hk => ?_⟩ ⟨fun k c h0 => ?_, fun k c h1 => ?_⟩
        · have hk' : k < m := by rw [← hbl]; exact get_lt hk
          have := hR k b hk
          have e : (fun c => if k < m then T k c else (S k c : Rat)) = T k := by funext c; rw [if_pos hk']
          show Rw Fr H' b n (fun c => if k < m then T k c else (S k c : Rat))
          rw [e]; exact this
        · (try dsimp only)
          by_cases hk : k < m
          · rw [if_pos hk]; exact (hT k hk c).1 h0
          · rw [if_neg hk, h0]; rfl
        · (try dsimp only)
          by_cases hk : k < m
          · rw [if_pos hk]; exact (hT k hk c).2 h1
          · rw [if_neg hk, h1]
            exact pos_int (a := 1) (by decide) (by decide)
end Smo

namespace Smo
/-! Masks. -/
/-- the set bits below n, falling -/
def bd (x : Nat) : Nat → List Nat
  | 0 => []
  | n + 1 => if x.testBit n then n :: bd x n else bd x n
theorem bd_mem {x c : Nat} : ∀ {n : Nat}, c ∈ bd x n ↔ c < n ∧ x.testBit c = true
  | 0 => by simp [bd]
  | n + 1 => by
    unfold bd
    by_cases h : x.testBit n = true
    · rw [if_pos h, List.mem_cons, bd_mem (n := n)]
      constructor
      · rintro (rfl | ⟨h1, h2⟩)
        · exact ⟨by omega, h⟩
        · exact ⟨by omega, h2⟩
      · rintro ⟨h1, h2⟩
        by_cases e : c = n
        · exact .inl e
        · exact .inr ⟨by omega, h2⟩
    · rw [if_neg h, bd_mem (n := n)]
      constructor
      · rintro ⟨h1, h2⟩
        exact ⟨by omega, h2⟩
      · rintro ⟨h1, h2⟩
        refine ⟨?_, h2⟩
        by_cases e : c = n
        · subst e; exact absurd h2 h
        · omega
theorem bd_fall {x : Nat} : ∀ n, (bd x n).Pairwise (· > ·)
  | 0 => List.Pairwise.nil
  | n + 1 => by
    unfold bd
    split
    · refine List.pairwise_cons.mpr ⟨fun c hc => (bd_mem.mp hc).1, bd_fall n⟩
    · exact bd_fall n
/-- falling lists of the same members are one -/
theorem fall_eq : ∀ {l l' : List Nat}, l.Pairwise (· > ·) → l'.Pairwise (· > ·) → (∀ c, c ∈ l ↔ c ∈ l') → l = l'
  | [], [], _, _, _ => rfl
  | [], b :: l', _, _, h => by have := (h b).mpr List.mem_cons_self; simp at this
  | a :: l, [], _, _, h => by have := (h a).mp List.mem_cons_self; simp at this
  | a :: l, b :: l', h1, h2, h => by
    obtain ⟨p1, p2⟩ := List.pairwise_cons.mp h1
    obtain ⟨q1, q2⟩ := List.pairwise_cons.mp h2
    have e : a = b := by
      rcases List.mem_cons.mp ((h a).mp List.mem_cons_self) with e | e
      · exact e
      · rcases List.mem_cons.mp ((h b).mpr List.mem_cons_self) with e' | e'
        · exact e'.symm
        · have := p1 b e'
          have := q1 a e
          omega
    subst e
    rw [fall_eq p2 q2 fun c => ?_]
    constructor
    · intro hc
      rcases List.mem_cons.mp ((h c).mp (List.mem_cons_of_mem _ hc)) with e | e
      · have := p1 c hc
        omega
      · exact e
    · intro hc
      rcases List.mem_cons.mp ((h c).mpr (List.mem_cons_of_mem _ hc)) with e | e
      · have := q1 c hc
        omega
      · exact e
theorem mask_inj {x y n : Nat} (hx : x < 2 ^ n) (hy : y < 2 ^ n) (h : bd x n = bd y n) : x = y := by
  apply Nat.eq_of_testBit_eq
  intro i
  by_cases hi : i < n
  · have : (i ∈ bd x n) ↔ (i ∈ bd y n) := by rw [h]
    rw [bd_mem, bd_mem] at this
    cases e1 : x.testBit i <;> cases e2 : y.testBit i <;> simp_all
  · rw [Nat.testBit_lt_two_pow (Nat.lt_of_lt_of_le hx (Nat.pow_le_pow_right (by decide) (by omega))), Nat.testBit_lt_two_pow (Nat.lt_of_lt_of_le hy (Nat.pow_le_pow_right (by decide) (by omega)))]
/-- the mask of a list -/
def msk : List Nat → Nat
  | [] => 0
  | c :: l => msk l ||| 1 <<< c
theorem msk_bit {c : Nat} : ∀ {l : List Nat}, (msk l).testBit c = decide (c ∈ l)
  | [] => by simp [msk]
  | d :: l => by
    unfold msk
    rw [Nat.testBit_or, msk_bit (l := l), Nat.testBit_shiftLeft]
    by_cases e : c = d
    · subst e; simp
    · by_cases h : c ∈ l
      · simp [h]
      · simp [h, e]
        intro h1
        exact Bool.eq_false_iff.mpr fun z => by
          have := Nat.testBit_one_eq_true_iff_self_eq_zero.mp z
          omega
theorem msk_lt {n : Nat} : ∀ {l : List Nat}, (∀ c ∈ l, c < n) → msk l < 2 ^ n
  | [], _ => Nat.two_pow_pos n
  | c :: l, h => by
    unfold msk
    refine Nat.or_lt_two_pow (msk_lt fun d hd => h d (List.mem_cons_of_mem _ hd)) ?_
    rw [Nat.shiftLeft_eq, Nat.one_mul]
    exact Nat.pow_lt_pow_right (by decide) (h c List.mem_cons_self)
theorem bd_msk {n : Nat} {l : List Nat} (hf : l.Pairwise (· > ·)) (h : ∀ c ∈ l, c < n) : bd (msk l) n = l := by
  refine fall_eq (bd_fall n) hf fun c => ?_
  rw [bd_mem, msk_bit, decide_eq_true_iff]
  exact ⟨fun z => z.2, fun z => ⟨h c z, z⟩⟩
theorem bd_nodup {x n : Nat} : (bd x n).Nodup := (bd_fall n).imp fun h => by omega
theorem fall_erase {l : List Nat} (h : l.Pairwise (· > ·)) (c : Nat) : (l.erase c).Pairwise (· > ·) := h.sublist List.erase_sublist
theorem or_bit {x j c : Nat} : (x ||| 1 <<< j).testBit c = (x.testBit c || decide (c = j)) := by
  have := msk_bit (c := c) (l := [j])
  rw [Nat.testBit_or]
  have e : (1 <<< j) = msk [j] := by simp [msk]
  rw [e, this]; simp
theorem bd_or {x n j : Nat} (hj : j < n) (h : x.testBit j = false) : (bd (x ||| 1 <<< j) n).erase j = bd x n := by
  refine fall_eq (fall_erase (bd_fall n) j) (bd_fall n) fun c => ?_
  rw [bd_nodup.mem_erase_iff, bd_mem, bd_mem, or_bit]
  by_cases e : c = j
  · subst e; simp [h]
  · simp [e]
/-- how many set bits of x stand above j -/
def ab (x n j : Nat) : Nat := ((bd x n).filter fun c => decide (j < c)).length
theorem ab_or {x n j : Nat} : ab (x ||| 1 <<< j) n j = ab x n j := by
  unfold ab
  congr 1
  refine fall_eq ((bd_fall n).filter _) ((bd_fall n).filter _) fun c => ?_
  rw [List.mem_filter, List.mem_filter, bd_mem, bd_mem, or_bit, decide_eq_true_iff]
  constructor
  · rintro ⟨⟨h1, h2⟩, h3⟩
    have : c ≠ j := by omega
    simp [this] at h2
    exact ⟨⟨h1, h2⟩, h3⟩
  · rintro ⟨⟨h1, h2⟩, h3⟩
    exact ⟨⟨h1, by simp [h2]⟩, h3⟩
theorem ab_top {x : Nat} : ∀ {n j : Nat}, n ≤ j + 1 → ab x n j = 0 := fun {n j} h => by
  unfold ab
  rw [List.length_eq_zero_iff, List.filter_eq_nil_iff]
  intro c hc
  have := (bd_mem.mp hc).1
  simp; omega
theorem ab_next {x : Nat} : ∀ {n j : Nat}, j + 1 < n → ab x n j = ab x n (j + 1) + if x.testBit (j + 1) then 1 else 0
  | n + 1, j, h => by
    unfold ab bd
    by_cases e : j + 1 = n
    · subst e
      have h0 : ((bd x (j + 1)).filter fun c => decide (j < c)).length = 0 := ab_top (Nat.le_refl _)
      have h1 : ((bd x (j + 1)).filter fun c => decide (j + 1 < c)).length = 0 := ab_top (by omega)
      by_cases hb : x.testBit (j + 1) = true
      · rw [if_pos hb, if_pos hb, List.filter_cons, if_pos (by simp), List.filter_cons, if_neg (by simp), List.length_cons, h0, h1]
      · rw [if_neg hb, if_neg hb, h0, h1]
    · have ih := ab_next (x := x) (n := n) (j := j) (by omega)
      unfold ab at ih
      by_cases hb : x.testBit n = true
      · rw [if_pos hb, List.filter_cons, if_pos (by simp; omega), List.filter_cons, if_pos (by simp; omega), List.length_cons, List.length_cons, ih]
        omega
      · rw [if_neg hb]; exact ih
theorem or_lt {x n j : Nat} (hx : x < 2 ^ n) (hj : j < n) : x ||| 1 <<< j < 2 ^ n := by
  refine Nat.or_lt_two_pow hx ?_
  rw [Nat.shiftLeft_eq, Nat.one_mul]
  exact Nat.pow_lt_pow_right (by decide) hj
theorem or_inj {x y n j : Nat} (hx : x < 2 ^ n) (hy : y < 2 ^ n) (hj : j < n) (h1 : x.testBit j = false) (h2 : y.testBit j = false) (e : x ||| 1 <<< j = y ||| 1 <<< j) : x = y := by
  refine mask_inj hx hy ?_
  rw [← bd_or hj h1, ← bd_or hj h2, e]
theorem or_len {x n j : Nat} (hj : j < n) (h : x.testBit j = false) : (bd (x ||| 1 <<< j) n).length = (bd x n).length + 1 := by
  have hm : j ∈ bd (x ||| 1 <<< j) n := bd_mem.mpr ⟨hj, by rw [or_bit]; simp⟩
  rw [← bd_or hj h, List.length_erase_of_mem hm]
  have := List.length_pos_of_mem hm
  omega
theorem or_back {y n c : Nat} (hy : y < 2 ^ n) (hc : c ∈ bd y n) : ∃ x, x < 2 ^ n ∧ x.testBit c = false ∧ y = x ||| 1 <<< c ∧ bd x n = (bd y n).erase c := by
  have hm : ∀ d ∈ (bd y n).erase c, d < n := fun d hd => (bd_mem.mp (List.mem_of_mem_erase hd)).1
  have hb : bd (msk ((bd y n).erase c)) n = (bd y n).erase c := bd_msk (fall_erase (bd_fall n) c) hm
  have hbit : (msk ((bd y n).erase c)).testBit c = false := by
    rw [msk_bit, decide_eq_false_iff_not, bd_nodup.mem_erase_iff]
    exact fun z => z.1 rfl
  have hcn := (bd_mem.mp hc).1
  refine ⟨_, msk_lt hm, hbit, ?_, hb⟩
  refine mask_inj hy (or_lt (msk_lt hm) hcn) ?_
  refine fall_eq (bd_fall n) (bd_fall n) fun d => ?_
  rw [bd_mem, bd_mem, or_bit, msk_bit]
  by_cases e : d = c
  · subst e
    have := bd_mem.mp hc
    simp [this.2]
  · have : (d ∈ (bd y n).erase c) ↔ d ∈ bd y n := by rw [bd_nodup.mem_erase_iff]; exact ⟨fun z => z.2, fun z => ⟨e, z⟩⟩
    simp only [this, e, bd_mem, decide_false, Bool.or_false]
    constructor
    · rintro ⟨h1, h2⟩
      exact ⟨h1, by simp [h1, h2]⟩
    · rintro ⟨h1, h2⟩
      exact ⟨h1, (of_decide_eq_true h2).2⟩
/-! ### the last row's expansion as a sum -/
def sml (f : Nat → Int) : List Nat → Int
  | [] => 0
  | c :: l => f c + sml f l
theorem sml_congr {f g : Nat → Int} : ∀ {l : List Nat}, (∀ c ∈ l, f c = g c) → sml f l = sml g l
  | [], _ => rfl
  | c :: l, h => by
    unfold sml
    rw [h c List.mem_cons_self, sml_congr fun d hd => h d (List.mem_cons_of_mem _ hd)]
theorem sml_zero {f : Nat → Int} : ∀ {l : List Nat}, (∀ c ∈ l, f c = 0) → sml f l = 0
  | [], _ => rfl
  | c :: l, h => by
    unfold sml
    rw [h c List.mem_cons_self, sml_zero fun d hd => h d (List.mem_cons_of_mem _ hd)]; rfl
theorem sml_add {f g : Nat → Int} {j : Nat} {x : Int} : ∀ {l : List Nat}, l.Nodup → j ∈ l → (∀ c ∈ l, c ≠ j → g c = f c) → g j = f j + x → sml g l = sml f l + x
  | c :: l, hn, hj, h1, h2 => by
    obtain ⟨n1, n2⟩ := List.nodup_cons.mp hn
    unfold sml
    by_cases e : c = j
    · subst e
      rw [h2, sml_congr (f := g) (g := f) fun d hd => h1 d (List.mem_cons_of_mem _ hd) fun z => n1 (z ▸ hd)]
      omega
    · have hj' : j ∈ l := by
        rcases List.mem_cons.mp hj with z | z
        · exact absurd z.symm e
        · exact z
      rw [h1 c List.mem_cons_self e, sml_add n2 hj' (fun d hd => h1 d (List.mem_cons_of_mem _ hd)) h2]
      omega
def sg (k : Nat) : Int := if k % 2 = 1 then -1 else 1
theorem sg_succ (k : Nat) : sg (k + 1) = - sg k := by
  unfold sg
  split <;> split <;> omega
/-- the term of column c -/
def tm (r : Nat → Int) (F : List Nat → Int) (J : List Nat) (c : Nat) : Int := sg (J.filter fun d => decide (c < d)).length * (r c * F (J.erase c))
theorem ex_tm {r : Nat → Int} {F : List Nat → Int} : ∀ {J A : List Nat}, (A ++ J).Pairwise (· > ·) → sg A.length * ex r (fun L => F (A ++ L)) J = sml (tm r F (A ++ J)) J
  | [], A, _ => by
    show sg A.length * 0 = 0
    omega
  | c :: B, A, h => by
    have ih := ex_tm (r := r) (F := F) (J := B) (A := A ++ [c]) (by simpa using h)
    have e1 : (fun L => F (A ++ c :: L)) = fun L => F (A ++ [c] ++ L) := by funext L; simp
    obtain ⟨p1, p2, p3⟩ := List.pairwise_append.mp h
    obtain ⟨p4, p5⟩ := List.pairwise_cons.mp p2
    have cA : c ∉ A := fun hm => by
      have := p3 c hm c List.mem_cons_self
      omega
    have t1 : tm r F (A ++ c :: B) c = sg A.length * (r c * F (A ++ B)) := by
      unfold tm
      have f1 : (A ++ c :: B).filter (fun d => decide (c < d)) = A := by
        rw [List.filter_append, List.filter_cons, if_neg (by simp)]
        have a1 : A.filter (fun d => decide (c < d)) = A := List.filter_eq_self.mpr fun d hd => by
          have := p3 d hd c List.mem_cons_self
          simp; omega
        have a2 : B.filter (fun d => decide (c < d)) = [] := List.filter_eq_nil_iff.mpr fun d hd => by
          have := p4 d hd
          simp; omega
        rw [a1, a2, List.append_nil]
      rw [f1, List.erase_append_right _ cA, List.erase_cons_head]
    show sg A.length * (r c * F (A ++ B) - ex r (fun L => F (A ++ c :: L)) B) = tm r F (A ++ c :: B) c + sml (tm r F (A ++ c :: B)) B
    rw [t1, e1]
    rw [show A ++ [c] ++ B = A ++ c :: B by simp] at ih
    rw [← ih, List.length_append, List.length_singleton, sg_succ]
    grind
theorem ex_sum {r : Nat → Int} {F : List Nat → Int} {J : List Nat} (h : J.Pairwise (· > ·)) : ex r F J = sml (tm r F J) J := by
  have := ex_tm (r := r) (F := F) (J := J) (A := []) h
  have e : sg ([] : List Nat).length = 1 := rfl
  rw [e] at this
  simpa using this
/-- what has come to a mask by the turns of P -/
noncomputable def vl (P : Nat → Nat → Prop) (r : Nat → Int) (F : List Nat → Int) (n y : Nat) : Int := sml (fun c => @ite _ (P y c) (Classical.propDecidable _) (tm r F (bd y n) c) 0) (bd y n)
theorem vl_none {P : Nat → Nat → Prop} {r : Nat → Int} {F : List Nat → Int} {n y : Nat} (h : ∀ c ∈ bd y n, ¬ P y c) : vl P r F n y = 0 := sml_zero fun c hc => if_neg (h c hc)
theorem vl_all {P : Nat → Nat → Prop} {r : Nat → Int} {F : List Nat → Int} {n y : Nat} (h : ∀ c ∈ bd y n, P y c) : vl P r F n y = ex r F (bd y n) := by
  rw [ex_sum (bd_fall n)]
  exact sml_congr fun c hc => if_pos (h c hc)
theorem vl_same {P P' : Nat → Nat → Prop} {r : Nat → Int} {F : List Nat → Int} {n y : Nat} (h : ∀ c ∈ bd y n, P y c ↔ P' y c) : vl P r F n y = vl P' r F n y := sml_congr fun c hc => by
  by_cases z : P y c
  · rw [if_pos z, if_pos ((h c hc).mp z)]
  · rw [if_neg z, if_neg fun w => z ((h c hc).mpr w)]
theorem vl_more {P P' : Nat → Nat → Prop} {r : Nat → Int} {F : List Nat → Int} {n x j : Nat} (hj : j < n) (hb : x.testBit j = false) (h0 : ¬ P (x ||| 1 <<< j) j) (h1 : P' (x ||| 1 <<< j) j) (h : ∀ c ∈ bd (x ||| 1 <<< j) n, c ≠ j → (P (x ||| 1 <<< j) c ↔ P' (x ||| 1 <<< j) c)) :
    vl P' r F n (x ||| 1 <<< j) = vl P r F n (x ||| 1 <<< j) + sg (ab x n j) * (r j * F (bd x n)) := by
  refine sml_add bd_nodup (bd_mem.mpr ⟨hj, by rw [or_bit]; simp⟩) (fun c hc hcj => ?_) ?_
  · by_cases z : P (x ||| 1 <<< j) c
    · rw [if_pos z, if_pos ((h c hc hcj).mp z)]
    · rw [if_neg z, if_neg fun w => z ((h c hc hcj).mpr w)]
  · rw [if_pos h1, if_neg h0]
    unfold tm
    have := ab_or (x := x) (n := n) (j := j)
    unfold ab at this
    rw [this, bd_or hj hb]
    unfold ab
    omega
/-! ### how large a determinant is -/
theorem ex_bd {r : Nat → Int} {A B : Nat} : ∀ {J : List Nat} {F : List Nat → Int}, (∀ c ∈ J, (r c).natAbs ≤ A) → (∀ L, (∀ c ∈ L, c ∈ J) → L.length + 1 = J.length → (F L).natAbs ≤ B) → (ex r F J).natAbs ≤ J.length * (A * B)
  | [], _, _, _ => by show (0 : Int).natAbs ≤ _; exact Nat.zero_le _
  | c :: cs, F, h1, h2 => by
    have a1 := h1 c List.mem_cons_self
    have a2 := h2 cs (fun d hd => List.mem_cons_of_mem _ hd) rfl
    have a3 := ex_bd (r := r) (A := A) (B := B) (J := cs) (F := fun L => F (c :: L)) (fun d hd => h1 d (List.mem_cons_of_mem _ hd)) fun L hL hl => h2 (c :: L) (fun d hd => by
      rcases List.mem_cons.mp hd with e | e
      · rw [e]; exact List.mem_cons_self
      · exact List.mem_cons_of_mem _ (hL d e)) (by simp [hl])
    show (r c * F cs - ex r (fun L => F (c :: L)) cs).natAbs ≤ (cs.length + 1) * (A * B)
    have a4 : (r c * F cs).natAbs ≤ A * B := by rw [Int.natAbs_mul]; exact Nat.mul_le_mul a1 a2
    rw [Nat.add_mul, Nat.one_mul]
    omega
theorem det_bd {b : Nat} : ∀ {rs : List (Nat → Int)} {J : List Nat}, (∀ r ∈ rs, ∀ c ∈ J, (r c).natAbs ≤ 2 ^ b) → J.length ≤ 8 → (det rs J).natAbs ≤ 2 ^ ((b + 3) * rs.length)
  | [], J, _, _ => by
    unfold det
    split <;> simp
  | r :: rs, J, h, hJ => by
    have := ex_bd (r := r) (A := 2 ^ b) (B := 2 ^ ((b + 3) * rs.length)) (J := J) (F := det rs) (fun c hc => h r List.mem_cons_self c hc) fun L hL hl => det_bd (fun s hs c hc => h s (List.mem_cons_of_mem _ hs) c (hL c hc)) (by omega)
    refine Nat.le_trans this ?_
    have e : 2 ^ ((b + 3) * (r :: rs).length) = 8 * (2 ^ b * 2 ^ ((b + 3) * rs.length)) := by
      rw [List.length_cons, Nat.mul_add, Nat.mul_one, Nat.pow_add, Nat.pow_add (2 : Nat) b 3]
      have : (2 : Nat) ^ 3 = 8 := rfl
      rw [this, Nat.mul_comm]
      simp only [Nat.mul_assoc, Nat.mul_left_comm, Nat.mul_comm]
    rw [e]
    exact Nat.mul_le_mul_right _ hJ
end Smo

set_option Elab.async false
set_option linter.all false
set_option maxRecDepth 100000
set_option maxHeartbeats 4000000
set_option exponentiation.threshold 100000
namespace Smo
open PySem PySem.Spec PyProof.Rows L2
local macro_rules | `(tactic| walk_at "zz") => `(tactic| ((try dsimp only); repeat (first | refine ZS.go ?_ | refine And.intro (rfl : wipe _ _ = wipe _ _) ?_)))
section
variable {σ : L2.St} {H : Hp} {Q : VK} {K : PySem.W.Frag}
instance {te : TE} : ZS (tBits te σ H Q) (te σ H fun x H1 => ∃ i, x = .int i ∧ Q (.int (Builtin.Int.intBits i : Nat)) H1) := ⟨id⟩
/-- (x >> j) & 1, x and j from 0 on -/
theorem bit_val (x j : Nat) : (x / 2 ^ j % 2 = 1) ↔ x.testBit j = true := by
  rw [Nat.testBit_eq_decide_div_mod_eq, decide_eq_true_iff]
theorem cast_shr (x j : Nat) : ((x : Nat) : Int) / 2 ^ j = ((x / 2 ^ j : Nat) : Int) := by
  rw [Int.natCast_ediv, Int.natCast_pow]; rfl
end
/-- the set bits, rising -/
def bu (x n : Nat) : List Nat := (List.range n).filter x.testBit
theorem bu_mem {x n c : Nat} : c ∈ bu x n ↔ c < n ∧ x.testBit c = true := by
  unfold bu
  rw [List.mem_filter, List.mem_range]
theorem bu_up (x n : Nat) : (bu x n).Pairwise (· < ·) := List.Pairwise.filter _ List.pairwise_lt_range
theorem bu_cho {x m : Nat} (h1 : 1 ≤ x) (hx : x < 2 ^ m) : Cho (bu x (x.log2 + 1)) m where
  ne := fun e => by
    have : x.log2 ∈ bu x (x.log2 + 1) := bu_mem.mpr ⟨by omega, Nat.testBit_log2 (by omega)⟩
    rw [e] at this
    simp at this
  up := bu_up _ _
  lt := fun c hc => by
    obtain ⟨_, h2⟩ := bu_mem.mp hc
    by_cases z : c < m
    · exact z
    · exfalso
      rw [Nat.testBit_lt_two_pow (Nat.lt_of_lt_of_le hx (Nat.pow_le_pow_right (by decide) (by omega)))] at h2
      cases h2
theorem Cho.take {ns : List Nat} {m k : Nat} (c : Cho ns m) (hk : 0 < k) : Cho (ns.take k) m where
  ne := fun e => by
    have h1 := List.length_pos_iff.mpr c.ne
    have h2 : (ns.take k).length = 0 := by rw [e]; rfl
    rw [List.length_take] at h2
    omega
  up := c.up.sublist (List.take_sublist _ _)
  lt := fun x hx => c.lt x (List.mem_of_mem_take hx)
def sp__law_cut : Sp := fun vs H Q _ => ∃ x k m : Nat, vs = [.int (x : Nat), .int (k : Nat)] ∧ 1 ≤ x ∧ x < 2 ^ m ∧ m ≤ 7 ∧ 1 ≤ k ∧
  ∀ p I H', Same H H' → H' p = some (.lst (natV I)) → Cho I m → I.length ≤ k → Q (.ref p) H'
abbrev N__law_cut : List Str := ["_law_mask", "_law_most", "_law_some", "_law_k"]
theorem sc__law_cut : FnScope N__law_cut ["_law_mask", "_law_most"] (defScope (topS 58)) := ⟨rfl, rfl, rfl, by decide +kernel, rfl, by decide +kernel, by decide +kernel⟩
/-- _law_cut: 0 _law_mask, 1 _law_most, 2 _law_some, 3 _law_k -/
theorem ok__law_cut {P : Program} {w : World} {K : PySem.W.Frag} {mg : Str → Option Value} {base : Heap} (W : Wd K mg)  : Has P w K mg base "_law_cut" 1 ["_law_mask", "_law_most"] sp__law_cut := by
  have f_range : mg "range" = none := W.free 56 "range" rfl
  refine has_of W 43 58 rfl rfl sc__law_cut (fun _ _ _ _ _ _ us hl => match us, hl with | [_, _], _ => rfl) (fun vs H Q E h => ?_) (fun f cdv A outer s H vs Q E hr h => ?_)
  · obtain ⟨x, k, m, rfl, x1, xm, m7, k1, q⟩ := h; rfl
  · obtain ⟨x, k, m, rfl, x1, xm, m7, k1, q⟩ := h
    have nd := sc__law_cut.nd
    refine ⟨_, (pss_cons (ps_setLc (i := 2) (own := [("_law_k", 3)]) (g := gName 3) rfl nd rfl rfl (sw_true rfl rfl rfl (by decide +kernel)) (pi_range1 rfl f_range (pa_cons (pe_bits (pv 0)) pa_nil)) (blkOk_by (N := N__law_cut) (sc := (defScope (topS 58))) (by decide +kernel)) (fun _ _ _ _ _ => (pg_name (i := 3) nd rfl (by first | exact Or.inl rfl | exact Or.inr rfl))) (fun _ _ _ _ _ => (pts_one (pt_cmpR op_eq (pe_op op_odd (pe_op op_shrN (pv 0) (pv 3)) pe_int) pe_int (nomark _)))) (fun _ _ _ _ _ => (pv 3)))
      (pss_one (ps_ret (pe_slice (sl_listK (K := K)) (pv 2) po_none (po_some (pv 1)))))), ?_⟩
    refine z_start (σ' := [some _, some _, none, none]) (by rfl) ?_
    have x128 : x < 128 := Nat.lt_of_lt_of_le xm (Nat.le_trans (Nat.pow_le_pow_right (by decide) m7) (by decide))
    have eL : Builtin.Int.intBits ((x : Nat) : Int) = x.log2 + 1 := by
      unfold Builtin.Int.intBits
      rw [if_neg (by simp; omega)]; rfl
    have hL : x.log2 + 1 ≤ 7 := by
      have := Nat.log2_lt (n := x) (k := 7) (by omega) |>.mpr (by omega)
      omega
    have hc := bu_cho x1 xm
    walk_at "zz"
    rw [eL]
    refine z_rng1 rfl (by omega) ?_
    intro D nD
    refine lc_range (fun i H' => H' = upd H D (.lst (natV (bu x i)))) rfl (fun i H' hi hP => ?_) (fun H' hP => ?_)
    · subst hP
      have e0 : (0 : Int) + (i : Nat) = ((i : Nat) : Int) := by omega
      have ebu : bu x (i + 1) = if x.testBit i then bu x i ++ [i] else bu x i := by
        unfold bu
        rw [List.range_succ, List.filter_append, List.filter_cons]
        split <;> simp
      walk_at "zz"
      rw [e0]
      refine ⟨_, i, rfl, rfl, ?_⟩
      walk_at "zz"
      rw [cast_shr]
      refine ⟨_, rfl, rfl, ?_⟩
      walk_at "zz"
      refine z_it2 (fun h => ?_) (fun h => ?_)
      · have hb : x.testBit i = true := (bit_val x i).mp (by omega)
        walk_at "zz"
        refine ⟨natV (bu x i), upd_same, ?_, ?_⟩
        · rw [natV_len]
          have : (bu x i).length ≤ i := by
            have := List.length_filter_le x.testBit (List.range i)
            rw [List.length_range] at this
            exact this
          exact Nat.lt_of_le_of_lt (by omega : _ ≤ 1000) (by decide)
        · rw [upd_upd, natV_app, ebu, if_pos hb]
      · have hb : x.testBit i = false := by
          cases e : x.testBit i with
          | false => rfl
          | true => exact absurd ((bit_val x i).mpr e) (by omega)
        rw [ebu, hb]; simp
    · subst hP
      walk_at "zz"
      refine z_slice upd_same fun e ne => ?_
      have s1 := (same_upd (o := .lst (natV (bu x (x.log2 + 1)))) nD).trans (same_upd (o := .lst (cutV (natV (bu x (x.log2 + 1))) none (some ((k : Nat) : Int)))) ne)
      refine q e ((bu x (x.log2 + 1)).take k) _ s1 ?_ (hc.take (by omega)) (by rw [List.length_take]; omega)
      rw [upd_same]
      unfold cutV
      rw [HT.sIx_nat, HT.sIx_none, Nat.sub_zero, List.drop_zero, natV, natV, List.map_take]
      congr 2
      rw [List.length_map]
      by_cases hk : k ≤ (bu x (x.log2 + 1)).length
      · rw [Nat.min_eq_left hk]
      · rw [Nat.min_eq_right (by omega), List.take_of_length_le (by simp), List.take_of_length_le (by simp; omega)]
/-- a list of pairs of masks -/
def Prs (H : Hp) (ys : List V) (m n : Nat) : Prop := ∀ y ∈ ys, ∃ (t : Addr) (a b : Nat), y = .ref t ∧ H t = some (.tup [.int (a : Nat), .int (b : Nat)]) ∧ 1 ≤ a ∧ a < 2 ^ m ∧ 1 ≤ b ∧ b < 2 ^ n
theorem Prs.up {H H' : Hp} {ys : List V} {m n : Nat} (e : Same H H') (h : Prs H ys m n) : Prs H' ys m n := fun y hy => by
  obtain ⟨t, a, b, h1, h2, h3⟩ := h y hy
  exact ⟨t, a, b, h1, e _ _ h2, h3⟩
def sp__law_masks : Sp := fun vs H Q _ => ∃ (z : Int) (m n : Nat), vs = [.int z, .int (m : Nat), .int (n : Nat)] ∧ 1 ≤ m ∧ m ≤ 7 ∧ 1 ≤ n ∧ n ≤ 7 ∧
  ∀ p ys H', Same H H' → H' p = some (.lst ys) → Prs H' ys m n → Q (.ref p) H'
theorem pow128 {m : Nat} (h : m ≤ 7) : 2 ^ m ≤ 128 := Nat.le_trans (Nat.pow_le_pow_right (by decide) h) (by decide)
theorem cast_pow2 (m : Nat) : (2 : Int) ^ m = ((2 ^ m : Nat) : Int) := by rw [Int.natCast_pow]; rfl
abbrev N__law_masks : List Str := ["_law_cell_here", "_law_many", "_law_wide", "_law_found", "_law_one", "_law_parts", "_law_other"]
theorem sc__law_masks : FnScope N__law_masks ["_law_cell_here", "_law_many", "_law_wide"] (defScope (topS 57)) := ⟨rfl, rfl, rfl, by decide +kernel, rfl, by decide +kernel, by decide +kernel⟩
/-- _law_masks: 0 _law_cell_here, 1 _law_many, 2 _law_wide, 3 _law_found, 4 _law_one, 5 _law_parts, 6 _law_other -/
theorem ok__law_masks {P : Program} {w : World} {K : PySem.W.Frag} {mg : Str → Option Value} {base : Heap} (W : Wd K mg) (h__law_numbers : Has P w K mg base "_law_numbers" 1 ["_law_cell_here", "_law_bases"] sp__law_numbers) : Has P w K mg base "_law_masks" 2 ["_law_cell_here", "_law_many", "_law_wide"] sp__law_masks := by
  have f_range : mg "range" = none := W.free 56 "range" rfl
  refine has_of W 42 57 rfl rfl sc__law_masks (fun _ _ _ _ _ _ us hl => match us, hl with | [_, _, _], _ => rfl) (fun vs H Q E h => ?_) (fun f cdv A outer s H vs Q E hr h => ?_)
  · obtain ⟨z, m, n, rfl, m1, m7, n1, n7, q⟩ := h; rfl
  · obtain ⟨z, m, n, rfl, m1, m7, n1, n7, q⟩ := h
    have nd := sc__law_masks.nd
    refine ⟨_, (pss_cons (ps_if (PW.pt (pw_and (pt_cmpR op_lt (pv 1) pe_int (nomark _)) (pw_and1 (pt_cmpR op_lt (pv 2) pe_int (nomark _))))) (pss_cons (ps_set (i := 3) nd rfl (by first | exact Or.inl rfl | exact Or.inr rfl) (pe_lst pa_nil))
      (pss_cons (ps_for PassesOwn.never rfl (pi_range2 rfl f_range (pa_cons pe_int (pa_cons (pe_op op_oneShl pe_int (pv 1)) pa_nil))) (pg_name (i := 4) nd rfl (by first | exact Or.inl rfl | exact Or.inr rfl)) (pss_one (ps_set (i := 3) nd rfl (by first | exact Or.inl rfl | exact Or.inr rfl) (pe_op op_cat (pv 3) (pe_lc (own := [("_law_other", 6)]) (g := gName 6) (tt := tYes) rfl nd (pi_range2 rfl f_range (pa_cons pe_int (pa_cons (pe_op op_oneShl pe_int (pv 2)) pa_nil))) (blkOk_by (N := N__law_masks) (sc := (defScope (topS 57))) (by decide +kernel)) (fun _ _ _ _ _ => (pg_name (i := 6) nd rfl (by first | exact Or.inl rfl | exact Or.inr rfl))) (fun _ _ _ _ _ => pts_nil) (fun _ _ _ _ _ => (pe_tup (pa_cons (pv 4) (pa_cons (pv 6) pa_nil)))))))))
      (pss_one (ps_ret (pv 3))))) pss_nil)
      (pss_cons (ps_set (i := 5) nd rfl (by first | exact Or.inl rfl | exact Or.inr rfl) (pe_has h__law_numbers (hr.mono (by decide)) (pa_cons (pv 0) (pa_cons (pe_lst (pa_cons (pe_op op_sub (pe_op op_oneShl pe_int (pv 1)) pe_int) (pa_cons (pe_op op_sub (pe_op op_oneShl pe_int (pv 2)) pe_int) pa_nil))) pa_nil))))
      (pss_one (ps_ret (pe_lst (pa_cons (pe_tup (pa_cons (pe_op op_add pe_int (pe_ix (ix_listK (K := K)) (pv 5) pe_int (fun _ _ => rfl))) (pa_cons (pe_op op_add pe_int (pe_ix (ix_listK (K := K)) (pv 5) pe_int (fun _ _ => rfl))) pa_nil))) pa_nil)))))), ?_⟩
    refine z_start (σ' := [some _, some _, some _, none, none, none, none]) (by rfl) ?_
    have hm := pow128 m7
    have hn := pow128 n7
    have hm2 : 2 ≤ 2 ^ m := Nat.pow_le_pow_right (by decide : 0 < 2) m1
    have hn2 : 2 ≤ 2 ^ n := Nat.pow_le_pow_right (by decide : 0 < 2) n1
    walk_at "zz"
    refine z_it2 (fun ha => ?_) (fun ha => ?_)
    · walk_at "zz"
      refine z_it2 (fun hb => ?_) (fun hb => ?_)
      · walk_at "zz"
        refine ⟨by show 0 ≤ sizeLine; exact Nat.zero_le _, fun F nF => ?_⟩
        have s0 := same_upd (o := .lst []) nF
        walk_at "zz"
        refine ⟨m, rfl, rfl, by omega, ?_⟩
        walk_at "zz"
        rw [cast_pow2]
        refine z_rng2 (m := 1) rfl rfl (by omega) (by omega) ?_
        refine z_forR (fun i σ H' => ∃ (F : Addr) (ys : List V) (y4 y5 y6 : Option V), σ = [some (.int z), some (.int (m : Nat)), some (.int (n : Nat)), some (.ref F), y4, y5, y6] ∧ Same H H' ∧ H' F = some (.lst ys) ∧ ys.length ≤ 128 * i ∧ Prs H' ys m n)
          ⟨F, [], _, _, _, rfl, s0, upd_same, by simp, fun y hy => by simp at hy⟩ (fun i σ H' hi hP => ?_) (fun σ H' hP => ?_)
        · obtain ⟨F, ys, y4, y5, y6, rfl, s, hF, hyl, hy⟩ := hP
          have e0 : ((1 : Nat) : Int) + (i : Nat) = ((1 + i : Nat) : Int) := by omega
          walk_at "zz"
          rw [e0]
          refine ⟨n, rfl, rfl, by omega, ?_⟩
          walk_at "zz"
          rw [cast_pow2]
          refine z_rng2 (m := 1) rfl rfl (by omega) (by omega) ?_
          refine z_mapR (by omega) (fun k v H4 => ∃ t, v = .ref t ∧ H4 t = some (.tup [.int ((1 + i : Nat) : Int), .int ((1 + k : Nat) : Int)])) (fun i v H H' e ⟨t, h, r⟩ => ⟨t, h, e _ _ r⟩) (fun D k H2 zs hk s2 hD nD R hR => ?_) (fun D H2 zs s2 nD hD hzl hz => ?_)
          · have e1 : ((1 : Nat) : Int) + (k : Nat) = ((1 + k : Nat) : Int) := by omega
            walk_at "zz"
            rw [e1]
            refine ⟨by show 2 ≤ sizeLine; decide, fun t nt => ?_⟩
            refine hR _ _ (same_upd nt) ⟨t, rfl, ?_⟩
            refine hide_at (ys := zs) ?_ upd_same (fun l e => by cases e)
            rw [upd_ne (fun e => by rw [e, nt] at hD; cases hD)]
            exact hD
          · refine z_cat (s2 _ _ hF) hD (by omega) fun G nG => ?_
            have s3 := s2.trans (same_upd (o := .lst (ys ++ zs)) nG)
            walk_at "zz"
            refine ⟨G, ys ++ zs, _, _, _, rfl, s.trans s3, upd_same, by rw [List.length_append]; omega, fun y hy' => ?_⟩
            rcases List.mem_append.mp hy' with e | e
            · exact (hy.up s3) y e
            · obtain ⟨k, hk⟩ := List.getElem?_of_mem e
              obtain ⟨t, h1, h2⟩ := hz k y hk
              have hkl := get_lt hk
              exact ⟨t, 1 + i, 1 + k, h1, same_upd nG _ _ (hide_same _ _ h2), by omega, by omega, by omega, by omega⟩
        · obtain ⟨F, ys, y4, y5, y6, rfl, s, hF, hyl, hy⟩ := hP
          walk_at "zz"
          exact q F ys _ s hF hy
      · walk_at "zz"
        refine ⟨m, rfl, rfl, by omega, ?_⟩
        walk_at "zz"
        refine ⟨n, rfl, rfl, by omega, ?_⟩
        walk_at "zz"
        rw [cast_pow2, cast_pow2]
        have f1 : ((2 ^ m : Nat) : Int) - 1 = ((2 ^ m - 1 : Nat) : Int) := by omega
        have f2 : ((2 ^ n : Nat) : Int) - 1 = ((2 ^ n - 1 : Nat) : Int) := by omega
        rw [f1, f2]
        refine ⟨by show 2 ≤ sizeLine; decide, fun B nB => ?_⟩
        have s1 := same_upd (o := .lst (natV [2 ^ m - 1, 2 ^ n - 1])) nB
        walk_at "zz"
        refine ⟨z, B, [2 ^ m - 1, 2 ^ n - 1], rfl, upd_same, by simp, fun b hb => ?_, fun N xs H2 s2 hN hl hx => ?_⟩
        · rcases List.mem_cons.mp hb with e | e
          · rw [e]; omega
          · rw [List.mem_singleton.mp e]; omega
        · obtain ⟨x0, x1, rfl⟩ : ∃ x0 x1, xs = [x0, x1] := by
            match xs, hl with
            | [a, b], _ => exact ⟨a, b, rfl⟩
          have b0 := hx 0 x0 _ rfl rfl
          have b1 := hx 1 x1 _ rfl rfl
          walk_at "zz"
          refine z_ixL hN (atI_nat (j := 0) rfl) ?_
          walk_at "zz"
          refine z_ixL hN (atI_nat (j := 1) rfl) ?_
          walk_at "zz"
          have g0 : (1 : Int) + ((x0 : Nat) : Int) = ((1 + x0 : Nat) : Int) := by omega
          have g1 : (1 : Int) + ((x1 : Nat) : Int) = ((1 + x1 : Nat) : Int) := by omega
          rw [g0, g1]
          refine ⟨by show 2 ≤ sizeLine; decide, fun t nt => ?_⟩
          have s3 := same_upd (o := .tup [.int ((1 + x0 : Nat) : Int), .int ((1 + x1 : Nat) : Int)]) nt
          walk_at "zz"
          refine ⟨by show 1 ≤ sizeLine; decide, fun p np => ?_⟩
          have s4 := same_upd (o := .lst [.ref t]) np
          refine q p [.ref t] _ (s1.trans (s2.trans (s3.trans s4))) upd_same fun y hy => ?_
          rw [List.mem_singleton] at hy
          exact ⟨t, 1 + x0, 1 + x1, hy, s4 _ _ upd_same, by omega, by omega, by omega, by omega⟩
    · walk_at "zz"
      refine ⟨m, rfl, rfl, by omega, ?_⟩
      walk_at "zz"
      refine ⟨n, rfl, rfl, by omega, ?_⟩
      walk_at "zz"
      rw [cast_pow2, cast_pow2]
      have f1 : ((2 ^ m : Nat) : Int) - 1 = ((2 ^ m - 1 : Nat) : Int) := by omega
      have f2 : ((2 ^ n : Nat) : Int) - 1 = ((2 ^ n - 1 : Nat) : Int) := by omega
      rw [f1, f2]
      refine ⟨by show 2 ≤ sizeLine; decide, fun B nB => ?_⟩
      have s1 := same_upd (o := .lst (natV [2 ^ m - 1, 2 ^ n - 1])) nB
      walk_at "zz"
      refine ⟨z, B, [2 ^ m - 1, 2 ^ n - 1], rfl, upd_same, by simp, fun b hb => ?_, fun N xs H2 s2 hN hl hx => ?_⟩
      · rcases List.mem_cons.mp hb with e | e
        · rw [e]; omega
        · rw [List.mem_singleton.mp e]; omega
      · obtain ⟨x0, x1, rfl⟩ : ∃ x0 x1, xs = [x0, x1] := by
          match xs, hl with
          | [a, b], _ => exact ⟨a, b, rfl⟩
        have b0 := hx 0 x0 _ rfl rfl
        have b1 := hx 1 x1 _ rfl rfl
        walk_at "zz"
        refine z_ixL hN (atI_nat (j := 0) rfl) ?_
        walk_at "zz"
        refine z_ixL hN (atI_nat (j := 1) rfl) ?_
        walk_at "zz"
        have g0 : (1 : Int) + ((x0 : Nat) : Int) = ((1 + x0 : Nat) : Int) := by omega
        have g1 : (1 : Int) + ((x1 : Nat) : Int) = ((1 + x1 : Nat) : Int) := by omega
        rw [g0, g1]
        refine ⟨by show 2 ≤ sizeLine; decide, fun t nt => ?_⟩
        have s3 := same_upd (o := .tup [.int ((1 + x0 : Nat) : Int), .int ((1 + x1 : Nat) : Int)]) nt
        walk_at "zz"
        refine ⟨by show 1 ≤ sizeLine; decide, fun p np => ?_⟩
        have s4 := same_upd (o := .lst [.ref t]) np
        refine q p [.ref t] _ (s1.trans (s2.trans (s3.trans s4))) upd_same fun y hy => ?_
        rw [List.mem_singleton] at hy
        exact ⟨t, 1 + x0, 1 + x1, hy, s4 _ _ upd_same, by omega, by omega, by omega, by omega⟩
end Smo

set_option Elab.async false
set_option linter.all false
set_option maxRecDepth 100000
set_option maxHeartbeats 4000000
set_option exponentiation.threshold 100000
namespace Smo
open PySem PySem.Spec PyProof.Rows L2
local macro_rules | `(tactic| walk_at "zz") => `(tactic| ((try dsimp only); repeat (first | refine ZS.go ?_ | refine And.intro (rfl : wipe _ _ = wipe _ _) ?_)))
/-- {k: v} whose one key is a tuple -/
def tDispT (tk tv : TE) : TE := fun σ H Q => ∀ p, H p = none → tk σ (upd H p (.dT [])) fun x H1 => tv σ H1 fun y H2 => H2 p = some (.dT []) ∧ ∃ (b : Addr) (k : List Key), x = .ref b ∧ H2 b = some (.tup (k.map kV)) ∧ Q (.ref p) (upd H2 p (.dT [(k, y)]))
theorem pe_dispT {X : Cx} {k v : Expr} {tk tv : TE} {pos : Pos} (hu : X.A.units + 1 < cLine) (hk : PE X k tk) (hv : PE X v tv) : PE X (.Dict [some k] [v] pos) (tDispT tk tv) := by
  refine ⟨fun pins s σ H Q I q => ?_⟩
  have fresh := I.hok.fresh (Nat.le_refl s.heap.objs.size)
  have I1 := I.laid (a := s.heap.objs.size) (o := .dT []) (h' := s.heap.push { cls := .type "dict", data := .dict #[] }) (t' := s.toks) (fun _ _ q => Heap.get?_push_of_some _ q) (Nat.le_refl _) (dt_empty s.heap I.big)
  have hpp : PPs X pos [some k] [v] [(tk, tv)] := pps_cons hk hv pps_nil
  have hlen : (pairTrees [some k] [v] X.env pos).length = 1 := pairTrees_length [some k] [v] X.env pos rfl rfl
  let R : List (V × V) → Hp → Prop := fun ps H2 => match ps with
    | [(x, y)] => H2 s.heap.objs.size = some (.dT []) ∧ ∃ (b : Addr) (k : List Key), x = .ref b ∧ H2 b = some (.tup (k.map kV)) ∧ Q (.ref s.heap.objs.size) (upd H2 s.heap.objs.size (.dT [(k, y)]))
    | _ => False
  have run := hpp.run pins _ σ _ R I1 (q _ fresh)
  rw [arm_eval_Dict, zip_pairTrees [some k] [v] X.env pos rfl rfl, dictDisplay_pairs _ (fun e => by rw [e] at hlen; cases hlen) (by rw [hlen]; decide)]
  refine wpAny_bind (wpAny_standAt (wpAny_bind (wpAny_subDictH (knd := tupleKind (mixKind X.prog X.w)) (show X.A.units < cLine from Nat.lt_of_succ_lt hu) (by rw [hlen]; decide) (thn run fun ws s2 hw => ?_))))
  obtain ⟨ps, H2, I2, rel, hR⟩ := hw
  match ps, rel, hR with
  | [(x, y)], .cons (b := (w1, w2)) ⟨r1, r2⟩ .nil, ⟨hp, b, key, ex, hb, hq⟩ =>
    subst ex
    cases (show w1 = Value.ref b from r1)
    obtain ⟨_, hd, xs, rel0, dd⟩ := dt_of I2.hok hp
    cases rel0
    refine ⟨[(key, b, w2)], ⟨rfl, rfl, key_of I2.hok hb, trivial⟩, dd, fun h' tk' dd' hs => wpAny_pure ⟨.ref s.heap.objs.size, _, ?_, rfl, hq⟩⟩
    obtain ⟨o, es, ep, ho, g2, g3, g4, _, g5⟩ := dd'
    refine d_write I2 (by rw [hp]; exact True.intro) hs ⟨o, ho⟩ ⟨by show 1 ≤ sizeLine; decide, hd, [(key, b, w2)], .cons ⟨rfl, ?_, r2⟩ .nil, o, es, ep, ho, g2, g3, g4, g5⟩
    rw [upd_ne (ne_of hb hp (fun z => nomatch z))]
    exact hb
end Smo

set_option Elab.async false
set_option linter.all false
set_option maxRecDepth 100000
set_option maxHeartbeats 4000000
set_option exponentiation.threshold 100000
namespace Smo
open PySem PySem.Spec PyProof.Rows L2
local macro_rules | `(tactic| walk_at "zz") => `(tactic| ((try dsimp only); repeat (first | refine ZS.go ?_ | refine And.intro (rfl : wipe _ _ = wipe _ _) ?_)))
section
variable {σ : L2.St} {H : Hp} {Q : VK} {K : PySem.W.Frag} {te td ty tx tv tk : TE} {g : TG} {tb : TS} {D : Ends}
instance : ZS (tDGet td ty σ H Q) (td σ H fun x H1 => ty σ H1 fun y H2 => ∃ a v, x = .ref a ∧ DGet H2 a y (some v) ∧ Q v H2) := ⟨id⟩
instance : ZS (tDGet2 td ty tx σ H Q) (td σ H fun x H1 => ∃ a, x = .ref a ∧ IsD H1 a ∧ ty σ H1 fun y H2 => tx σ H2 fun z H3 => ∃ o, DGet H3 a y o ∧ Q (o.getD z) H3) := ⟨id⟩
instance : ZS (sDPut td ty tv D σ H) (tv σ H fun v H1 => td σ H1 fun x H2 => ty σ H2 fun y H3 => ∃ a H4, x = .ref a ∧ DPut H3 a y v H4 ∧ D.nx σ H4) := ⟨id⟩
instance : ZS (tDNewK σ H Q) (∀ p, H p = none → Q (.ref p) (upd H p (.dK []))) := ⟨id⟩
instance : ZS (tDispT tk tv σ H Q) (∀ p, H p = none → tk σ (upd H p (.dT [])) fun x H1 => tv σ H1 fun y H2 => H2 p = some (.dT []) ∧ ∃ (b : Addr) (k : List Key), x = .ref b ∧ H2 b = some (.tup (k.map kV)) ∧ Q (.ref p) (upd H2 p (.dT [(k, y)]))) := ⟨id⟩
instance {R : It → Hp → Prop} : ZS (iKeys td σ H R) (td σ H fun x H1 => ∃ d o, x = .ref d ∧ ((∃ kvs, H1 d = some (.frz o (.dK kvs)) ∧ R (Itk d o kvs) H1) ∨ ∃ kvs, H1 d = some (.frz o (.dT kvs)) ∧ R (Itkt d o kvs) H1)) := ⟨id⟩
instance {tr : L2.St → Hp → (Int → Int → Hp → Prop) → Prop} {R : It → Hp → Prop} : ZS (iRevR tr σ H R) (tr σ H fun a b H1 => -(2 ^ 62) ≤ a ∧ a < 2 ^ 62 ∧ -(2 ^ 62) ≤ b ∧ b < 2 ^ 62 ∧ R (Itc (a + (((b - a).toNat : Nat) : Int) - 1) (-1) (b - a).toNat) H1) := ⟨id⟩
instance {R : Int → Int → Hp → Prop} : ZS (tRg1 te σ H R) (te σ H fun x H1 => ∃ n, x = .int n ∧ R 0 n H1) := ⟨id⟩
theorem z_rev {n : Nat} {R : It → Hp → Prop} (hn : n ≤ 1000) (q : R (Itc ((n : Int) - 1) (-1) n) H) : -(2 ^ 62) ≤ (0 : Int) ∧ (0 : Int) < 2 ^ 62 ∧ -(2 ^ 62) ≤ ((n : Nat) : Int) ∧ ((n : Nat) : Int) < 2 ^ 62 ∧ R (Itc (0 + (((((n : Nat) : Int) - 0).toNat : Nat) : Int) - 1) (-1) (((n : Nat) : Int) - 0).toNat) H := by
  have e : (((n : Nat) : Int) - 0).toNat = n := by omega
  rw [e]
  refine ⟨by omega, by omega, by omega, by omega, ?_⟩
  rw [show (0 : Int) + (n : Int) - 1 = (n : Int) - 1 by omega]
  exact q
theorem z_forC {lo c : Int} {n : Nat} (Pv : Nat → L2.St → Hp → Prop) (h0 : Pv 0 σ H) (hs : ∀ i σ H, i < n → Pv i σ H → g (.int (lo + (i : Nat) * c)) σ H fun σ2 H2 => tb { D with nx := Pv (i + 1), ct := Pv (i + 1), bk := D.nx } σ2 H2)
    (hd : ∀ σ H, Pv n σ H → D.nx σ H) : ForK g tb D σ (Itc lo c n) H := for_rangeC Pv h0 hs hd
/-- over a locked dict's keys -/
theorem z_forKeys {d : Addr} {o : Obj} {kvs : List (Key × V)} (Pv : Nat → L2.St → Hp → Prop) (h0 : Pv 0 σ H) (hl : ∀ i σ H, Pv i σ H → H d = some (.frz o (.dK kvs)))
    (hs : ∀ i k v σ H, kvs[i]? = some (k, v) → Pv i σ H → g (kV k) σ H fun σ2 H2 => tb { D with nx := Pv (i + 1), ct := Pv (i + 1), bk := D.nx } σ2 H2) (hd : ∀ σ H, Pv kvs.length σ H → D.nx σ H) : ForK g tb D σ (Itk d o kvs) H := by
  refine ⟨fun i m σ H => m = kvs.length - i ∧ i ≤ kvs.length ∧ Pv i σ H, ⟨_, rfl, Nat.zero_le _, h0⟩, ?_⟩
  rintro i m σ H ⟨rfl, hi, hp⟩
  have hq := hl i σ H hp
  by_cases c : i < kvs.length
  · refine .inr ⟨⟨hq, c⟩, Pv (i + 1), fun σ' H' p' => ⟨kvs.length - (i + 1), by omega, rfl, by omega, p'⟩, fun x H' y => ?_⟩
    obtain ⟨rfl, k, v, hk, rfl⟩ := y
    exact hs i k v σ _ hk hp
  · have e : i = kvs.length := by omega
    subst e
    exact .inl ⟨⟨hq, Nat.le_refl _⟩, hd σ H hp⟩
theorem z_dget {a : Addr} {y v : V} (g : DGet H a y (some v)) (q : Q v H) : ∃ a' v', V.ref a = .ref a' ∧ DGet H a' y (some v') ∧ Q v' H := ⟨a, v, rfl, g, q⟩
end
/-! ### the dicts of determinants -/
def keyI (I : List Nat) : List Key := I.map fun (k : Nat) => Sum.inl (k : Int)
theorem keyI_kV (I : List Nat) : (keyI I).map kV = natV I := by unfold keyI natV; rw [List.map_map]; rfl
theorem keyI_inj {I J : List Nat} (h : keyI I = keyI J) : I = J := by
  induction I generalizing J with
  | nil => cases J with
    | nil => rfl
    | cons b J => cases h
  | cons a I ih => cases J with
    | nil => cases h
    | cons b J =>
      have h1 := List.cons.inj h
      have h2 : (a : Int) = (b : Int) := Sum.inl.inj h1.1
      rw [ih h1.2, show a = b by omega]
/-- the dict of the determinants of some rows, F by columns -/
structure Lvl (es : List (Key × V)) (n k : Nat) (F : List Nat → Int) : Prop where
  xs : ∃ xs : List Nat, es.map (·.1) = xs.map (fun (x : Nat) => Sum.inl (x : Int)) ∧ xs.Nodup ∧ ∀ x, x ∈ xs ↔ x < 2 ^ n ∧ (bd x n).length = k
  val : ∀ x : Nat, x < 2 ^ n → (bd x n).length = k → valV es (.inl (x : Int)) = some (.int (F (bd x n)))
  len : es.length ≤ 7 ^ k
def Lin (I : List Nat) (i n : Nat) : Prop := I.Pairwise (· < ·) ∧ (∀ x ∈ I, x < i) ∧ I.length ≤ n
abbrev DD (N : Nat → Nat → Int) (I : List Nat) : List Nat → Int := det (I.reverse.map N)
def OutC (H : Hp) (kvs : List (List Key × V)) (i n : Nat) (N : Nat → Nat → Int) : Prop := ∀ k v, valV kvs k = some v → ∃ I e es, k = keyI I ∧ v = .ref e ∧ Lin I i n ∧ H e = some (.dK es) ∧ Lvl es n I.length (DD N I)
def OutA (kvs : List (List Key × V)) (i n : Nat) : Prop := ∀ I, Lin I i n → ∃ v, valV kvs (keyI I) = some v
def Mins (H : Hp) (d : Addr) (m n : Nat) (N : Nat → Nat → Int) : Prop := ∃ kvs, H d = some (.dT kvs) ∧ OutC H kvs m n N ∧ OutA kvs m n
theorem Mins.up {H H' : Hp} {d : Addr} {m n : Nat} {N : Nat → Nat → Int} (s : Same H H') (h : Mins H d m n N) : Mins H' d m n N := by
  obtain ⟨kvs, h1, h2, h3⟩ := h
  refine ⟨kvs, s _ _ h1, fun k v hv => ?_, h3⟩
  obtain ⟨I, e, es, a1, a2, a3, a4, a5⟩ := h2 k v hv
  exact ⟨I, e, es, a1, a2, a3, s _ _ a4, a5⟩
/-- the turns that are done: of mask number k in xs and column c -/
def Dn (xs : List Nat) (n u t y c : Nat) : Prop := ∃ x k : Nat, xs[k]? = some x ∧ (k < u ∨ (k = u ∧ n ≤ c + t)) ∧ c < n ∧ x.testBit c = false ∧ y = x ||| 1 <<< c
/-- the next dict while it is made -/
structure Lng (es : List (Key × V)) (n : Nat) (P : Nat → Nat → Prop) (r : Nat → Int) (F : List Nat → Int) (l : Nat) : Prop where
  val : ∀ y : Nat, y < 2 ^ n → (valV es (.inl (y : Int))).getD (.int 0) = .int (vl P r F n y)
  keys : ∃ ys : List Nat, es.map (·.1) = ys.map (fun (y : Nat) => Sum.inl (y : Int)) ∧ ys.Nodup ∧ ∀ y, y ∈ ys ↔ y < 2 ^ n ∧ ∃ c ∈ bd y n, P y c
  len : es.length ≤ l
theorem valV_isSome {κ : Type} [DecidableEq κ] {kvs : List (κ × V)} {k : κ} : (valV kvs k).isSome = true ↔ k ∈ kvs.map (·.1) := by
  rw [← valV_any, List.any_eq_true]
  constructor
  · rintro ⟨p, hp, h⟩
    exact List.mem_map.mpr ⟨p, hp, of_decide_eq_true h⟩
  · intro h
    obtain ⟨p, hp, e⟩ := List.mem_map.mp h
    exact ⟨p, hp, decide_eq_true e⟩
theorem putK_keys {κ : Type} [DecidableEq κ] {kvs : List (κ × V)} {k : κ} {v : V} : (putK kvs k v).map (·.1) = if k ∈ kvs.map (·.1) then kvs.map (·.1) else kvs.map (·.1) ++ [k] := by
  unfold putK
  by_cases h : k ∈ kvs.map (·.1)
  · have h' := h
    rw [← valV_isSome, ← valV_any] at h'
    rw [if_pos h', if_pos h, List.map_map]
    refine List.map_congr_left fun p _ => ?_
    show (if p.1 = k then (p.1, v) else p).1 = p.1
    split <;> rfl
  · have h' : ¬ (kvs.any fun kv => decide (kv.1 = k)) = true := by
      rw [valV_any, valV_isSome]; exact h
    rw [if_neg h', if_neg h, List.map_append]; rfl
theorem inl_mem {ys : List Nat} {y : Nat} : (Sum.inl (y : Int) : Key) ∈ ys.map (fun (y : Nat) => Sum.inl (y : Int)) ↔ y ∈ ys := by
  constructor
  · intro h
    obtain ⟨z, hz, e⟩ := List.mem_map.mp h
    have : (z : Int) = (y : Int) := Sum.inl.inj e
    have : z = y := by omega
    rw [← this]; exact hz
  · exact fun h => List.mem_map.mpr ⟨y, h, rfl⟩
theorem Lng.start {n : Nat} {xs : List Nat} {r : Nat → Int} {F : List Nat → Int} : Lng [] n (Dn xs n 0 0) r F 0 where
  val := fun y hy => by
    rw [vl_none]; · rfl
    rintro c hc ⟨x, k, _, h, h2, _⟩
    omega
  keys := ⟨[], rfl, List.nodup_nil, fun y => by
    constructor
    · intro h; simp at h
    · rintro ⟨_, c, hc, x, k, _, h, h2, _⟩
      omega⟩
  len := Nat.le_refl _
theorem Lng.cong {es : List (Key × V)} {n l : Nat} {P P' : Nat → Nat → Prop} {r : Nat → Int} {F : List Nat → Int} (h : Lng es n P r F l) (e : ∀ y, y < 2 ^ n → ∀ c ∈ bd y n, P y c ↔ P' y c) {l' : Nat} (hl : l ≤ l') : Lng es n P' r F l' where
  val := fun y hy => by rw [← vl_same (e y hy)]; exact h.val y hy
  keys := by
    obtain ⟨ys, h1, h2, h3⟩ := h.keys
    refine ⟨ys, h1, h2, fun y => ?_⟩
    rw [h3]
    constructor
    · rintro ⟨hy, c, hc, hp⟩
      exact ⟨hy, c, hc, (e y hy c hc).mp hp⟩
    · rintro ⟨hy, c, hc, hp⟩
      exact ⟨hy, c, hc, (e y hy c hc).mpr hp⟩
  len := Nat.le_trans h.len hl
/-- a column of a mask whose bit is set brings nothing -/
theorem Dn.skip {xs : List Nat} {n u t x : Nat} (hx : xs[u]? = some x) (ht : t < n) (hb : x.testBit (n - 1 - t) = true) {y c : Nat} : Dn xs n u t y c ↔ Dn xs n u (t + 1) y c := by
  constructor
  · rintro ⟨x', k, h1, h2, h3⟩
    exact ⟨x', k, h1, by omega, h3⟩
  · rintro ⟨x', k, h1, h2, h3, h4, h5⟩
    refine ⟨x', k, h1, ?_, h3, h4, h5⟩
    rcases h2 with h2 | ⟨rfl, h2⟩
    · exact .inl h2
    · by_cases e : n ≤ c + t
      · exact .inr ⟨rfl, e⟩
      · exfalso
        have ec : c = n - 1 - t := by omega
        rw [hx] at h1
        have := Option.some.inj h1
        subst this
        rw [ec, hb] at h4
        cases h4
theorem Lng.more {es : List (Key × V)} {n l u t x : Nat} {xs : List Nat} {r : Nat → Int} {F : List Nat → Int} (h : Lng es n (Dn xs n u t) r F l) (hnd : xs.Nodup) (hall : ∀ x ∈ xs, x < 2 ^ n) (hx : xs[u]? = some x) (ht : t < n) (hb : x.testBit (n - 1 - t) = false) :
    Lng (putK es (.inl ((x ||| 1 <<< (n - 1 - t) : Nat) : Int)) (.int (vl (Dn xs n u t) r F n (x ||| 1 <<< (n - 1 - t)) + sg (ab x n (n - 1 - t)) * (r (n - 1 - t) * F (bd x n))))) n (Dn xs n u (t + 1)) r F (l + 1) := by
  have hj : n - 1 - t < n := by omega
  have hx2 := hall x (List.mem_of_getElem? hx)
  generalize hjd : n - 1 - t = j at *
  have hself : Dn xs n u (t + 1) (x ||| 1 <<< j) j := ⟨x, u, hx, .inr ⟨rfl, by omega⟩, hj, hb, rfl⟩
  have hnot : ¬ Dn xs n u t (x ||| 1 <<< j) j := by
    rintro ⟨x', k, h1, h2, h3, h4, h5⟩
    have hx' := hall x' (List.mem_of_getElem? h1)
    have e := or_inj hx2 hx' hj hb h4 h5
    subst e
    have : k = u := by
      obtain ⟨_, e1⟩ := List.getElem?_eq_some_iff.mp h1
      obtain ⟨_, e2⟩ := List.getElem?_eq_some_iff.mp hx
      exact (List.getElem_inj hnd).mp (e1.trans e2.symm)
    omega
  have hmono : ∀ y c, Dn xs n u t y c → Dn xs n u (t + 1) y c := by
    rintro y c ⟨x', k, h1, h2, h3⟩
    exact ⟨x', k, h1, by omega, h3⟩
  have hback : ∀ y c, Dn xs n u (t + 1) y c → Dn xs n u t y c ∨ (c = j ∧ y = x ||| 1 <<< j) := by
    rintro y c ⟨x', k, h1, h2, h3, h4, h5⟩
    rcases h2 with h2 | ⟨rfl, h2⟩
    · exact .inl ⟨x', k, h1, .inl h2, h3, h4, h5⟩
    · by_cases e : n ≤ c + t
      · exact .inl ⟨x', k, h1, .inr ⟨rfl, e⟩, h3, h4, h5⟩
      · have ec : c = j := by omega
        rw [hx] at h1
        have := Option.some.inj h1
        subst this
        exact .inr ⟨ec, by rw [h5, ec]⟩
  refine ⟨fun y hy => ?_, ?_, ?_⟩
  · rw [valV_put]
    by_cases e : y = x ||| 1 <<< j
    · subst e
      rw [if_pos rfl]
      show V.int _ = V.int _
      rw [vl_more (P := Dn xs n u t) (P' := Dn xs n u (t + 1)) hj hb hnot hself fun c hc hcj => ⟨hmono _ _, fun z => by
        rcases hback _ _ z with w | w
        · exact w
        · exact absurd w.1 hcj⟩]
    · rw [if_neg (fun z => e (by have : (y : Int) = ((x ||| 1 <<< j : Nat) : Int) := Sum.inl.inj z; omega)), h.val y hy]
      rw [vl_same fun c _ => ⟨hmono y c, fun z => by
        rcases hback _ _ z with w | w
        · exact w
        · exact absurd w.2 e⟩]
  · obtain ⟨ys, h1, h2, h3⟩ := h.keys
    have hjm : j ∈ bd (x ||| 1 <<< j) n := bd_mem.mpr ⟨hj, by rw [or_bit]; simp⟩
    have iff2 : ∀ y, (y < 2 ^ n ∧ ∃ c ∈ bd y n, Dn xs n u (t + 1) y c) ↔ (y ∈ ys ∨ y = x ||| 1 <<< j) := fun y => by
      rw [h3]
      constructor
      · rintro ⟨hy, c, hc, hp⟩
        rcases hback _ _ hp with w | w
        · exact .inl ⟨hy, c, hc, w⟩
        · exact .inr w.2
      · rintro (⟨hy, c, hc, hp⟩ | rfl)
        · exact ⟨hy, c, hc, hmono _ _ hp⟩
        · exact ⟨or_lt hx2 hj, j, hjm, hself⟩
    rw [putK_keys, h1]
    by_cases hm : x ||| 1 <<< j ∈ ys
    · rw [if_pos (inl_mem.mpr hm)]
      refine ⟨ys, rfl, h2, fun y => ?_⟩
      rw [iff2]
      exact ⟨.inl, fun z => by
        rcases z with z | z
        · exact z
        · rw [z]; exact hm⟩
    · rw [if_neg fun z => hm (inl_mem.mp z)]
      refine ⟨ys ++ [x ||| 1 <<< j], by simp, ?_, fun y => ?_⟩
      · rw [List.nodup_append]
        refine ⟨h2, by simp, fun a ha b hb' => ?_⟩
        rw [List.mem_singleton] at hb'
        rw [hb']
        exact fun z => hm (z ▸ ha)
      · rw [iff2, List.mem_append, List.mem_singleton]
  · exact Nat.le_trans (length_putK _ _ _) (Nat.succ_le_succ h.len)
/-- when all turns are done -/
theorem Lng.done {es es' : List (Key × V)} {n k u l : Nat} {xs : List Nat} {N : Nat → Nat → Int} {I : List Nat} {i : Nat} (h : Lng es' n (Dn xs n u 0) (N i) (DD N I) l) (hxs : ∀ x, x ∈ xs ↔ x < 2 ^ n ∧ (bd x n).length = k) (hu : u = xs.length) (hl : l ≤ 7 ^ (k + 1)) : Lvl es' n (k + 1) (DD N (I ++ [i])) := by
  have all : ∀ y, y < 2 ^ n → (bd y n).length = k + 1 → ∀ c ∈ bd y n, Dn xs n u 0 y c := fun y hy hyl c hc => by
    obtain ⟨x, x1, x2, x3, x4⟩ := or_back hy hc
    have hxl : (bd x n).length = k := by rw [x4, List.length_erase_of_mem hc]; omega
    obtain ⟨j, hj⟩ := List.getElem?_of_mem ((hxs x).mpr ⟨x1, hxl⟩)
    exact ⟨x, j, hj, .inl (by rw [hu]; exact get_lt hj), (bd_mem.mp hc).1, x2, x3⟩
  have back : ∀ y, (∃ c ∈ bd y n, Dn xs n u 0 y c) → (bd y n).length = k + 1 := by
    rintro y ⟨c, hc, x, j, h1, h2, h3, h4, rfl⟩
    rw [or_len h3 h4, ((hxs x).mp (List.mem_of_getElem? h1)).2]
  obtain ⟨ys, h1, h2, h3⟩ := h.keys
  have mem : ∀ y, y ∈ ys ↔ y < 2 ^ n ∧ (bd y n).length = k + 1 := fun y => by
    rw [h3]
    constructor
    · rintro ⟨hy, hp⟩
      exact ⟨hy, back y hp⟩
    · rintro ⟨hy, hyl⟩
      refine ⟨hy, ?_⟩
      obtain ⟨c, hc⟩ : ∃ c, c ∈ bd y n := by
        cases e : bd y n with
        | nil => rw [e] at hyl; simp at hyl
        | cons c l => exact ⟨c, List.mem_cons_self⟩
      exact ⟨c, hc, all y hy hyl c hc⟩
  refine ⟨⟨ys, h1, h2, mem⟩, fun y hy hyl => ?_, Nat.le_trans h.len hl⟩
  have hv := h.val y hy
  rw [vl_all (all y hy hyl)] at hv
  have hs : (valV es' (.inl (y : Int))).isSome = true := by
    rw [valV_isSome, h1, inl_mem, mem]
    exact ⟨hy, hyl⟩
  cases e : valV es' (.inl (y : Int)) with
  | none => rw [e] at hs; cases hs
  | some v =>
    rw [e] at hv
    have hv' : v = V.int (ex (N i) (DD N I) (bd y n)) := hv
    rw [hv']
    have e2 : DD N (I ++ [i]) = ex (N i) (DD N I) := by
      show det ((I ++ [i]).reverse.map N) = _
      rw [List.reverse_append]; rfl
    rw [e2]
theorem lvl0 (N : Nat → Nat → Int) (n : Nat) : Lvl [(.inl 0, .int 1)] n 0 (DD N []) := by
  have b0 : bd 0 n = [] := by
    cases e : bd 0 n with
    | nil => rfl
    | cons c l =>
      have : c ∈ bd 0 n := by rw [e]; exact List.mem_cons_self
      have := (bd_mem.mp this).2
      simp at this
  have z0 : ∀ x, x < 2 ^ n → (bd x n).length = 0 → x = 0 := fun x hx h => mask_inj hx (Nat.two_pow_pos n) (by rw [List.length_eq_zero_iff.mp h, b0])
  refine ⟨⟨[0], rfl, by simp, fun x => ?_⟩, fun x hx h => ?_, by decide⟩
  · rw [List.mem_singleton]
    exact ⟨fun h => by rw [h]; exact ⟨Nat.two_pow_pos n, by rw [b0]; rfl⟩, fun h => z0 x h.1 h.2⟩
  · have := z0 x hx h
    subst this
    rw [b0]; rfl
end Smo

set_option Elab.async false
set_option linter.all false
set_option maxRecDepth 100000
set_option maxHeartbeats 4000000
set_option exponentiation.threshold 100000
namespace Smo
open PySem PySem.Spec PyProof.Rows L2
local macro_rules | `(tactic| walk_at "zz") => `(tactic| ((try dsimp only); repeat (first | refine ZS.go ?_ | refine And.intro (rfl : wipe _ _ = wipe _ _) ?_)))
theorem or_val (x j : Nat) : Builtin.bitOr ((x : Nat) : Int) ((2 : Int) ^ j) = ((x ||| 1 <<< j : Nat) : Int) := by
  rw [cast_pow2, L2.bitOr_nn (Int.natCast_nonneg _) (Int.natCast_nonneg _), Int.toNat_natCast, Int.toNat_natCast, Nat.shiftLeft_eq, Nat.one_mul]
theorem paired_at {α β : Type} {F : α → β → Prop} : ∀ {l : List α} {l' : List β}, Paired F l l' → ∀ {i : Nat} {y : β}, l'[i]? = some y → ∃ x, l[i]? = some x ∧ F x y
  | _, _, .nil, i, y, h => by simp at h
  | _, _, .cons f t, 0, y, h => by
    have := Option.some.inj h
    subst this
    exact ⟨_, rfl, f⟩
  | _, _, .cons f t, i + 1, y, h => paired_at t (i := i) h
theorem OutC.up {H H' : Hp} {kvs : List (List Key × V)} {i n : Nat} {N : Nat → Nat → Int} (s : ∀ e es, H e = some (.dK es) → H' e = some (.dK es)) (h : OutC H kvs i n N) : OutC H' kvs i n N := fun k v hv => by
  obtain ⟨I, e, es, a1, a2, a3, a4, a5⟩ := h k v hv
  exact ⟨I, e, es, a1, a2, a3, s _ _ a4, a5⟩
theorem Lin.next {I : List Nat} {i n : Nat} (h : Lin I i n) : Lin I (i + 1) n := ⟨h.1, fun x hx => Nat.lt_succ_of_lt (h.2.1 x hx), h.2.2⟩
theorem Lin.push {I : List Nat} {i n : Nat} (h : Lin I i n) (hl : I.length < n) : Lin (I ++ [i]) (i + 1) n := by
  refine ⟨List.pairwise_append.mpr ⟨h.1, by simp, fun a ha b hb => ?_⟩, fun x hx => ?_, by rw [List.length_append]; exact hl⟩
  · rw [List.mem_singleton] at hb
    rw [hb]; exact h.2.1 a ha
  · rcases List.mem_append.mp hx with z | z
    · exact Nat.lt_succ_of_lt (h.2.1 x z)
    · rw [List.mem_singleton.mp z]; exact Nat.lt_succ_self i
theorem Lin.split {I : List Nat} {i n : Nat} (h : Lin I (i + 1) n) : Lin I i n ∨ ∃ I', I = I' ++ [i] ∧ Lin I' i n ∧ I'.length < n := by
  by_cases hi : i ∈ I
  · right
    rcases List.eq_nil_or_concat I with e | ⟨L, a, e⟩
    · rw [e] at hi; simp at hi
    · have e : I = L ++ [a] := by rw [e]; simp
      subst e
      obtain ⟨p1, p2, p3⟩ := List.pairwise_append.mp h.1
      have ha : a < i + 1 := h.2.1 a (by simp)
      have ea : a = i := by
        rcases List.mem_append.mp hi with z | z
        · have := p3 i z a (by simp)
          omega
        · exact (List.mem_singleton.mp z).symm
      subst ea
      have hl := h.2.2
      rw [List.length_append, List.length_singleton] at hl
      exact ⟨L, rfl, ⟨p1, fun x hx => p3 x hx a (by simp), by omega⟩, by omega⟩
  · left
    refine ⟨h.1, fun x hx => ?_, h.2.2⟩
    have := h.2.1 x hx
    have : x ≠ i := fun z => hi (z ▸ hx)
    omega
theorem dd_sm {N : Nat → Nat → Int} {m n x k : Nat} {I : List Nat} (hN : ∀ i < m, ∀ c < n, Sm 2500 (N i c)) (hI : Lin I m n) (n7 : n ≤ 7) (hk : (bd x n).length = k) (hkn : k ≤ 7) : Sm 20000 (DD N I (bd x n)) := by
  have h := det_bd (b := 2500) (rs := I.reverse.map N) (J := bd x n) (fun r hr c hc => by
    obtain ⟨i, hi, rfl⟩ := List.mem_map.mp hr
    exact Nat.le_of_lt (hN i (hI.2.1 i (List.mem_reverse.mp hi)) c (bd_mem.mp hc).1)) (by omega)
  have hl := hI.2.2
  rw [List.length_map, List.length_reverse] at h
  refine Nat.lt_of_le_of_lt h (Nat.pow_lt_pow_right (by decide) ?_)
  have := Nat.mul_le_mul_left (2500 + 3) (show I.length ≤ 7 by omega)
  omega
theorem Mt.stay {H H' : Hp} {p : Addr} {m n : Nat} {N : Nat → Nat → Int} (h : Mt Ci H p m n N) (s : ∀ c l, H c = some (.lst l) → H' c = some (.lst l)) : Mt Ci H' p m n N := by
  obtain ⟨as, h1, h2, h3⟩ := h
  refine ⟨as, s _ _ h1, h2, fun i a ha => ?_⟩
  obtain ⟨vs, k1, k2, k3⟩ := h3 i a ha
  exact ⟨vs, s _ _ k1, k2, k3⟩
/-- all but one thing stands -/
def SameX (M : Addr) (H H' : Hp) : Prop := ∀ b o, b ≠ M → H b = some o → H' b = some o
theorem SameX.trans {M : Addr} {H H' H'' : Hp} (a : SameX M H H') (b : SameX M H' H'') : SameX M H H'' := fun x o n h => b x o n (a x o n h)
theorem Same.x {M : Addr} {H H' : Hp} (a : Same H H') : SameX M H H' := fun x o _ h => a x o h
theorem SameX.same {M : Addr} {H0 H H' : Hp} (s : Same H0 H) (hM : H0 M = none) (a : SameX M H H') : Same H0 H' := fun b o h => a b o (fun z => by rw [z, hM] at h; cases h) (s b o h)
def sp__law_minors : Sp := fun vs H Q _ => ∃ (p : Addr) (m n : Nat) (N : Nat → Nat → Int), vs = [.ref p] ∧ Mt Ci H p m n N ∧ 1 ≤ m ∧ m ≤ 7 ∧ 1 ≤ n ∧ n ≤ 7 ∧ (∀ i < m, ∀ c < n, Sm 2500 (N i c)) ∧
  ∀ d H', Same H H' → Mins H' d m n N → Q (.ref d) H'
abbrev N__law_minors : List Str := ["_law_rows_here", "_law_wide", "_law_made_here", "_law_i", "_law_lines", "_law_longer", "_law_mask", "_law_behind_it", "_law_j", "_law_key", "_law_part_here"]
theorem sc__law_minors : FnScope N__law_minors ["_law_rows_here"] (defScope (topS 48)) := ⟨rfl, rfl, rfl, by decide +kernel, rfl, by decide +kernel, by decide +kernel⟩
/-- _law_minors: 0 _law_rows_here, 1 _law_wide, 2 _law_made_here, 3 _law_i, 4 _law_lines, 5 _law_longer, 6 _law_mask, 7 _law_behind_it, 8 _law_j, 9 _law_key, 10 _law_part_here -/
theorem ok__law_minors {P : Program} {w : World} {K : PySem.W.Frag} {mg : Str → Option Value} {base : Heap} (W : Wd K mg)  : Has P w K mg base "_law_minors" 1 ["_law_rows_here"] sp__law_minors := by
  have f_len : mg "len" = none := W.free 54 "len" rfl
  have f_list : mg "list" = none := W.free 55 "list" rfl
  have f_range : mg "range" = none := W.free 56 "range" rfl
  have f_reversed : mg "reversed" = none := W.free 57 "reversed" rfl
  refine has_of W 33 48 rfl rfl sc__law_minors (fun _ _ _ _ _ _ us hl => match us, hl with | [_], _ => rfl) (fun vs H Q E h => ?_) (fun f cdv A outer s H vs Q E hr h => ?_)
  · obtain ⟨p, m, n, N, rfl, hM, m1, m7, n1, n7, hS, q⟩ := h; rfl
  · obtain ⟨p, m, n, N, rfl, hM, m1, m7, n1, n7, hS, q⟩ := h
    have nd := sc__law_minors.nd
    have hu := hu_of hr
    refine ⟨_, (pss_cons (ps_set (i := 1) nd rfl (by first | exact Or.inl rfl | exact Or.inr rfl) (pe_callB (call_lenK (K := K)) (by rfl) f_len PySem.boot_len (pa_cons (pe_ix (ix_listK (K := K)) (pv 0) pe_int (fun _ _ => rfl)) pa_nil)))
      (pss_cons (ps_set (i := 2) nd rfl (by first | exact Or.inl rfl | exact Or.inr rfl) (pe_dispT hu (pe_tup pa_nil) (pe_disp (pps_cons pe_int pe_int pps_nil) (by rfl) (by rfl) (fun z => by cases z) (by decide))))
      (pss_cons (ps_for PassesOwn.never rfl (pi_range1 rfl f_range (pa_cons (pe_callB (call_lenK (K := K)) (by rfl) f_len PySem.boot_len (pa_cons (pv 0) pa_nil)) pa_nil)) (pg_name (i := 3) nd rfl (by first | exact Or.inl rfl | exact Or.inr rfl)) (pss_one (ps_for PassesOwn.never rfl (pi_listK (K := K) (pe_callTy (call_list_dT rfl) (by rfl) f_list (by decide +kernel) (pa_cons (pv 2) pa_nil))) (pg_name (i := 4) nd rfl (by first | exact Or.inl rfl | exact Or.inr rfl)) (pss_cons (ps_set (i := 5) nd rfl (by first | exact Or.inl rfl | exact Or.inr rfl) pe_dnewK)
      (pss_cons (ps_lock (ps_for PassesOwn.never rfl (pi_keys (pe_dget hu (pv 2) (pv 4) (fun _ _ => rfl))) (pg_name (i := 6) nd rfl (by first | exact Or.inl rfl | exact Or.inr rfl)) (pss_cons (ps_set (i := 7) nd rfl (by first | exact Or.inl rfl | exact Or.inr rfl) pe_int)
      (pss_one (ps_for PassesOwn.never rfl (pi_revR rfl f_reversed (prg_1 rfl f_range (pv 1))) (pg_name (i := 8) nd rfl (by first | exact Or.inl rfl | exact Or.inr rfl)) (pss_one (ps_if (pt_cmpR op_eq (pe_op op_odd (pe_op op_shrN (pv 6) (pv 8)) pe_int) pe_int (nomark _)) (pss_one (ps_set (i := 7) nd rfl (by first | exact Or.inl rfl | exact Or.inr rfl) (pe_op op_add (pv 7) pe_int))) (pss_cons (ps_set (i := 9) nd rfl (by first | exact Or.inl rfl | exact Or.inr rfl) (pe_op op_or (pv 6) (pe_op op_oneShl pe_int (pv 8))))
      (pss_cons (ps_set (i := 10) nd rfl (by first | exact Or.inl rfl | exact Or.inr rfl) (pe_op op_mulX (pe_ix (ix_listK (K := K)) (pe_ix (ix_listK (K := K)) (pv 0) (pv 3) (fun _ _ => rfl)) (pv 8) (fun _ _ => rfl)) (pe_dget hu (pe_dget hu (pv 2) (pv 4) (fun _ _ => rfl)) (pv 6) (fun _ _ => rfl))))
      (Evl.pss_cut (ps_if (pt_cmpR op_eq (pe_op op_modN (pv 7) pe_int) pe_int (nomark _)) (pss_one (ps_set (i := 10) nd rfl (by first | exact Or.inl rfl | exact Or.inr rfl) (pe_un un_neg (pv 10)))) pss_nil)
      (pss_one (ps_dput hu (pv 5) (pv 9) (pe_op op_add (pe_dget2 hu (pv 5) (pv 9) pe_int ⟨by rfl, by rfl, by rfl, by rfl⟩) (pv 10)) (by rfl)))))))))))))
      (pss_one (ps_if (pt_cmpR op_lt (pe_callB (call_lenK (K := K)) (by rfl) f_len PySem.boot_len (pa_cons (pv 4) pa_nil)) (pv 1) (nomark _)) (pss_one (ps_dput hu (pv 2) (pe_op (op_catAK (K := K)) (pv 4) (pe_tup (pa_cons (pv 3) pa_nil))) (pv 5) (by rfl))) pss_nil)))))))
      (pss_one (ps_ret (pv 2)))))), ?_⟩
    refine z_start (σ' := [some _, none, none, none, none, none, none, none, none, none, none]) (by rfl) ?_
    have m64 := pow128 m7
    walk_at "zz"
    refine z_ixM 0 hM (by omega) fun a0 ha0 => ?_
    walk_at "zz"
    refine z_lenR ha0 ?_
    walk_at "zz"
    intro M nM
    walk_at "zz"
    refine ⟨by show 0 ≤ sizeLine; exact Nat.zero_le _, fun b0 nb0 => ?_⟩
    intro e0 ne0
    have bM : b0 ≠ M := fun z => by subst z; rw [upd_same] at nb0; cases nb0
    have eM : e0 ≠ M := fun z => by subst z; rw [upd_ne bM.symm, upd_same] at ne0; cases ne0
    have eb : e0 ≠ b0 := fun z => by subst z; rw [upd_same] at ne0; cases ne0
    unfold tPairs
    walk_at "zz"
    unfold tPairs
    refine ⟨upd_same, [(.inl 0, .int 1)], rfl, by decide, ?_⟩
    rw [show mergeK [] [((Sum.inl 0 : Key), V.int 1)] = [(.inl 0, .int 1)] from rfl, upd_upd]
    refine ⟨by rw [upd_ne eM.symm, upd_ne bM.symm, upd_same], b0, keyI [], rfl, ?_, ?_⟩
    · rw [upd_ne eb.symm, upd_same]; rfl
    walk_at "zz"
    have sS : Same H (upd (upd (upd (upd H M (.dT [])) b0 (.tup [])) e0 (.dK [(.inl 0, .int 1)])) M (.dT [(keyI [], .ref e0)])) := fun b o h => by
      rw [upd_ne (ne_of_none h nM), upd_ne, upd_ne, upd_ne (ne_of_none h nM)]
      · exact h
      · exact fun z => by subst z; rw [upd_ne bM] at nb0; rw [h] at nb0; cases nb0
      · exact fun z => by subst z; rw [upd_ne eb, upd_ne eM] at ne0; rw [h] at ne0; cases ne0
    have vS : (upd (upd (upd (upd H M (.dT [])) b0 (.tup [])) e0 (.dK [(.inl 0, .int 1)])) M (.dT [(keyI [], .ref e0)])) e0 = some (.dK [(.inl 0, .int 1)]) := by rw [upd_ne eM, upd_same]
    have mS : (upd (upd (upd (upd H M (.dT [])) b0 (.tup [])) e0 (.dK [(.inl 0, .int 1)])) M (.dT [(keyI [], .ref e0)])) M = some (.dT [(keyI [], .ref e0)]) := upd_same
    generalize (upd (upd (upd (upd H M (.dT [])) b0 (.tup [])) e0 (.dK [(.inl 0, .int 1)])) M (.dT [(keyI [], .ref e0)])) = Hs at sS vS mS
    have hMs := hM.up Ci.up sS
    refine z_lenM hMs ?_
    walk_at "zz"
    refine z_rng1 (n := m) rfl (by omega) ?_
    refine z_forR (fun i σ H' => ∃ (kvs : List (List Key × V)) (y3 y4 y5 y6 y7 y8 y9 y10 : Option V), σ = [some (.ref p), some (.int (n : Nat)), some (.ref M), y3, y4, y5, y6, y7, y8, y9, y10] ∧ Same H H' ∧ H' M = some (.dT kvs) ∧ kvs.length ≤ 2 ^ i ∧ OutC H' kvs i n N ∧ OutA kvs i n)
      ⟨[(keyI [], .ref e0)], _, _, _, _, _, _, _, _, rfl, sS, mS, Nat.le_refl 1, fun k v hv => ?_, fun I hI => ?_⟩ (fun i σ H1 hi hP => ?_) (fun σ H1 hP => ?_)
    · have hk : keyI [] = k := by
        by_cases z : keyI [] = k
        · exact z
        · rw [valV_neg z] at hv; cases hv
      rw [valV_pos hk] at hv
      exact ⟨[], e0, _, hk.symm, (Option.some.inj hv).symm, ⟨List.Pairwise.nil, fun x hx => by simp at hx, Nat.zero_le _⟩, vS, lvl0 N n⟩
    · have : I = [] := by
        cases I with
        | nil => rfl
        | cons a I => have := hI.2.1 a List.mem_cons_self; omega
      subst this
      exact ⟨_, valV_pos rfl⟩
    · obtain ⟨kvs, y3, y4, y5, y6, y7, y8, y9, y10, rfl, s1, h1, hkl, hC, hA⟩ := hP
      have h2i : 2 ^ i ≤ 128 := pow128 (by omega)
      have e0i : (0 : Int) + (i : Nat) = ((i : Nat) : Int) := by omega
      have hs1 := hM.up Ci.up s1
      walk_at "zz"
      rw [e0i]
      refine ⟨M, kvs, rfl, .of h1, fun pl bs npl hbs => ?_⟩
      have s2 := same_upd (o := .lst (bs.map V.ref)) npl
      have hbl : bs.length = kvs.length := (Paired.length hbs).symm
      walk_at "zz"
      refine z_forL (xs := bs.map V.ref) upd_same (fun t σ H' => ∃ (kvs' : List (List Key × V)) (y4 y5 y6 y7 y8 y9 y10 : Option V), σ = [some (.ref p), some (.int (n : Nat)), some (.ref M), some (.int (i : Nat)), y4, y5, y6, y7, y8, y9, y10] ∧ SameX M (upd H1 pl (.lst (bs.map V.ref))) H' ∧ H' M = some (.dT kvs') ∧ kvs'.length ≤ kvs.length + t ∧ OutC H' kvs' (i + 1) n N ∧ (∀ I, Lin I i n → ∃ v, valV kvs' (keyI I) = some v) ∧ (∀ u < t, ∀ I v, kvs[u]? = some (keyI I, v) → I.length < n → ∃ v, valV kvs' (keyI (I ++ [i])) = some v))
        ⟨kvs, _, _, _, _, _, _, _, rfl, fun _ _ _ h => h, s2 _ _ h1, by omega, fun k v hv => ?_, hA, fun u hu => by omega⟩ (fun t σ H2 hP => ?_) (fun t x σ H2 hx hP => ?_) (fun σ H2 hP => ?_)
      · obtain ⟨I, e, es, a1, a2, a3, a4, a5⟩ := hC k v hv
        exact ⟨I, e, es, a1, a2, a3.next, s2 _ _ a4, a5⟩
      · obtain ⟨kvs', y4, y5, y6, y7, y8, y9, y10, rfl, sx, h2, hl2, hC2, hA2, hB2⟩ := hP
        exact sx _ _ (fun z => by rw [z, h1] at npl; cases npl) upd_same
      · obtain ⟨kvs', y4, y5, y6, y7, y8, y9, y10, rfl, sx, h2, hl2, hC2, hA2, hB2⟩ := hP
        obtain ⟨b, hb, rfl⟩ := ref_of hx
        obtain ⟨⟨k, v0⟩, hk, hbk⟩ := paired_at hbs hb
        have hbk : H1 b = some (.tup (k.map kV)) := hbk
        have htl : t < kvs.length := get_lt hk
        obtain ⟨v1, hv1⟩ := Option.isSome_iff_exists.mp (valV_isSome.mpr (List.mem_map.mpr ⟨_, List.mem_of_getElem? hk, rfl⟩) : (valV kvs k).isSome = true)
        obtain ⟨I, e1, es1, rfl, -, hI, -, -⟩ := hC k v1 hv1
        rw [keyI_kV] at hbk
        have hb2 : H2 b = some (.tup (natV I)) := sx _ _ (fun z => by rw [z, h1] at hbk; cases hbk) (s2 _ _ hbk)
        obtain ⟨v2, hv2⟩ := hA2 I hI
        obtain ⟨I', e, es, eI, rfl, -, he, hL⟩ := hC2 _ _ hv2
        have eI := keyI_inj eI
        subst eI
        walk_at "zz"
        intro L nL
        walk_at "zz"
        have eL : e ≠ L := fun z => by rw [z, nL] at he; cases he
        have bL : b ≠ L := fun z => by rw [z, nL] at hb2; cases hb2
        have ML : M ≠ L := fun z => by rw [z, nL] at h2; cases h2
        have be : b ≠ e := fun z => by rw [z, he] at hb2; cases hb2
        have Me : M ≠ e := fun z => by rw [z, he] at h2; cases h2
        obtain ⟨xs, hxs, hnd, hxm⟩ := hL.xs
        have hxl : xs.length = es.length := by
          have := congrArg List.length hxs
          rw [List.length_map, List.length_map] at this
          exact this.symm
        have kn : I.length ≤ 7 := Nat.le_trans hI.2.2 n7
        have k6 : es.length ≤ 7 ^ 7 := Nat.le_trans hL.len (Nat.pow_le_pow_right (by decide) kn)
        refine ⟨e, .dK es, by rw [upd_ne eL]; exact he, trivial, fun od => ?_⟩
        have g2 : upd (upd H2 L (.dK [])) e (.frz od (.dK es)) M = some (.dT kvs') := by rw [upd_ne Me, upd_ne ML]; exact h2
        have gb : upd (upd H2 L (.dK [])) e (.frz od (.dK es)) b = some (.tup ((keyI I).map kV)) := by rw [upd_ne be, upd_ne bL, keyI_kV]; exact hb2
        have ge : upd (upd H2 L (.dK [])) e (.frz od (.dK es)) e = some (.frz od (.dK es)) := upd_same
        have gL : upd (upd H2 L (.dK [])) e (.frz od (.dK es)) L = some (.dK []) := by rw [upd_ne eL.symm, upd_same]
        have gS : ∀ c, c ≠ L → c ≠ e → upd (upd H2 L (.dK [])) e (.frz od (.dK es)) c = H2 c := fun c c1 c2 => by rw [upd_ne c2, upd_ne c1]
        generalize upd (upd H2 L (.dK [])) e (.frz od (.dK es)) = H4 at g2 gb ge gL gS
        have hM2 : Mt Ci H2 p m n N := hM.up Ci.up (sx.same (s1.trans s2) nM)
        have hM4 : Mt Ci H4 p m n N := hM2.stay fun c l h => by
          rw [gS c (fun z => by rw [z, nL] at h; cases h) (fun z => by rw [z, he] at h; cases h)]; exact h
        have gd : DGet H4 M (.ref b) (some (.ref e)) := by rw [← hv2]; exact DGet.t g2 gb
        walk_at "zz"
        refine ⟨M, .ref e, rfl, gd, e, od, rfl, .inl ⟨es, ge, ?_⟩⟩
        refine z_forKeys (fun u σ H5 => ∃ (esL : List (Key × V)) (y6 y7 y8 y9 y10 : Option V), σ = [some (.ref p), some (.int (n : Nat)), some (.ref M), some (.int (i : Nat)), some (.ref b), some (.ref L), y6, y7, y8, y9, y10] ∧ (∀ c, c ≠ L → H5 c = H4 c) ∧ H5 L = some (.dK esL) ∧ Lng esL n (Dn xs n u 0) (N i) (DD N I) (n * u))
          ⟨[], _, _, _, _, _, rfl, fun _ _ => rfl, gL, Lng.start.cong (fun _ _ _ _ => Iff.rfl) (Nat.zero_le _)⟩ (fun u σ H5 hP => ?_) (fun u k v σ H5 hu5 hP => ?_) (fun σ H5 hP => ?_)
        · obtain ⟨esL, y6, y7, y8, y9, y10, rfl, hS5, hL5, hg⟩ := hP
          rw [hS5 _ eL]; exact ge
        · obtain ⟨esL, y6, y7, y8, y9, y10, rfl, hS5, hL5, hg⟩ := hP
          have hul := get_lt hu5
          obtain ⟨x, hx5, rfl⟩ : ∃ x, xs[u]? = some x ∧ k = Sum.inl ((x : Nat) : Int) := by
            have h1 := congrArg (fun l => l[u]?) hxs
            simp only [List.getElem?_map, hu5, Option.map_some] at h1
            cases e5 : xs[u]? with
            | none => rw [e5] at h1; cases h1
            | some x => rw [e5] at h1; exact ⟨x, rfl, Option.some.inj h1⟩
          obtain ⟨x2, xk⟩ := (hxm x).mp (List.mem_of_getElem? hx5)
          have hall : ∀ x ∈ xs, x < 2 ^ n := fun x hx => ((hxm x).mp hx).1
          have hval := hL.val x x2 xk
          have x128 : x < 128 := Nat.lt_of_lt_of_le x2 (pow128 n7)
          show gName 6 (.int ((x : Nat) : Int)) _ _ _
          walk_at "zz"
          refine z_rev (n := n) (by omega) ?_
          refine z_forC (fun t σ H5 => ∃ (esL : List (Key × V)) (be : Nat) (y8 y9 y10 : Option V), σ = [some (.ref p), some (.int (n : Nat)), some (.ref M), some (.int (i : Nat)), some (.ref b), some (.ref L), some (.int (x : Nat)), some (.int (be : Nat)), y8, y9, y10] ∧ (∀ c, c ≠ L → H5 c = H4 c) ∧ H5 L = some (.dK esL) ∧ Lng esL n (Dn xs n u t) (N i) (DD N I) (n * u + t) ∧ (t < n → be = ab x n (n - 1 - t)))
            ⟨esL, 0, _, _, _, rfl, hS5, hL5, hg, fun _ => (ab_top (by omega)).symm⟩ (fun t σ H5 ht hP => ?_) (fun σ H5 hP => ?_)
          · obtain ⟨esL, be', y8, y9, y10, rfl, hS6, hL6, hg6, hbe⟩ := hP
            have hbe := hbe ht
            have ej : (n : Int) - 1 + (t : Int) * -1 = ((n - 1 - t : Nat) : Int) := by omega
            have hj : n - 1 - t < n := by omega
            walk_at "zz"
            rw [ej]
            refine ⟨_, n - 1 - t, rfl, rfl, ?_⟩
            walk_at "zz"
            rw [cast_shr]
            refine ⟨_, rfl, rfl, ?_⟩
            walk_at "zz"
            have nextbe : t + 1 < n → ab x n (n - 1 - (t + 1)) = ab x n (n - 1 - t) + if x.testBit (n - 1 - t) then 1 else 0 := fun h => by
              have := ab_next (x := x) (n := n) (j := n - 1 - (t + 1)) (by omega)
              rwa [show n - 1 - (t + 1) + 1 = n - 1 - t by omega] at this
            refine z_it2 (fun h => ?_) (fun h => ?_)
            · have hb : x.testBit (n - 1 - t) = true := (bit_val x (n - 1 - t)).mp (by omega)
              walk_at "zz"
              refine ⟨esL, be' + 1, _, _, _, rfl, hS6, hL6, hg6.cong (fun y _ c _ => Dn.skip hx5 ht hb) (by omega), fun h => ?_⟩
              rw [nextbe h, hb, hbe]; rfl
            · have hb : x.testBit (n - 1 - t) = false := by
                cases e : x.testBit (n - 1 - t) with
                | false => rfl
                | true => exact absurd ((bit_val x (n - 1 - t)).mpr e) (by omega)
              have hM6 : Mt Ci H5 p m n N := hM4.stay fun c l h => by
                rw [hS6 c (fun z => by rw [z, gL] at h; cases h)]; exact h
              walk_at "zz"
              refine ⟨_, rfl, rfl, by omega, ?_⟩
              walk_at "zz"
              rw [or_val]
              walk_at "zz"
              refine z_ixM i hM6 hi fun ai hai => ?_
              walk_at "zz"
              refine z_ixI _ hai hj ?_
              walk_at "zz"
              have g6 : DGet H5 M (.ref b) (some (.ref e)) := by
                rw [← hv2]; exact DGet.t (by rw [hS6 _ ML]; exact g2) (by rw [hS6 _ bL]; exact gb)
              have ge6 : DGet H5 e (.int ((x : Nat) : Int)) (some (.int (DD N I (bd x n)))) := .inl ⟨es, .inl ((x : Nat) : Int), .inr ⟨od, by rw [hS6 _ eL]; exact ge⟩, rfl, hval.symm⟩
              have sN := hS i hi _ hj
              have sD := dd_sm hS ⟨hI.1, fun c hc => Nat.lt_trans (hI.2.1 c hc) hi, hI.2.2⟩ n7 xk kn
              refine ⟨M, .ref e, rfl, g6, ?_⟩
              walk_at "zz"
              refine ⟨e, _, rfl, ge6, ?_⟩
              refine z_I (mulx_ok sN sD (by decide)) ?_
              walk_at "zz"
              refine z_cut (fun σ' H' => σ' = [some (.ref p), some (.int (n : Nat)), some (.ref M), some (.int (i : Nat)), some (.ref b), some (.ref L), some (.int (x : Nat)), some (.int (be' : Nat)), some (.int ((n - 1 - t : Nat) : Int)), some (.int ((x ||| 1 <<< (n - 1 - t) : Nat) : Int)), some (.int (sg be' * (N i (n - 1 - t) * DD N I (bd x n))))] ∧ H' = H5) ?_ ?_
              · walk_at "zz"
                refine z_I (by decide) ?_
                walk_at "zz"
                rw [show (2 : Int) = ((2 : Nat) : Int) from rfl, fmod_nat]
                refine z_it2 (fun h => ?_) (fun h => ?_)
                · walk_at "zz"
                  refine ⟨?_, rfl⟩
                  unfold sg
                  rw [if_pos (by omega), Int.neg_one_mul]
                · walk_at "zz"
                  refine ⟨?_, rfl⟩
                  unfold sg
                  rw [if_neg (by omega), Int.one_mul]
              · rintro σ' H' ⟨rfl, rfl⟩
                have y2 := or_lt x2 hj
                walk_at "zz"
                refine ⟨.inl ⟨esL, .inl hL6⟩, ?_⟩
                walk_at "zz"
                refine ⟨_, DGet.k (k := .inl ((x ||| 1 <<< (n - 1 - t) : Nat) : Int)) hL6, ?_⟩
                rw [hg6.val _ y2]
                walk_at "zz"
                have hlen : esL.length ≤ 7 * 7 ^ 7 + 7 := by
                  have a1 := hg6.len
                  have a2 := Nat.mul_le_mul n7 (Nat.le_trans (Nat.le_of_lt hul) k6)
                  omega
                refine ⟨L, _, rfl, DPut.k (k := .inl ((x ||| 1 <<< (n - 1 - t) : Nat) : Int)) hL6 (Nat.lt_of_le_of_lt hlen (by decide)), ?_⟩
                refine ⟨_, be', _, _, _, rfl, fun c hc => by rw [upd_ne hc]; exact hS6 c hc, upd_same, ?_, fun h => ?_⟩
                · have := hg6.more hnd hall hx5 ht hb
                  rw [hbe]; exact this
                · rw [nextbe h, hb, hbe]; simp
          · obtain ⟨esL, be', y8, y9, y10, rfl, hS6, hL6, hg6, hbe⟩ := hP
            refine ⟨esL, _, _, _, _, _, rfl, hS6, hL6, hg6.cong (fun y _ c hc => ?_) (by rw [Nat.mul_succ]; exact Nat.le_refl _)⟩
            have hc' := (bd_mem.mp hc).1
            constructor
            · rintro ⟨x', k, a1, a2, a3⟩
              exact ⟨x', k, a1, .inl (by omega), a3⟩
            · rintro ⟨x', k, a1, a2, a3⟩
              exact ⟨x', k, a1, by omega, a3⟩
        · obtain ⟨esL, y6, y7, y8, y9, y10, rfl, hS5, hL5, hg⟩ := hP
          have lg : n * es.length ≤ 7 ^ (I.length + 1) := by
            rw [Nat.pow_succ, Nat.mul_comm]; exact Nat.mul_le_mul hL.len n7
          have hdone := Lng.done (es := es) hg hxm hxl.symm lg
          have re : H5 e = some (.frz od (.dK es)) := by rw [hS5 _ eL]; exact ge
          refine ⟨re, ?_⟩
          have q2 : ∀ c, c ≠ L → upd H5 e (.dK es) c = H2 c := fun c c1 => by
            by_cases ce : c = e
            · rw [ce, upd_same, he]
            · rw [upd_ne ce, hS5 _ c1, gS c c1 ce]
          have qL : upd H5 e (.dK es) L = some (.dK esL) := by rw [upd_ne eL.symm]; exact hL5
          generalize upd H5 e (.dK es) = H6 at q2 qL
          have sx6 : Same H2 H6 := fun c o h => by rw [q2 c (fun z => by rw [z, nL] at h; cases h)]; exact h
          walk_at "zz"
          refine z_lenT (sx6 _ _ hb2) ?_
          rw [natV_len]
          walk_at "zz"
          refine z_it2 (fun hlt => ?_) (fun hlt => ?_)
          · have hlt : I.length < n := by omega
            have hI2 : (keyI (I ++ [i])).map kV = natV (I ++ [i]) := keyI_kV _
            walk_at "zz"
            have fin : ∀ (tp : Addr) (H7 : Hp), Same H6 H7 → H7 tp = some (.tup (natV (I ++ [i]))) → ∃ H8, DPut H7 M (.ref tp) (.ref L) H8 ∧ SameX M (upd H1 pl (.lst (bs.map V.ref))) H8 ∧ H8 M = some (.dT (putK kvs' (keyI (I ++ [i])) (.ref L))) ∧ (∀ c d, H7 c = some (.dK d) → H8 c = some (.dK d)) := fun tp H7 s7 h7 => by
              have hM7 := s7 _ _ (sx6 _ _ h2)
              refine ⟨_, DPut.t hM7 (by rw [hI2]; exact h7) (Nat.lt_of_le_of_lt (by omega : kvs'.length ≤ 1000) (by decide)), ?_, upd_same, fun c d hc => ?_⟩
              · exact fun c o hc h => by rw [upd_ne hc]; exact s7 _ _ (sx6 _ _ (sx c o hc h))
              · rw [upd_ne (fun z => by rw [z, hM7] at hc; cases hc)]; exact hc
            have fin2 : ∀ (tp : Addr) (H7 H8 : Hp), Same H6 H7 → H8 M = some (.dT (putK kvs' (keyI (I ++ [i])) (.ref L))) → (∀ c d, H7 c = some (.dK d) → H8 c = some (.dK d)) → OutC H8 (putK kvs' (keyI (I ++ [i])) (.ref L)) (i + 1) n N := fun tp H7 H8 s7 hM8 h8 => by
              intro k v hv
              rw [valV_put] at hv
              by_cases ek : k = keyI (I ++ [i])
              · rw [if_pos ek] at hv
                refine ⟨I ++ [i], L, esL, ek, (Option.some.inj hv).symm, hI.push hlt, h8 _ _ (s7 _ _ qL), ?_⟩
                rw [List.length_append]; exact hdone
              · rw [if_neg ek] at hv
                exact (hC2.up (fun c d h => h8 _ _ (s7 _ _ (sx6 _ _ h)))) k v hv
            have fin3 : (∀ J, Lin J i n → ∃ v, valV (putK kvs' (keyI (I ++ [i])) (.ref L)) (keyI J) = some v) ∧ (∀ u < t + 1, ∀ J v, kvs[u]? = some (keyI J, v) → J.length < n → ∃ v, valV (putK kvs' (keyI (I ++ [i])) (.ref L)) (keyI (J ++ [i])) = some v) := by
              have old : ∀ k, (∃ v, valV kvs' k = some v) → ∃ v, valV (putK kvs' (keyI (I ++ [i])) (.ref L)) k = some v := fun k ⟨v, hv⟩ => by
                rw [valV_put]
                by_cases ek : k = keyI (I ++ [i])
                · rw [if_pos ek]; exact ⟨_, rfl⟩
                · rw [if_neg ek]; exact ⟨v, hv⟩
              refine ⟨fun J hJ => old _ (hA2 J hJ), fun u hu J v hj hJl => ?_⟩
              by_cases eu : u = t
              · subst eu
                rw [hk] at hj
                have := keyI_inj (Prod.mk.inj (Option.some.inj hj)).1
                subst this
                rw [valV_put, if_pos rfl]; exact ⟨_, rfl⟩
              · exact old _ (hB2 u (by omega) J v hj hJl)
            have fin4 : (putK kvs' (keyI (I ++ [i])) (.ref L)).length ≤ kvs.length + (t + 1) := by
              have := length_putK kvs' (keyI (I ++ [i])) (.ref L)
              omega
            refine ⟨by show 1 ≤ sizeLine; decide, fun p1 np1 => ?_⟩
            have s61 := same_upd (o := .tup [.int (i : Nat)]) np1
            refine ⟨b, p1, natV I, [.int (i : Nat)], rfl, rfl, SqT.of (s61 _ _ (sx6 _ _ hb2)), SqT.of upd_same, ?_, fun eI => ?_, fun _ z => (nomatch z), fun _ _ p2 np2 => ?_⟩
            · rw [natV_len]; exact Nat.le_trans (by simp; omega : _ ≤ 1000) (by decide)
            · have eI0 : I = [] := by
                cases I with
                | nil => rfl
                | cons a I => cases eI
              obtain ⟨H8, f1, f2, f3, f4⟩ := fin p1 _ s61 (by rw [upd_same, eI0]; rfl)
              walk_at "zz"
              exact ⟨M, H8, rfl, f1, _, _, _, _, _, _, _, _, rfl, f2, f3, fin4, fin2 p1 _ H8 s61 f3 f4, fin3⟩
            · have s62 := s61.trans (same_upd (o := .tup (natV I ++ [.int (i : Nat)])) np2)
              obtain ⟨H8, f1, f2, f3, f4⟩ := fin p2 _ s62 (by rw [upd_same, natV_app])
              walk_at "zz"
              exact ⟨M, H8, rfl, f1, _, _, _, _, _, _, _, _, rfl, f2, f3, fin4, fin2 p2 _ H8 s62 f3 f4, fin3⟩
          · have hge : ¬ I.length < n := by omega
            walk_at "zz"
            refine ⟨kvs', _, _, _, _, _, _, _, rfl, sx.trans (Same.x sx6), sx6 _ _ h2, by omega, hC2.up fun c d h => sx6 _ _ h, hA2, fun u hu J v hj hJl => ?_⟩
            by_cases eu : u = t
            · subst eu
              rw [hk] at hj
              have := keyI_inj (Prod.mk.inj (Option.some.inj hj)).1
              subst this
              exact absurd hJl hge
            · exact hB2 u (by omega) J v hj hJl
      · obtain ⟨kvs', y4, y5, y6, y7, y8, y9, y10, rfl, sx, h2, hl2, hC2, hA2, hB2⟩ := hP
        rw [List.length_map, hbl] at hl2 hB2
        refine ⟨kvs', _, _, _, _, _, _, _, _, rfl, sx.same (s1.trans s2) nM, h2, by rw [Nat.pow_succ]; omega, hC2, fun I hI => ?_⟩
        rcases hI.split with h | ⟨J, rfl, hJ, hJl⟩
        · exact hA2 I h
        · obtain ⟨v, hv⟩ := hA J hJ
          have hm : keyI J ∈ kvs.map (·.1) := valV_isSome.mp (by rw [hv]; rfl)
          obtain ⟨⟨k, w⟩, hp, rfl⟩ := List.mem_map.mp hm
          obtain ⟨u, hu⟩ := List.getElem?_of_mem hp
          exact hB2 u (get_lt hu) J w hu hJl
    · obtain ⟨kvs, y3, y4, y5, y6, y7, y8, y9, y10, rfl, s1, h1, hkl, hC, hA⟩ := hP
      walk_at "zz"
      exact q M H1 s1 ⟨kvs, h1, hC, hA⟩
end Smo

set_option Elab.async false
set_option linter.all false
set_option maxRecDepth 100000
set_option maxHeartbeats 4000000
set_option exponentiation.threshold 100000
namespace Smo
open PySem PySem.Spec PyProof.Rows L2
/-! ### the two tables -/
/-- the staircase's rule, rows past the last empty -/
structure Stc (n : Nat) (S : Nat → Nat → Int) : Prop where
  h01 : ∀ i a, S i a = 0 ∨ S i a = 1
  out : ∀ i a, n ≤ a → S i a = 0
  rule : ∀ i c, S i c = 0 → (∀ c' < c, S i c' = 0) ∨ ∀ i' < i, S i' c = 0
def upTo (m : Nat) (S : Nat → Nat → Int) : Nat → Nat → Int := fun i c => if i < m then S i c else 0
theorem Mks.stc {m n : Nat} {S : Nat → Nat → Int} (h : Mks m n S) : Stc n (upTo m S) where
  h01 := fun i a => by
    unfold upTo
    split
    · exact h.h01 i a
    · exact .inl rfl
  out := fun i a ha => by
    unfold upTo
    split
    · exact h.out i a ha
    · rfl
  rule := fun i c h0 => by
    unfold upTo at h0 ⊢
    by_cases hi : i < m
    · rw [if_pos hi] at h0
      by_cases hc : c < n
      · rcases h.rule i hi c hc h0 with z | z
        · exact .inl fun c' hc' => by rw [if_pos hi]; exact z c' hc'
        · exact .inr fun i' hi' => by rw [if_pos (by omega)]; exact z i' hi'
      · exact .inr fun i' hi' => by rw [if_pos (by omega)]; exact h.out i' c (by omega)
    · exact .inl fun c' hc' => by rw [if_neg hi]
theorem Stc.mks {m n : Nat} {S : Nat → Nat → Int} (h : Stc n S) : Mks m n S := ⟨h.h01, h.out, fun i _ c _ h0 => h.rule i c h0⟩
theorem Mt.upTo {H : Hp} {p : Addr} {m n : Nat} {S : Nat → Nat → Int} (h : Mt Ci H p m n S) : Mt Ci H p m n (upTo m S) := by
  obtain ⟨as, h1, h2, h3⟩ := h
  refine ⟨as, h1, h2, fun i a ha => ?_⟩
  have : Smo.upTo m S i = S i := by
    funext c
    unfold Smo.upTo
    rw [if_pos (by rw [← h2]; exact get_lt ha)]
  rw [this]; exact h3 i a ha
theorem pos_of_mul {q : Rat} {a b : Nat} (ha : 1 ≤ a) (hb : 1 ≤ b) (h : q * ((b : Int) : Rat) = ((a : Int) : Rat)) : 0 < q := by
  have a0 : (0 : Rat) < ((a : Int) : Rat) := Rat.intCast_lt_intCast.mpr (by omega : (0 : Int) < (a : Int))
  have b0 : (0 : Rat) < ((b : Int) : Rat) := Rat.intCast_lt_intCast.mpr (by omega : (0 : Int) < (b : Int))
  by_cases z : 0 < q
  · exact z
  · exfalso
    have z : q ≤ 0 := Rat.not_lt.mp z
    have := Rat.mul_le_mul_of_nonneg_right z (Rat.le_of_lt b0)
    rw [h] at this
    grind
theorem Pos96.pos {q : Rat} (h : Pos96 q) : 0 < q := by
  obtain ⟨a, b, a1, _, b1, _, e⟩ := h
  exact pos_of_mul a1 b1 e
theorem Fil.iff {S : Nat → Nat → Int} {T : Nat → Nat → Rat} {n : Nat} (h : Fil S T) (s : Stc n S) (i c : Nat) : S i c = 0 ↔ T i c = 0 := by
  constructor
  · exact h.zero i c
  · intro z
    rcases s.h01 i c with e | e
    · exact e
    · have := (h.pos i c e).pos
      rw [z] at this
      exact absurd this Rat.lt_irrefl
theorem two_of {S : Nat → Nat → Int} {T : Nat → Nat → Rat} {n : Nat} (h : Fil S T) (s : Stc n S) : Two n (castT S) T := by
  have cz : ∀ i c, (castT S i c = 0 ↔ S i c = 0) := fun i c => Rat.intCast_eq_zero_iff
  refine ⟨⟨fun i c => (tame01 s.h01).nn i c, fun i c hc => (cz i c).mpr (s.out i c hc), fun i c hc => ?_⟩, ⟨fun i c => ?_, fun i c hc => h.zero i c (s.out i c hc), fun i c hc => ?_⟩, fun i c => (cz i c).trans (h.iff s i c)⟩
  · rcases s.rule i c ((cz i c).mp hc) with z | z
    · exact .inl fun c' hc' => (cz i c').mpr (z c' hc')
    · exact .inr fun i' hi' => (cz i' c).mpr (z i' hi')
  · rcases s.h01 i c with e | e
    · rw [h.zero i c e]; exact Rat.le_refl
    · exact Rat.le_of_lt (h.pos i c e).pos
  · rcases s.rule i c ((h.iff s i c).mpr hc) with z | z
    · exact .inl fun c' hc' => h.zero i c' (z c' hc')
    · exact .inr fun i' hi' => h.zero i' c (z i' hi')
/-! ### sizes -/
theorem Pos96.le {q : Rat} (h : Pos96 q) : q ≤ 9 := by
  have hp := h.pos
  obtain ⟨a, b, a1, a9, b1, _, e⟩ := h
  have b0 : (1 : Rat) ≤ ((b : Int) : Rat) := Rat.intCast_le_intCast.mpr (by omega : (1 : Int) ≤ (b : Int))
  have a0 : ((a : Int) : Rat) ≤ 9 := Rat.intCast_le_intCast.mpr (by omega : (a : Int) ≤ 9)
  have := Rat.mul_le_mul_of_nonneg_left b0 (Rat.le_of_lt hp)
  rw [e] at this
  grind
/-- the other way round -/
theorem Pos96.inv {q : Rat} (h : Pos96 q) : ∃ a b : Nat, 1 ≤ a ∧ a ≤ 9 ∧ 1 ≤ b ∧ b ≤ 6 ∧ q⁻¹ * ((a : Int) : Rat) = ((b : Int) : Rat) := by
  have hp := h.pos
  obtain ⟨a, b, a1, a9, b1, b6, e⟩ := h
  refine ⟨a, b, a1, a9, b1, b6, ?_⟩
  rw [← e]
  have : q ≠ 0 := fun z => by rw [z] at hp; exact absurd hp Rat.lt_irrefl
  grind
theorem Pos96.inv_le {q : Rat} (h : Pos96 q) : q⁻¹ ≤ 6 := by
  have hp : 0 < q⁻¹ := Rat.inv_pos.mpr h.pos
  obtain ⟨a, b, a1, a9, b1, b6, e⟩ := h.inv
  have b0 : (1 : Rat) ≤ ((a : Int) : Rat) := Rat.intCast_le_intCast.mpr (by omega : (1 : Int) ≤ (a : Int))
  have a0 : ((b : Int) : Rat) ≤ 6 := Rat.intCast_le_intCast.mpr (by omega : (b : Int) ≤ 6)
  have := Rat.mul_le_mul_of_nonneg_left b0 (Rat.le_of_lt hp)
  rw [e] at this
  grind
theorem iz_of {q : Rat} {a b N : Nat} (h : q * ((b : Int) : Rat) = ((a : Int) : Rat)) (hd : b ∣ N) : Iz N q := by
  obtain ⟨k, rfl⟩ := hd
  refine ⟨(a : Int) * (k : Int), ?_⟩
  rw [Rat.natCast_mul, Rat.intCast_mul, ← h]
  rw [Rat.intCast_natCast, Rat.intCast_natCast]
  grind
theorem div60 : ∀ b : Nat, b ≤ 6 → 1 ≤ b → b ∣ 60 := by decide
theorem div2520 : ∀ a : Nat, a ≤ 9 → 1 ≤ a → a ∣ 2520 := by decide
theorem Pos96.iz {q : Rat} (h : Pos96 q) : Iz 60 q := by
  obtain ⟨a, b, a1, a9, b1, b6, e⟩ := h
  exact iz_of e (div60 b b6 b1)
theorem Pos96.iz_inv {q : Rat} (h : Pos96 q) : Iz 2520 q⁻¹ := by
  obtain ⟨a, b, a1, a9, b1, b6, e⟩ := h.inv
  exact iz_of e (div2520 a a9 a1)
theorem even_of {S : Nat → Nat → Int} {T : Nat → Nat → Rat} {n : Nat} (h : Fil S T) (s : Stc n S) : Even T (60 * 2520) where
  a := fun i c => by
    rcases s.h01 i c with e | e
    · rw [h.zero i c e]; exact Iz.zero
    · exact (h.pos i c e).iz.more
  r := fun j a b hb => by
    have hb1 : S j b = 1 := by
      rcases s.h01 j b with e | e
      · exact absurd (h.zero j b e) hb
      · exact e
    rw [Rat.div_def]
    rcases s.h01 j a with e | e
    · rw [h.zero j a e]
      have : (0 : Rat) * (T j b)⁻¹ = 0 := by grind
      rw [this]; exact Iz.zero
    · exact (h.pos j a e).iz.mul (h.pos j b hb1).iz_inv
theorem tame_of {S : Nat → Nat → Int} {T : Nat → Nat → Rat} {n : Nat} (h : Fil S T) (s : Stc n S) : Tame T 9 54 where
  nn := (two_of h s).u.nn
  le := fun i c => by
    rcases s.h01 i c with e | e
    · rw [h.zero i c e]; decide
    · exact (h.pos i c e).le
  ra := fun j a b hb => by
    have hb1 : S j b = 1 := by
      rcases s.h01 j b with e | e
      · exact absurd (h.zero j b e) hb
      · exact e
    rw [Rat.div_def]
    rcases s.h01 j a with e | e
    · rw [h.zero j a e]
      have : (0 : Rat) * (T j b)⁻¹ = 0 := by grind
      rw [this]; decide
    · have h1 := (h.pos j a e).le
      have h2 := (h.pos j b hb1).inv_le
      have h3 := (h.pos j a e).pos
      have := mul_le_mul_r h1 h2 (Rat.le_of_lt h3) (by decide : (0 : Rat) ≤ 6)
      have e54 : (9 : Rat) * 6 = 54 := by decide +kernel
      rw [e54] at this
      exact this
  r0 := by decide
  v0 := by decide
theorem fit_of {S : Nat → Nat → Int} {T : Nat → Nat → Rat} {m n : Nat} (h : Fil S T) (s : Stc n S) (m7 : m ≤ 7) (n1 : 1 ≤ n) (n7 : n ≤ 7) : Fit m n T := fun k hk i hi a ha => by
  obtain ⟨b1, b2⟩ := Th_bd (tame_of h s) n7 (k := k) (i := i) ha
  have hq : k / n ≤ 7 := Nat.div_le_of_le_mul (Nat.le_trans hk (by rw [Nat.mul_comm]; exact Nat.mul_le_mul_left n m7))
  have iz := Th_iz (even_of h s) (by omega : 0 < n) (k := k) (i := i) ha
  have iz9 : Iz ((60 * 2520) ^ 9) (Th n T k i a) := by
    have := iz.more (M := (60 * 2520) ^ (7 - k / n))
    rw [← Nat.pow_add, show k / n + 2 + (7 - k / n) = 9 by omega] at this
    exact this
  have key : ∀ j ≤ 8, (9 : Rat) * (1 + 7 * 54) ^ j ≤ 9 * 379 ^ 8 := by decide +kernel
  have b3 := Rat.le_trans b2 (key (k / n + 1) (by omega))
  have hB : (9 * 379 ^ 8 : Rat) * (((60 * 2520) ^ 9 : Nat) : Rat) ≤ ((2 ^ 299 : Nat) : Rat) := by decide +kernel
  obtain ⟨d1, d2⟩ := sizes iz9 (by decide +kernel) b1 b3 hB
  refine ⟨b1, ?_, ?_⟩
  · exact Nat.lt_of_le_of_lt d2 (by decide +kernel)
  · show ((Th n T k i a).den : Int).natAbs < 2 ^ 300
    rw [Int.natAbs_natCast]
    exact Nat.lt_of_le_of_lt d1 (by decide +kernel)
end Smo

set_option Elab.async false
set_option linter.all false
set_option maxRecDepth 100000
set_option maxHeartbeats 4000000
set_option exponentiation.threshold 100000
namespace Smo
open PySem PySem.Spec PyProof.Rows L2
/-! ### places and values -/
section
variable {R : Type} [Lean.Grind.CommRing R]
theorem rl_cl (A : Nat → Nat → R) : ∀ k, rl A k = (cl k).map A
  | 0 => rfl
  | k + 1 => by show A k :: rl A k = A k :: (cl k).map A; rw [rl_cl A k]
theorem cl_rev : ∀ k, cl k = (List.range k).reverse
  | 0 => rfl
  | k + 1 => by rw [List.range_succ, List.reverse_append]; show k :: cl k = _; rw [cl_rev k]; rfl
theorem cl_getD {α : Type} (L : List α) (d : α) : (cl L.length).map (fun i => L.getD i d) = L.reverse := by
  rw [cl_rev, List.map_reverse]
  congr 1
  apply List.ext_getElem?
  intro i
  rw [List.getElem?_map]
  by_cases hi : i < L.length
  · rw [List.getElem?_range hi, Option.map_some, List.getD_eq_getElem?_getD, List.getElem?_eq_getElem hi]; rfl
  · rw [List.getElem?_eq_none (by simp; omega), List.getElem?_eq_none (by omega)]; rfl
theorem ex_place {r : Nat → R} {σ : Nat → Nat} : ∀ {L : List Nat} {F G : List Nat → R}, (∀ L, F L = G (L.map σ)) → ex (fun j => r (σ j)) F L = ex r G (L.map σ)
  | [], _, _, _ => rfl
  | c :: cs, F, G, h => by
    show r (σ c) * F cs - ex (fun j => r (σ j)) (fun L => F (c :: L)) cs = r (σ c) * G (cs.map σ) - ex r (fun L => G (σ c :: L)) (cs.map σ)
    rw [h cs, ex_place (F := fun L => F (c :: L)) (G := fun L => G (σ c :: L)) fun L => h (c :: L)]
theorem det_place {σ : Nat → Nat} : ∀ {rs : List (Nat → R)} {L : List Nat}, det (rs.map fun r j => r (σ j)) L = det rs (L.map σ)
  | [], L => by
    show (if L = [] then (1 : R) else 0) = if L.map σ = [] then 1 else 0
    cases L <;> rfl
  | r :: rs, L => ex_place fun L => det_place (rs := rs)
theorem det_congr {A B : Nat → Nat → R} : ∀ {I J : List Nat}, (∀ i ∈ I, ∀ c ∈ J, A i c = B i c) → det (I.map A) J = det (I.map B) J
  | [], _, _ => rfl
  | i :: I, J, h => ex_congr (fun c hc => h i List.mem_cons_self c hc) fun L hL => det_congr fun k hk c hc => h k (List.mem_cons_of_mem _ hk) c (hL c hc)
theorem det_at (B : Nat → Nat → R) {I J : List Nat} (h : I.length = J.length) : det (rl (fun i j => B (I.getD i 0) (J.getD j 0)) I.length) (cl I.length) = det (I.reverse.map B) J.reverse := by
  have e1 : rl (fun i j => B (I.getD i 0) (J.getD j 0)) I.length = (I.reverse.map B).map fun r j => r (J.getD j 0) := by
    rw [rl_cl, ← cl_getD I 0, List.map_map, List.map_map]; rfl
  rw [e1, det_place, h, cl_getD]
end
theorem prod_ne : ∀ {l : List Rat}, (∀ x ∈ l, x ≠ 0) → l.foldr (· * ·) 1 ≠ 0
  | [], _ => by decide
  | x :: l, h => by
    show x * l.foldr (· * ·) 1 ≠ 0
    intro z
    rcases Rat.mul_eq_zero.mp z with e | e
    · exact h x List.mem_cons_self e
    · exact prod_ne (fun y hy => h y (List.mem_cons_of_mem _ hy)) e
/-- what the law's own numbers say is what the program's table says -/
theorem same_answer {S N : Nat → Nat → Int} {T : Nat → Nat → Rat} {f : Nat → Int} {m n : Nat} {I J : List Nat} (hF : Fil S T) (hS : Stc n S) (n1 : 1 ≤ n) (cI : Cho I m) (cJ : Cho J n) (hl : I.length = J.length)
    (hN : ∀ i < m, 0 < f i ∧ ∀ c < n, (N i c : Rat) = (f i : Rat) * Th n T (m * n) i c) :
    det (rl (fun i j => ThI n S (m * n) (I.getD i 0) (J.getD j 0)) I.length) (cl I.length) ≠ 0 ↔ DD N I J.reverse ≠ 0 := by
  have hI : ∀ i ∈ I.reverse, i < m := fun i hi => cI.lt i (List.mem_reverse.mp hi)
  have hJ : ∀ c ∈ J.reverse, c < n := fun c hc => cJ.lt c (List.mem_reverse.mp hc)
  have fI : Fall I.reverse := List.pairwise_reverse.mpr cI.up
  have fJ : Fall J.reverse := List.pairwise_reverse.mpr cJ.up
  rw [det_at _ hl]
  have e1 : det (I.reverse.map (Ck n (castT S) m)) J.reverse = ((det (I.reverse.map (ThI n S (m * n))) J.reverse : Int) : Rat) := by
    rw [← det_cast, List.map_map]
    refine det_congr fun i hi c hc => ?_
    show _ = ((ThI n S (m * n) i c : Int) : Rat)
    rw [ThI_cast (by omega) hS.h01 _ _ _ (hJ c hc), Th_all _ (hI i hi) (hJ c hc)]
  have e2 : ((DD N I J.reverse : Int) : Rat) = ((I.reverse.map fun i => (f i : Rat)).foldr (· * ·) 1) * det (I.reverse.map (Ck n T m)) J.reverse := by
    rw [← det_cast, List.map_map]
    have e3 := det_scale (l := I.reverse.map fun i => ((f i : Rat), Ck n T m i)) (J := J.reverse)
    rw [List.map_map, List.map_map, List.map_map] at e3
    rw [show I.reverse.map (Ck n T m) = I.reverse.map (Prod.snd ∘ fun i => ((f i : Rat), Ck n T m i)) from rfl, show (I.reverse.map fun i => (f i : Rat)) = I.reverse.map (Prod.fst ∘ fun i => ((f i : Rat), Ck n T m i)) from rfl, ← e3]
    refine det_congr fun i hi c hc => ?_
    show ((N i c : Int) : Rat) = (f i : Rat) * Ck n T m i c
    rw [(hN i (hI i hi)).2 c (hJ c hc), Th_all _ (hI i hi) (hJ c hc)]
  have pn : (I.reverse.map fun i => (f i : Rat)).foldr (· * ·) 1 ≠ 0 := prod_ne fun x hx => by
    obtain ⟨i, hi, rfl⟩ := List.mem_map.mp hx
    intro z
    have := Rat.intCast_eq_zero_iff.mp z
    have := (hN i (hI i hi)).1
    omega
  obtain ⟨-, -, li⟩ := alike_Ck (two_of hF hS) m I.reverse J.reverse fI hI fJ
  refine not_congr ?_
  rw [← Rat.intCast_eq_zero_iff, ← e1, li, ← Rat.intCast_eq_zero_iff (a := DD N I J.reverse), e2]
  constructor
  · intro z
    rw [z]; grind
  · intro z
    rcases Rat.mul_eq_zero.mp z with e | e
    · exact absurd e pn
    · exact e
/-! ### the mask of a list is a sum -/
theorem msk_sum : ∀ {l : List Nat}, Fall l → (l.map (2 ^ ·)).sum = msk l
  | [], _ => rfl
  | c :: l, h => by
    obtain ⟨h1, h2⟩ := List.pairwise_cons.mp h
    have hlt : msk l < 2 ^ c := msk_lt fun d hd => h1 d hd
    rw [List.map_cons, List.sum_cons, msk_sum h2]
    show 2 ^ c + msk l = msk l ||| 1 <<< c
    rw [Nat.shiftLeft_eq, Nat.one_mul]
    have := Nat.two_pow_add_eq_or_of_lt hlt 1
    rw [Nat.mul_one] at this
    rw [this, Nat.or_comm]
theorem sum_msk {J : List Nat} (h : J.Pairwise (· < ·)) : (J.map (2 ^ ·)).sum = msk J.reverse := by
  rw [← msk_sum (List.pairwise_reverse.mpr h), List.map_reverse, List.sum_reverse]
end Smo

set_option Elab.async false
set_option linter.all false
set_option maxRecDepth 100000
set_option maxHeartbeats 4000000
set_option exponentiation.threshold 100000
namespace Smo
open PySem PySem.Spec PyProof.Rows L2
local macro_rules | `(tactic| walk_at "zz") => `(tactic| ((try dsimp only); repeat (first | refine ZS.go ?_ | refine And.intro (rfl : wipe _ _ = wipe _ _) ?_)))
/-! ### a table, seen as data -/
section
variable {K : PySem.W.Frag} {H : Hp}
abbrev dInts (ns : List Int) : PyData := .list (ns.map PyData.int)
theorem lays_ints : ∀ ns : List Int, PyData.canLayAll0 (ns.map PyData.int) = true ∧ PyData.depthAll (ns.map PyData.int) = 0 ∧ PyData.eqvAll (ns.map PyData.int) (ns.map PyData.int) = true
  | [] => ⟨rfl, rfl, by simp [PyData.eqvAll]⟩
  | a :: r => by
    obtain ⟨h1, h2, h3⟩ := lays_ints r
    exact ⟨by simp [PyData.canLayAll0, PyData.canLay0, h1], by simp [PyData.depthAll, PyData.depth, h2], by simp [PyData.eqvAll, PyData.eqv, h3]⟩
theorem lays_rows : ∀ rs : List (List Int), PyData.canLayAll0 (rs.map dInts) = true ∧ PyData.depthAll (rs.map dInts) ≤ 1 ∧ PyData.eqvAll (rs.map dInts) (rs.map dInts) = true
  | [] => ⟨rfl, by simp [PyData.depthAll], by simp [PyData.eqvAll]⟩
  | a :: r => by
    obtain ⟨h1, h2, h3⟩ := lays_rows r
    obtain ⟨g1, g2, g3⟩ := lays_ints a
    refine ⟨by simp [PyData.canLayAll0, PyData.canLay0, h1, g1], ?_, by simp [PyData.eqvAll, PyData.eqv, h3, g3]⟩
    simp only [List.map_cons, PyData.depthAll, PyData.depth, g2]
    omega
abbrev dAsk (rs : List (List Int)) (I J : List Int) : PyData := .list [.list (rs.map dInts), dInts I, dInts J]
theorem ask_shaped (rs : List (List Int)) (I J : List Int) : SeqAt.shaped (dAsk rs I J) = true ∧ PyData.eqv (dAsk rs I J) (dAsk rs I J) = true := by
  obtain ⟨h1, h2, h3⟩ := lays_rows rs
  obtain ⟨g1, g2, g3⟩ := lays_ints I
  obtain ⟨k1, k2, k3⟩ := lays_ints J
  refine ⟨?_, ?_⟩
  · simp only [SeqAt.shaped, PyData.canLay0, PyData.canLayAll0, PyData.depth, PyData.depthAll, h1, g1, k1, g2, k2, Bool.true_and, Bool.and_true, decide_eq_true_eq]
    omega
  · simp [PyData.eqv, PyData.eqvAll, h3, g3, k3]
theorem dp_ints : ∀ ns : List Int, DpAll K H (ns.map V.int) (ns.map PyData.int)
  | [] => .nil
  | a :: r => .cons (.int a) (dp_ints r)
theorem dp_lst {a : Addr} {ns : List Int} (h : H a = some (.lst (ns.map V.int))) : Dp K H (.ref a) (dInts ns) := .lst (SqL.of h) (dp_ints ns)
theorem dp_rows {f : Nat → List Int} : ∀ {as : List Addr} (k : Nat), (∀ i a, as[i]? = some a → H a = some (.lst ((f (k + i)).map V.int))) → DpAll K H (as.map V.ref) ((List.range' k as.length).map fun i => dInts (f i))
  | [], _, _ => .nil
  | a :: r, k, h => by
    refine .cons (dp_lst (by simpa using h 0 a rfl)) (dp_rows (k + 1) fun i b hb => ?_)
    have := h (i + 1) b hb
    rwa [show k + (i + 1) = k + 1 + i by omega] at this
abbrev rowsI (m n : Nat) (S : Nat → Nat → Int) : List (List Int) := (List.range' 0 m).map fun i => (List.range n).map (S i)
theorem dp_mt {p : Addr} {m n : Nat} {S : Nat → Nat → Int} (h : Mt Ci H p m n S) : Dp K H (.ref p) (.list ((rowsI m n S).map dInts)) := by
  obtain ⟨as, h1, h2, h3⟩ := h
  have := dp_rows (K := K) (H := H) (f := fun i => (List.range n).map (S i)) (as := as) 0 fun i a ha => by
    rw [Nat.zero_add]; exact (h3 i a ha).ints
  rw [h2] at this
  refine .lst (SqL.of h1) ?_
  rw [List.map_map]; exact this
abbrev intI (I : List Nat) : List Int := I.map fun (k : Nat) => (k : Int)
theorem natV_int (I : List Nat) : natV I = (intI I).map V.int := by unfold natV intI; rw [List.map_map]; rfl
theorem dp_nat {a : Addr} {I : List Nat} (h : H a = some (.lst (natV I))) : Dp K H (.ref a) (dInts (intI I)) := dp_lst (by rw [← natV_int]; exact h)
end
theorem sum_cast : ∀ J : List Nat, (J.map fun (c : Nat) => (((2 ^ c : Nat) : Int))).sum = (((J.map (2 ^ ·)).sum : Nat) : Int)
  | [] => rfl
  | c :: J => by
    rw [List.map_cons, List.sum_cons, sum_cast J, List.map_cons, List.sum_cons]; omega
/-- what the dicts are to say -/
def Good (m n : Nat) (S N : Nat → Nat → Int) : Prop := ∀ I J, Cho I m → Cho J n → I.length = J.length →
  (det (rl (fun i j => ThI n S (m * n) (I.getD i 0) (J.getD j 0)) I.length) (cl I.length) ≠ 0 ↔ DD N I J.reverse ≠ 0)
theorem Mins.get {H : Hp} {d tp : Addr} {m n : Nat} {N : Nat → Nat → Int} {I J : List Nat} (h : Mins H d m n N) (cI : Cho I m) (cJ : Cho J n) (hl : I.length = J.length) (ht : H tp = some (.tup (natV I))) :
    ∃ e, DGet H d (.ref tp) (some (.ref e)) ∧ DGet H e (.int ((msk J.reverse : Nat) : Int)) (some (.int (DD N I J.reverse))) := by
  obtain ⟨kvs, h1, h2, h3⟩ := h
  obtain ⟨v, hv⟩ := h3 I ⟨cI.up, cI.lt, by rw [hl]; exact cJ.len⟩
  obtain ⟨I', e, es, eI, rfl, -, he, hL⟩ := h2 _ _ hv
  have eI := keyI_inj eI
  subst eI
  have fJ : Fall J.reverse := List.pairwise_reverse.mpr cJ.up
  have lJ : ∀ c ∈ J.reverse, c < n := fun c hc => cJ.lt c (List.mem_reverse.mp hc)
  have hb := bd_msk fJ lJ
  have hval := hL.val (msk J.reverse) (msk_lt lJ) (by rw [hb, List.length_reverse, hl])
  rw [hb] at hval
  refine ⟨e, ?_, ?_⟩
  · rw [← hv]; exact DGet.t h1 (by rw [keyI_kV]; exact ht)
  · rw [← hval]; exact DGet.k (k := .inl _) he
def sp__law_asked : Sp := fun vs H Q _ => ∃ (p d1 d2 t : Addr) (x y m n : Nat) (S N1 N2 : Nat → Nat → Int), vs = [.ref p, .ref d1, .ref d2, .ref t] ∧ Mt Ci H p m n S ∧ 1 ≤ m ∧ m ≤ 7 ∧ 1 ≤ n ∧ n ≤ 7 ∧ Mks m n S ∧ Mins H d1 m n N1 ∧ Mins H d2 m n N2 ∧
  Good m n S N1 ∧ Good m n S N2 ∧ H t = some (.tup [.int (x : Nat), .int (y : Nat)]) ∧ 1 ≤ x ∧ x < 2 ^ m ∧ 1 ≤ y ∧ y < 2 ^ n ∧ ∀ H', Same H H' → Q (.bl true) H'
abbrev N__law_asked : List Str := ["_law_marks", "_law_one", "_law_other", "_law_masks_here", "_law_rows_here", "_law_columns", "_law_handed", "_law_found", "_law_mask", "_law_row", "_law_column"]
theorem sc__law_asked : FnScope N__law_asked ["_law_marks", "_law_one", "_law_other", "_law_masks_here"] (defScope (topS 59)) := ⟨rfl, rfl, rfl, by decide +kernel, rfl, by decide +kernel, by decide +kernel⟩
/-- _law_asked: 0 _law_marks, 1 _law_one, 2 _law_other, 3 _law_masks_here, 4 _law_rows_here, 5 _law_columns, 6 _law_handed, 7 _law_found, 8 _law_mask, 9 _law_row, 10 _law_column -/
theorem ok__law_asked {P : Program} {w : World} {K : PySem.W.Frag} {mg : Str → Option Value} {base : Heap} (W : Wd K mg) (h__law_cut : Has P w K mg base "_law_cut" 1 ["_law_mask", "_law_most"] sp__law_cut) (h_stands : Has P w K mg base "stands" 8 ["marks", "rows", "columns"] sp_stands) : Has P w K mg base "_law_asked" 9 ["_law_marks", "_law_one", "_law_other", "_law_masks_here"] sp__law_asked := by
  have f_bool : mg "bool" = none := W.free 50 "bool" rfl
  have f_isinstance : mg "isinstance" = none := W.free 53 "isinstance" rfl
  have f_len : mg "len" = none := W.free 54 "len" rfl
  have f_list : mg "list" = none := W.free 55 "list" rfl
  have f_sum : mg "sum" = none := W.free 58 "sum" rfl
  have f_tuple : mg "tuple" = none := W.free 59 "tuple" rfl
  refine has_of W 44 59 rfl rfl sc__law_asked (fun _ _ _ _ _ _ us hl => match us, hl with | [_, _, _, _], _ => rfl) (fun vs H Q E h => ?_) (fun f cdv A outer s H vs Q E hr h => ?_)
  · obtain ⟨p, d1, d2, t, x, y, m, n, S, N1, N2, rfl, hM, m1, m7, n1, n7, hS, hd1, hd2, g1, g2, ht, x1, xm, y1, yn, q⟩ := h; rfl
  · obtain ⟨p, d1, d2, t, x, y, m, n, S, N1, N2, rfl, hM, m1, m7, n1, n7, hS, hd1, hd2, g1, g2, ht, x1, xm, y1, yn, q⟩ := h
    have nd := sc__law_asked.nd
    have hu := hu_of hr
    refine ⟨_, (pss_cons (ps_set (i := 4) nd rfl (by first | exact Or.inl rfl | exact Or.inr rfl) (pe_has h__law_cut (hr.mono (by decide)) (pa_cons (pe_ix (ix_tupK (K := K)) (pv 3) pe_int (fun _ _ => rfl)) (pa_cons pe_int pa_nil))))
      (pss_cons (ps_set (i := 5) nd rfl (by first | exact Or.inl rfl | exact Or.inr rfl) (pe_has h__law_cut (hr.mono (by decide)) (pa_cons (pe_ix (ix_tupK (K := K)) (pv 3) pe_int (fun _ _ => rfl)) (pa_cons (pe_callB (call_lenK (K := K)) (by rfl) f_len PySem.boot_len (pa_cons (pv 4) pa_nil)) pa_nil))))
      (pss_cons (ps_set (i := 4) nd rfl (by first | exact Or.inl rfl | exact Or.inr rfl) (pe_slice (sl_listK (K := K)) (pv 4) po_none (po_some (pe_callB (call_lenK (K := K)) (by rfl) f_len PySem.boot_len (pa_cons (pv 5) pa_nil)))))
      (pss_cons (ps_set (i := 6) nd rfl (by first | exact Or.inl rfl | exact Or.inr rfl) (pe_lst (pa_cons (pe_lc (own := [("_law_row", 9)]) (g := gName 9) (tt := tYes) rfl nd (pi_listK (K := K) (pv 0)) (blkOk_by (N := N__law_asked) (sc := (defScope (topS 59))) (by decide +kernel)) (fun _ _ _ _ _ => (pg_name (i := 9) nd rfl (by first | exact Or.inl rfl | exact Or.inr rfl))) (fun _ _ _ _ _ => pts_nil) (fun _ _ _ _ _ => (pe_callTy (call_listK (K := K)) (by rfl) f_list (by decide +kernel) (pa_cons (pv 9) pa_nil)))) (pa_cons (pe_callTy (call_listK (K := K)) (by rfl) f_list (by decide +kernel) (pa_cons (pv 4) pa_nil)) (pa_cons (pe_callTy (call_listK (K := K)) (by rfl) f_list (by decide +kernel) (pa_cons (pv 5) pa_nil)) pa_nil)))))
      (pss_cons (ps_set (i := 7) nd rfl (by first | exact Or.inl rfl | exact Or.inr rfl) (pe_has h_stands (hr.mono (by decide)) (pa_cons (pe_ix (ix_listK (K := K)) (pv 6) pe_int (fun _ _ => rfl)) (pa_cons (pe_ix (ix_listK (K := K)) (pv 6) pe_int (fun _ _ => rfl)) (pa_cons (pe_ix (ix_listK (K := K)) (pv 6) pe_int (fun _ _ => rfl)) pa_nil)))))
      (pss_cons (ps_if (PW.pt (pw_or (pt_not (pt_val (pe_callB (call_isK1 (K := K)) (by rfl) f_isinstance (by decide +kernel) (pa_cons (pv 7) (pa_cons (pe_bltn (v := .ty "bool") (by rfl) f_bool (by decide +kernel) rfl) pa_nil))))) (pw_or1 (pt_cmpR (op_neDK (K := K) hr.units) (pv 6) (pe_lst (pa_cons (pv 0) (pa_cons (pv 4) (pa_cons (pv 5) pa_nil)))) (nomark _))))) (pss_one (ps_ret pe_bl)) pss_nil)
      (pss_cons (ps_set (i := 8) nd rfl (by first | exact Or.inl rfl | exact Or.inr rfl) (pe_callB (cr_sumK (K := K) rfl) (by rfl) f_sum (by decide +kernel) (pa_cons (pe_lc (own := [("_law_column", 10)]) (g := gName 10) (tt := tYes) rfl nd (pi_listK (K := K) (pv 5)) (blkOk_by (N := N__law_asked) (sc := (defScope (topS 59))) (by decide +kernel)) (fun _ _ _ _ _ => (pg_name (i := 10) nd rfl (by first | exact Or.inl rfl | exact Or.inr rfl))) (fun _ _ _ _ _ => pts_nil) (fun _ _ _ _ _ => (pe_op op_oneShl pe_int (pv 10)))) pa_nil)))
      (pss_one (ps_ret (pe_and (pe_cmpR op_eq (pv 7) (pe_cmpR op_ne (pe_dget hu (pe_dget hu (pv 1) (pe_callTy (call_tupleK (K := K)) (by rfl) f_tuple (by decide +kernel) (pa_cons (pv 4) pa_nil)) (fun _ _ => rfl)) (pv 8) (fun _ _ => rfl)) pe_int (nomark _)) (nomark _)) (pe_one (pe_cmpR op_eq (pv 7) (pe_cmpR op_ne (pe_dget hu (pe_dget hu (pv 2) (pe_callTy (call_tupleK (K := K)) (by rfl) f_tuple (by decide +kernel) (pa_cons (pv 4) pa_nil)) (fun _ _ => rfl)) (pv 8) (fun _ _ => rfl)) pe_int (nomark _)) (nomark _))))))))))))), ?_⟩
    refine z_start (σ' := [some _, some _, some _, some _, none, none, none, none, none, none, none]) (by rfl) ?_
    walk_at "zz"
    refine z_ixT ht (atI_nat (j := 0) rfl) ?_
    walk_at "zz"
    refine ⟨x, 7, m, rfl, x1, xm, m7, by decide, fun a I0 H1 s1 ha cI0 lI0 => ?_⟩
    walk_at "zz"
    refine z_ixT (s1 _ _ ht) (atI_nat (j := 1) rfl) ?_
    walk_at "zz"
    refine z_len ha ?_
    rw [natV_len]
    walk_at "zz"
    have lI1 := List.length_pos_iff.mpr cI0.ne
    refine ⟨y, I0.length, n, rfl, y1, yn, n7, lI1, fun b J H2 s2 hb cJ lJ => ?_⟩
    have lJ1 := List.length_pos_iff.mpr cJ.ne
    walk_at "zz"
    refine z_len hb ?_
    rw [natV_len]
    walk_at "zz"
    refine z_slice (s2 _ _ ha) fun e ne => ?_
    rw [cut_to _ _ (by rw [natV_len]; exact lJ), show (natV I0).take J.length = natV (I0.take J.length) by unfold natV; rw [List.map_take]]
    have cI := cI0.take lJ1
    have eIJ : (I0.take J.length).length = J.length := by rw [List.length_take]; omega
    generalize I0.take J.length = I at cI eIJ
    have s3 := same_upd (o := .lst (natV I)) ne
    have s13 := s1.trans (s2.trans s3)
    obtain ⟨as, h1, h2, h3⟩ := hM.up Ci.up s13
    have hM3 := hM.up Ci.up s13
    have he3 : (upd H2 e (.lst (natV I))) e = some (.lst (natV I)) := upd_same
    have hb3 := s3 _ _ hb
    generalize (upd H2 e (.lst (natV I))) = H3 at s13 h1 h3 hM3 he3 hb3
    clear s3 ne s1 s2 ha hb
    walk_at "zz"
    refine z_mapN h1 (by simp; omega) (fun i a H4 => Rw Ci H4 a n (S i)) (fun i a H H' e h => h.up Ci.up e) (fun D i x H4 ys hx s hD nD R hR => ?_) (fun D H4 bs s nD hD hl nd np na hbs => ?_)
    · obtain ⟨a, ha, rfl⟩ := ref_of hx
      obtain ⟨vs, k1, k2, k3⟩ := (h3 i a ha).up Ci.up s
      walk_at "zz"
      refine ⟨a, vs, rfl, .inl (SqL.of k1), fun l nl => ?_⟩
      refine hR l _ (same_upd nl) nl (by rw [upd_same]; exact fun z => by cases z) ?_
      have lD : l ≠ D := fun e => by rw [e, hD] at nl; cases nl
      exact ⟨vs, by rw [hide_ne lD, upd_same], k2, k3⟩
    · have g : Grid Ci H3 H4 D bs m n S := grid_of Ci.up s nD hD (by rw [hl]; simp [h2]) nd np na hbs
      have hMD := g.mt
      clear hl nd np na hbs nD g
      walk_at "zz"
      refine ⟨e, _, rfl, .inl (SqL.of (s _ _ he3)), fun ia nia => ?_⟩
      have s4 := same_upd (o := .lst (natV I)) nia
      walk_at "zz"
      refine ⟨b, _, rfl, .inl (SqL.of ((s.trans s4) _ _ hb3)), fun ja nja => ?_⟩
      have s5 := same_upd (o := .lst (natV J)) nja
      walk_at "zz"
      refine ⟨by show 3 ≤ sizeLine; decide, fun hd nhd => ?_⟩
      have s6 := same_upd (o := .lst [.ref D, .ref ia, .ref ja]) nhd
      have hia := (s5.trans s6) _ _ (upd_same (a := ia) (o := HO.lst (natV I)))
      have hja := s6 _ _ (upd_same (a := ja) (o := HO.lst (natV J)))
      have hM6 := hMD.up Ci.up (s4.trans (s5.trans s6))
      have hhd : (upd (upd (upd H4 ia (.lst (natV I))) ja (.lst (natV J))) hd (.lst [.ref D, .ref ia, .ref ja])) hd = some (.lst [.ref D, .ref ia, .ref ja]) := upd_same
      have sA := s.trans (s4.trans (s5.trans s6))
      generalize (upd (upd (upd H4 ia (.lst (natV I))) ja (.lst (natV J))) hd (.lst [.ref D, .ref ia, .ref ja])) = H5 at hia hja hM6 hhd sA
      walk_at "zz"
      refine z_ixL hhd (atI_nat (j := 0) rfl) ?_
      walk_at "zz"
      refine z_ixL hhd (atI_nat (j := 1) rfl) ?_
      walk_at "zz"
      refine z_ixL hhd (atI_nat (j := 2) rfl) ?_
      walk_at "zz"
      refine ⟨D, ia, ja, m, n, S, I, J, rfl, hM6, m1, m7, n1, n7, hS, hia, hja, cI, cJ, eIJ, fun r H6 s7 hr => ?_⟩
      walk_at "zz"
      refine isi_ty (a := "bool") (b := "bool") (.base (.bl r)) (r := true) (by decide +kernel) ?_
      walk_at "zz"
      refine ⟨by show 3 ≤ sizeLine; decide, fun qd nqd => ?_⟩
      have s8 := same_upd (o := .lst [.ref p, .ref e, .ref b]) nqd
      have sB := s13.trans (sA.trans s7)
      have sC := sA.trans (s7.trans s8)
      obtain ⟨as1, as2⟩ := ask_shaped (rowsI m n S) (intI I) (intI J)
      refine ⟨_, _, .lst (SqL.of ((s7.trans s8) _ _ hhd)) (.cons (dp_mt (hM6.up Ci.up (s7.trans s8))) (.cons (dp_nat ((s7.trans s8) _ _ hia)) (.cons (dp_nat ((s7.trans s8) _ _ hja)) .nil))),
        .lst (SqL.of upd_same) (.cons (dp_mt (hM3.up Ci.up sC)) (.cons (dp_nat (sC _ _ he3)) (.cons (dp_nat (sC _ _ hb3)) .nil))), as1, as1, ?_⟩
      rw [as2]
      have he8 := sC _ _ he3
      have hb8 := sC _ _ hb3
      have sD := sB.trans s8
      generalize (upd H6 qd (.lst [.ref p, .ref e, .ref b])) = H8 at he8 hb8 sD
      walk_at "zz"
      refine z_mapL hb8 (by rw [natV_len]; have := cJ.len; omega) (fun i v _ => ∃ c, J[i]? = some c ∧ v = .int ((2 ^ c : Nat) : Int)) (fun _ _ _ _ _ h => h) (fun D i x H9 ys hx s hD nD R hR => ?_) (fun D H9 ys s nD hD hl hys => ?_)
      · obtain ⟨c, hc, rfl⟩ := nats_at hx
        have := cJ.lt c (List.mem_of_getElem? hc)
        walk_at "zz"
        refine ⟨c, rfl, rfl, by omega, ?_⟩
        rw [cast_pow2]
        exact hR _ _ (Same.refl _) ⟨c, hc, rfl⟩
      · have eys : ys = (J.map fun (c : Nat) => (((2 ^ c : Nat) : Int))).map V.int := by
          apply List.ext_getElem?
          intro i
          rw [List.getElem?_map, List.getElem?_map]
          rw [natV_len] at hl
          by_cases hi : i < ys.length
          · obtain ⟨v, hv⟩ := get_of_lt hi
            obtain ⟨c, hc, rfl⟩ := hys i v hv
            rw [hv, hc]; rfl
          · rw [List.getElem?_eq_none (by omega), List.getElem?_eq_none (by omega)]; rfl
        subst eys
        walk_at "zz"
        refine ⟨D, _, rfl, SqL.of hD, ?_⟩
        rw [sum_cast, sum_msk cJ.up]
        walk_at "zz"
        refine ⟨e, _, rfl, .inl ⟨SqL.of (s _ _ he8), fun tp ntp => ?_⟩⟩
        have s9 := s.trans (same_upd (o := .tup (natV I)) ntp)
        have sE := sD.trans s9
        obtain ⟨e1, ga1, gb1⟩ := (hd1.up sE).get cI cJ eIJ upd_same
        walk_at "zz"
        refine ⟨d1, _, rfl, ga1, ?_⟩
        walk_at "zz"
        refine ⟨e1, _, rfl, gb1, ?_⟩
        walk_at "zz"
        have ok : ∀ N, Good m n S N → (r == decide (DD N I J.reverse ≠ 0)) = true := fun N g => by
          have := hr.trans (g I J cI cJ eIJ)
          cases r
          · have h : ¬ DD N I J.reverse ≠ 0 := fun z => by have := this.mpr z; cases this
            rw [decide_eq_false h]; rfl
          · rw [decide_eq_true (this.mp rfl)]; rfl
        rw [ok N1 g1]
        have sF := sE
        walk_at "zz"
        refine ⟨e, _, rfl, .inl ⟨SqL.of (s9 _ _ he8), fun tp2 ntp2 => ?_⟩⟩
        have sG := sF.trans (same_upd (o := .tup (natV I)) ntp2)
        obtain ⟨e2, ga2, gb2⟩ := (hd2.up sG).get cI cJ eIJ upd_same
        walk_at "zz"
        refine ⟨d2, _, rfl, ga2, ?_⟩
        walk_at "zz"
        refine ⟨e2, _, rfl, gb2, ?_⟩
        walk_at "zz"
        rw [ok N2 g2]
        walk_at "zz"
        exact q _ sG
end Smo

set_option Elab.async false
set_option linter.all false
set_option maxRecDepth 100000
set_option maxHeartbeats 4000000
set_option exponentiation.threshold 100000
namespace Smo
open PySem PySem.Spec PyProof.Rows L2
local macro_rules | `(tactic| walk_at "zz") => `(tactic| ((try dsimp only); repeat (first | refine ZS.go ?_ | refine And.intro (rfl : wipe _ _ = wipe _ _) ?_)))
theorem same_seqL {K : PySem.W.Frag} {H H' : Hp} {a : Addr} {xs : List V} (e : Same H H') (h : SqL K H a xs) : SqL K H' a xs := by
  rcases h with (h | ⟨o, h⟩) | h
  · exact .inl (.inl (e _ _ h))
  · exact .inl (.inr ⟨o, e _ _ h⟩)
  · exact .inr h
def AllI (xs : List V) : Prop := ∀ x ∈ xs, ∃ z : Int, x = .int z
theorem AllI.cut {xs : List V} (h : AllI xs) (lo hi : Option Int) : AllI (cutV xs lo hi) ∧ (cutV xs lo hi).length ≤ xs.length := by
  unfold cutV
  refine ⟨fun x hx => h x (List.mem_of_mem_drop (List.mem_of_mem_take hx)), ?_⟩
  rw [List.length_take, List.length_drop]
  omega
def sp_law (K : PySem.W.Frag) : Sp := fun vs H Q _ => ∃ (a : Addr) (ns : List Int), vs = [.ref a] ∧ SqL K H a (ns.map V.int) ∧ ns.length ≤ 63 ∧ ∀ H', Q (.bl true) H'
abbrev N_law : List Str := ["_law_script", "_law_many", "_law_wide", "_law_marks", "_law_one", "_law_other", "_law_cells", "_law_cell_here", "_law_masks_here"]
theorem sc_law : FnScope N_law ["_law_script"] (defScope (topS 60)) := ⟨rfl, rfl, rfl, by decide +kernel, rfl, by decide +kernel, by decide +kernel⟩
theorem ok_law {P : Program} {w : World} {K : PySem.W.Frag} {mg : Str → Option Value} {base : Heap} {f : Addr} {fd : FuncData} (W : Wd K mg) (h__law_size : Has P w K mg base "_law_size" 2 ["_law_cell_here"] sp__law_size) (h__law_cell : Has P w K mg base "_law_cell" 1 ["_law_script", "_law_k"] (sp__law_cell K)) (h__law_stair : Has P w K mg base "_law_stair" 2 ["_law_cell_here", "_law_many", "_law_wide"] sp__law_stair) (h__law_minors : Has P w K mg base "_law_minors" 1 ["_law_rows_here"] sp__law_minors) (h__law_rows : Has P w K mg base "_law_rows" 2 ["_law_table"] sp__law_rows) (h__law_thick : Has P w K mg base "_law_thick" 5 ["_law_table"] sp__law_thick) (h__law_numbered : Has P w K mg base "_law_numbered" 3 ["_law_marks", "_law_cell_here"] sp__law_numbered) (h__law_masks : Has P w K mg base "_law_masks" 2 ["_law_cell_here", "_law_many", "_law_wide"] sp__law_masks) (h__law_asked : Has P w K mg base "_law_asked" 9 ["_law_marks", "_law_one", "_law_other", "_law_masks_here"] sp__law_asked) (F : FunD K "law" "law" (defArgs (topS 60)) (defBody (topS 60)) (defScope (topS 60)) [] [] f fd) : FnOk P w K mg base CX0 10 f fd ["_law_script"] (sp_law K) := by
  refine F.ok sc_law (fun vs H Q E h => ?_) (fun cdv A outer s H vs Q E hr h => ?_)
  · obtain ⟨a, ns, rfl, hS, hn, q⟩ := h; rfl
  · obtain ⟨a, ns, rfl, hS, hn, q⟩ := h
    have nd := sc_law.nd
    refine ⟨_, PSs.nox (pss_cons (ps_asg (pe_has h__law_size (hr.mono (by decide)) (pa_cons (pe_has h__law_cell (hr.mono (by decide)) (pa_cons (pv 0) (pa_cons pe_int pa_nil))) pa_nil)) (pg_tup (n := 2) rfl (pgs_cons (pg_name (i := 1) nd rfl (by first | exact Or.inl rfl | exact Or.inr rfl)) (pgs_cons (pg_name (i := 2) nd rfl (by first | exact Or.inl rfl | exact Or.inr rfl)) pgs_nil))))
      (pss_cons (ps_set (i := 3) nd rfl (by first | exact Or.inl rfl | exact Or.inr rfl) (pe_has h__law_stair (hr.mono (by decide)) (pa_cons (pe_has h__law_cell (hr.mono (by decide)) (pa_cons (pv 0) (pa_cons pe_int pa_nil))) (pa_cons (pv 1) (pa_cons (pv 2) pa_nil)))))
      (pss_cons (ps_set (i := 4) nd rfl (by first | exact Or.inl rfl | exact Or.inr rfl) (pe_has h__law_minors (hr.mono (by decide)) (pa_cons (pe_ix (ix_tupK (K := K)) (pe_has h__law_rows (hr.mono (by decide)) (pa_cons (pe_has h__law_thick (hr.mono (by decide)) (pa_cons (pe_has h__law_numbered (hr.mono (by decide)) (pa_cons (pv 3) (pa_cons (pe_has h__law_cell (hr.mono (by decide)) (pa_cons (pv 0) (pa_cons pe_int pa_nil))) pa_nil))) pa_nil)) pa_nil)) pe_int (fun _ _ => rfl)) pa_nil)))
      (pss_cons (ps_set (i := 5) nd rfl (by first | exact Or.inl rfl | exact Or.inr rfl) (pe_has h__law_minors (hr.mono (by decide)) (pa_cons (pe_ix (ix_tupK (K := K)) (pe_has h__law_rows (hr.mono (by decide)) (pa_cons (pe_has h__law_thick (hr.mono (by decide)) (pa_cons (pe_has h__law_numbered (hr.mono (by decide)) (pa_cons (pv 3) (pa_cons (pe_has h__law_cell (hr.mono (by decide)) (pa_cons (pv 0) (pa_cons pe_int pa_nil))) pa_nil))) pa_nil)) pa_nil)) pe_int (fun _ _ => rfl)) pa_nil)))
      (pss_cons (ps_set (i := 6) nd rfl (by first | exact Or.inl rfl | exact Or.inr rfl) (pe_op op_cat (pe_lst (pa_cons (pe_has h__law_cell (hr.mono (by decide)) (pa_cons (pv 0) (pa_cons pe_int pa_nil))) pa_nil)) (pe_slice (sl_listK (K := K)) (pv 0) (po_some pe_int) (po_some pe_int))))
      (Evl.pss_cut (ps_if (PW.pt (pw_and (pt_cmpR op_lt (pv 1) pe_int (nomark _)) (pw_and1 (pt_cmpR op_lt (pv 2) pe_int (nomark _))))) (pss_one (ps_set (i := 6) nd rfl (by first | exact Or.inl rfl | exact Or.inr rfl) (pe_slice (sl_listK (K := K)) (pv 6) po_none (po_some pe_int)))) pss_nil)
      (pss_cons (ps_for PassesOwn.never rfl (pi_listK (K := K) (pv 6)) (pg_name (i := 7) nd rfl (by first | exact Or.inl rfl | exact Or.inr rfl)) (pss_one (ps_for PassesOwn.never rfl (pi_listK (K := K) (pe_has h__law_masks (hr.mono (by decide)) (pa_cons (pv 7) (pa_cons (pv 1) (pa_cons (pv 2) pa_nil))))) (pg_name (i := 8) nd rfl (by first | exact Or.inl rfl | exact Or.inr rfl)) (pss_one (ps_if (pt_not (pt_val (pe_has h__law_asked (hr.mono (by decide)) (pa_cons (pv 3) (pa_cons (pv 4) (pa_cons (pv 5) (pa_cons (pv 8) pa_nil))))))) (pss_one (ps_ret pe_bl)) pss_nil)))))
      (pss_one (ps_ret pe_bl))))))))), ?_⟩
    refine z_start (σ' := [some _, none, none, none, none, none, none, none, none]) (by rfl) ?_
    walk_at "zz"
    refine ⟨a, ns, 0, rfl, hS, fun z0 => ?_⟩
    walk_at "zz"
    refine ⟨z0, rfl, fun t m n H1 s1 ht m1 m7 n1 n7 => ?_⟩
    walk_at "zz"
    refine z_gtup ht rfl ?_
    walk_at "zz"
    have hS1 := same_seqL s1 hS
    refine ⟨a, ns, 1, rfl, hS1, fun z1 => ?_⟩
    walk_at "zz"
    refine ⟨z1, m, n, rfl, m1, m7, n1, n7, fun p S0 H2 s2 hM0 hS0 => ?_⟩
    have hM := hM0.upTo
    have hSt := hS0.stc
    generalize upTo m S0 = S at hM hSt
    clear hM0 hS0
    have hS2 := same_seqL s2 hS1
    walk_at "zz"
    refine ⟨a, ns, 2, rfl, hS2, fun z2 => ?_⟩
    walk_at "zz"
    refine ⟨p, z2, m, n, S, rfl, hM, m1, m7, n1, n7, hSt.mks, fun p2 T2 G2 r2 hT2 hF2 => ?_⟩
    have hfit2 := fit_of hF2 hSt m7 n1 n7
    walk_at "zz"
    refine ⟨p2, m, n, T2, rfl, hT2, m1, m7, n1, n7, hfit2, fun q2 G52 r52 hU2 => ?_⟩
    walk_at "zz"
    refine ⟨q2, m, n, _, rfl, hU2, m7, n7, fun i hi c hc => (hfit2 _ (Nat.le_refl _) i hi c hc).2, fun t2 l2 y2 N2 f2 G62 r62 ht2 hN2 hNf2 hNs2 => ?_⟩
    walk_at "zz"
    refine z_ixT ht2 (atI_nat (j := 0) rfl) ?_
    walk_at "zz"
    refine ⟨l2, m, n, N2, rfl, hN2, m1, m7, n1, n7, hNs2, fun d2 G72 r72 hd2 => ?_⟩
    have g2 : Good m n S N2 := fun I J cI cJ hl => same_answer hF2 hSt n1 cI cJ hl hNf2
    have u2 := r2.trans (r52.trans (r62.trans r72))
    clear hfit2 hT2 hF2 hU2 ht2 hN2 hNf2 hNs2
    walk_at "zz"
    refine ⟨a, ns, 3, rfl, (same_seqL u2 hS2), fun z3 => ?_⟩
    walk_at "zz"
    refine ⟨p, z3, m, n, S, rfl, (hM.up Ci.up u2), m1, m7, n1, n7, hSt.mks, fun p3 T3 G3 r3 hT3 hF3 => ?_⟩
    have hfit3 := fit_of hF3 hSt m7 n1 n7
    walk_at "zz"
    refine ⟨p3, m, n, T3, rfl, hT3, m1, m7, n1, n7, hfit3, fun q3 G53 r53 hU3 => ?_⟩
    walk_at "zz"
    refine ⟨q3, m, n, _, rfl, hU3, m7, n7, fun i hi c hc => (hfit3 _ (Nat.le_refl _) i hi c hc).2, fun t3 l3 y3 N3 f3 G63 r63 ht3 hN3 hNf3 hNs3 => ?_⟩
    walk_at "zz"
    refine z_ixT ht3 (atI_nat (j := 0) rfl) ?_
    walk_at "zz"
    refine ⟨l3, m, n, N3, rfl, hN3, m1, m7, n1, n7, hNs3, fun d3 G73 r73 hd3 => ?_⟩
    have g3 : Good m n S N3 := fun I J cI cJ hl => same_answer hF3 hSt n1 cI cJ hl hNf3
    have u3 := r3.trans (r53.trans (r63.trans r73))
    clear hfit3 hT3 hF3 hU3 ht3 hN3 hNf3 hNs3
    have hS4 := same_seqL (u2.trans u3) hS2
    have hM4 := hM.up Ci.up (u2.trans u3)
    have hd24 := hd2.up u3
    clear s1 s2 u2 u3 hS hS1 hS2 hd2 ht hM
    walk_at "zz"
    refine ⟨a, ns, 4, rfl, hS4, fun z4 => ?_⟩
    walk_at "zz"
    refine ⟨by show 1 ≤ sizeLine; decide, fun c nc => ?_⟩
    have s5 := same_upd (o := .lst [.int z4]) nc
    walk_at "zz"
    refine ⟨a, _, rfl, same_seqL s5 hS4, fun e ne => ?_⟩
    have hall : AllI (ns.map V.int) := fun x hx => by
      obtain ⟨z, _, rfl⟩ := List.mem_map.mp hx
      exact ⟨z, rfl⟩
    obtain ⟨k1, k2⟩ := hall.cut (some 5) (some 17)
    rw [List.length_map] at k2
    generalize cutV (ns.map V.int) (some 5) (some 17) = zs at k1 k2 ⊢
    have s6 := s5.trans (same_upd (o := .lst zs) ne)
    walk_at "zz"
    refine z_cat ((same_upd (o := .lst zs) ne) _ _ upd_same) upd_same (by simp; omega) fun C nC => ?_
    have s7 := s6.trans (same_upd (o := .lst ([.int z4] ++ zs)) nC)
    have hallC : AllI ([.int z4] ++ zs) := fun x hx => by
      rcases List.mem_append.mp hx with h | h
      · exact ⟨z4, List.mem_singleton.mp h⟩
      · exact k1 x h
    have lenC : ([V.int z4] ++ zs).length ≤ 64 := by simp; omega
    have hC : (upd (upd (upd G73 c (.lst [.int z4])) e (.lst zs)) C (.lst ([.int z4] ++ zs))) C = some (.lst ([.int z4] ++ zs)) := upd_same
    generalize ([V.int z4] ++ zs) = cs at s7 hallC lenC hC ⊢
    generalize (upd (upd (upd G73 c (.lst [.int z4])) e (.lst zs)) C (.lst cs)) = H8 at s7 hC
    have hM8 := hM4.up Ci.up s7
    have hd28 := hd24.up s7
    have hd38 := hd3.up s7
    walk_at "zz"
    refine z_cut (fun σ' H' => ∃ (C' : Addr) (cs' : List V), σ' = [some (.ref a), some (.int (m : Nat)), some (.int (n : Nat)), some (.ref p), some (.ref d2), some (.ref d3), some (.ref C'), none, none] ∧ Same H8 H' ∧ H' C' = some (.lst cs') ∧ AllI cs' ∧ cs'.length ≤ 64) ?_ ?_
    · walk_at "zz"
      have keep : ∃ (C' : Addr) (cs' : List V), [some (V.ref a), some (.int (m : Nat)), some (.int (n : Nat)), some (.ref p), some (.ref d2), some (.ref d3), some (.ref C), none, none] = [some (.ref a), some (.int (m : Nat)), some (.int (n : Nat)), some (.ref p), some (.ref d2), some (.ref d3), some (.ref C'), none, none] ∧ Same H8 H8 ∧ H8 C' = some (.lst cs') ∧ AllI cs' ∧ cs'.length ≤ 64 := ⟨C, cs, rfl, Same.refl _, hC, hallC, lenC⟩
      refine z_it2 (fun h1 => ?_) (fun h1 => ?_)
      · walk_at "zz"
        refine z_it2 (fun h2 => ?_) (fun h2 => ?_)
        · walk_at "zz"
          refine z_slice hC fun e2 ne2 => ?_
          walk_at "zz"
          obtain ⟨w1, w2⟩ := hallC.cut none (some 1)
          exact ⟨e2, _, rfl, same_upd ne2, upd_same, w1, by omega⟩
        · walk_at "zz"
          exact keep
      · walk_at "zz"
        exact keep
    · rintro σ' H9 ⟨C', cs', rfl, s9, hC', hall', len'⟩
      walk_at "zz"
      refine z_forL hC' (fun i σ H' => ∃ (y7 y8 : Option V), σ = [some (.ref a), some (.int (m : Nat)), some (.int (n : Nat)), some (.ref p), some (.ref d2), some (.ref d3), some (.ref C'), y7, y8] ∧ Same H9 H')
        ⟨_, _, rfl, Same.refl _⟩ (fun i σ H' hP => ?_) (fun i x σ H' hx hP => ?_) (fun σ H' hP => ?_)
      · obtain ⟨y7, y8, rfl, s10⟩ := hP
        exact s10 _ _ hC'
      · obtain ⟨y7, y8, rfl, s10⟩ := hP
        obtain ⟨z, rfl⟩ := hall' x (List.mem_of_getElem? hx)
        walk_at "zz"
        refine ⟨z, m, n, rfl, m1, m7, n1, n7, fun G ys H11 s11 hG hprs => ?_⟩
        walk_at "zz"
        refine z_forL hG (fun i σ H' => ∃ (y8 : Option V), σ = [some (.ref a), some (.int (m : Nat)), some (.int (n : Nat)), some (.ref p), some (.ref d2), some (.ref d3), some (.ref C'), some (.int z), y8] ∧ Same H11 H')
          ⟨_, rfl, Same.refl _⟩ (fun i σ H' hP => ?_) (fun i x σ H' hx hP => ?_) (fun σ H' hP => ?_)
        · obtain ⟨y8, rfl, s12⟩ := hP
          exact s12 _ _ hG
        · obtain ⟨y8, rfl, s12⟩ := hP
          obtain ⟨tt, x1, x2, rfl, htt, b1, b2, b3, b4⟩ := hprs x (List.mem_of_getElem? hx)
          have sA := s9.trans (s10.trans (s11.trans s12))
          walk_at "zz"
          refine ⟨p, d2, d3, tt, x1, x2, m, n, S, N2, N3, rfl, hM8.up Ci.up sA, m1, m7, n1, n7, hSt.mks, hd28.up sA, hd38.up sA, g2, g3, s12 _ _ htt, b1, b2, b3, b4, fun H13 s13 => ?_⟩
          walk_at "zz"
          exact ⟨_, rfl, s12.trans s13⟩
        · obtain ⟨y8, rfl, s12⟩ := hP
          walk_at "zz"
          exact ⟨_, _, rfl, s10.trans (s11.trans s12)⟩
      · obtain ⟨y7, y8, rfl, s10⟩ := hP
        walk_at "zz"
        exact q _
end Smo

set_option Elab.async false
set_option linter.all false
set_option maxRecDepth 100000
set_option maxHeartbeats 0
namespace Smo
open PySem PySem.Spec PyProof.Rows L2
theorem wd_of {w : World} {K : PySem.W.Frag} {h : Heap} {mg : Str → Option Value} (X : K.In h) (G : h.Ns mainGlobals mg) (c : He.SaysX hFa hFn [] [] hEx w h K) : Wd K mg where
  fn := fun d hd => c.t.d.defs hd
  glo := fun n x hx => He.glo_ok X G (c.t.d.fact n hx)
  free := fun n x hx => He.free_ok X G (c.t.d.fact n hx)
  most := He.int_ok X G (c.t.d.fact 47 (f := .int "MOST" 7) rfl)
  nought := fun H => He.tupB_ok (vs := [.int 0, .int 1]) c.more H
theorem all_ok {P : Program} {w : World} {K : PySem.W.Frag} {mg : Str → Option Value} {base : Heap} {f : Addr} {fd : FuncData} (W : Wd K mg) (F : FunD K "law" "law" (defArgs (topS 60)) (defBody (topS 60)) (defScope (topS 60)) [] [] f fd) : FnOk P w K mg base CX0 10 f fd ["_law_script"] (sp_law K) := by
  have h__law_numbers := ok__law_numbers (P := P) (w := w) (base := base) W 
  have h__law_size := ok__law_size (P := P) (w := w) (base := base) W h__law_numbers
  have h__law_cell := ok__law_cell (P := P) (w := w) (base := base) W 
  have h__law_options := ok__law_options (P := P) (w := w) (base := base) W 
  have h__law_stair := ok__law_stair (P := P) (w := w) (base := base) W h__law_numbers h__law_options
  have h__law_minors := ok__law_minors (P := P) (w := w) (base := base) W 
  have h__law_divisor := ok__law_divisor (P := P) (w := w) (base := base) W 
  have h__law_rows := ok__law_rows (P := P) (w := w) (base := base) W h__law_divisor
  have h__law_made := ok__law_made (P := P) (w := w) (base := base) W h__law_divisor
  have h__law_part := ok__law_part (P := P) (w := w) (base := base) W h__law_made
  have h__law_plus := ok__law_plus (P := P) (w := w) (base := base) W h__law_made
  have h__law_across := ok__law_across (P := P) (w := w) (base := base) W h__law_part h__law_plus
  have h__law_places := ok__law_places (P := P) (w := w) (base := base) W 
  have h__law_thick := ok__law_thick (P := P) (w := w) (base := base) W h__law_across h__law_places
  have h__law_numbered := ok__law_numbered (P := P) (w := w) (base := base) W h__law_numbers h__law_made
  have h__law_masks := ok__law_masks (P := P) (w := w) (base := base) W h__law_numbers
  have h__law_cut := ok__law_cut (P := P) (w := w) (base := base) W 
  have h_is_whole := ok_is_whole (P := P) (w := w) (base := base) W 
  have h_are_marks := ok_are_marks (P := P) (w := w) (base := base) W h_is_whole
  have h_is_free := ok_is_free (P := P) (w := w) (base := base) W 
  have h_is_staircase := ok_is_staircase (P := P) (w := w) (base := base) W h_are_marks h_is_free
  have h_look_stairs := ok_look_stairs (P := P) (w := w) (base := base) W h_is_staircase
  have h_is_choice := ok_is_choice (P := P) (w := w) (base := base) W h_is_whole
  have h_look_choice := ok_look_choice (P := P) (w := w) (base := base) W h_is_choice
  have h_divisor := ok_divisor (P := P) (w := w) (base := base) W 
  have h_is_fraction := ok_is_fraction (P := P) (w := w) (base := base) W h_is_whole h_divisor
  have h_is_row_of := ok_is_row_of (P := P) (w := w) (base := base) W h_is_fraction
  have h_is_table := ok_is_table (P := P) (w := w) (base := base) W h_is_row_of
  have h_look_table := ok_look_table (P := P) (w := w) (base := base) W h_is_table
  have h_whole_row := ok_whole_row (P := P) (w := w) (base := base) W h_divisor
  have h_whole_rows := ok_whole_rows (P := P) (w := w) (base := base) W h_whole_row
  have h_fraction := ok_fraction (P := P) (w := w) (base := base) W h_divisor
  have h_lead_row := ok_lead_row (P := P) (w := w) (base := base) W 
  have h_whole_determinant := ok_whole_determinant (P := P) (w := w) (base := base) W h_lead_row
  have h_determinant := ok_determinant (P := P) (w := w) (base := base) W h_look_table h_whole_rows h_fraction h_whole_determinant
  have h_part_of := ok_part_of (P := P) (w := w) (base := base) W h_look_table h_look_choice
  have h_minor := ok_minor (P := P) (w := w) (base := base) W h_determinant h_part_of
  have h_sum_of := ok_sum_of (P := P) (w := w) (base := base) W h_fraction
  have h_quotient_of := ok_quotient_of (P := P) (w := w) (base := base) W h_fraction
  have h_product_of := ok_product_of (P := P) (w := w) (base := base) W h_fraction
  have h_across := ok_across (P := P) (w := w) (base := base) W h_quotient_of h_product_of
  have h_thickened := ok_thickened (P := P) (w := w) (base := base) W h_look_table h_sum_of h_across
  have h_plainest := ok_plainest (P := P) (w := w) (base := base) W h_thickened
  have h_stands := ok_stands (P := P) (w := w) (base := base) W h_look_stairs h_look_choice h_minor h_plainest
  have h__law_asked := ok__law_asked (P := P) (w := w) (base := base) W h__law_cut h_stands
  exact ok_law W h__law_size h__law_cell h__law_stair h__law_minors h__law_rows h__law_thick h__law_numbered h__law_masks h__law_asked F
end Smo
open PySem PySem.W PySem.Calls PyProof.Rows
theorem PySem.Challenge.cw_signsmooth_k54_whole_standing_holds : PySem.Challenge.rw_signsmooth_k54_whole_standing.Holds := by
  w_on; o_law
  refine HandSHeadRun.head_any (r := Smo.hRow) (q := PySem.W.view Smo.hRow.prog [60]) (H := Smo.hHk) (ob := Smo.hOb) (M := 6000) (loose := Smo.hLoose) (d := HandSHeadRun.topDef Smo.hRow.prog 60) (kwd := []) Smo.hOb_eq
    (by kernel_rfl) (fun s => by kernel_rfl) Smo.hRun (by kernel_rfl) (by kernel_rfl) (by kernel_rfl) (by rfl) (by first | assumption | decide +kernel) (by decide +kernel) ⟨rfl, rfl, rfl, rfl, rfl, by decide +kernel⟩ ?hw ?hc
  case hw => w_witness2
  case hc =>
    refine L2.walk_ofE (l := PySem.Challenge.rw_signsmooth_k54_whole_standing) (n := 63) (k := 10) (x := "_law_script") (CX := L2.CX0) rfl (by decide) (by kernel_rfl) ⟨rfl, by decide, by decide⟩ ?F (fun _ _ _ _ z => z)
    intro w mg fa h Y G hmg0
    obtain ⟨K, KX, c⟩ := Y
    have W := Smo.wd_of KX G c
    have hmg : mg ("law" : PySem.Str) = some (.ref fa) := by
      have e : (HandSHeadRun.topDef Smo.hRow.prog 60).name = ("law" : PySem.Str) := by kernel_rfl
      rw [← e]
      exact hmg0
    obtain ⟨fd, F⟩ := W.fn _ (List.mem_of_getElem? (i := 45) (a := Smo.dD 60 "law" []) rfl)
    have e := hmg.symm.trans (W.glo 45 "law" rfl)
    cases e
    have b := L2.FunD.bindsA (ps := ["_law_script"]) F fun _ _ _ _ _ _ us hl => match us, hl with | [_], _ => rfl
    exact ⟨K, fd, Smo.sp_law K, KX, fun s v => b s [v] rfl, fun H a ns hl _ hS => ⟨a, ns, rfl, hS, hl, fun _ => rfl⟩, fun base _ _ => Smo.all_ok W F⟩

