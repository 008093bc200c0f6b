import PyProof.Rows.All
import Wide.All
import OpenK.AllK
import Wide.FinOn
import KE.KStateDown
import Lean
import HandS.Base
import HandS.Call
import HandS.List
import HandS.Comp
import HandS.Ends
import HandS.Dict
import HandS.Iter
import HandS.Text
import HandS.Walk
import HandS.Exc
import HandS.TryOnly
import HandS.ExcOwn
import HandS.ExcIs
import HandS.ExcValue
import HandS.More
import HandS.Words
import HandS.WordsList
import HandS.WordsDict
import HandS.WordsExc
import HandS.Defaults
import HandS.Flow
import HandS.Style
import HandS.StrMore
import HandS.Deep
import HandS.Small
import HandS.Head0
import HandS.Head1
import HandS.Head2
import HandS.HeadEnd
import HandS.HeadHook1
import HandS.HeadHook2
import HandS.Evl
import PySem.Challenge.RW_linehand_k01_whole_words
set_option Elab.async false
set_option linter.all false
set_option maxRecDepth 100000
set_option maxHeartbeats 4000000
/-! ## Base: texts as lists of signs, how defs are kept and called -/
namespace LH
open PySem PySem.Spec PyProof.Rows L2

/-- a text of these signs -/
def S (l : List Nat) : Str := ⟨l.toArray⟩
theorem S_len (l : List Nat) : (S l).length = l.length := by
  unfold S Str.length
  exact List.size_toArray
theorem S_tl (l : List Nat) : (S l).cps.toList = l := by
  unfold S
  rfl
/-- an item within -/
theorem atI_in {α : Type} {l : List α} {i : Int} (h0 : 0 ≤ i) (h1 : i < l.length) : atI l i = l[i.toNat]? := by
  unfold atI ixN
  rw [if_pos h0, if_pos h1]
  rfl
theorem S_of (z : Str) : S z.cps.toList = z := rfl
theorem S_app (a b : List Nat) : S a ++ S b = S (a ++ b) := TL.ext_tl (by rw [TL.tl_append]; rfl)
theorem S_inj {a b : List Nat} : (S a = S b) = (a = b) := by
  refine propext ⟨fun h => ?_, fun h => by rw [h]⟩
  have e : (S a).cps.toList = (S b).cps.toList := by rw [h]
  exact e
theorem S_one (c : Nat) : (⟨#[c]⟩ : Str) = S [c] := rfl
theorem sline {n : Nat} (h : n ≤ 100000) : n ≤ sizeLine := Nat.le_trans h (by decide)
theorem slt {n : Nat} (h : n < 100000) : n < sizeLine := Nat.lt_of_lt_of_le h (by decide)

/-- a slice, its ends within the text -/
theorem cut_S (l : List Nat) (i j : Int) (h0 : 0 ≤ i) (h1 : i ≤ l.length) (h2 : 0 ≤ j) (h3 : j ≤ l.length) : cutS (S l) (some i) (some j) = S ((l.drop i.toNat).take (j.toNat - i.toNat)) := by
  have e1 : HT.sIx l.length 0 (some i) = i.toNat := by
    show (if i < 0 then _ else min i.toNat l.length) = _
    rw [if_neg (by omega)]
    omega
  have e2 : HT.sIx l.length l.length (some j) = j.toNat := by
    show (if j < 0 then _ else min j.toNat l.length) = _
    rw [if_neg (by omega)]
    omega
  unfold cutS
  show (⟨((l.drop (HT.sIx l.length 0 (some i))).take (HT.sIx l.length l.length (some j) - HT.sIx l.length 0 (some i))).toArray⟩ : Str) = _
  rw [e1, e2]
  rfl

theorem cut_to (l : List Nat) (j : Int) (h : 0 ≤ j) : cutS (S l) none (some j) = S (l.take j.toNat) := by
  have e2 : HT.sIx l.length l.length (some j) = min j.toNat l.length := by
    show (if j < 0 then _ else min j.toNat l.length) = _
    rw [if_neg (by omega)]
  unfold cutS
  show (⟨((l.drop 0).take (HT.sIx l.length l.length (some j) - 0)).toArray⟩ : Str) = _
  rw [e2, List.drop_zero, Nat.sub_zero, ← List.take_eq_take_min]
  rfl
theorem cut_from (l : List Nat) (i : Int) (h : 0 ≤ i) : cutS (S l) (some i) none = S (l.drop i.toNat) := by
  have e1 : HT.sIx l.length 0 (some i) = min i.toNat l.length := by
    show (if i < 0 then _ else min i.toNat l.length) = _
    rw [if_neg (by omega)]
  unfold cutS
  show (⟨((l.drop (HT.sIx l.length 0 (some i))).take (l.length - HT.sIx l.length 0 (some i))).toArray⟩ : Str) = _
  rw [e1, List.take_of_length_le (by rw [List.length_drop]; exact Nat.le_refl _)]
  by_cases q : i.toNat ≤ l.length
  · rw [Nat.min_eq_left q]
    rfl
  · rw [Nat.min_eq_right (by omega), List.drop_eq_nil_of_le (Nat.le_refl _), List.drop_eq_nil_of_le (by omega)]
    rfl
section
variable (P : Program) (w : World) (K : PySem.W.Frag) (mg : Str → Option Value) (base : Heap)
/-- the def x keeps its promise, and is called by its name -/
structure Dn (k : Nat) (x : Str) (ps : List Str) (sp : Sp) : Prop where
  ex : ∃ f fd, FnOk P w K mg base (L2.CX P w) k f fd ps sp ∧ Binds K fd ps [] ∧ mg x = some (.ref f) ∧ PySem.W.keepIn K (.ref f) = true
/-- the method m of the class at C -/
structure Mt (k : Nat) (C : Addr) (m : Str) (ps : List Str) (sp : Sp) : Prop where
  ex : ∃ f fd, FnOk P w K mg base (L2.CX P w) k f fd ps sp ∧ Binds K fd ps [] ∧ Meth K C m f
  cl : Cls K C
/-- a new one of the class x at C -/
structure Mn (k : Nat) (x : Str) (C : Addr) (ps : List Str) (sp : Sp) : Prop where
  ex : ∃ f fd, FnOk P w K mg base (L2.CX P w) k f fd ps sp ∧ Binds K fd ps [] ∧ Mk K C f
  gl : mg x = some (.ref C)
end
section
variable {X : Cx} {k : Nat} {C : Addr} {x m : Str} {ps : List Str} {sp : Sp} {E : XK} {p pos apos : Pos} {e o : Expr} {es : List Expr} {ta : TE} {t : TA}
theorem pc (D : Dn X.prog X.w X.K X.mg X.base k x ps sp) (hr : Room k X.A) (hx : Passes (L2.CX X.prog X.w) X E) (ha : PA X (e :: es) t) (hg : Gl X x := by rfl) (hdb : (x == ("__debug__" : Str)) = false := by decide)
    (he : starEach (e :: es) X.env = (false, eval e X.env) :: starEach es X.env := by rfl) (hpl : (backTo pos (starEach es X.env)).any (·.1) = false := by rfl) : PE X (.Call (.Name x p) (e :: es) [] pos) (tCall sp [] E t) := by
  obtain ⟨f, fd, F, b, hm, kp⟩ := D.ex
  exact pe_call F hr hg hm kp b .nil hx ha hdb he hpl
theorem pc0 (D : Dn X.prog X.w X.K X.mg X.base k x ps sp) (hr : Room k X.A) (hx : Passes (L2.CX X.prog X.w) X E) (hg : Gl X x := by rfl) (hdb : (x == ("__debug__" : Str)) = false := by decide) : PE X (.Call (.Name x p) [] [] pos) (tCall sp [] E tNil) := by
  obtain ⟨f, fd, F, b, hm, kp⟩ := D.ex
  exact pe_call0 F hr hg hm kp b .nil hx hdb
theorem pm {pl : Sem Bool} (M : Mt X.prog X.w X.K X.mg X.base k C m ps sp) (hr : Room k X.A) (hx : Passes (L2.CX X.prog X.w) X E) (ho : PE X o ta) (ha : PA X (e :: es) t)
    (hst : starEach (e :: es) X.env = (false, eval e X.env) :: starEach es X.env := by rfl) (hpl : (backTo pos (starEach es X.env)).any (·.1) = false := by rfl)
    (ht : eval (.Call (.Attribute o m apos) (e :: es) [] pos) X.env = (do
      let ov ← eval o X.env
      standAt apos.atName
      let (f, first) ← holding [ov] (getMethod ov m pl)
      callWith pos f first (backTo pos (starEach (e :: es) X.env)) (backToKw pos (keywordEach [] X.env))) := by rfl) : PE X (.Call (.Attribute o m apos) (e :: es) [] pos) (tMeth C m sp [] E ta t) := by
  obtain ⟨f, fd, F, b, hm⟩ := M.ex
  exact pe_meth ho M.cl hm F hr b .nil hx ha hst hpl ht
theorem pm0 {pl : Sem Bool} (M : Mt X.prog X.w X.K X.mg X.base k C m ps sp) (hr : Room k X.A) (hx : Passes (L2.CX X.prog X.w) X E) (ho : PE X o ta)
    (ht : eval (.Call (.Attribute o m apos) [] [] pos) X.env = (do
      let ov ← eval o X.env
      standAt apos.atName
      let (f, first) ← holding [ov] (getMethod ov m pl)
      callWith pos f first (backTo pos (starEach [] X.env)) (backToKw pos (keywordEach [] X.env))) := by rfl) : PE X (.Call (.Attribute o m apos) [] [] pos) (tMeth C m sp [] E ta tNil) := by
  obtain ⟨f, fd, F, b, hm⟩ := M.ex
  exact pe_meth0 ho M.cl hm F hr b .nil hx ht
theorem pn (D : Mn X.prog X.w X.K X.mg X.base k x C ps sp) (hr : Room (k + 1) X.A) (hx : Passes (L2.CX X.prog X.w) X E) (ha : PA X (e :: es) t) (hg : Gl X x := by rfl) (hdb : (x == ("__debug__" : Str)) = false := by decide)
    (he : starEach (e :: es) X.env = (false, eval e X.env) :: starEach es X.env := by rfl) (hpl : (backTo pos (starEach es X.env)).any (·.1) = false := by rfl) : PE X (.Call (.Name x p) (e :: es) [] pos) (tMake C sp [] E t) := by
  obtain ⟨f, fd, F, b, M⟩ := D.ex
  exact pe_make M F hr hg D.gl b .nil hx ha hdb he hpl
end
/-- in a def's own body: what a callee lets out is let out -/
theorem px {P : Program} {w : World} {K : PySem.W.Frag} {mg : Str → Option Value} {base : Heap} {N : List Str} {qual : Str} {scope : Scope} {f : Addr} {cd : Value} {A : Around} {outer : List Env} {s : Shared} {H : Hp} {E : XK} :
    Passes (L2.CX P w) (cxOf (L2.CX P w) P w K mg base N qual scope f cd A outer s H E) E :=
  passes_call (takes_of rfl rfl rfl rfl) fun _ _ _ _ h => h
end LH
namespace LH
open PySem PySem.Spec PyProof.Rows L2
section
variable {P : Program} {w : World} {K : PySem.W.Frag} {mg : Str → Option Value} {base : Heap} {x : Str} {st : Stmt} {N ps : List Str} {k : Nat} {sp : Sp}
/-- how the arguments bind, whatever the def's other fields are -/
def Bnd (x qual : Str) (st : Stmt) (ps : List Str) : Prop :=
  ∀ (kV doc pm : Value) (an : Option Addr) (cdv ct : Value) (us : List Value), us.length = ps.length → bindArgs (PySem.W.fnOf x qual (defArgs st) (defBody st) (defScope st) .none kV doc pm an cdv ct) ⟨us, []⟩ = pure (ps.zip us)
/-- what a def's body is to show -/
abbrev BodyOk (P : Program) (w : World) (K : PySem.W.Frag) (mg : Str → Option Value) (base : Heap) (N : List Str) (qual : Str) (st : Stmt) (f : Addr) (k : Nat) (sp : Sp) : Prop :=
  ∀ (cdv : Value) (A : Around) (outer : List Env) (s : Shared) (H : Hp) (vs : List V) (Q : VK) (E : XK), Room k (A.deeper (envOfC qual (defScope st) s.heap.objs.size f cdv)) → sp vs H Q E →
      ∃ t, PSs (cxOf (L2.CX P w) P w K mg base N qual (defScope st) f cdv A outer s H E) (defBody st) t ∧ t { nx := fun _ H' => Q .non H', rt := Q } (start N vs) H
theorem dn_of (F : ∃ fd, FunD K x x (defArgs st) (defBody st) (defScope st) [] [] (He.fAd K (x, none)) fd) (g : mg x = some (.ref (He.ga K x))) (S : FnScope N ps (defScope st)) (b : Bnd x x st ps) (len : ∀ vs H Q E, sp vs H Q E → vs.length = ps.length)
    (h : BodyOk P w K mg base N x st (He.fAd K (x, none)) k sp) : Dn P w K mg base (k + 1) x ps sp := by
  obtain ⟨fd, F⟩ := F
  exact ⟨_, fd, F.ok S len h, F.bindsN b, g, F.kp⟩
theorem mt_of {c m q : Str} (F : ∃ fd, FunD K m q (defArgs st) (defBody st) (defScope st) [] [] (He.fAd K (c, some m)) fd) (cl : Cls K (He.ga K c)) (me : Meth K (He.ga K c) m (He.ma K (He.ga K c) m)) (S : FnScope N ps (defScope st)) (b : Bnd m q st ps) (len : ∀ vs H Q E, sp vs H Q E → vs.length = ps.length)
    (h : BodyOk P w K mg base N q st (He.fAd K (c, some m)) k sp) : Mt P w K mg base (k + 1) (He.ga K c) m ps sp := by
  obtain ⟨fd, F⟩ := F
  exact ⟨⟨_, fd, F.ok S len h, F.bindsN b, me⟩, cl⟩
theorem mn_of {c q : Str} (F : ∃ fd, FunD K "__init__" q (defArgs st) (defBody st) (defScope st) [] [] (He.fAd K (c, some "__init__")) fd) (M : Mk K (He.ga K c) (He.ma K (He.ga K c) "__init__")) (g : mg c = some (.ref (He.ga K c))) (S : FnScope N ps (defScope st)) (b : Bnd "__init__" q st ps) (len : ∀ vs H Q E, sp vs H Q E → vs.length = ps.length)
    (h : BodyOk P w K mg base N q st (He.fAd K (c, some "__init__")) k sp) : Mn P w K mg base (k + 1) c (He.ga K c) ps sp := by
  obtain ⟨fd, F⟩ := F
  exact ⟨⟨_, fd, F.ok S len h, F.bindsN b, M⟩, g⟩
end
end LH
namespace LH
open PySem PySem.Spec PyProof.Rows L2
section
variable {X : Cx} {x : Str} {pos : Pos}
/-- a module's constant: a number, a text, an object -/
theorem pgi {i : Int} (hm : ∃ t, X.mg x = some (.int i t)) (hg : Gl X x := by rfl) (hd : (x == ("__debug__" : Str)) = false := by decide) : PE X (.Name x pos) (tC (.int i)) := by
  obtain ⟨t, hm⟩ := hm
  exact pe_glob hg hm ⟨t, rfl⟩ hd
theorem pgs {z : Str} (hm : ∃ t, X.mg x = some (.str z t)) (hg : Gl X x := by rfl) (hd : (x == ("__debug__" : Str)) = false := by decide) : PE X (.Name x pos) (tC (.str z)) := by
  obtain ⟨t, hm⟩ := hm
  exact pe_glob hg hm ⟨t, rfl⟩ hd
theorem pgr {a : Addr} (hm : X.mg x = some (.ref a)) (hg : Gl X x := by rfl) (hd : (x == ("__debug__" : Str)) = false := by decide) : PE X (.Name x pos) (tC (.ref a)) := pe_glob hg hm rfl hd
/-- in a comprehension's block nothing is let out -/
theorem px0 : Passes (L2.CX X.prog X.w) X E0 := passL
/-- written texts, one behind the other -/
def lits : List Expr → Option (List Str)
  | [] => some []
  | .Constant (.str x) _ _ :: r => (lits r).map (x :: ·)
  | _ => none
def tLits (xs : List Str) : TA := fun _ H Q => Q (xs.map V.str) H
theorem pa_lits : ∀ {es : List Expr} {xs : List Str}, lits es = some xs → PA X es (tLits xs)
  | [], xs, h => by
    have e : ([] : List Str) = xs := Option.some.inj h
    subst e
    exact ⟨fun pos pins s σ H Q I q => (pa_nil (X := X)).run pos pins s σ H Q I q⟩
  | e :: r, xs, h => by
    match e, h with
    | .Constant (.str x) j p, h =>
      have h1 : (lits r).map (x :: ·) = some xs := h
      cases e : lits r with
      | none =>
        rw [e] at h1
        cases h1
      | some ys =>
        rw [e] at h1
        have e2 : x :: ys = xs := Option.some.inj h1
        subst e2
        have p1 := pa_cons (X := X) (pe_str (x := x) (j := j) (pos := p)) (pa_lits e) rfl
        exact ⟨fun pos pins s σ H Q I q => p1.run pos pins s σ H Q I q⟩
end
end LH
namespace LH
open PySem PySem.Spec PyProof.Rows L2
/-! ### the Hook: He's facts, and more by Bools of one's own -/
def excB (K : PySem.W.Frag) (C : Addr) : Bool :=
  decide (PySem.W.findIn K (.ref C) "__getattribute__" = some (some (.builtin "BaseException.__getattribute__"))) && (decide (PySem.W.findIn K (.ref C) "__getattr__" = some none) &&
  (decide (PySem.W.subIn K (.ref C) (.type "BaseException") = some true) && (PySem.W.hasDictIn K C && (decide (PySem.W.findIn K (.ref C) "__class__" = some (some (.builtin "object.__class__"))) &&
  (decide (PySem.W.specialIn K (.builtin "object.__class__") "__get__" = some (some (.builtin "getset_descriptor.__get__"))) && (decide (PySem.W.takesIn K (.builtin "object.__class__") = some true) && decide (PySem.W.mroIn K C (.type "object") = some true)))))))
theorem excB_ok {K : PySem.W.Frag} {C : Addr} (h : excB K C = true) : ExcC K C := by
  unfold excB at h
  simp only [Bool.and_eq_true, decide_eq_true_eq] at h
  obtain ⟨h1, h2, h3, h4, h5, h6, h7, h8⟩ := h
  exact ⟨h1, h2, h3, h4, h5, h6, h7, h8⟩
def kitB (K : PySem.W.Frag) (C : Addr) (v : Value) (b : Bool) : Bool := decide (PySem.W.kitOne K (.ref C) v = some b)
theorem kitB_ok {K : PySem.W.Frag} {C : Addr} {v : Value} {b : Bool} (h : kitB K C v b = true) : PySem.W.kitOne K (.ref C) v = some b := of_decide_eq_true h
def obsM (fa : List He.Fa) (fn : List He.DefD) (ex : List (PySem.W.Frag → Bool)) (K : PySem.W.Frag) : He.AlD × Bool := (He.obsD fa fn K, ex.all fun f => f K)
def hookM (n : Nat) (fa : List He.Fa) (fn : List He.DefD) (ex : List (PySem.W.Frag → Bool)) : PySem.W.Hook where
  α := He.AlD × Bool
  obs := fun s => obsM fa fn ex (He.frG s.heap.get? (He.asD s.heap.get? n))
  val := fun _ => (He.valD fn, true)
  says := fun _ h => ∃ K : PySem.W.Frag, K.In h ∧ He.SaysD fa fn K ∧ (ex.all fun f => f K) = true
  of := fun _ _ e => ⟨_, He.frG_in, congrArg Prod.fst e, congrArg Prod.snd e⟩
  keeps := fun _ _ _ ⟨K, hK, c⟩ k => ⟨K, PySem.W.Frag.In.keeps hK k, c⟩
theorem ex_at {ex : List (PySem.W.Frag → Bool)} {K : PySem.W.Frag} (h : (ex.all fun f => f K) = true) (i : Nat) {f : PySem.W.Frag → Bool} (e : ex[i]? = some f := by rfl) : f K = true := List.all_eq_true.mp h f (List.mem_of_getElem? e)
end LH
/-! ## Top: the text by places, what the top leaves -/
namespace LH
open PySem PySem.Spec PyProof.Rows L2
abbrev pw : Program := PySem.Challenge.pw_linehand_k01_whole_words
def top (i : Nat) : Stmt := pw.main.body.getD i (.Pass ⟨0, 0, 0, 0⟩)
abbrev s_is_sign : Stmt := top 9
abbrev s_look_text : Stmt := top 10
abbrev s_look_place : Stmt := top 11
abbrev s_is_letter : Stmt := top 12
abbrev s_word_end : Stmt := top 13
abbrev s_word_start : Stmt := top 14
abbrev s_recased : Stmt := top 15
abbrev s_l_cell : Stmt := top 17
abbrev s_l_mix : Stmt := top 18
abbrev s_l_draw : Stmt := top 19
abbrev s_l_pick : Stmt := top 20
abbrev s_l_refusal : Stmt := top 21
abbrev s_l_text : Stmt := top 22
abbrev s_l_letter : Stmt := top 23
abbrev s_l_end : Stmt := top 24
abbrev s_l_start : Stmt := top 25
abbrev s_l_recased : Stmt := top 26
abbrev s_l_told : Stmt := top 27
abbrev s_law : Stmt := top 28
def fn0 : List He.DefD := [
  ⟨("is_sign", none), "is_sign", "is_sign", defArgs s_is_sign, defBody s_is_sign, defScope s_is_sign, [], []⟩,
  ⟨("look_text", none), "look_text", "look_text", defArgs s_look_text, defBody s_look_text, defScope s_look_text, [], []⟩,
  ⟨("look_place", none), "look_place", "look_place", defArgs s_look_place, defBody s_look_place, defScope s_look_place, [], []⟩,
  ⟨("is_letter", none), "is_letter", "is_letter", defArgs s_is_letter, defBody s_is_letter, defScope s_is_letter, [], []⟩,
  ⟨("word_end", none), "word_end", "word_end", defArgs s_word_end, defBody s_word_end, defScope s_word_end, [], []⟩,
  ⟨("word_start", none), "word_start", "word_start", defArgs s_word_start, defBody s_word_start, defScope s_word_start, [], []⟩,
  ⟨("recased", none), "recased", "recased", defArgs s_recased, defBody s_recased, defScope s_recased, [], []⟩,
  ⟨("_law_cell", none), "_law_cell", "_law_cell", defArgs s_l_cell, defBody s_l_cell, defScope s_l_cell, [], []⟩,
  ⟨("_law_mix", none), "_law_mix", "_law_mix", defArgs s_l_mix, defBody s_l_mix, defScope s_l_mix, [], []⟩,
  ⟨("_law_draw", none), "_law_draw", "_law_draw", defArgs s_l_draw, defBody s_l_draw, defScope s_l_draw, [], []⟩,
  ⟨("_law_pick", none), "_law_pick", "_law_pick", defArgs s_l_pick, defBody s_l_pick, defScope s_l_pick, [], []⟩,
  ⟨("_law_refusal", none), "_law_refusal", "_law_refusal", defArgs s_l_refusal, defBody s_l_refusal, defScope s_l_refusal, [], []⟩,
  ⟨("_law_text", none), "_law_text", "_law_text", defArgs s_l_text, defBody s_l_text, defScope s_l_text, [], []⟩,
  ⟨("_law_letter", none), "_law_letter", "_law_letter", defArgs s_l_letter, defBody s_l_letter, defScope s_l_letter, [], []⟩,
  ⟨("_law_end", none), "_law_end", "_law_end", defArgs s_l_end, defBody s_l_end, defScope s_l_end, [], []⟩,
  ⟨("_law_start", none), "_law_start", "_law_start", defArgs s_l_start, defBody s_l_start, defScope s_l_start, [], []⟩,
  ⟨("_law_recased", none), "_law_recased", "_law_recased", defArgs s_l_recased, defBody s_l_recased, defScope s_l_recased, [], []⟩,
  ⟨("_law_told", none), "_law_told", "_law_told", defArgs s_l_told, defBody s_l_told, defScope s_l_told, [], []⟩,
  ⟨("law", none), "law", "law", defArgs s_law, defBody s_law, defScope s_law, [], []⟩]
def fn : List He.DefD := fn0
def fa0 : List He.Fa := [
  .glo "HandError",
  .glo "BadKey",
  .glo "BadText",
  .glo "BadSize",
  .glo "BadPlace",
  .str "LETTERS" "abcdefghijklmnopqrstuvwxyzABCDEFGHIJKLMNOPQRSTUVWXYZ0123456789",
  .int "MOST_TEXT" 400,
  .glo "is_sign",
  .glo "look_text",
  .glo "look_place",
  .glo "is_letter",
  .glo "word_end",
  .glo "word_start",
  .glo "recased",
  .glo "_law_cell",
  .glo "_law_mix",
  .glo "_law_draw",
  .glo "_law_pick",
  .glo "_law_refusal",
  .glo "_law_text",
  .glo "_law_letter",
  .glo "_law_end",
  .glo "_law_start",
  .glo "_law_recased",
  .glo "_law_told",
  .glo "law",
  .free "ValueError",
  .free "all",
  .free "isinstance",
  .free "len"]
def fa1 : List He.Fa := [
  .free "max",
  .free "min",
  .free "ord",
  .free "range",
  .exc "BadKey",
  .exc "BadText",
  .exc "BadSize",
  .exc "BadPlace",
  .keep "HandError",
  .keep "BadKey",
  .keep "BadText",
  .keep "BadSize",
  .keep "BadPlace",
  .exm "BadKey" "HandError" true,
  .exm "BadText" "HandError" true,
  .exm "BadSize" "HandError" true,
  .exm "BadPlace" "HandError" true]
def fa : List He.Fa := fa0 ++ fa1
def loose0 : List Str := [
  "HandError",
  "BadKey",
  "BadText",
  "BadSize",
  "BadPlace",
  "LETTERS",
  "MOST_TEXT",
  "is_sign",
  "look_text",
  "look_place",
  "is_letter",
  "word_end",
  "word_start",
  "recased",
  "_law_cell",
  "_law_mix",
  "_law_draw",
  "_law_pick",
  "_law_refusal",
  "_law_text",
  "_law_letter",
  "_law_end",
  "_law_start",
  "_law_recased",
  "_law_told"]
def loose : List Str := loose0
def exs0 : List (PySem.W.Frag → Bool) := [
  fun K => excB K (He.ga K "BadKey"),
  fun K => kitB K (He.ga K "BadKey") (.ref (He.ga K "BadKey")) true,
  fun K => kitB K (He.ga K "BadKey") (.ref (He.ga K "BadText")) false,
  fun K => kitB K (He.ga K "BadKey") (.ref (He.ga K "BadSize")) false,
  fun K => kitB K (He.ga K "BadKey") (.ref (He.ga K "BadPlace")) false,
  fun K => kitB K (He.ga K "BadKey") (.type "ValueError") true,
  fun K => excB K (He.ga K "BadText"),
  fun K => kitB K (He.ga K "BadText") (.ref (He.ga K "BadKey")) false,
  fun K => kitB K (He.ga K "BadText") (.ref (He.ga K "BadText")) true,
  fun K => kitB K (He.ga K "BadText") (.ref (He.ga K "BadSize")) false,
  fun K => kitB K (He.ga K "BadText") (.ref (He.ga K "BadPlace")) false,
  fun K => kitB K (He.ga K "BadText") (.type "ValueError") true,
  fun K => excB K (He.ga K "BadSize"),
  fun K => kitB K (He.ga K "BadSize") (.ref (He.ga K "BadKey")) false,
  fun K => kitB K (He.ga K "BadSize") (.ref (He.ga K "BadText")) false,
  fun K => kitB K (He.ga K "BadSize") (.ref (He.ga K "BadSize")) true,
  fun K => kitB K (He.ga K "BadSize") (.ref (He.ga K "BadPlace")) false,
  fun K => kitB K (He.ga K "BadSize") (.type "ValueError") true,
  fun K => excB K (He.ga K "BadPlace"),
  fun K => kitB K (He.ga K "BadPlace") (.ref (He.ga K "BadKey")) false,
  fun K => kitB K (He.ga K "BadPlace") (.ref (He.ga K "BadText")) false,
  fun K => kitB K (He.ga K "BadPlace") (.ref (He.ga K "BadSize")) false,
  fun K => kitB K (He.ga K "BadPlace") (.ref (He.ga K "BadPlace")) true,
  fun K => kitB K (He.ga K "BadPlace") (.type "ValueError") true]
def exs : List (PySem.W.Frag → Bool) := exs0
/-- what the top has left -/
structure TX (K : PySem.W.Frag) (mg : Str → Option Value) : Prop where
  ex : ∃ h : Heap, K.In h ∧ h.Ns mainGlobals mg
  c : He.SaysD fa fn K
  x : (exs.all fun f => f K) = true
section
variable {K : PySem.W.Frag} {mg : Str → Option Value}
theorem g_HandError (T : TX K mg) : mg "HandError" = some (.ref (He.ga K "HandError")) := by obtain ⟨h, X, G⟩ := T.ex; exact He.glo_ok X G (T.c.fact 0)
theorem g_BadKey (T : TX K mg) : mg "BadKey" = some (.ref (He.ga K "BadKey")) := by obtain ⟨h, X, G⟩ := T.ex; exact He.glo_ok X G (T.c.fact 1)
theorem g_BadText (T : TX K mg) : mg "BadText" = some (.ref (He.ga K "BadText")) := by obtain ⟨h, X, G⟩ := T.ex; exact He.glo_ok X G (T.c.fact 2)
theorem g_BadSize (T : TX K mg) : mg "BadSize" = some (.ref (He.ga K "BadSize")) := by obtain ⟨h, X, G⟩ := T.ex; exact He.glo_ok X G (T.c.fact 3)
theorem g_BadPlace (T : TX K mg) : mg "BadPlace" = some (.ref (He.ga K "BadPlace")) := by obtain ⟨h, X, G⟩ := T.ex; exact He.glo_ok X G (T.c.fact 4)
theorem t_LETTERS (T : TX K mg) : ∃ t, mg "LETTERS" = some (.str ("abcdefghijklmnopqrstuvwxyzABCDEFGHIJKLMNOPQRSTUVWXYZ0123456789" : Str) t) := by obtain ⟨h, X, G⟩ := T.ex; exact He.str_ok X G (T.c.fact 5)
theorem i_MOST_TEXT (T : TX K mg) : ∃ t, mg "MOST_TEXT" = some (.int 400 t) := by obtain ⟨h, X, G⟩ := T.ex; exact He.int_ok X G (T.c.fact 6)
theorem g_is_sign (T : TX K mg) : mg "is_sign" = some (.ref (He.ga K "is_sign")) := by obtain ⟨h, X, G⟩ := T.ex; exact He.glo_ok X G (T.c.fact 7)
theorem g_look_text (T : TX K mg) : mg "look_text" = some (.ref (He.ga K "look_text")) := by obtain ⟨h, X, G⟩ := T.ex; exact He.glo_ok X G (T.c.fact 8)
theorem g_look_place (T : TX K mg) : mg "look_place" = some (.ref (He.ga K "look_place")) := by obtain ⟨h, X, G⟩ := T.ex; exact He.glo_ok X G (T.c.fact 9)
theorem g_is_letter (T : TX K mg) : mg "is_letter" = some (.ref (He.ga K "is_letter")) := by obtain ⟨h, X, G⟩ := T.ex; exact He.glo_ok X G (T.c.fact 10)
theorem g_word_end (T : TX K mg) : mg "word_end" = some (.ref (He.ga K "word_end")) := by obtain ⟨h, X, G⟩ := T.ex; exact He.glo_ok X G (T.c.fact 11)
theorem g_word_start (T : TX K mg) : mg "word_start" = some (.ref (He.ga K "word_start")) := by obtain ⟨h, X, G⟩ := T.ex; exact He.glo_ok X G (T.c.fact 12)
theorem g_recased (T : TX K mg) : mg "recased" = some (.ref (He.ga K "recased")) := by obtain ⟨h, X, G⟩ := T.ex; exact He.glo_ok X G (T.c.fact 13)
theorem g__law_cell (T : TX K mg) : mg "_law_cell" = some (.ref (He.ga K "_law_cell")) := by obtain ⟨h, X, G⟩ := T.ex; exact He.glo_ok X G (T.c.fact 14)
theorem g__law_mix (T : TX K mg) : mg "_law_mix" = some (.ref (He.ga K "_law_mix")) := by obtain ⟨h, X, G⟩ := T.ex; exact He.glo_ok X G (T.c.fact 15)
theorem g__law_draw (T : TX K mg) : mg "_law_draw" = some (.ref (He.ga K "_law_draw")) := by obtain ⟨h, X, G⟩ := T.ex; exact He.glo_ok X G (T.c.fact 16)
theorem g__law_pick (T : TX K mg) : mg "_law_pick" = some (.ref (He.ga K "_law_pick")) := by obtain ⟨h, X, G⟩ := T.ex; exact He.glo_ok X G (T.c.fact 17)
theorem g__law_refusal (T : TX K mg) : mg "_law_refusal" = some (.ref (He.ga K "_law_refusal")) := by obtain ⟨h, X, G⟩ := T.ex; exact He.glo_ok X G (T.c.fact 18)
theorem g__law_text (T : TX K mg) : mg "_law_text" = some (.ref (He.ga K "_law_text")) := by obtain ⟨h, X, G⟩ := T.ex; exact He.glo_ok X G (T.c.fact 19)
theorem g__law_letter (T : TX K mg) : mg "_law_letter" = some (.ref (He.ga K "_law_letter")) := by obtain ⟨h, X, G⟩ := T.ex; exact He.glo_ok X G (T.c.fact 20)
theorem g__law_end (T : TX K mg) : mg "_law_end" = some (.ref (He.ga K "_law_end")) := by obtain ⟨h, X, G⟩ := T.ex; exact He.glo_ok X G (T.c.fact 21)
theorem g__law_start (T : TX K mg) : mg "_law_start" = some (.ref (He.ga K "_law_start")) := by obtain ⟨h, X, G⟩ := T.ex; exact He.glo_ok X G (T.c.fact 22)
theorem g__law_recased (T : TX K mg) : mg "_law_recased" = some (.ref (He.ga K "_law_recased")) := by obtain ⟨h, X, G⟩ := T.ex; exact He.glo_ok X G (T.c.fact 23)
theorem g__law_told (T : TX K mg) : mg "_law_told" = some (.ref (He.ga K "_law_told")) := by obtain ⟨h, X, G⟩ := T.ex; exact He.glo_ok X G (T.c.fact 24)
theorem g_law (T : TX K mg) : mg "law" = some (.ref (He.ga K "law")) := by obtain ⟨h, X, G⟩ := T.ex; exact He.glo_ok X G (T.c.fact 25)
theorem b_ValueError (T : TX K mg) : mg "ValueError" = none := by obtain ⟨h, X, G⟩ := T.ex; exact He.free_ok X G (T.c.fact 26)
theorem b_all (T : TX K mg) : mg "all" = none := by obtain ⟨h, X, G⟩ := T.ex; exact He.free_ok X G (T.c.fact 27)
theorem b_isinstance (T : TX K mg) : mg "isinstance" = none := by obtain ⟨h, X, G⟩ := T.ex; exact He.free_ok X G (T.c.fact 28)
theorem b_len (T : TX K mg) : mg "len" = none := by obtain ⟨h, X, G⟩ := T.ex; exact He.free_ok X G (T.c.fact 29)
theorem b_max (T : TX K mg) : mg "max" = none := by obtain ⟨h, X, G⟩ := T.ex; exact He.free_ok X G (T.c.fact 30)
theorem b_min (T : TX K mg) : mg "min" = none := by obtain ⟨h, X, G⟩ := T.ex; exact He.free_ok X G (T.c.fact 31)
theorem b_ord (T : TX K mg) : mg "ord" = none := by obtain ⟨h, X, G⟩ := T.ex; exact He.free_ok X G (T.c.fact 32)
theorem b_range (T : TX K mg) : mg "range" = none := by obtain ⟨h, X, G⟩ := T.ex; exact He.free_ok X G (T.c.fact 33)
theorem xc_BadKey (T : TX K mg) : PySem.W.excIn K (He.ga K "BadKey") He.veBase "ValueError.__new__" = true ∧ PySem.W.keepIn K (.ref (He.ga K "BadKey")) = true ∧ PySem.W.subIn K (.ref (He.ga K "BadKey")) (.type "BaseException") = some true ∧ PySem.W.typeIn K (.ref (He.ga K "BadKey")) = some (.type "type") := He.exc_ok (T.c.fact 34)
theorem xc_BadText (T : TX K mg) : PySem.W.excIn K (He.ga K "BadText") He.veBase "ValueError.__new__" = true ∧ PySem.W.keepIn K (.ref (He.ga K "BadText")) = true ∧ PySem.W.subIn K (.ref (He.ga K "BadText")) (.type "BaseException") = some true ∧ PySem.W.typeIn K (.ref (He.ga K "BadText")) = some (.type "type") := He.exc_ok (T.c.fact 35)
theorem xc_BadSize (T : TX K mg) : PySem.W.excIn K (He.ga K "BadSize") He.veBase "ValueError.__new__" = true ∧ PySem.W.keepIn K (.ref (He.ga K "BadSize")) = true ∧ PySem.W.subIn K (.ref (He.ga K "BadSize")) (.type "BaseException") = some true ∧ PySem.W.typeIn K (.ref (He.ga K "BadSize")) = some (.type "type") := He.exc_ok (T.c.fact 36)
theorem xc_BadPlace (T : TX K mg) : PySem.W.excIn K (He.ga K "BadPlace") He.veBase "ValueError.__new__" = true ∧ PySem.W.keepIn K (.ref (He.ga K "BadPlace")) = true ∧ PySem.W.subIn K (.ref (He.ga K "BadPlace")) (.type "BaseException") = some true ∧ PySem.W.typeIn K (.ref (He.ga K "BadPlace")) = some (.type "type") := He.exc_ok (T.c.fact 37)
theorem xm_BadKey (T : TX K mg) : PySem.W.exmOne K (.ref (He.ga K "BadKey")) (.ref (He.ga K "HandError")) = some true := He.exm_ok (T.c.fact 43)
theorem xm_BadText (T : TX K mg) : PySem.W.exmOne K (.ref (He.ga K "BadText")) (.ref (He.ga K "HandError")) = some true := He.exm_ok (T.c.fact 44)
theorem xm_BadSize (T : TX K mg) : PySem.W.exmOne K (.ref (He.ga K "BadSize")) (.ref (He.ga K "HandError")) = some true := He.exm_ok (T.c.fact 45)
theorem xm_BadPlace (T : TX K mg) : PySem.W.exmOne K (.ref (He.ga K "BadPlace")) (.ref (He.ga K "HandError")) = some true := He.exm_ok (T.c.fact 46)
theorem ex_BadKey (T : TX K mg) : ExcC K (He.ga K "BadKey") := excB_ok (ex_at T.x 0 (f := fun K => excB K (He.ga K "BadKey")))
theorem ki_BadKey_BadKey (T : TX K mg) : PySem.W.kitOne K (.ref (He.ga K "BadKey")) (.ref (He.ga K "BadKey")) = some true := kitB_ok (ex_at T.x 1 (f := fun K => kitB K (He.ga K "BadKey") (.ref (He.ga K "BadKey")) true))
theorem ki_BadKey_BadText (T : TX K mg) : PySem.W.kitOne K (.ref (He.ga K "BadKey")) (.ref (He.ga K "BadText")) = some false := kitB_ok (ex_at T.x 2 (f := fun K => kitB K (He.ga K "BadKey") (.ref (He.ga K "BadText")) false))
theorem ki_BadKey_BadSize (T : TX K mg) : PySem.W.kitOne K (.ref (He.ga K "BadKey")) (.ref (He.ga K "BadSize")) = some false := kitB_ok (ex_at T.x 3 (f := fun K => kitB K (He.ga K "BadKey") (.ref (He.ga K "BadSize")) false))
theorem ki_BadKey_BadPlace (T : TX K mg) : PySem.W.kitOne K (.ref (He.ga K "BadKey")) (.ref (He.ga K "BadPlace")) = some false := kitB_ok (ex_at T.x 4 (f := fun K => kitB K (He.ga K "BadKey") (.ref (He.ga K "BadPlace")) false))
theorem ki_BadKey_ValueError (T : TX K mg) : PySem.W.kitOne K (.ref (He.ga K "BadKey")) (.type "ValueError") = some true := kitB_ok (ex_at T.x 5 (f := fun K => kitB K (He.ga K "BadKey") (.type "ValueError") true))
theorem ex_BadText (T : TX K mg) : ExcC K (He.ga K "BadText") := excB_ok (ex_at T.x 6 (f := fun K => excB K (He.ga K "BadText")))
theorem ki_BadText_BadKey (T : TX K mg) : PySem.W.kitOne K (.ref (He.ga K "BadText")) (.ref (He.ga K "BadKey")) = some false := kitB_ok (ex_at T.x 7 (f := fun K => kitB K (He.ga K "BadText") (.ref (He.ga K "BadKey")) false))
theorem ki_BadText_BadText (T : TX K mg) : PySem.W.kitOne K (.ref (He.ga K "BadText")) (.ref (He.ga K "BadText")) = some true := kitB_ok (ex_at T.x 8 (f := fun K => kitB K (He.ga K "BadText") (.ref (He.ga K "BadText")) true))
theorem ki_BadText_BadSize (T : TX K mg) : PySem.W.kitOne K (.ref (He.ga K "BadText")) (.ref (He.ga K "BadSize")) = some false := kitB_ok (ex_at T.x 9 (f := fun K => kitB K (He.ga K "BadText") (.ref (He.ga K "BadSize")) false))
theorem ki_BadText_BadPlace (T : TX K mg) : PySem.W.kitOne K (.ref (He.ga K "BadText")) (.ref (He.ga K "BadPlace")) = some false := kitB_ok (ex_at T.x 10 (f := fun K => kitB K (He.ga K "BadText") (.ref (He.ga K "BadPlace")) false))
theorem ki_BadText_ValueError (T : TX K mg) : PySem.W.kitOne K (.ref (He.ga K "BadText")) (.type "ValueError") = some true := kitB_ok (ex_at T.x 11 (f := fun K => kitB K (He.ga K "BadText") (.type "ValueError") true))
theorem ex_BadSize (T : TX K mg) : ExcC K (He.ga K "BadSize") := excB_ok (ex_at T.x 12 (f := fun K => excB K (He.ga K "BadSize")))
theorem ki_BadSize_BadKey (T : TX K mg) : PySem.W.kitOne K (.ref (He.ga K "BadSize")) (.ref (He.ga K "BadKey")) = some false := kitB_ok (ex_at T.x 13 (f := fun K => kitB K (He.ga K "BadSize") (.ref (He.ga K "BadKey")) false))
theorem ki_BadSize_BadText (T : TX K mg) : PySem.W.kitOne K (.ref (He.ga K "BadSize")) (.ref (He.ga K "BadText")) = some false := kitB_ok (ex_at T.x 14 (f := fun K => kitB K (He.ga K "BadSize") (.ref (He.ga K "BadText")) false))
theorem ki_BadSize_BadSize (T : TX K mg) : PySem.W.kitOne K (.ref (He.ga K "BadSize")) (.ref (He.ga K "BadSize")) = some true := kitB_ok (ex_at T.x 15 (f := fun K => kitB K (He.ga K "BadSize") (.ref (He.ga K "BadSize")) true))
theorem ki_BadSize_BadPlace (T : TX K mg) : PySem.W.kitOne K (.ref (He.ga K "BadSize")) (.ref (He.ga K "BadPlace")) = some false := kitB_ok (ex_at T.x 16 (f := fun K => kitB K (He.ga K "BadSize") (.ref (He.ga K "BadPlace")) false))
theorem ki_BadSize_ValueError (T : TX K mg) : PySem.W.kitOne K (.ref (He.ga K "BadSize")) (.type "ValueError") = some true := kitB_ok (ex_at T.x 17 (f := fun K => kitB K (He.ga K "BadSize") (.type "ValueError") true))
theorem ex_BadPlace (T : TX K mg) : ExcC K (He.ga K "BadPlace") := excB_ok (ex_at T.x 18 (f := fun K => excB K (He.ga K "BadPlace")))
theorem ki_BadPlace_BadKey (T : TX K mg) : PySem.W.kitOne K (.ref (He.ga K "BadPlace")) (.ref (He.ga K "BadKey")) = some false := kitB_ok (ex_at T.x 19 (f := fun K => kitB K (He.ga K "BadPlace") (.ref (He.ga K "BadKey")) false))
theorem ki_BadPlace_BadText (T : TX K mg) : PySem.W.kitOne K (.ref (He.ga K "BadPlace")) (.ref (He.ga K "BadText")) = some false := kitB_ok (ex_at T.x 20 (f := fun K => kitB K (He.ga K "BadPlace") (.ref (He.ga K "BadText")) false))
theorem ki_BadPlace_BadSize (T : TX K mg) : PySem.W.kitOne K (.ref (He.ga K "BadPlace")) (.ref (He.ga K "BadSize")) = some false := kitB_ok (ex_at T.x 21 (f := fun K => kitB K (He.ga K "BadPlace") (.ref (He.ga K "BadSize")) false))
theorem ki_BadPlace_BadPlace (T : TX K mg) : PySem.W.kitOne K (.ref (He.ga K "BadPlace")) (.ref (He.ga K "BadPlace")) = some true := kitB_ok (ex_at T.x 22 (f := fun K => kitB K (He.ga K "BadPlace") (.ref (He.ga K "BadPlace")) true))
theorem ki_BadPlace_ValueError (T : TX K mg) : PySem.W.kitOne K (.ref (He.ga K "BadPlace")) (.type "ValueError") = some true := kitB_ok (ex_at T.x 23 (f := fun K => kitB K (He.ga K "BadPlace") (.type "ValueError") true))
theorem fn_is_sign (T : TX K mg) : ∃ fd, FunD K "is_sign" "is_sign" (defArgs s_is_sign) (defBody s_is_sign) (defScope s_is_sign) [] [] (He.fAd K ("is_sign", none)) fd := T.c.def_ 0 (d := ⟨("is_sign", none), "is_sign", "is_sign", defArgs s_is_sign, defBody s_is_sign, defScope s_is_sign, [], []⟩)
theorem fn_look_text (T : TX K mg) : ∃ fd, FunD K "look_text" "look_text" (defArgs s_look_text) (defBody s_look_text) (defScope s_look_text) [] [] (He.fAd K ("look_text", none)) fd := T.c.def_ 1 (d := ⟨("look_text", none), "look_text", "look_text", defArgs s_look_text, defBody s_look_text, defScope s_look_text, [], []⟩)
theorem fn_look_place (T : TX K mg) : ∃ fd, FunD K "look_place" "look_place" (defArgs s_look_place) (defBody s_look_place) (defScope s_look_place) [] [] (He.fAd K ("look_place", none)) fd := T.c.def_ 2 (d := ⟨("look_place", none), "look_place", "look_place", defArgs s_look_place, defBody s_look_place, defScope s_look_place, [], []⟩)
theorem fn_is_letter (T : TX K mg) : ∃ fd, FunD K "is_letter" "is_letter" (defArgs s_is_letter) (defBody s_is_letter) (defScope s_is_letter) [] [] (He.fAd K ("is_letter", none)) fd := T.c.def_ 3 (d := ⟨("is_letter", none), "is_letter", "is_letter", defArgs s_is_letter, defBody s_is_letter, defScope s_is_letter, [], []⟩)
theorem fn_word_end (T : TX K mg) : ∃ fd, FunD K "word_end" "word_end" (defArgs s_word_end) (defBody s_word_end) (defScope s_word_end) [] [] (He.fAd K ("word_end", none)) fd := T.c.def_ 4 (d := ⟨("word_end", none), "word_end", "word_end", defArgs s_word_end, defBody s_word_end, defScope s_word_end, [], []⟩)
theorem fn_word_start (T : TX K mg) : ∃ fd, FunD K "word_start" "word_start" (defArgs s_word_start) (defBody s_word_start) (defScope s_word_start) [] [] (He.fAd K ("word_start", none)) fd := T.c.def_ 5 (d := ⟨("word_start", none), "word_start", "word_start", defArgs s_word_start, defBody s_word_start, defScope s_word_start, [], []⟩)
theorem fn_recased (T : TX K mg) : ∃ fd, FunD K "recased" "recased" (defArgs s_recased) (defBody s_recased) (defScope s_recased) [] [] (He.fAd K ("recased", none)) fd := T.c.def_ 6 (d := ⟨("recased", none), "recased", "recased", defArgs s_recased, defBody s_recased, defScope s_recased, [], []⟩)
theorem fn_l_cell (T : TX K mg) : ∃ fd, FunD K "_law_cell" "_law_cell" (defArgs s_l_cell) (defBody s_l_cell) (defScope s_l_cell) [] [] (He.fAd K ("_law_cell", none)) fd := T.c.def_ 7 (d := ⟨("_law_cell", none), "_law_cell", "_law_cell", defArgs s_l_cell, defBody s_l_cell, defScope s_l_cell, [], []⟩)
theorem fn_l_mix (T : TX K mg) : ∃ fd, FunD K "_law_mix" "_law_mix" (defArgs s_l_mix) (defBody s_l_mix) (defScope s_l_mix) [] [] (He.fAd K ("_law_mix", none)) fd := T.c.def_ 8 (d := ⟨("_law_mix", none), "_law_mix", "_law_mix", defArgs s_l_mix, defBody s_l_mix, defScope s_l_mix, [], []⟩)
theorem fn_l_draw (T : TX K mg) : ∃ fd, FunD K "_law_draw" "_law_draw" (defArgs s_l_draw) (defBody s_l_draw) (defScope s_l_draw) [] [] (He.fAd K ("_law_draw", none)) fd := T.c.def_ 9 (d := ⟨("_law_draw", none), "_law_draw", "_law_draw", defArgs s_l_draw, defBody s_l_draw, defScope s_l_draw, [], []⟩)
theorem fn_l_pick (T : TX K mg) : ∃ fd, FunD K "_law_pick" "_law_pick" (defArgs s_l_pick) (defBody s_l_pick) (defScope s_l_pick) [] [] (He.fAd K ("_law_pick", none)) fd := T.c.def_ 10 (d := ⟨("_law_pick", none), "_law_pick", "_law_pick", defArgs s_l_pick, defBody s_l_pick, defScope s_l_pick, [], []⟩)
theorem fn_l_refusal (T : TX K mg) : ∃ fd, FunD K "_law_refusal" "_law_refusal" (defArgs s_l_refusal) (defBody s_l_refusal) (defScope s_l_refusal) [] [] (He.fAd K ("_law_refusal", none)) fd := T.c.def_ 11 (d := ⟨("_law_refusal", none), "_law_refusal", "_law_refusal", defArgs s_l_refusal, defBody s_l_refusal, defScope s_l_refusal, [], []⟩)
theorem fn_l_text (T : TX K mg) : ∃ fd, FunD K "_law_text" "_law_text" (defArgs s_l_text) (defBody s_l_text) (defScope s_l_text) [] [] (He.fAd K ("_law_text", none)) fd := T.c.def_ 12 (d := ⟨("_law_text", none), "_law_text", "_law_text", defArgs s_l_text, defBody s_l_text, defScope s_l_text, [], []⟩)
theorem fn_l_letter (T : TX K mg) : ∃ fd, FunD K "_law_letter" "_law_letter" (defArgs s_l_letter) (defBody s_l_letter) (defScope s_l_letter) [] [] (He.fAd K ("_law_letter", none)) fd := T.c.def_ 13 (d := ⟨("_law_letter", none), "_law_letter", "_law_letter", defArgs s_l_letter, defBody s_l_letter, defScope s_l_letter, [], []⟩)
theorem fn_l_end (T : TX K mg) : ∃ fd, FunD K "_law_end" "_law_end" (defArgs s_l_end) (defBody s_l_end) (defScope s_l_end) [] [] (He.fAd K ("_law_end", none)) fd := T.c.def_ 14 (d := ⟨("_law_end", none), "_law_end", "_law_end", defArgs s_l_end, defBody s_l_end, defScope s_l_end, [], []⟩)
theorem fn_l_start (T : TX K mg) : ∃ fd, FunD K "_law_start" "_law_start" (defArgs s_l_start) (defBody s_l_start) (defScope s_l_start) [] [] (He.fAd K ("_law_start", none)) fd := T.c.def_ 15 (d := ⟨("_law_start", none), "_law_start", "_law_start", defArgs s_l_start, defBody s_l_start, defScope s_l_start, [], []⟩)
theorem fn_l_recased (T : TX K mg) : ∃ fd, FunD K "_law_recased" "_law_recased" (defArgs s_l_recased) (defBody s_l_recased) (defScope s_l_recased) [] [] (He.fAd K ("_law_recased", none)) fd := T.c.def_ 16 (d := ⟨("_law_recased", none), "_law_recased", "_law_recased", defArgs s_l_recased, defBody s_l_recased, defScope s_l_recased, [], []⟩)
theorem fn_l_told (T : TX K mg) : ∃ fd, FunD K "_law_told" "_law_told" (defArgs s_l_told) (defBody s_l_told) (defScope s_l_told) [] [] (He.fAd K ("_law_told", none)) fd := T.c.def_ 17 (d := ⟨("_law_told", none), "_law_told", "_law_told", defArgs s_l_told, defBody s_l_told, defScope s_l_told, [], []⟩)
theorem fn_law (T : TX K mg) : ∃ fd, FunD K "law" "law" (defArgs s_law) (defBody s_law) (defScope s_law) [] [] (He.fAd K ("law", none)) fd := T.c.def_ 18 (d := ⟨("law", none), "law", "law", defArgs s_law, defBody s_law, defScope s_law, [], []⟩)
end
abbrev n_is_sign : List Str := ["sign"]
abbrev p_is_sign : List Str := ["sign"]
theorem sc_is_sign : FnScope n_is_sign p_is_sign (defScope s_is_sign) := ⟨rfl, rfl, rfl, by decide +kernel, rfl, by decide +kernel, by decide +kernel⟩
theorem bd_is_sign : Bnd "is_sign" "is_sign" s_is_sign p_is_sign := fun _ _ _ _ _ _ us hl => match us, hl with | [_], _ => rfl
abbrev n_look_text : List Str := ["text", "sign"]
abbrev p_look_text : List Str := ["text"]
theorem sc_look_text : FnScope n_look_text p_look_text (defScope s_look_text) := ⟨rfl, rfl, rfl, by decide +kernel, rfl, by decide +kernel, by decide +kernel⟩
theorem bd_look_text : Bnd "look_text" "look_text" s_look_text p_look_text := fun _ _ _ _ _ _ us hl => match us, hl with | [_], _ => rfl
abbrev n_look_place : List Str := ["text", "at"]
abbrev p_look_place : List Str := ["text", "at"]
theorem sc_look_place : FnScope n_look_place p_look_place (defScope s_look_place) := ⟨rfl, rfl, rfl, by decide +kernel, rfl, by decide +kernel, by decide +kernel⟩
theorem bd_look_place : Bnd "look_place" "look_place" s_look_place p_look_place := fun _ _ _ _ _ _ us hl => match us, hl with | [_, _], _ => rfl
abbrev n_is_letter : List Str := ["text", "at"]
abbrev p_is_letter : List Str := ["text", "at"]
theorem sc_is_letter : FnScope n_is_letter p_is_letter (defScope s_is_letter) := ⟨rfl, rfl, rfl, by decide +kernel, rfl, by decide +kernel, by decide +kernel⟩
theorem bd_is_letter : Bnd "is_letter" "is_letter" s_is_letter p_is_letter := fun _ _ _ _ _ _ us hl => match us, hl with | [_, _], _ => rfl
abbrev n_word_end : List Str := ["text", "at"]
abbrev p_word_end : List Str := ["text", "at"]
theorem sc_word_end : FnScope n_word_end p_word_end (defScope s_word_end) := ⟨rfl, rfl, rfl, by decide +kernel, rfl, by decide +kernel, by decide +kernel⟩
theorem bd_word_end : Bnd "word_end" "word_end" s_word_end p_word_end := fun _ _ _ _ _ _ us hl => match us, hl with | [_, _], _ => rfl
abbrev n_word_start : List Str := ["text", "at"]
abbrev p_word_start : List Str := ["text", "at"]
theorem sc_word_start : FnScope n_word_start p_word_start (defScope s_word_start) := ⟨rfl, rfl, rfl, by decide +kernel, rfl, by decide +kernel, by decide +kernel⟩
theorem bd_word_start : Bnd "word_start" "word_start" s_word_start p_word_start := fun _ _ _ _ _ _ us hl => match us, hl with | [_, _], _ => rfl
abbrev n_recased : List Str := ["text", "at", "way", "end", "start", "word"]
abbrev p_recased : List Str := ["text", "at", "way"]
theorem sc_recased : FnScope n_recased p_recased (defScope s_recased) := ⟨rfl, rfl, rfl, by decide +kernel, rfl, by decide +kernel, by decide +kernel⟩
theorem bd_recased : Bnd "recased" "recased" s_recased p_recased := fun _ _ _ _ _ _ us hl => match us, hl with | [_, _, _], _ => rfl
abbrev n_l_cell : List Str := ["_law_script", "_law_k"]
abbrev p_l_cell : List Str := ["_law_script", "_law_k"]
theorem sc_l_cell : FnScope n_l_cell p_l_cell (defScope s_l_cell) := ⟨rfl, rfl, rfl, by decide +kernel, rfl, by decide +kernel, by decide +kernel⟩
theorem bd_l_cell : Bnd "_law_cell" "_law_cell" s_l_cell p_l_cell := fun _ _ _ _ _ _ us hl => match us, hl with | [_, _], _ => rfl
abbrev n_l_mix : List Str := ["_law_script", "_law_k", "_law_number"]
abbrev p_l_mix : List Str := ["_law_script", "_law_k"]
theorem sc_l_mix : FnScope n_l_mix p_l_mix (defScope s_l_mix) := ⟨rfl, rfl, rfl, by decide +kernel, rfl, by decide +kernel, by decide +kernel⟩
theorem bd_l_mix : Bnd "_law_mix" "_law_mix" s_l_mix p_l_mix := fun _ _ _ _ _ _ us hl => match us, hl with | [_, _], _ => rfl
abbrev n_l_draw : List Str := ["_law_script", "_law_town", "_law_many"]
abbrev p_l_draw : List Str := ["_law_script", "_law_town", "_law_many"]
theorem sc_l_draw : FnScope n_l_draw p_l_draw (defScope s_l_draw) := ⟨rfl, rfl, rfl, by decide +kernel, rfl, by decide +kernel, by decide +kernel⟩
theorem bd_l_draw : Bnd "_law_draw" "_law_draw" s_l_draw p_l_draw := fun _ _ _ _ _ _ us hl => match us, hl with | [_, _, _], _ => rfl
abbrev n_l_pick : List Str := ["_law_script", "_law_town", "_law_some"]
abbrev p_l_pick : List Str := ["_law_script", "_law_town", "_law_some"]
theorem sc_l_pick : FnScope n_l_pick p_l_pick (defScope s_l_pick) := ⟨rfl, rfl, rfl, by decide +kernel, rfl, by decide +kernel, by decide +kernel⟩
theorem bd_l_pick : Bnd "_law_pick" "_law_pick" s_l_pick p_l_pick := fun _ _ _ _ _ _ us hl => match us, hl with | [_, _, _], _ => rfl
abbrev n_l_refusal : List Str := ["_law_held", "_law_kinds"]
abbrev p_l_refusal : List Str := ["_law_held"]
theorem sc_l_refusal : FnScope n_l_refusal p_l_refusal (defScope s_l_refusal) := ⟨rfl, rfl, rfl, by decide +kernel, rfl, by decide +kernel, by decide +kernel⟩
theorem bd_l_refusal : Bnd "_law_refusal" "_law_refusal" s_l_refusal p_l_refusal := fun _ _ _ _ _ _ us hl => match us, hl with | [_], _ => rfl
abbrev n_l_text : List Str := ["_law_script", "_law_town", "_law_most", "_law_found", "_law_k"]
abbrev p_l_text : List Str := ["_law_script", "_law_town", "_law_most"]
theorem sc_l_text : FnScope n_l_text p_l_text (defScope s_l_text) := ⟨rfl, rfl, rfl, by decide +kernel, rfl, by decide +kernel, by decide +kernel⟩
theorem bd_l_text : Bnd "_law_text" "_law_text" s_l_text p_l_text := fun _ _ _ _ _ _ us hl => match us, hl with | [_, _, _], _ => rfl
abbrev n_l_letter : List Str := ["_law_text_here", "_law_at"]
abbrev p_l_letter : List Str := ["_law_text_here", "_law_at"]
theorem sc_l_letter : FnScope n_l_letter p_l_letter (defScope s_l_letter) := ⟨rfl, rfl, rfl, by decide +kernel, rfl, by decide +kernel, by decide +kernel⟩
theorem bd_l_letter : Bnd "_law_letter" "_law_letter" s_l_letter p_l_letter := fun _ _ _ _ _ _ us hl => match us, hl with | [_, _], _ => rfl
abbrev n_l_end : List Str := ["_law_text_here", "_law_at", "_law_some", "_law_k"]
abbrev p_l_end : List Str := ["_law_text_here", "_law_at"]
theorem sc_l_end : FnScope n_l_end p_l_end (defScope s_l_end) := ⟨rfl, rfl, rfl, by decide +kernel, rfl, by decide +kernel, by decide +kernel⟩
theorem bd_l_end : Bnd "_law_end" "_law_end" s_l_end p_l_end := fun _ _ _ _ _ _ us hl => match us, hl with | [_, _], _ => rfl
abbrev n_l_start : List Str := ["_law_text_here", "_law_at", "_law_some", "_law_k"]
abbrev p_l_start : List Str := ["_law_text_here", "_law_at"]
theorem sc_l_start : FnScope n_l_start p_l_start (defScope s_l_start) := ⟨rfl, rfl, rfl, by decide +kernel, rfl, by decide +kernel, by decide +kernel⟩
theorem bd_l_start : Bnd "_law_start" "_law_start" s_l_start p_l_start := fun _ _ _ _ _ _ us hl => match us, hl with | [_, _], _ => rfl
abbrev n_l_recased : List Str := ["_law_text_here", "_law_at", "_law_way", "_law_end_here", "_law_letters", "_law_k", "_law_found", "_law_sign", "_law_is_great"]
abbrev p_l_recased : List Str := ["_law_text_here", "_law_at", "_law_way"]
theorem sc_l_recased : FnScope n_l_recased p_l_recased (defScope s_l_recased) := ⟨rfl, rfl, rfl, by decide +kernel, rfl, by decide +kernel, by decide +kernel⟩
theorem bd_l_recased : Bnd "_law_recased" "_law_recased" s_l_recased p_l_recased := fun _ _ _ _ _ _ us hl => match us, hl with | [_, _, _], _ => rfl
abbrev n_l_told : List Str := ["_law_way", "_law_text_here", "_law_at", "_law_word", "_law_held", "_law_found", "e"]
abbrev p_l_told : List Str := ["_law_way", "_law_text_here", "_law_at", "_law_word"]
theorem sc_l_told : FnScope n_l_told p_l_told (defScope s_l_told) := ⟨rfl, rfl, rfl, by decide +kernel, rfl, by decide +kernel, by decide +kernel⟩
theorem bd_l_told : Bnd "_law_told" "_law_told" s_l_told p_l_told := fun _ _ _ _ _ _ us hl => match us, hl with | [_, _, _, _], _ => rfl
abbrev n_law : List Str := ["_law_script", "_law_town", "_law_text_here", "_law_at", "_law_word", "_law_bad", "_law_way"]
abbrev p_law : List Str := ["_law_script"]
theorem sc_law : FnScope n_law p_law (defScope s_law) := ⟨rfl, rfl, rfl, by decide +kernel, rfl, by decide +kernel, by decide +kernel⟩
theorem bd_law : Bnd "law" "law" s_law p_law := fun _ _ _ _ _ _ us hl => match us, hl with | [_], _ => rfl
end LH
/-! ## Rd: readings by simp; loops, comprehensions -/
namespace LH
open PySem PySem.Spec PyProof.Rows L2
theorem ex_eq {α : Sort u} {a : α} {p : α → Prop} : (∃ x, a = x ∧ p x) = p a := propext ⟨fun ⟨_, e, h⟩ => e ▸ h, fun h => ⟨a, rfl, h⟩⟩
theorem ex_eq' {α : Sort u} {a : α} {p : α → Prop} : (∃ x, x = a ∧ p x) = p a := propext ⟨fun ⟨_, e, h⟩ => e ▸ h, fun h => ⟨a, rfl, h⟩⟩
theorem ex_eq0 {α : Sort u} {a : α} : (∃ x, a = x) = True := propext ⟨fun _ => trivial, fun _ => ⟨a, rfl⟩⟩
theorem if_tt {A B : Prop} : (if true = true then A else B) = A := if_pos rfl
theorem if_ff {A B : Prop} : (if false = true then A else B) = B := if_neg Bool.false_ne_true
theorem scII {i j : Int} : scal (.int i) (.int j) = true := rfl
theorem scSS {i j : Str} : scal (.str i) (.str j) = true := rfl
theorem scBB {i j : Bool} : scal (.bl i) (.bl j) = true := rfl
theorem scNN : scal .non .non = true := rfl
theorem scNI {j : Int} : scal .non (.int j) = true := rfl
theorem scNS {j : Str} : scal .non (.str j) = true := rfl
theorem scNB {j : Bool} : scal .non (.bl j) = true := rfl
theorem scIN {j : Int} : scal (.int j) .non = true := rfl
theorem scSN {j : Str} : scal (.str j) .non = true := rfl
theorem scBN {j : Bool} : scal (.bl j) .non = true := rfl
theorem scIS {i : Int} {j : Str} : scal (.int i) (.str j) = true := rfl
theorem scSI {i : Str} {j : Int} : scal (.str i) (.int j) = true := rfl
/-- the list comprehension behind its walk's making -/
def LcB (J : It) (g : TG) (tt : TT) (te : TE) (vs : List Nat) (σ : L2.St) (H1 : Hp) (Q : VK) : Prop := ∀ D, H1 D = none → ∃ W : Nat → Nat → Hp → Prop, (∃ m, W 0 m (upd H1 D (.lst []))) ∧ ∀ i m H, W i m H →
  (J.stop i H ∧ Q (.ref D) H) ∨ (J.go i H ∧ ∃ Nx : Hp → Prop, (∀ H', Nx H' → ∃ m', m' < m ∧ W (i + 1) m' H') ∧ ∀ x H', J.yld i H x H' → g x (wipe σ vs) H' fun σ2 H2 => wipe σ2 vs = wipe σ vs ∧ tt σ2 H2 fun b H3 =>
    if b = true then te σ2 H3 fun y H4 => ∃ acc, H4 D = some (.lst acc) ∧ acc.length < sizeLine ∧ Nx (upd H4 D (.lst (acc ++ [y]))) else Nx H3)
theorem tLc_eq {wi : TI} {g : TG} {tt : TT} {te : TE} {vs : List Nat} {σ : L2.St} {H : Hp} {Q : VK} : tLc wi g tt te vs σ H Q = wi σ H fun J H1 => LcB J g tt te vs σ H1 Q := rfl
/-- the for behind its walk's making -/
def ForB (J : It) (g : TG) (tb : TS) (D : Ends) (σ : L2.St) (H1 : Hp) : Prop := ∃ W : Nat → Nat → L2.St → Hp → Prop, (∃ m, W 0 m σ H1) ∧ ∀ i m σ H, W i m σ H →
  (J.stop i H ∧ D.nx σ H) ∨ (J.go i H ∧ ∃ N : L2.St → Hp → Prop, (∀ σ' H', N σ' H' → ∃ m', m' < m ∧ W (i + 1) m' σ' H') ∧ ∀ x H', J.yld i H x H' → g x σ H' fun σ2 H2 => tb { D with nx := N, ct := N, bk := D.nx } σ2 H2)
theorem tFor_eq {wi : TI} {g : TG} {tb : TS} {D : Ends} {σ : L2.St} {H : Hp} : tFor wi g tb D σ H = wi σ H fun J H1 => ForB J g tb D σ H1 := rfl

theorem same_upd {H H' : Hp} {p : Addr} {o : HO} (s : Same H H') (h : H p = none) : Same H (upd H' p o) := fun b u e => by
  rw [upd_ne (ne_of_none e h)]
  exact s b u e
theorem same_new {H : Hp} {p : Addr} {o : HO} (h : H p = none) : Same H (upd H p o) := same_upd (Same.refl H) h
theorem sq_of {K : PySem.W.Frag} {H : Hp} {a : Addr} {xs : List V} (h : H a = some (.lst xs)) : SqL K H a xs := .inl (.inl h)
theorem st_of {K : PySem.W.Frag} {H : Hp} {a : Addr} {xs : List V} (h : H a = some (.tup xs)) : SqT K H a xs := .inl (.inl h)
theorem rd_same {H H' : Hp} {a : Addr} {u : HO} (s : Same H H') (h : Rd H a u) : Rd H' a u := by
  rcases h with h | ⟨o, h⟩
  · exact .inl (s _ _ h)
  · exact .inr ⟨o, s _ _ h⟩
theorem seqT {K : PySem.W.Frag} {H H' : Hp} {a : Addr} {xs : List V} (s : Same H H') (h : SqT K H a xs) : SqT K H' a xs := by
  rcases h with h | h
  · exact .inl (rd_same s h)
  · exact .inr h

section
variable {g : TG} {tt : TT} {te : TE} {vs : List Nat} {σ : L2.St} {H : Hp} {Q : VK}
/-- a comprehension whose elements make nothing that matters: ys the items, f which are kept, v what is made of them -/
theorem lcb_gen {α : Type} {J : It} {n : Nat} {G : Hp → Prop} (ys : List α) (inj : α → V) (f : α → Bool) (v : α → V) (w : Walk J n G (YAt (ys.map inj))) (hn : n = ys.length) (hG : ∀ H', Same H H' → G H') (hz : ys.length ≤ 100000)
    (hs : ∀ y H', y ∈ ys → Same H H' → ∀ (Y : V → Hp → Prop) (N : Hp → Prop), (f y = true → ∀ H4, Same H' H4 → Y (v y) H4) → (f y = false → ∀ H3, Same H' H3 → N H3) →
      g (inj y) (wipe σ vs) H' fun σ2 H2 => wipe σ2 vs = wipe σ vs ∧ tt σ2 H2 fun b H3 => if b = true then te σ2 H3 Y else N H3)
    (hd : ∀ D H', H D = none → Same H H' → H' D = some (.lst ((ys.filter f).map v)) → Q (.ref D) H') : LcB J g tt te vs σ H Q := by
  intro D hD
  refine lc_it w (fun i H' => Same H H' ∧ H' D = some (.lst (((ys.take i).filter f).map v))) ⟨same_new hD, upd_same⟩ (fun i H' _ p => hG H' p.1) ?_ ?_
  · rintro i x H1 H2 hi ⟨s, e⟩ ⟨rfl, hx⟩
    rw [List.getElem?_map] at hx
    cases hy : ys[i]? with
    | none =>
      rw [hy] at hx
      cases hx
    | some y =>
      rw [hy] at hx
      have ex : inj y = x := Option.some.inj hx
      subst ex
      have et : ys.take (i + 1) = ys.take i ++ [y] := by rw [List.take_add_one, hy]; rfl
      refine hs y _ (List.mem_of_getElem? hy) s _ _ (fun hf H4 s4 => ?_) (fun hf H3 s3 => ?_)
      · refine ⟨_, s4 _ _ e, ?_, same_upd (s.trans s4) hD, ?_⟩
        · refine slt ?_
          have h1 := List.length_filter_le f (ys.take i)
          have h2 := List.length_take_le i ys
          have h3 : i < ys.length := by omega
          rw [List.length_map]
          have h4 : (ys.take i).length = i := by rw [List.length_take]; omega
          omega
        · rw [upd_same, et, List.filter_append, List.map_append, List.filter_cons, if_pos hf]
          rfl
      · refine ⟨s.trans s3, ?_⟩
        rw [s3 _ _ e, et, List.filter_append, List.map_append, List.filter_cons, if_neg (by rw [hf]; decide)]
        simp
  · rintro H' ⟨s, e⟩
    rw [hn, List.take_length] at e
    exact hd D H' hD s e
theorem walk_strS {t : List Nat} : Walk (Its (S t)) t.length (fun _ => True) (YAt (t.map fun c => V.str (S [c]))) := by
  have w := walk_str (z := S t)
  have e : (S t).cps.size = t.length := S_len t
  rw [e] at w
  refine w.mono (fun _ _ => trivial) fun i H x H' _ _ ⟨h1, c, h2, h3⟩ => ⟨h1, ?_⟩
  have h4 : t[i]? = some c := by
    rw [← h2]
    show t[i]? = (t.toArray)[i]?
    rw [List.getElem?_toArray]
  rw [List.getElem?_map, h4, h3]
  rfl
theorem walk_rng {lo : Int} {n : Nat} : Walk (Itr lo n) n (fun _ => True) (YAt ((List.range n).map fun i : Nat => V.int (lo + (i : Int)))) :=
  walk_range.mono (fun _ _ => trivial) fun i H x H' hi _ ⟨h1, h2⟩ => ⟨h1, by rw [List.getElem?_map, List.getElem?_range hi, h2]; rfl⟩
theorem lcb_str (t : List Nat) (f : Nat → Bool) (v : Nat → V) (hz : t.length ≤ 100000)
    (hs : ∀ c H', c ∈ t → Same H H' → ∀ (Y : V → Hp → Prop) (N : Hp → Prop), (f c = true → ∀ H4, Same H' H4 → Y (v c) H4) → (f c = false → ∀ H3, Same H' H3 → N H3) →
      g (.str (S [c])) (wipe σ vs) H' fun σ2 H2 => wipe σ2 vs = wipe σ vs ∧ tt σ2 H2 fun b H3 => if b = true then te σ2 H3 Y else N H3)
    (hd : ∀ D H', H D = none → Same H H' → H' D = some (.lst ((t.filter f).map v)) → Q (.ref D) H') : LcB (Its (S t)) g tt te vs σ H Q :=
  lcb_gen t (fun c => V.str (S [c])) f v walk_strS rfl (fun _ _ => trivial) hz hs hd
theorem lcb_rng (lo : Int) (n : Nat) (f : Int → Bool) (v : Int → V) (hz : n ≤ 100000)
    (hs : ∀ (k : Nat) H', k < n → Same H H' → ∀ (Y : V → Hp → Prop) (N : Hp → Prop), (f (lo + k) = true → ∀ H4, Same H' H4 → Y (v (lo + k)) H4) → (f (lo + k) = false → ∀ H3, Same H' H3 → N H3) →
      g (.int (lo + k)) (wipe σ vs) H' fun σ2 H2 => wipe σ2 vs = wipe σ vs ∧ tt σ2 H2 fun b H3 => if b = true then te σ2 H3 Y else N H3)
    (hd : ∀ D H', H D = none → Same H H' → H' D = some (.lst ((((List.range n).map fun k : Nat => lo + (k : Int)).filter f).map v)) → Q (.ref D) H') : LcB (Itr lo n) g tt te vs σ H Q := by
  refine lcb_gen ((List.range n).map fun k : Nat => lo + (k : Int)) V.int f v (by rw [List.map_map]; exact walk_rng) (by rw [List.length_map, List.length_range]) (fun _ _ => trivial) (by rw [List.length_map, List.length_range]; exact hz) (fun y H' hy => ?_) hd
  obtain ⟨k, hk, rfl⟩ := List.mem_map.mp hy
  exact hs k H' (List.mem_range.mp hk)
theorem lcb_list {α : Type} {K : PySem.W.Frag} {a : Addr} (ys : List α) (inj : α → V) (f : α → Bool) (v : α → V) (hl : SqL K H a (ys.map inj)) (hz : ys.length ≤ 100000)
    (hs : ∀ y H', y ∈ ys → Same H H' → ∀ (Y : V → Hp → Prop) (N : Hp → Prop), (f y = true → ∀ H4, Same H' H4 → Y (v y) H4) → (f y = false → ∀ H3, Same H' H3 → N H3) →
      g (inj y) (wipe σ vs) H' fun σ2 H2 => wipe σ2 vs = wipe σ vs ∧ tt σ2 H2 fun b H3 => if b = true then te σ2 H3 Y else N H3)
    (hd : ∀ D H', H D = none → Same H H' → H' D = some (.lst ((ys.filter f).map v)) → Q (.ref D) H') : LcB (Itl K a) g tt te vs σ H Q :=
  lcb_gen ys inj f v walk_list (by rw [List.length_map]) (fun _ s => s.seq hl) hz hs hd
theorem filter_tt {α : Type} : ∀ l : List α, l.filter (fun _ => true) = l
  | [] => rfl
  | a :: l => by rw [List.filter_cons, if_pos rfl, filter_tt l]
/-- the same where all are kept -/
theorem lcb_strM (t : List Nat) (v : Nat → V) (hz : t.length ≤ 100000)
    (hs : ∀ c H', c ∈ t → Same H H' → ∀ (Y : V → Hp → Prop), (∀ H4, Same H' H4 → Y (v c) H4) → g (.str (S [c])) (wipe σ vs) H' fun σ2 H2 => wipe σ2 vs = wipe σ vs ∧ te σ2 H2 Y)
    (hd : ∀ D H', H D = none → Same H H' → H' D = some (.lst (t.map v)) → Q (.ref D) H') : LcB (Its (S t)) g tYes te vs σ H Q := by
  refine lcb_str t (fun _ => true) v hz (fun c H' hc s Y N h1 _ => ?_) (by rw [filter_tt]; exact hd)
  have h := hs c H' hc s Y (h1 rfl)
  exact h
end
end LH
/-! ### loops, frames -/
namespace LH
open PySem PySem.Spec PyProof.Rows L2
section
variable {g : TG} {tb : TS} {D : Ends} {σ : L2.St} {H : Hp} {K : PySem.W.Frag}
theorem forb_rng {lo : Int} {n : Nat} (Pv : Nat → L2.St → Hp → Prop) (h0 : Pv 0 σ H) (hs : ∀ (i : Nat) σ' H', i < n → Pv i σ' H' → g (.int (lo + i)) σ' H' fun σ2 H2 => tb { D with nx := Pv (i + 1), ct := Pv (i + 1), bk := D.nx } σ2 H2)
    (hd : ∀ σ' H', Pv n σ' H' → D.nx σ' H') : ForB (Itr lo n) g tb D σ H := for_range Pv h0 hs hd
theorem forb_list {a : Addr} {xs : List V} (Pv : Nat → L2.St → Hp → Prop) (h0 : Pv 0 σ H) (hl : ∀ i σ' H', i ≤ xs.length → Pv i σ' H' → SqL K H' a xs)
    (hs : ∀ i x σ' H', xs[i]? = some x → Pv i σ' H' → g x σ' H' fun σ2 H2 => tb { D with nx := Pv (i + 1), ct := Pv (i + 1), bk := D.nx } σ2 H2) (hd : ∀ σ' H', Pv xs.length σ' H' → D.nx σ' H') : ForB (Itl K a) g tb D σ H := for_list Pv h0 hl hs hd
end
/-- what was tracked is as it was, but at F -/
def Fx (F : List Addr) (H H' : Hp) : Prop := ∀ c o, H c = some o → c ∉ F → H' c = some o
section
variable {F G : List Addr} {H H1 H2 H' : Hp} {a b c p : Addr} {o : HO} {xs : List V} {K : PySem.W.Frag}
theorem Fx.refl (F : List Addr) (H : Hp) : Fx F H H := fun _ _ e _ => e
theorem Fx.trans (x : Fx F H H1) (y : Fx F H1 H2) : Fx F H H2 := fun c o e n => y c o (x c o e n) n
theorem Fx.of (s : Same H H') : Fx F H H' := fun c o e _ => s c o e
theorem Fx.mono (x : Fx F H H') (h : ∀ c ∈ F, c ∈ G) : Fx G H H' := fun c o e n => x c o e fun m => n (h c m)
theorem Fx.comp (x : Fx F H H1) (y : Fx G H1 H2) (h : ∀ c ∈ G, c ∈ F ∨ H c = none) : Fx F H H2 := fun c o e n => y c o (x c o e n) fun m => by
  rcases h c m with q | q
  · exact n q
  · rw [e] at q
    cases q
theorem Fx.upd (h : p ∈ F) : Fx F H (L2.upd H p o) := fun c u e n => by
  rw [upd_ne fun z => n (by rw [z]; exact h)]
  exact e
theorem Fx.new (h : H p = none) : Fx F H (L2.upd H p o) := Fx.of (same_new h)
theorem Fx.at (x : Fx F H H') (e : H c = some o) (n : c ∉ F) : H' c = some o := x c o e n
theorem Fx.same (x : Fx [] H H') : Same H H' := fun c o e => x c o e List.not_mem_nil
theorem Fx.rd {u : HO} (x : Fx F H H') (h : Rd H a u) (n : a ∉ F) : Rd H' a u := by
  rcases h with h | ⟨o, h⟩
  · exact .inl (x _ _ h n)
  · exact .inr ⟨o, x _ _ h n⟩
theorem Fx.sql (x : Fx F H H') (h : SqL K H a xs) (n : a ∉ F) : SqL K H' a xs := h.elim (fun q => .inl (x.rd q n)) .inr
theorem Fx.sqt (x : Fx F H H') (h : SqT K H a xs) (n : a ∉ F) : SqT K H' a xs := h.elim (fun q => .inl (x.rd q n)) .inr
/-- a new address is in no list of addresses that are tracked -/
theorem new_notin (h : ∀ c ∈ F, H c ≠ none) (n : H p = none) : p ∉ F := fun m => h p m n
theorem Fx.free (x : Fx F H H') (h : ∀ c ∈ F, H' c ≠ none) (n : H' p = none) : H p = none := by
  cases e : H p with
  | none => rfl
  | some o =>
    have q := x p o e (new_notin h n)
    rw [n] at q
    cases q
end
end LH
/-! ## X1: an error caught and kept, isinstance of it; further rules: o.f as a target, text * n, list.count -/
namespace LH
open PySem PySem.Spec PyProof.Rows L2

/-- an error of the class C that was caught, at a -/
def KX (C a : Addr) : HO := .ext fun h => ∃ (oe : Obj) (vs : Array Value), h.get? a = some oe ∧ Zc (.ref C) none oe ∧ oe.data = .fields vs
theorem kx_ok {P : Program} {w : World} {H : Hp} {h : Heap} {a C : Addr} {oe : Obj} {vs : Array Value} (e : h.get? a = some oe) (z : Zc (.ref C) none oe) (d : oe.data = .fields vs) : ObjOk P w H h a (KX C a) :=
  ⟨⟨oe, vs, e, z, d⟩, ⟨oe, e⟩, fun _ _ ⟨o, v, q, r⟩ k => ⟨o, v, k o q, r⟩⟩
section
variable {X : Cx} {pins : List (Addr × Obj)} {σ : L2.St} {H : Hp} {s : Shared}
/-- an object that is pinned, made behind the entry: from now on it is tracked -/
theorem track {a C : Addr} {oe : Obj} {vs : Array Value} (I : Inv X ((a, oe) :: pins) σ H s) (n0 : X.s_0.heap.get? a = none) (z : Zc (.ref C) none oe) (d : oe.data = .fields vs) (np : ∀ p ∈ X.pn ++ pins, p.1 ≠ a) : Inv X pins σ (upd H a (KX C a)) s := by
  obtain ⟨ea, na, nL, nF, _⟩ := I.pin (a, oe) (List.mem_append_right _ List.mem_cons_self)
  have old : ∀ b o, X.s_0.heap.get? b = some o → b ≠ a := fun b o e q => by
    rw [q, n0] at e
    cases e
  have ne : ∀ b o, H b = some o → b ≠ a := fun b o e => ne_of_none e na
  have B := I.base
  refine ⟨I.ok, I.os, I.bare, ⟨B.keep, B.slot, fun b o e n hx => ?_, B.there, fun b xs e => ?_, fun b o u e => ?_, fun b ps e => ?_⟩, I.loc, I.cell, ?_, fun x c e => ?_, fun p hp => ?_, fun b u e => ?_, I.len⟩
  · rw [upd_ne (old b o e)]
    exact B.free b o e n hx
  · have q := B.tups b xs e
    rw [upd_ne (ne b _ q)]
    exact q
  · have q := B.frzs b o u e
    rw [upd_ne (ne b _ q)]
    exact q
  · obtain ⟨m, q⟩ := B.tbls b ps e
    exact ⟨m, by rw [upd_ne (ne b _ q)]; exact q⟩
  · rw [upd_ne (Ne.symm nL)]
    exact I.free
  · have nc : c ≠ a := fun q => by
      obtain ⟨v, o, ho, hd⟩ := I.cell x c e
      rw [q, ea] at ho
      cases ho
      rw [d] at hd
      cases hd
    rw [upd_ne nc]
    exact I.freeC x c e
  · have hp2 : p ∈ X.pn ++ (a, oe) :: pins := by
      rcases List.mem_append.mp hp with q | q
      · exact List.mem_append_left _ q
      · exact List.mem_append_right _ (List.mem_cons_of_mem _ q)
    obtain ⟨e, n, r⟩ := I.pin p hp2
    exact ⟨e, by rw [upd_ne (np p hp)]; exact n, r⟩
  · by_cases hb : b = a
    · rw [hb, upd_same] at e
      cases e
      rw [hb]
      exact kx_ok ea z d
    · rw [upd_ne hb] at e
      exact (I.hok b u e).stay (fun _ _ _ q => q) (fun c q => by rw [upd_ne (ne c _ q)]; exact q) fun c xs q => by rw [upd_ne (ne c _ q)]; exact q
/-- what the clause 'except x as n' wishes, its one statement keeping the error: slot i is n's -/
def wKeep (K : PySem.W.Frag) (c : Value) (i : Nat) (ts : Addr → Value → Option Addr → TS) (D : Ends) : WX := fun cls d σ H =>
  ∃ C, cls = .ref C ∧ d = none ∧ PySem.W.exmOne K cls c = some true ∧ ∀ a, H a = none → ts a cls d { nx := fun σ' H' => D.nx (σ'.set i none) (upd H' a (KX C a)), rt := fun _ _ => False } (σ.set i (some (.ref a))) H
variable {x n : Str} {c : Value} {i : Nat} {body suite : List Stmt} {b₀ : Stmt} {np pos pos' : Pos} {tb : WX → TS} {ts : Addr → Value → Option Addr → TS}
/-- try: body / except x as n: suite, where the suite keeps the error: behind it the error is tracked -/
theorem ps_try_keep (hs : X.stack = X.env :: X.outer) (hf : X.env.frame = some X.env.locals) (hex : X.ex = []) (hN : X.N.Nodup) (hi : X.N[i]? = some n) (hln : X.env.kindOf n = some .local) (hc : Names X x c)
    (hb : ∀ (W : WX) (pn : List (Addr × Obj)) (xe : Value → Shared → Prop), Takes (X.tr pn xe) W → PassesOwn (model X.prog X.w) X.A X.env xe → PSs (X.tr pn xe) body (tb W))
    (hsu : ∀ (a : Addr) (oe : Obj) (cls : Value) (d : Option Addr) (pn : List (Addr × Obj)), Zc cls d oe → (∃ vs, oe.data = .fields vs) → PSs (X.suite a ((a, oe) :: pn)) (b₀ :: suite) (ts a cls d)) :
    PS X (.Try body [.ExceptHandler (some (.Name x np)) (some n) (b₀ :: suite) pos'] [] [] pos) (fun D σ H => tb (wKeep X.K c i ts D) D σ H) := by
  refine ⟨fun pins s σ H D I h => wpAny_Try_except ?_⟩
  have ok := I.ok
  let land : Value → Shared → Prop := fun e z1 => wpAny (model X.prog X.w) X.A (noteFrame e X.env) (fun _ z2 => wpAny (model X.prog X.w) X.A (setFlight e none) (fun _ z3 =>
    wpAny (model X.prog X.w) X.A (handleBy e X.env [.ExceptHandler (some (.Name x np)) (some n) (b₀ :: suite) pos']) (SP X pins D) X.xe z3) X.xe z2) X.xe z1
  have through := (hb (wKeep X.K c i ts D) (X.pn ++ pins) land (fun u z xx => ?_) PassesOwn.looking).run [] s σ H D (I.toTry _) h
  · refine wpAny_mono through (fun f z1 q => ?_) (fun e z1 he => he)
    cases f with
    | next =>
      obtain ⟨σ1, H1, J, q⟩ := q
      exact wpAny_execs_nil ⟨σ1, H1, J.ofTry ok, q⟩
    | brk =>
      obtain ⟨σ1, H1, J, q⟩ := q
      exact ⟨σ1, H1, J.ofTry ok, q⟩
    | cont =>
      obtain ⟨σ1, H1, J, q⟩ := q
      exact ⟨σ1, H1, J.ofTry ok, q⟩
    | ret u =>
      obtain ⟨v, σ1, H1, J, r, q⟩ := q
      exact ⟨v, σ1, H1, J.ofTry ok, r, q⟩
  · -- the error is here
    obtain ⟨a, B, sI, pins2, σ1, H1, cls, d, rfl, J0, nb, up, sky, na, os, ag, C, rfl, rfl, hm, hyes⟩ := xx
    have J : Inv X pins σ1 H1 sI := J0.ofTry ok
    have sky1 : Sky B (X.env :: X.outer) a (Zc (.ref C) none) X.env.locals z.heap := hs ▸ sky
    show land (.ref a) z
    refine Sky.land Zc.steady (by rw [ok.frames, hs]) hf sky1 fun h3 fly up3 => ?_
    have K3 : Inv X pins σ1 H1 { z with heap := h3 } := J.landed nb fly.1 (up.trans up3) os ag
    obtain ⟨o3, v3, g3, z3, d3⟩ := fly.there
    have noFr : a ∉ frs (X.env :: X.outer) := fun hm => by
      obtain ⟨_, o, e, bad⟩ := fly.2.2.1.mem hm
      rw [g3] at e
      cases e
      exact bad _ d3
    have nL : a ≠ X.env.locals := fun q => noFr (List.mem_filterMap.mpr ⟨X.env, List.mem_cons_self, by rw [hf, q]⟩)
    have nF : a ∉ X.fs := fun hm => by
      obtain ⟨e, he, q⟩ := List.mem_filterMap.mp hm
      exact noFr (List.mem_filterMap.mpr ⟨e, List.mem_cons_of_mem _ he, q⟩)
    -- it is younger than the entry, and no pinned object
    have gone : sI.heap.get? a = none := by
      cases e : sI.heap.get? a with
      | none => rfl
      | some o =>
        have q := nb a o e (by rw [show (X.tr (X.pn ++ pins) land).stack = X.env :: X.outer from hs]; exact noFr)
        rw [fly.2.1] at q
        cases q
    have n0 : X.s_0.heap.get? a = none := by
      cases e : X.s_0.heap.get? a with
      | none => rfl
      | some o =>
        obtain ⟨o2, q⟩ := J.base.there a o e (by rw [hex]; exact List.not_mem_nil)
        rw [gone] at q
        cases q
    have nP : ∀ p ∈ X.pn ++ pins, p.1 ≠ a := fun p hp q => by
      have e := (J.pin p hp).1
      rw [q, gone] at e
      cases e
    have S3 := K3.suite g3 d3 na nL nF
    refine wpAny_handleBy_cons (codeAny_handlers_test ?_) (by intro q; cases q)
    have ty : PySem.W.Looks (model X.prog X.w) h3 (typeOf (.ref a)) (.ref C) := fun A Q E s k q => wpAny_typeOf_ref (k _ _ g3) (by rw [z3.1]; exact q)
    have named : ∀ {Q : Value → Shared → Prop} {E : Value → Shared → Prop}, Q c { z with heap := h3 } → wpAny (model X.prog X.w) (X.A.mark (some (.ref a))) (eval (.Name x np) X.env) Q E { z with heap := h3 } := fun {Q E} q => by
      obtain ⟨hg, hdb, hx | ⟨hx, hv, hnn⟩⟩ := hc
      · exact ld_glob (X := X.suite a ((a, o3) :: (X.pn ++ pins))) S3 hg hx q hdb
      · exact ld_blt (X := X.suite a ((a, o3) :: (X.pn ++ pins))) S3 hg hx hv q hnn hdb
    refine named ((PySem.W.exm_one (M := model X.prog X.w) K3.kIn ty hm).here (codeAny_handlers_suite_as (HandSPX.lands_againZ fly fun h4 fl4 up4 => ?_)))
    obtain ⟨o4, v4, g4, z4, d4⟩ := fl4.there
    have K4 : Inv X pins σ1 H1 { z with heap := h4 } := J.landed nb fl4.1 ((up.trans up3).trans up4) os ag
    have S4 := K4.suite g4 d4 na nL nF
    refine store_ok (X := X.suite a ((a, o4) :: (X.pn ++ pins))) (v := .ref a) S4 hN hi (.inl hln) rfl (fun s5 S5 => ?_) (.inr hln)
    refine wpAny_mono ((hsu a o4 (.ref C) none (X.pn ++ pins) z4 ⟨_, d4⟩).run [] s5 _ H1 _ S5 (hyes a na)) (fun f s6 hsp => ?_) (fun _ _ q => False.elim q)
    cases f with
    | next =>
      obtain ⟨σ6, H6, S6, q6⟩ := hsp
      have S7 : Inv X ((a, o4) :: pins) σ6 H6 s6 := (S6.unsuite ok).pins_of fun p hp => by
        rcases List.mem_cons.mp hp with e | hp
        · exact S6.pin p (by rw [e]; exact List.mem_append_left _ List.mem_cons_self)
        · exact S6.pin p (List.mem_append_left _ (List.mem_cons_of_mem _ (List.mem_append_right _ hp)))
      exact gone_ok S7 hN hi hln fun s7 J7 => ⟨_, _, track J7 n0 z4 d4 nP, q6⟩
    | brk =>
      obtain ⟨_, _, _, q⟩ := hsp
      exact False.elim q
    | cont =>
      obtain ⟨_, _, _, q⟩ := hsp
      exact False.elim q
    | ret u =>
      obtain ⟨_, _, _, _, _, q⟩ := hsp
      exact False.elim q
/-- isinstance(e, c), e an error that was kept -/
def rIsX (K : PySem.W.Frag) : List V → Hp → VK → Prop := fun xs H Q => ∃ (a C : Addr) (c : V) (cv : Value) (b : Bool), xs = [.ref a, c] ∧ H a = some (KX C a) ∧ ExcC K C ∧ (∀ u, RelV c u → u = cv) ∧ PySem.W.kitOne K (.ref C) cv = some b ∧ Q (.bl b) H
theorem call_isX : CallR X (.builtin "isinstance") (rIsX X.K) := by
  intro pins s σ H xs us Q I r h
  obtain ⟨a, D, c, cv, b, rfl, ha, C, hcv, e, q⟩ := h
  cases r with
  | cons rx rr =>
    cases rr with
    | cons rt rr =>
      cases rr
      cases rx
      have ec := hcv _ rt
      subst ec
      obtain ⟨⟨⟨oc, od, oda, osl⟩, vs, hget, ⟨h1, h2⟩, hv⟩, _⟩ := I.hok a _ ha
      dsimp only at h1 h2 hv
      subst h1 h2 hv
      exact PySem.W.kia_one (PySem.W.handS_kitx_exc C.hg C.hk C.hs C.hd C.ha C.hn C.ht C.hm) I.kIn ⟨hget, rfl, rfl, trivial⟩ e (fun z => nomatch z) fun tk => ⟨.bl b, H, I.kept (t' := tk) fun _ _ z => z, rfl, q⟩
/-- list.count of flat items -/
def rCntF (K : PySem.W.Frag) : V → List V → Hp → VK → Prop := fun x xs H Q => ∃ (p : Addr) (ys : List V) (y : V), x = .ref p ∧ xs = [y] ∧ SqL K H p ys ∧ flatV y = true ∧ ys.all flatV = true ∧ Q (.int (ys.countP fun z => eqV z y : Nat)) H
theorem count_rel {y : V} : ∀ {ys : List V} {us : List Value}, Vals ys us → ys.all flatV = true → us.countP (eqU y) = ys.countP fun z => eqV z y
  | [], [], _, _ => rfl
  | z :: ys, u :: us, .cons r t, f => by
    rw [List.all_cons, Bool.and_eq_true] at f
    rw [List.countP_cons, List.countP_cons, count_rel t f.2, eqU_of r f.1]
theorem mt_countB : MtR X "list.count" (rCntF X.K) := by
  intro pins s σ H x xs v us Q I rx rxs h
  obtain ⟨p, ys, y, rfl, rfl, hl, fy, fys, q⟩ := h
  cases rx
  obtain ⟨u, rfl, ru⟩ := rxs.one
  obtain ⟨its, rv, ⟨⟨cls, dd, data, sl⟩, n, ho, hc, hdn, hd⟩, hlen⟩ := I.list hl
  simp only at hc hd
  subst hc hd
  refine call_meets PySem.F.slot_list_count ⟨_, ho, rfl⟩ PySem.F.entry_list_count (PySem.F.args_list_count_2 _ _) (SeqAt.list_countAt p its.toArray n dd sl u (eqU y)) ⟨ho, fun u2 hu2 => mem_eqAt ru fy rv fys u2 (by simpa using hu2), ?_⟩
  have e : its.toArray.toList.countP (eqU y) = ys.countP fun z => eqV z y := count_rel rv fys
  refine ⟨.int (ys.countP fun z => eqV z y : Nat), H, I.tok _, ⟨s.toks, ?_⟩, q⟩
  show Value.int ((its.toArray.toList.countP (eqU y) : Nat) : Int) s.toks = _
  rw [e]
/-- o.f as a target among others -/
def gAttr (K : PySem.W.Frag) (to : TE) (f : Str) : TG := fun v σ H Q => to σ H fun x H1 => ∃ a C dx fs, x = .ref a ∧ H1 a = some (.ins C dx fs) ∧ Cls K C ∧ NoAttr K C f ∧ fs.length < 1000 ∧ Q σ (upd H1 a (.ins C dx (putF f v fs)))
theorem pg_attr {o : Expr} {f : Str} {to : TE} {pos : Pos} (ho : PE X o to) : PG X (.Attribute o f pos) (gAttr X.K to f) := by
  refine ⟨fun pins s σ H v u Q I r h => PySem.W.kas_attr (thn (ho.run pins s σ H _ I h) fun ov s1 hq => ?_)⟩
  obtain ⟨y, H1, I1, rx, a, C, dx, fs, rfl, ea, c, n, l, q⟩ := hq
  cases rx
  exact setattr_ok I1 ea c n l r fun s2 I2 => ⟨σ, _, I2, q⟩
/-- text * n -/
def rRepS : R2 := fun x y H Q => ∃ z k, x = .str z ∧ y = .int k ∧ MulOk z k ∧ Q (.str (Txt.mul z k)) H
theorem op_repS : OpR X (binaryOp .Mult) rRepS := by
  intro pins s σ H x y v u Q I rx ry h
  obtain ⟨z, k, rfl, rfl, hk, q⟩ := h
  obtain ⟨t, rfl⟩ := rx
  obtain ⟨t2, rfl⟩ := ry
  exact SB.mul hk fun t' k' => ⟨.str _, H, I.tok _, ⟨_, rfl⟩, q⟩
end
section
variable {X : Cx} {k : Nat} {C : Addr} {x m : Str} {ps : List Str} {sp : Sp} {E : L2.St → XK} {p pos apos : Pos} {e o : Expr} {es : List Expr} {ta : TE} {t : TA}
/-- calls in a try's body: what is let out is wished for at the slots -/
theorem pcS (D : Dn X.prog X.w X.K X.mg X.base k x ps sp) (hr : Room k X.A) (hx : ∀ σ, PassesAt (L2.CX X.prog X.w) X σ (E σ)) (ha : PA X (e :: es) t) (hg : Gl X x := by rfl) (hdb : (x == ("__debug__" : Str)) = false := by decide)
    (he : starEach (e :: es) X.env = (false, eval e X.env) :: starEach es X.env := by rfl) (hpl : (backTo pos (starEach es X.env)).any (·.1) = false := by rfl) : PE X (.Call (.Name x p) (e :: es) [] pos) (tCallS sp E t) := by
  obtain ⟨f, fd, F, b, hm, kp⟩ := D.ex
  exact pe_callS F hr hg hm kp b hx ha hdb he hpl
def tMethW (C : Addr) (m : Str) (sp : Sp) (E : L2.St → XK) (ta : TE) (t : TA) : TE := fun σ H Q => ta σ H fun x H1 => ∃ a dx fs, x = .ref a ∧ H1 a = some (.ins C dx fs) ∧ fs.lookup m = none ∧ t σ H1 fun vs H2 => sp (x :: vs) H2 Q (E σ)
theorem pmS {pl : Sem Bool} (M : Mt X.prog X.w X.K X.mg X.base k C m ps sp) (hr : Room k X.A) (hx : ∀ σ, PassesAt (L2.CX X.prog X.w) X σ (E σ)) (ho : PE X o ta) (ha : PA X (e :: es) t)
    (hst : starEach (e :: es) X.env = (false, eval e X.env) :: starEach es X.env := by rfl) (hpl : (backTo pos (starEach es X.env)).any (·.1) = false := by rfl)
    (ht : eval (.Call (.Attribute o m apos) (e :: es) [] pos) X.env = (do
      let ov ← eval o X.env
      standAt apos.atName
      let (f, first) ← holding [ov] (getMethod ov m pl)
      callWith pos f first (backTo pos (starEach (e :: es) X.env)) (backToKw pos (keywordEach [] X.env))) := by rfl) : PE X (.Call (.Attribute o m apos) (e :: es) [] pos) (tMethW C m sp E ta t) := by
  obtain ⟨f, fd, F, b, hm⟩ := M.ex
  refine ⟨fun pins s σ H Q I h => PySem.W.methodCall_KW (pl := pl) (thn (ho.run pins s σ H _ I h) fun u s1 hq => ?_) ht⟩
  obtain ⟨y, H1, I1, rx, a, dx, fs, rfl, ea, l, q⟩ := hq
  cases rx
  refine getmeth_ok I1 ea M.cl hm l (PySem.W.callWith_K (first := [.ref a]) (h₀ := X.base) I.ok.mod.kin hm.kp (thn (ha.run pos pins s1 σ H1 _ I1 q) fun us s2 hv => ?_) hst hpl)
  obtain ⟨vs, H2, I2, r, q2⟩ := hv
  exact ⟨I2.kIn, run_fnS (us := .ref a :: us) (vs := .ref a :: vs) F hr b (hx σ) I2 (.cons rfl r) q2⟩
theorem pmS0 {pl : Sem Bool} (M : Mt X.prog X.w X.K X.mg X.base k C m ps sp) (hr : Room k X.A) (hx : ∀ σ, PassesAt (L2.CX X.prog X.w) X σ (E σ)) (ho : PE X o ta)
    (ht : eval (.Call (.Attribute o m apos) [] [] pos) X.env = (do
      let ov ← eval o X.env
      standAt apos.atName
      let (f, first) ← holding [ov] (getMethod ov m pl)
      callWith pos f first (backTo pos (starEach [] X.env)) (backToKw pos (keywordEach [] X.env))) := by rfl) : PE X (.Call (.Attribute o m apos) [] [] pos) (tMethW C m sp E ta tNil) := by
  obtain ⟨f, fd, F, b, hm⟩ := M.ex
  refine ⟨fun pins s σ H Q I h => PySem.W.methodCall_KW (pl := pl) (thn (ho.run pins s σ H _ I h) fun u s1 hq => ?_) ht⟩
  obtain ⟨y, H1, I1, rx, a, dx, fs, rfl, ea, l, q⟩ := hq
  cases rx
  exact getmeth_ok I1 ea M.cl hm l (PySem.W.callWith_K0 (first := [.ref a]) I1.kIn hm.kp (run_fnS (us := [.ref a]) (vs := [.ref a]) F hr b (hx σ) I1 (.cons rfl .nil) q))
end
end LH
open L2 LH PySem in
local macro_rules | `(tactic| walk_at "rd0") => `(tactic| simp only [L2.start, List.map_cons, List.map_nil, List.length_cons, List.length_nil, Nat.reduceAdd, Nat.reduceSub, List.replicate_succ, List.replicate_zero, List.cons_append, List.nil_append, List.append_nil])
open L2 LH PySem in
local macro_rules | `(tactic| walk_at "rd1") => `(tactic| dsimp only [tVar, tC, tOp, tUn, tAndV, tOrV, tNotV, tIf, tAnd, tOr, tNot, tB, tTest, tChain, tCons, tNil, tTup, tLst, tCB, tCall, tMeth, tMake, tFld, sFld, tSeq, tNext, tAsg, gName, tIfS, tRet, tRetN, tDrop, tM0, tM1, tBM, tBM0, rAppend, rPop, tLits, tCallS, tMethW, WE, wKeep, iStr, iRng1, iRng2, iList, iTup, tSl, tPart, tNoPart,
  rI, rI0, rU, rEq, rNe, rIxL, rIxT, rIxS, rSlS, rSlL])
open L2 LH PySem in
local macro_rules | `(tactic| walk_at "rd2") => `(tactic| simp only [List.getElem?_cons_zero, List.getElem?_cons_succ, List.set_cons_zero, List.set_cons_succ, List.cons_append, List.nil_append, List.append_nil, Option.some.injEq, V.int.injEq, V.str.injEq, V.bl.injEq, V.ref.injEq, List.cons.injEq, HO.ins.injEq, HO.lst.injEq, HO.tup.injEq, S_inj, ex_eq, ex_eq', ex_eq0, tLc_eq, tFor_eq, iStr, iRng1, iRng2, iList, iTup, tVar, tC, tOp, tCons, tNil, tCB, tFld, tCallS, tMethW, WE, wKeep, tLits, tLst, tTup, wipe, rI, rI0, rU, rEq, rNe, scII, scSS, scBB, scNN, scNI, scNS, scNB, scIN, scSN, scBN, scIS, scSI, if_tt, if_ff, and_true, true_and, and_assoc, exists_and_left, exists_and_right, exists_const, eq_self_iff_true, Bool.true_eq_false, Bool.false_eq_true, if_true, if_false, reduceCtorEq, S_len, S_one, S_tl, decide_eq_true_eq, tUn, tAndV, tOrV, tNotV, tIf, tAnd, tOr, tNot, tB, tTest, tChain, tCall, tMeth, tMake, sFld, tSeq, tNext, tAsg, gName, tIfS, tRet, tRetN, tDrop, tM0, tM1, tBM, tBM0, rAppend, rPop, tSl, tPart, tNoPart, rIxL, rIxT, rIxS, rSlS, rSlL])
local macro_rules | `(tactic| walk_at "rd") => `(tactic| ((try walk_at "rd0"); (try walk_at "rd1"); (try walk_at "rd2")))
/-! ## Words: signs, texts, places -/
namespace LH
open PySem PySem.Spec PyProof.Rows L2

def isSign (t : List Nat) : Bool := match t with
  | [c] => decide (32 ≤ c) && decide (c < 127) && decide (c ≠ 37)
  | _ => false
def okText (t : List Nat) : Bool := decide (t.length ≤ 400) && t.all fun c => isSign [c]
def letters : List Nat := ("abcdefghijklmnopqrstuvwxyzABCDEFGHIJKLMNOPQRSTUVWXYZ0123456789" : Str).cps.toList
def isLetC (c : Nat) : Bool := decide (c ∈ letters)
def isLet (t : List Nat) (i : Int) : Bool := decide (0 ≤ i) && (match t[i.toNat]? with
  | some c => isLetC c
  | none => false)
def spIsSign : Sp := fun vs H Q _ => ∃ t : List Nat, vs = [.str (S t)] ∧ t.length ≤ 100000 ∧ Q (.bl (isSign t)) H
/-- refused: an exception of that class -/
abbrev Rf (K : PySem.W.Frag) (c : Str) (E : XK) (H : Hp) : Prop := ∀ H', Same H H' → E (.ref (He.ga K c)) none H'
def spLookText (K : PySem.W.Frag) : Sp := fun vs H Q E => ∃ t : List Nat, vs = [.str (S t)] ∧ t.length ≤ 100000 ∧ if okText t = true then ∀ H', Same H H' → Q .non H' else Rf K "BadText" E H
def spLookPlace (K : PySem.W.Frag) : Sp := fun vs H Q E => ∃ (t : List Nat) (i : Int), vs = [.str (S t), .int i] ∧ t.length ≤ 100000 ∧ if 0 ≤ i ∧ i ≤ t.length then Q .non H else Rf K "BadPlace" E H
def spIsLetter : Sp := fun vs H Q _ => ∃ (t : List Nat) (i : Int), vs = [.str (S t), .int i] ∧ t.length ≤ 100000 ∧ Q (.bl (isLet t i)) H
theorem S_get0 (t : List Nat) : (S t).cps.getD 0 0 = t.getD 0 0 := by
  unfold S
  cases t <;> rfl
section
variable {P : Program} {w : World} {K : PySem.W.Frag} {mg : Str → Option Value} {base : Heap}
theorem d_is_sign (T : TX K mg) : Dn P w K mg base 1 "is_sign" p_is_sign spIsSign := by
  refine dn_of (fn_is_sign T) (g_is_sign T) sc_is_sign bd_is_sign (fun vs H Q E h => ?_) (fun cdv A outer s H vs Q E hr h => ?_)
  · obtain ⟨t, rfl, _⟩ := h
    rfl
  · obtain ⟨t, rfl, ht, k⟩ := h
    refine ⟨_, (pss_one (ps_ret (pe_and (pe_cmpR op_eq (pe_callB call_len_str (by rfl) (b_len T) boot_len (pa_cons (pv 0) pa_nil)) pe_int (nomark _)) (pe_and (pe_chain op_le op_lt pe_int (pe_callB call_ord (by rfl) (b_ord T) (by decide +kernel) (pa_cons (pv 0) pa_nil)) pe_int) (pe_one (pe_cmpR op_ne (pe_callB call_ord (by rfl) (b_ord T) (by decide +kernel) (pa_cons (pv 0) pa_nil)) pe_int (nomark _))))))), ?_⟩
    walk_at "rd"
    refine ⟨sline ht, ?_⟩
    match t, k with
    | [], k => exact k
    | [c], k =>
      rw [S_get0, if_pos (show (([c].length : Nat) : Int) = 1 from rfl)]
      refine ⟨rfl, ?_⟩
      have e : isSign [c] = (decide (32 ≤ c) && decide (c < 127) && decide (c ≠ 37)) := rfl
      rw [e] at k
      have ec : [c].getD 0 0 = c := rfl
      rw [ec]
      by_cases h1 : 32 ≤ c
      · rw [if_pos (show (32 : Int) ≤ (c : Int) by omega)]
        by_cases h2 : c < 127
        · rw [if_pos (show (c : Int) < 127 by omega)]
          refine ⟨rfl, ?_⟩
          have e2 : (decide (32 ≤ c) && decide (c < 127) && decide (c ≠ 37)) = !decide ((c : Int) = 37) := by
            rw [decide_eq_true h1, decide_eq_true h2]
            by_cases h3 : c = 37
            · subst h3; rfl
            · rw [decide_eq_true h3, decide_eq_false (show ¬ (c : Int) = 37 by omega)]; rfl
          rw [e2] at k
          exact k
        · rw [if_neg (show ¬ (c : Int) < 127 by omega)]
          rw [decide_eq_false h2, Bool.and_false, Bool.false_and] at k
          exact k
      · rw [if_neg (show ¬ (32 : Int) ≤ (c : Int) by omega)]
        rw [decide_eq_false h1, Bool.false_and, Bool.false_and] at k
        exact k
    | a :: b :: r, k =>
      rw [if_neg (show ¬ (((a :: b :: r).length : Nat) : Int) = 1 by rw [List.length_cons, List.length_cons]; omega)]
      exact k
theorem d_look_place (T : TX K mg) : Dn P w K mg base 1 "look_place" p_look_place (spLookPlace K) := by
  refine dn_of (fn_look_place T) (g_look_place T) sc_look_place bd_look_place (fun vs H Q E h => ?_) (fun cdv A outer s H vs Q E hr h => ?_)
  · obtain ⟨t, i, rfl, _⟩ := h
    rfl
  · obtain ⟨t, i, rfl, ht, k⟩ := h
    refine ⟨_, (pss_one (ps_if (pt_not (pt_chain op_le op_le pe_int (pv 1) (pe_callB call_len_str (by rfl) (b_len T) boot_len (pa_cons (pv 0) pa_nil)))) (pss_one (ps_raise rfl (takes_of rfl rfl rfl rfl) (pmk_own PySem.F.excBase_ValueError (xc_BadPlace T).1 (g_BadPlace T) (xc_BadPlace T).2.1 (raises_own (xc_BadPlace T).2.2.1 (xc_BadPlace T).2.2.2) rfl))) pss_nil)), ?_⟩
    walk_at "rd"
    by_cases h0 : 0 ≤ i
    · rw [if_pos h0]
      refine ⟨sline ht, ?_⟩
      by_cases h1 : i ≤ (t.length : Int)
      · rw [if_pos ⟨h0, h1⟩] at k
        rw [decide_eq_true h1]
        exact k
      · rw [if_neg fun z => h1 z.2] at k
        rw [decide_eq_false h1]
        exact k H (Same.refl H)
    · rw [if_neg h0]
      rw [if_neg fun z => h0 z.1] at k
      exact k H (Same.refl H)
theorem d_is_letter (T : TX K mg) : Dn P w K mg base 1 "is_letter" p_is_letter spIsLetter := by
  refine dn_of (fn_is_letter T) (g_is_letter T) sc_is_letter bd_is_letter (fun vs H Q E h => ?_) (fun cdv A outer s H vs Q E hr h => ?_)
  · obtain ⟨t, i, rfl, _⟩ := h
    rfl
  · obtain ⟨t, i, rfl, ht, k⟩ := h
    refine ⟨_, (pss_one (ps_ret (pe_and (pe_chain op_le op_lt pe_int (pv 1) (pe_callB call_len_str (by rfl) (b_len T) boot_len (pa_cons (pv 0) pa_nil))) (pe_one (pe_cmpR op_in_sign (pe_ix ix_str (pv 0) (pv 1) (fun _ _ => rfl)) (pgs (t_LETTERS T)) (by rfl)))))), ?_⟩
    walk_at "rd"
    unfold isLet at k
    by_cases h0 : 0 ≤ i
    · rw [if_pos h0]
      rw [decide_eq_true h0, Bool.true_and] at k
      refine ⟨sline ht, ?_⟩
      by_cases h1 : i < (t.length : Int)
      · rw [if_pos h1, atI_in h0 h1]
        refine ⟨sline ht, ?_⟩
        have e : t[i.toNat]? = some (t[i.toNat]'(by omega)) := List.getElem?_eq_getElem (by omega)
        rw [e] at k ⊢
        exact ⟨_, rfl, k⟩
      · rw [if_neg h1]
        have e : t[i.toNat]? = none := List.getElem?_eq_none (by omega)
        rw [e] at k
        exact k
    · rw [if_neg h0]
      rw [decide_eq_false h0, Bool.false_and] at k
      exact k
theorem d_look_text (T : TX K mg) : Dn P w K mg base 2 "look_text" p_look_text (spLookText K) := by
  refine dn_of (fn_look_text T) (g_look_text T) sc_look_text bd_look_text (fun vs H Q E h => ?_) (fun cdv A outer s H vs Q E hr h => ?_)
  · obtain ⟨t, rfl, _⟩ := h
    rfl
  · obtain ⟨t, rfl, ht, k⟩ := h
    refine ⟨_, (pss_one (ps_if (PW.pt (pw_or (pt_cmpR op_gt (pe_callB call_len_str (by rfl) (b_len T) boot_len (pa_cons (pv 0) pa_nil)) (pgi (i_MOST_TEXT T)) (nomark _)) (pw_or1 (pt_not (pt_val (pe_callB (cr_all rfl) (by rfl) (b_all T) (by decide +kernel) (pa_cons (pe_lc (own := [("sign", 1)]) rfl sc_look_text.nd (pi_str (pv 0)) (blkOk_by (own := [("sign", 1)]) (N := n_look_text) (sc := defScope s_look_text) (by decide +kernel)) (fun _ _ _ _ _ => (pg_name (i := 1) sc_look_text.nd rfl (Or.inl rfl))) (fun _ _ _ _ _ => pts_nil) (fun _ _ _ _ _ => (pc (d_is_sign T) (hr.mono (by decide)) px0 (pa_cons (pv 1) pa_nil)))) pa_nil))))))) (pss_one (ps_raise rfl (takes_of rfl rfl rfl rfl) (pmk_own PySem.F.excBase_ValueError (xc_BadText T).1 (g_BadText T) (xc_BadText T).2.1 (raises_own (xc_BadText T).2.2.1 (xc_BadText T).2.2.2) rfl))) pss_nil)), ?_⟩
    walk_at "rd"
    refine ⟨sline ht, ?_⟩
    unfold okText at k
    by_cases h4 : (400 : Int) < (t.length : Int)
    · rw [if_pos h4]
      rw [decide_eq_false (by omega), Bool.false_and, if_neg Bool.false_ne_true] at k
      exact k H (Same.refl H)
    · rw [if_neg h4]
      rw [decide_eq_true (show t.length ≤ 400 by omega), Bool.true_and] at k
      refine lcb_strM t (fun c => .bl (isSign [c])) (by omega) (fun c H' hc s Y hY => ?_) (fun D H' hD s e => ?_)
      · walk_at "rd"
        exact ⟨[c], rfl, by simp, hY H' (Same.refl H')⟩
      · refine ⟨D, t.map fun c => isSign [c], rfl, sq_of (by rw [e, List.map_map]; rfl), _, rfl, ?_⟩
        have ea : (t.map fun c => isSign [c]).all id = t.all fun c => isSign [c] := by rw [List.all_map]; rfl
        rw [ea]
        cases ho : t.all fun c => isSign [c] with
        | true =>
          rw [ho] at k
          exact k H' s
        | false =>
          rw [ho] at k
          exact k H' s
end
end LH
/-! ## Words: their ends and starts, recased -/
namespace LH
open PySem PySem.Spec PyProof.Rows L2

/-- behind the gap that begins at i; behind the run of letters that begins at i -/
def gapEnd (t : List Nat) (i : Nat) : Nat := i + ((t.drop i).takeWhile fun c => !isLetC c).length
def runEnd (t : List Nat) (i : Nat) : Nat := i + ((t.drop i).takeWhile isLetC).length
def wordEnd (t : List Nat) (i : Nat) : Nat := runEnd t (gapEnd t i)
/-- a letter at i -/
def letAt (t : List Nat) (i : Nat) : Bool := match t[i]? with
  | some c => isLetC c
  | none => false
def gapStart (t : List Nat) : Nat → Nat
  | 0 => 0
  | i + 1 => if letAt t i = true then i + 1 else gapStart t i
def runStart (t : List Nat) : Nat → Nat
  | 0 => 0
  | i + 1 => if letAt t i = true then runStart t i else i + 1
def wordStart (t : List Nat) (i : Nat) : Nat := runStart t (gapStart t i)
theorem gapStart_no {t : List Nat} {i : Nat} (e : letAt t i = false) : gapStart t (i + 1) = gapStart t i := if_neg (by rw [e]; decide)
theorem gapStart_let {t : List Nat} {i : Nat} (e : letAt t i = true) : gapStart t (i + 1) = i + 1 := if_pos e
theorem runStart_no {t : List Nat} {i : Nat} (e : letAt t i = false) : runStart t (i + 1) = i + 1 := if_neg (by rw [e]; decide)
theorem runStart_let {t : List Nat} {i : Nat} (e : letAt t i = true) : runStart t (i + 1) = runStart t i := if_pos e
theorem isLet_nat (t : List Nat) (i : Nat) : isLet t (i : Int) = letAt t i := by
  unfold isLet letAt
  rw [decide_eq_true (by omega), Bool.true_and]
  rfl
theorem isLet_neg {t : List Nat} {i : Int} (h : i < 0) : isLet t i = false := by
  unfold isLet
  rw [decide_eq_false (by omega), Bool.false_and]
theorem isLet_prev (t : List Nat) (i : Nat) : isLet t ((i : Int) - 1) = match i with
    | 0 => false
    | j + 1 => letAt t j := by
  cases i with
  | zero => exact isLet_neg (by omega)
  | succ j =>
    rw [show (((j + 1 : Nat) : Int) - 1) = (j : Int) by omega]
    exact isLet_nat t j
theorem drop_at {t : List Nat} {i : Nat} (h : i < t.length) : t.drop i = t[i] :: t.drop (i + 1) := List.drop_eq_getElem_cons h
theorem letAt_lt {t : List Nat} {i : Nat} (h : i < t.length) : letAt t i = isLetC t[i] := by
  unfold letAt
  rw [List.getElem?_eq_getElem h]
theorem letAt_ge {t : List Nat} {i : Nat} (h : t.length ≤ i) : letAt t i = false := by
  unfold letAt
  rw [List.getElem?_eq_none h]
theorem lt_of_letAt {t : List Nat} {i : Nat} (h : letAt t i = true) : i < t.length := by
  by_cases q : i < t.length
  · exact q
  · rw [letAt_ge (by omega)] at h
    cases h
theorem gapEnd_no {t : List Nat} {i : Nat} (h : i < t.length) (l : letAt t i = false) : gapEnd t i = gapEnd t (i + 1) := by
  unfold gapEnd
  rw [letAt_lt h] at l
  rw [drop_at h, List.takeWhile_cons, if_pos (by rw [l]; rfl), List.length_cons]
  omega
theorem gapEnd_let {t : List Nat} {i : Nat} (l : letAt t i = true) : gapEnd t i = i := by
  have h := lt_of_letAt l
  unfold gapEnd
  rw [letAt_lt h] at l
  rw [drop_at h, List.takeWhile_cons, if_neg (by rw [l]; decide)]
  rfl
theorem gapEnd_end {t : List Nat} {i : Nat} (h : t.length ≤ i) : gapEnd t i = i := by
  unfold gapEnd
  rw [List.drop_eq_nil_of_le h]
  rfl
theorem runEnd_let {t : List Nat} {i : Nat} (l : letAt t i = true) : runEnd t i = runEnd t (i + 1) := by
  have h := lt_of_letAt l
  unfold runEnd
  rw [letAt_lt h] at l
  rw [drop_at h, List.takeWhile_cons, if_pos l, List.length_cons]
  omega
theorem runEnd_no {t : List Nat} {i : Nat} (l : letAt t i = false) : runEnd t i = i := by
  unfold runEnd
  by_cases h : i < t.length
  · rw [letAt_lt h] at l
    rw [drop_at h, List.takeWhile_cons, if_neg (by rw [l]; decide)]
    rfl
  · rw [List.drop_eq_nil_of_le (by omega)]
    rfl
theorem gapEnd_le {t : List Nat} {i : Nat} (h : i ≤ t.length) : gapEnd t i ≤ t.length := by
  unfold gapEnd
  have h1 := (List.takeWhile_prefix (fun c => !isLetC c) (l := t.drop i)).length_le
  rw [List.length_drop] at h1
  omega
theorem runEnd_le {t : List Nat} {i : Nat} (h : i ≤ t.length) : runEnd t i ≤ t.length := by
  unfold runEnd
  have h1 := (List.takeWhile_prefix isLetC (l := t.drop i)).length_le
  rw [List.length_drop] at h1
  omega
theorem wordEnd_le {t : List Nat} {i : Nat} (h : i ≤ t.length) : wordEnd t i ≤ t.length := runEnd_le (gapEnd_le h)
theorem le_gapEnd (t : List Nat) (i : Nat) : i ≤ gapEnd t i := Nat.le_add_right _ _
theorem le_runEnd (t : List Nat) (i : Nat) : i ≤ runEnd t i := Nat.le_add_right _ _
theorem le_wordEnd (t : List Nat) (i : Nat) : i ≤ wordEnd t i := Nat.le_trans (le_gapEnd t i) (le_runEnd t _)
theorem gapStart_le (t : List Nat) : ∀ i, gapStart t i ≤ i
  | 0 => Nat.le_refl _
  | i + 1 => by
    unfold gapStart
    split
    · exact Nat.le_refl _
    · exact Nat.le_succ_of_le (gapStart_le t i)
theorem runStart_le (t : List Nat) : ∀ i, runStart t i ≤ i
  | 0 => Nat.le_refl _
  | i + 1 => by
    unfold runStart
    split
    · exact Nat.le_succ_of_le (runStart_le t i)
    · exact Nat.le_refl _
theorem wordStart_le (t : List Nat) (i : Nat) : wordStart t i ≤ i := Nat.le_trans (runStart_le t _) (gapStart_le t i)

/-- a text that may be, a place in it: what follows; else the refusals in turn -/
def Tried (K : PySem.W.Frag) (t : List Nat) (i : Int) (E : XK) (H : Hp) (A : Prop) : Prop :=
  if okText t = true then (if 0 ≤ i ∧ i ≤ t.length then A else Rf K "BadPlace" E H) else Rf K "BadText" E H
def spWordEnd (K : PySem.W.Frag) : Sp := fun vs H Q E => ∃ (t : List Nat) (i : Int), vs = [.str (S t), .int i] ∧ t.length ≤ 100000 ∧ Tried K t i E H (∀ H', Same H H' → Q (.int (wordEnd t i.toNat : Nat)) H')
def spWordStart (K : PySem.W.Frag) : Sp := fun vs H Q E => ∃ (t : List Nat) (i : Int), vs = [.str (S t), .int i] ∧ t.length ≤ 100000 ∧ Tried K t i E H (∀ H', Same H H' → Q (.int (wordStart t i.toNat : Nat)) H')
theorem Rf.at {K : PySem.W.Frag} {c : Str} {E : XK} {H H1 : Hp} (h : Rf K c E H) (s : Same H H1) : Rf K c E H1 := fun H' s' => h H' (s.trans s')
/-- both looks, in turn -/
theorem tried_looks {K : PySem.W.Frag} {t : List Nat} {i : Int} {E : XK} {H : Hp} {A : Prop} {R : V → Hp → Prop} (ht : t.length ≤ 100000) (k : Tried K t i E H A)
    (hA : okText t = true → 0 ≤ i → i ≤ t.length → A → ∀ H1, Same H H1 → R .non H1) : spLookText K [.str (S t)] H (fun _ H1 => spLookPlace K [.str (S t), .int i] H1 (fun x H2 => R x H2) E) E := by
  refine ⟨t, rfl, ht, ?_⟩
  unfold Tried at k
  by_cases ho : okText t = true
  · rw [if_pos ho] at k ⊢
    intro H1 s1
    refine ⟨t, i, rfl, ht, ?_⟩
    by_cases hp : 0 ≤ i ∧ i ≤ t.length
    · rw [if_pos hp] at k ⊢
      exact hA ho hp.1 hp.2 k H1 s1
    · rw [if_neg hp] at k ⊢
      exact k.at s1
  · rw [if_neg ho] at k ⊢
    exact k
section
variable {P : Program} {w : World} {K : PySem.W.Frag} {mg : Str → Option Value} {base : Heap}
theorem d_word_end (T : TX K mg) : Dn P w K mg base 3 "word_end" p_word_end (spWordEnd K) := by
  refine dn_of (fn_word_end T) (g_word_end T) sc_word_end bd_word_end (fun vs H Q E h => ?_) (fun cdv A outer s H vs Q E hr h => ?_)
  · obtain ⟨t, i, rfl, _⟩ := h
    rfl
  · obtain ⟨t, i, rfl, ht, k⟩ := h
    refine ⟨_, (pss_cons (ps_expr (pc (d_look_text T) (hr.mono (by decide)) px (pa_cons (pv 0) pa_nil))) (pss_cons (ps_expr (pc (d_look_place T) (hr.mono (by decide)) px (pa_cons (pv 0) (pa_cons (pv 1) pa_nil)))) (pss_cons (ps_while (passes_of rfl) (PW.pt (pw_and (pt_cmpR op_lt (pv 1) (pe_callB call_len_str (by rfl) (b_len T) boot_len (pa_cons (pv 0) pa_nil)) (nomark _)) (pw_and1 (pt_not (pt_val (pc (d_is_letter T) (hr.mono (by decide)) px (pa_cons (pv 0) (pa_cons (pv 1) pa_nil)))))))) (pss_one (ps_set (i := 1) sc_word_end.nd rfl (Or.inl rfl) (pe_op op_add (pv 1) pe_int)))) (pss_cons (ps_while (passes_of rfl) (pt_val (pc (d_is_letter T) (hr.mono (by decide)) px (pa_cons (pv 0) (pa_cons (pv 1) pa_nil)))) (pss_one (ps_set (i := 1) sc_word_end.nd rfl (Or.inl rfl) (pe_op op_add (pv 1) pe_int)))) (pss_one (ps_ret (pv 1))))))), ?_⟩
    walk_at "rd"
    refine tried_looks ht k fun ho h0 h1 k H1 s1 => ?_
    obtain ⟨i, rfl⟩ : ∃ j : Nat, i = (j : Int) := ⟨i.toNat, by omega⟩
    rw [Int.toNat_natCast] at k
    refine ⟨fun m σ' H' => ∃ j : Nat, σ' = [some (.str (S t)), some (.int j)] ∧ H' = H1 ∧ j ≤ t.length ∧ m = t.length - j ∧ gapEnd t j = gapEnd t i, ⟨_, i, rfl, rfl, by omega, rfl, rfl⟩, ?_⟩
    rintro m σ' H' ⟨j, rfl, rfl, hj, rfl, hg⟩
    walk_at "rd"
    refine ⟨sline ht, ?_⟩
    have second : gapEnd t j = j → tWhile (tB (tCall spIsLetter [] E (tCons (tVar 0) (tCons (tVar 1) tNil)))) (tAsg (tOp (rI0 fun i j => V.int (i + j)) (tVar 1) (tC (V.int 1))) (gName 1))
        { nx := tRet (tVar 1) { nx := fun x H' => Q V.non H', rt := Q }, rt := Q } [some (V.str (S t)), some (V.int j)] H' := fun hj2 => by
      refine ⟨fun m σ' H2 => ∃ l : Nat, σ' = [some (.str (S t)), some (.int l)] ∧ H2 = H' ∧ l ≤ t.length ∧ m = t.length - l ∧ runEnd t l = wordEnd t i, ⟨_, j, rfl, rfl, hj, rfl, by unfold wordEnd; rw [← hg, hj2]⟩, ?_⟩
      rintro m σ' H2 ⟨l, rfl, rfl, hl, rfl, hr⟩
      walk_at "rd"
      refine ⟨t, l, rfl, ht, _, rfl, ?_⟩
      rw [isLet_nat]
      cases e : letAt t l with
      | true =>
        rw [if_pos rfl]
        have := lt_of_letAt e
        exact ⟨_, fun _ _ h => h, t.length - (l + 1), by omega, l + 1, rfl, rfl, by omega, rfl, by rw [← runEnd_let e]; exact hr⟩
      | false =>
        rw [if_neg Bool.false_ne_true]
        rw [runEnd_no e] at hr
        rw [hr]
        exact k H2 s1
    by_cases hl : (j : Int) < (t.length : Int)
    · rw [if_pos hl]
      refine ⟨t, j, rfl, ht, _, rfl, ?_⟩
      rw [isLet_nat]
      cases e : letAt t j with
      | true =>
        rw [if_neg (by decide)]
        exact second (gapEnd_let e)
      | false =>
        rw [if_pos (by decide)]
        exact ⟨_, fun _ _ h => h, t.length - (j + 1), by omega, j + 1, rfl, rfl, by omega, rfl, by rw [← gapEnd_no (by omega) e]; exact hg⟩
    · rw [if_neg hl]
      exact second (gapEnd_end (by omega))
theorem d_word_start (T : TX K mg) : Dn P w K mg base 3 "word_start" p_word_start (spWordStart K) := by
  refine dn_of (fn_word_start T) (g_word_start T) sc_word_start bd_word_start (fun vs H Q E h => ?_) (fun cdv A outer s H vs Q E hr h => ?_)
  · obtain ⟨t, i, rfl, _⟩ := h
    rfl
  · obtain ⟨t, i, rfl, ht, k⟩ := h
    refine ⟨_, (pss_cons (ps_expr (pc (d_look_text T) (hr.mono (by decide)) px (pa_cons (pv 0) pa_nil))) (pss_cons (ps_expr (pc (d_look_place T) (hr.mono (by decide)) px (pa_cons (pv 0) (pa_cons (pv 1) pa_nil)))) (pss_cons (ps_while (passes_of rfl) (PW.pt (pw_and (pt_cmpR op_gt (pv 1) pe_int (nomark _)) (pw_and1 (pt_not (pt_val (pc (d_is_letter T) (hr.mono (by decide)) px (pa_cons (pv 0) (pa_cons (pe_op op_sub (pv 1) pe_int) pa_nil)))))))) (pss_one (ps_set (i := 1) sc_word_start.nd rfl (Or.inl rfl) (pe_op op_sub (pv 1) pe_int)))) (pss_cons (ps_while (passes_of rfl) (pt_val (pc (d_is_letter T) (hr.mono (by decide)) px (pa_cons (pv 0) (pa_cons (pe_op op_sub (pv 1) pe_int) pa_nil)))) (pss_one (ps_set (i := 1) sc_word_start.nd rfl (Or.inl rfl) (pe_op op_sub (pv 1) pe_int)))) (pss_one (ps_ret (pv 1))))))), ?_⟩
    walk_at "rd"
    refine tried_looks ht k fun ho h0 h1 k H1 s1 => ?_
    obtain ⟨i, rfl⟩ : ∃ j : Nat, i = (j : Int) := ⟨i.toNat, by omega⟩
    rw [Int.toNat_natCast] at k
    refine ⟨fun m σ' H' => ∃ j : Nat, σ' = [some (.str (S t)), some (.int j)] ∧ H' = H1 ∧ m = j ∧ gapStart t j = gapStart t i, ⟨_, i, rfl, rfl, rfl, rfl⟩, ?_⟩
    rintro m σ' H' ⟨j, rfl, rfl, hm, hg⟩
    have hm := hm.symm
    subst hm
    walk_at "rd"
    have second : gapStart t j = j → tWhile (tB (tCall spIsLetter [] E (tCons (tVar 0) (tCons (tOp (rI0 fun i j => V.int (i - j)) (tVar 1) (tC (V.int 1))) tNil)))) (tAsg (tOp (rI0 fun i j => V.int (i - j)) (tVar 1) (tC (V.int 1))) (gName 1))
        { nx := tRet (tVar 1) { nx := fun x H' => Q V.non H', rt := Q }, rt := Q } [some (V.str (S t)), some (V.int j)] H' := fun hj2 => by
      refine ⟨fun m σ' H2 => ∃ l : Nat, σ' = [some (.str (S t)), some (.int l)] ∧ H2 = H' ∧ m = l ∧ runStart t l = wordStart t i, ⟨_, j, rfl, rfl, rfl, by unfold wordStart; rw [← hg, hj2]⟩, ?_⟩
      rintro m σ' H2 ⟨l, rfl, rfl, hm, hr⟩
      have hm := hm.symm
      subst hm
      walk_at "rd"
      refine ⟨t, (l : Int) - 1, rfl, ht, _, rfl, ?_⟩
      rw [isLet_prev]
      cases l with
      | zero =>
        rw [if_neg Bool.false_ne_true]
        have hr : (0 : Nat) = wordStart t i := hr
        rw [← hr] at k
        exact k H2 s1
      | succ l =>
        show if letAt t l = true then _ else _
        have e3 : ((l + 1 : Nat) : Int) - 1 = (l : Int) := by omega
        rw [e3]
        cases e : letAt t l with
        | true =>
          rw [if_pos rfl]
          refine ⟨_, fun _ _ h => h, l, by omega, l, rfl, rfl, rfl, ?_⟩
          rw [runStart_let e] at hr
          exact hr
        | false =>
          rw [if_neg Bool.false_ne_true]
          rw [runStart_no e] at hr
          rw [← hr] at k
          exact k H2 s1
    cases j with
    | zero =>
      rw [if_neg (by decide)]
      exact second rfl
    | succ j =>
      rw [if_pos (by omega)]
      refine ⟨t, ((j + 1 : Nat) : Int) - 1, rfl, ht, _, rfl, ?_⟩
      rw [isLet_prev]
      show if (!letAt t j) = true then _ else _
      have e3 : ((j + 1 : Nat) : Int) - 1 = (j : Int) := by omega
      rw [e3]
      cases e : letAt t j with
      | true =>
        rw [if_neg (by decide)]
        exact second (gapStart_let e)
      | false =>
        rw [if_pos (by decide)]
        refine ⟨_, fun _ _ h => h, j, by omega, j, rfl, rfl, rfl, ?_⟩
        rw [gapStart_no e] at hg
        exact hg
end
end LH
/-! ## Words: recased -/
namespace LH
open PySem PySem.Spec PyProof.Rows L2
/-- a word in great letters, small ones, or the first one great -/
def caseWord (way : Str) (l : List Nat) : List Nat :=
  if way = ("great" : Str) then l.map up1 else if way = ("small" : Str) then l.map lo1 else (l.take 1).map up1 ++ (l.drop 1).map lo1
def recT (t : List Nat) (i : Nat) (way : Str) : List Nat := t.take (gapEnd t i) ++ caseWord way ((t.drop (gapEnd t i)).take (wordEnd t i - gapEnd t i)) ++ t.drop (wordEnd t i)
def spRecased (K : PySem.W.Frag) : Sp := fun vs H Q E => ∃ (t : List Nat) (i : Int) (way : Str), vs = [.str (S t), .int i, .str way] ∧ t.length ≤ 100000 ∧
  Tried K t i E H (∀ p H', H p = none → Same H H' → H' p = some (.tup [.str (S (recT t i.toNat way)), .int (wordEnd t i.toNat : Nat)]) → Q (.ref p) H')
theorem isSign_lt {c : Nat} (h : isSign [c] = true) : c < 128 := by
  have e : (decide (32 ≤ c) && decide (c < 127) && decide (c ≠ 37)) = true := h
  simp only [Bool.and_eq_true, decide_eq_true_eq] at e
  omega
theorem okText_lt {t : List Nat} (h : okText t = true) : ∀ c ∈ t, c < 128 := fun c hc => by
  unfold okText at h
  exact isSign_lt (List.all_eq_true.mp (Bool.and_eq_true_iff.mp h).2 c hc)
theorem okText_len {t : List Nat} (h : okText t = true) : t.length ≤ 400 := by
  unfold okText at h
  exact of_decide_eq_true (Bool.and_eq_true_iff.mp h).1
theorem up_S {l : List Nat} (h : ∀ c ∈ l, c < 128) : Txt.upper (S l) = S (l.map up1) := by
  rw [upper_ascii (x := S l) (by rw [S_tl]; exact h)]
  unfold S
  simp
theorem lo_S {l : List Nat} (h : ∀ c ∈ l, c < 128) : Txt.lower (S l) = S (l.map lo1) := by
  rw [lower_ascii (x := S l) (by rw [S_tl]; exact h)]
  unfold S
  simp
theorem Tried.imp {K : PySem.W.Frag} {t : List Nat} {i : Int} {E : XK} {H : Hp} {A B : Prop} (k : Tried K t i E H A) (h : okText t = true → 0 ≤ i → i ≤ t.length → A → B) : Tried K t i E H B := by
  unfold Tried at k ⊢
  by_cases ho : okText t = true
  · rw [if_pos ho] at k ⊢
    by_cases hp : 0 ≤ i ∧ i ≤ t.length
    · rw [if_pos hp] at k ⊢
      exact h ho hp.1 hp.2 k
    · rw [if_neg hp] at k ⊢
      exact k
  · rw [if_neg ho] at k ⊢
    exact k
theorem caseWord_len (way : Str) (l : List Nat) : (caseWord way l).length = l.length := by
  unfold caseWord
  split
  · simp
  · split
    · simp
    · simp
      omega
section
variable {P : Program} {w : World} {K : PySem.W.Frag} {mg : Str → Option Value} {base : Heap}
theorem d_recased (T : TX K mg) : Dn P w K mg base 4 "recased" p_recased (spRecased K) := by
  refine dn_of (fn_recased T) (g_recased T) sc_recased bd_recased (fun vs H Q E h => ?_) (fun cdv A outer s H vs Q E hr h => ?_)
  · obtain ⟨t, i, way, rfl, _⟩ := h
    rfl
  · obtain ⟨t, i, way, rfl, ht, k⟩ := h
    refine ⟨_, (pss_cons (ps_set (i := 3) sc_recased.nd rfl (Or.inl rfl) (pc (d_word_end T) (hr.mono (by decide)) px (pa_cons (pv 0) (pa_cons (pv 1) pa_nil)))) (pss_cons (ps_set (i := 4) sc_recased.nd rfl (Or.inl rfl) (pv 1)) (Evl.pss_cut (ps_while (passes_of rfl) (PW.pt (pw_and (pt_cmpR op_lt (pv 4) (pv 3) (nomark _)) (pw_and1 (pt_not (pt_val (pc (d_is_letter T) (hr.mono (by decide)) px (pa_cons (pv 0) (pa_cons (pv 4) pa_nil)))))))) (pss_one (ps_set (i := 4) sc_recased.nd rfl (Or.inl rfl) (pe_op op_add (pv 4) pe_int)))) (pss_cons (ps_set (i := 5) sc_recased.nd rfl (Or.inl rfl) (pe_slice sl_str (pv 0) (po_some (pv 4)) (po_some (pv 3)))) (Evl.pss_cut (ps_if (pt_cmpR op_eq (pv 2) pe_str (nomark _)) (pss_one (ps_set (i := 5) sc_recased.nd rfl (Or.inl rfl) (pe_upper (pv 5)))) (pss_one (ps_if (pt_cmpR op_eq (pv 2) pe_str (nomark _)) (pss_one (ps_set (i := 5) sc_recased.nd rfl (Or.inl rfl) (pe_lower (pv 5)))) (pss_one (ps_set (i := 5) sc_recased.nd rfl (Or.inl rfl) (pe_op op_add_str (pe_upper (pe_slice sl_str (pv 5) po_none (po_some pe_int))) (pe_lower (pe_slice sl_str (pv 5) (po_some pe_int) po_none)))))))) (pss_one (ps_ret (pe_tup (pa_cons (pe_op op_add_str (pe_op op_add_str (pe_slice sl_str (pv 0) po_none (po_some (pv 4))) (pv 5)) (pe_slice sl_str (pv 0) (po_some (pv 3)) po_none)) (pa_cons (pv 3) pa_nil)))))))))), ?_⟩
    walk_at "rd"
    refine ⟨t, i, rfl, ht, k.imp fun ho h0 h1 k H1 s1 => ?_⟩
    obtain ⟨i, rfl⟩ : ∃ j : Nat, i = (j : Int) := ⟨i.toNat, by omega⟩
    rw [Int.toNat_natCast] at k ⊢
    have hge : gapEnd t i ≤ wordEnd t i := le_runEnd t _
    have hwl : wordEnd t i ≤ t.length := wordEnd_le (by omega)
    have hlt := okText_lt ho
    refine ⟨fun σ' H' => σ' = [some (.str (S t)), some (.int i), some (.str way), some (.int (wordEnd t i : Nat)), some (.int (gapEnd t i : Nat)), none] ∧ H' = H1, ?_, ?_⟩
    · refine ⟨fun m σ' H' => ∃ j : Nat, σ' = [some (.str (S t)), some (.int i), some (.str way), some (.int (wordEnd t i : Nat)), some (.int j), none] ∧ H' = H1 ∧ j ≤ wordEnd t i ∧ m = wordEnd t i - j ∧ gapEnd t j = gapEnd t i, ⟨_, i, rfl, rfl, le_wordEnd t i, rfl, rfl⟩, ?_⟩
      rintro m σ' H' ⟨j, rfl, rfl, hj, rfl, hg⟩
      walk_at "rd"
      by_cases hl : (j : Int) < (wordEnd t i : Nat)
      · rw [if_pos hl]
        refine ⟨t, j, rfl, ht, _, rfl, ?_⟩
        rw [isLet_nat]
        cases e : letAt t j with
        | true =>
          rw [if_neg (by decide)]
          rw [gapEnd_let e] at hg
          exact ⟨by rw [hg], rfl⟩
        | false =>
          rw [if_pos (by decide)]
          exact ⟨_, fun _ _ h => h, wordEnd t i - (j + 1), by omega, j + 1, rfl, rfl, by omega, rfl, by rw [← gapEnd_no (by omega) e]; exact hg⟩
      · rw [if_neg hl]
        have e : j = wordEnd t i := by omega
        have := le_gapEnd t j
        have := le_gapEnd t i
        first
          | exact ⟨by omega, rfl⟩
          | omega
    · rintro σ' H' ⟨rfl, rfl⟩
      walk_at "rd"
      refine ⟨sline ht, ?_⟩
      have hc : cutS (S t) (some (gapEnd t i : Nat)) (some (wordEnd t i : Nat)) = S ((t.drop (gapEnd t i)).take (wordEnd t i - gapEnd t i)) := cut_S t _ _ (by omega) (by omega) (by omega) (by omega)
      rw [hc]
      generalize hw : (t.drop (gapEnd t i)).take (wordEnd t i - gapEnd t i) = wd
      have hwlt : ∀ c ∈ wd, c < 128 := fun c hc => hlt c (List.mem_of_mem_drop (List.mem_of_mem_take (by rw [hw]; exact hc)))
      have hwl3 : wd.length ≤ 400 := by
        have := okText_len ho
        rw [← hw, List.length_take, List.length_drop]
        omega
      have hwl2 : wd.length ≤ 100000 := by omega
      refine ⟨fun σ' H2 => σ' = [some (.str (S t)), some (.int i), some (.str way), some (.int (wordEnd t i : Nat)), some (.int (gapEnd t i : Nat)), some (.str (S (caseWord way wd)))] ∧ H2 = H', ?_, ?_⟩
      · walk_at "rd"
        unfold caseWord
        by_cases h1 : way = ("great" : Str)
        · rw [if_pos h1, if_pos h1]
          exact ⟨by omega, by rw [up_S hwlt]⟩
        · rw [if_neg h1, if_neg h1]
          by_cases h2 : way = ("small" : Str)
          · rw [if_pos h2, if_pos h2]
            exact ⟨by omega, by rw [lo_S hwlt]⟩
          · rw [if_neg h2, if_neg h2]
            have u1 : cutS (S wd) none (some 1) = S (wd.take 1) := cut_to wd 1 (by decide)
            have u2 : cutS (S wd) (some 1) none = S (wd.drop 1) := cut_from wd 1 (by decide)
            rw [u1, u2, up_S fun c hc => hwlt c (List.mem_of_mem_take hc), lo_S fun c hc => hwlt c (List.mem_of_mem_drop hc)]
            have l1 : (wd.take 1).length ≤ 1 := by rw [List.length_take]; omega
            have l2 : (wd.drop 1).length ≤ wd.length := by rw [List.length_drop]; omega
            simp only [S_len, List.length_map]
            exact ⟨sline hwl2, by omega, sline hwl2, by omega, sline (by omega), S_app _ _⟩
      · rintro σ' H2 ⟨rfl, rfl⟩
        walk_at "rd"
        have v1 : cutS (S t) none (some (gapEnd t i : Nat)) = S (t.take (gapEnd t i)) := by
          rw [cut_to t _ (by omega), Int.toNat_natCast]
        have v2 : cutS (S t) (some (wordEnd t i : Nat)) none = S (t.drop (wordEnd t i)) := by
          rw [cut_from t _ (by omega), Int.toNat_natCast]
        have l1 : (t.take (gapEnd t i)).length ≤ t.length := by rw [List.length_take]; omega
        have l2 : (t.drop (wordEnd t i)).length ≤ t.length := by rw [List.length_drop]; omega
        have l3 := okText_len ho
        simp only [v1, v2, S_app, S_len, List.length_append, caseWord_len]
        refine ⟨sline ht, sline (by omega), sline ht, sline (by omega), by show 2 ≤ sizeLine; decide, fun p hp => ?_⟩
        refine k p _ (s1.free hp) (same_upd s1 (s1.free hp)) ?_
        rw [upd_same]
        unfold recT
        rw [hw]
end
end LH
/-! ## D1: the law's draws; how a refusal is told -/
namespace LH
open PySem PySem.Spec PyProof.Rows L2
/-- the script at a (it is no town), the town at b: its length the draws so far, at most z -/
structure Dr (K : PySem.W.Frag) (H : Hp) (a b : Addr) (ns : List Int) (z : Nat) : Prop where
  scr : (Rd H a (.lst (ns.map V.int)) ∧ a ≠ b) ∨ ∀ H' : Hp, SqL K H' a (ns.map V.int)
  len : ns.length ≤ 63
  tow : ∃ zs, H b = some (.lst zs) ∧ zs.length ≤ z
theorem Dr.sql {K : PySem.W.Frag} {H : Hp} {a b : Addr} {ns : List Int} {z : Nat} (d : Dr K H a b ns z) : SqL K H a (ns.map V.int) := d.scr.elim (fun q => .inl q.1) fun q => q H
theorem Dr.mono {K : PySem.W.Frag} {H : Hp} {a b : Addr} {ns : List Int} {z z' : Nat} (d : Dr K H a b ns z) (h : z ≤ z') : Dr K H a b ns z' :=
  ⟨d.scr, d.len, let ⟨zs, e, l⟩ := d.tow; ⟨zs, e, Nat.le_trans l h⟩⟩
/-- carried over what leaves the town and the script -/
theorem Dr.fx {K : PySem.W.Frag} {F : List Addr} {H H' : Hp} {a b : Addr} {ns : List Int} {z : Nat} (d : Dr K H a b ns z) (x : Fx F H H') (na : (∃ u, Rd H a u) → a ∉ F) (nb : b ∉ F) : Dr K H' a b ns z :=
  ⟨d.scr.elim (fun q => .inl ⟨x.rd q.1 (na ⟨_, q.1⟩), q.2⟩) .inr, d.len, let ⟨zs, e, l⟩ := d.tow; ⟨zs, x _ _ e nb, l⟩⟩
theorem Dr.same {K : PySem.W.Frag} {H H' : Hp} {a b : Addr} {ns : List Int} {z : Nat} (d : Dr K H a b ns z) (s : Same H H') : Dr K H' a b ns z := d.fx (F := []) (Fx.of s) (fun _ => List.not_mem_nil) List.not_mem_nil
theorem Dr.there {K : PySem.W.Frag} {H : Hp} {a b : Addr} {ns : List Int} {z : Nat} (d : Dr K H a b ns z) : H b ≠ none := by
  obtain ⟨zs, e, _⟩ := d.tow
  rw [e]
  exact fun q => nomatch q
def spCell (K : PySem.W.Frag) : Sp := fun vs H Q _ => ∃ (a : Addr) (ns : List Int) (k : Int), vs = [.ref a, .int k] ∧ SqL K H a (ns.map V.int) ∧ ns.length ≤ 63 ∧ 0 ≤ k ∧ ∀ i : Int, Q (.int i) H
def spMix (K : PySem.W.Frag) : Sp := fun vs H Q _ => ∃ (a : Addr) (ns : List Int) (k : Int), vs = [.ref a, .int k] ∧ SqL K H a (ns.map V.int) ∧ ns.length ≤ 63 ∧ 0 ≤ k ∧ k ≤ 100000 ∧ ∀ i : Int, 0 ≤ i → i < 4294967231 → Q (.int i) H
def spDraw (K : PySem.W.Frag) : Sp := fun vs H Q _ => ∃ (a b : Addr) (m : Int) (ns : List Int) (z : Nat), vs = [.ref a, .ref b, .int m] ∧ Dr K H a b ns z ∧ z < 90000 ∧ 0 < m ∧ m < 1000000 ∧
  ∀ (d : Int) (H' : Hp), 0 ≤ d → d < m → Fx [b] H H' → Dr K H' a b ns (z + 1) → Q (.int d) H'
def spPick (K : PySem.W.Frag) : Sp := fun vs H Q _ => ∃ (a b l : Addr) (xs : List V) (ns : List Int) (z : Nat), vs = [.ref a, .ref b, .ref l] ∧ Dr K H a b ns z ∧ z < 90000 ∧ SqL K H l xs ∧ l ≠ b ∧ xs ≠ [] ∧ xs.length ≤ 1000 ∧
  ∀ (j : Nat) (v : V) (H' : Hp), xs[j]? = some v → Fx [b] H H' → Dr K H' a b ns (z + 1) → Q v H'
section
variable {P : Program} {w : World} {K : PySem.W.Frag} {mg : Str → Option Value} {base : Heap}
theorem d_l_cell (T : TX K mg) : Dn P w K mg base 1 "_law_cell" p_l_cell (spCell K) := by
  refine dn_of (fn_l_cell T) (g__law_cell T) sc_l_cell bd_l_cell (fun vs H Q E h => ?_) (fun cdv A outer s H vs Q E hr h => ?_)
  · obtain ⟨a, ns, k, rfl, _⟩ := h
    rfl
  · obtain ⟨a, ns, k, rfl, hS, hl, hk, q⟩ := h
    refine ⟨_, (pss_cons (ps_if (pt_truth (pv 0) (by intro _; rfl)) (pss_one (ps_ret (pe_ix ix_list (pv 0) (pe_op op_modN (pv 1) (pe_callB call_len_seq (by rfl) (b_len T) boot_len (pa_cons (pv 0) pa_nil))) (fun _ _ => rfl)))) pss_nil) (pss_one (ps_ret pe_int))), ?_⟩
    walk_at "rd"
    cases ns with
    | nil => exact ⟨false, .inl ⟨_, hS, rfl⟩, q 0⟩
    | cons n r =>
      refine ⟨true, .inl ⟨_, hS, rfl⟩, ?_⟩
      rw [if_pos rfl]
      refine ⟨_, .inl hS, by rw [List.length_map, List.length_cons]; omega, _, hS, ?_⟩
      have hp : (0 : Int) < ((((n :: r).map V.int).length : Nat) : Int) := by rw [List.length_map, List.length_cons]; omega
      generalize hm : k.fmod (((n :: r).map V.int).length : Nat) = m
      rw [Int.fmod_eq_emod_of_nonneg _ (by omega)] at hm
      have h1 : 0 ≤ m := by rw [← hm]; exact Int.emod_nonneg _ (by omega)
      have h2 : m < (((n :: r).map V.int).length : Nat) := by rw [← hm]; exact Int.emod_lt_of_pos _ hp
      rw [atI_in h1 h2, List.getElem?_map]
      have h3 : m.toNat < (n :: r).length := by
        rw [List.length_map] at h2
        omega
      rw [List.getElem?_eq_getElem h3]
      exact ⟨_, rfl, q _⟩
theorem d_l_mix (T : TX K mg) : Dn P w K mg base 2 "_law_mix" p_l_mix (spMix K) := by
  refine dn_of (fn_l_mix T) (g__law_mix T) sc_l_mix bd_l_mix (fun vs H Q E h => ?_) (fun cdv A outer s H vs Q E hr h => ?_)
  · obtain ⟨a, ns, k, rfl, _⟩ := h
    rfl
  · obtain ⟨a, ns, k, rfl, hS, hl, hk, hk2, q⟩ := h
    refine ⟨_, (pss_cons (ps_set (i := 2) sc_l_mix.nd rfl (Or.inl rfl) (pe_op op_modN (pe_op op_add (pc (d_l_cell T) (hr.mono (by decide)) px (pa_cons (pv 0) (pa_cons (pv 1) pa_nil))) (pe_op op_mul pe_int (pe_op op_add (pv 1) pe_int))) pe_int)) (pss_cons (ps_set (i := 2) sc_l_mix.nd rfl (Or.inl rfl) (pe_op op_modN (pe_op op_pow (pv 2) pe_int) pe_int)) (pss_one (ps_ret (pe_op op_modN (pe_op op_add (pe_op op_mul (pe_op op_fdivN (pv 2) pe_int) pe_int) (pv 2)) pe_int))))), ?_⟩
    walk_at "rd"
    refine ⟨a, ns, k, rfl, hS, hl, hk, fun i => ?_⟩
    have pos : ∀ (x m : Int), 0 < m → 0 ≤ x.fmod m ∧ x.fmod m < m := fun x m hm => by
      rw [Int.fmod_eq_emod_of_nonneg _ (by omega)]
      exact ⟨Int.emod_nonneg _ (by omega), Int.emod_lt_of_pos _ hm⟩
    refine ⟨.inl (by omega), _, rfl, by omega, ?_⟩
    obtain ⟨a1, a2⟩ := pos (i + 104729 * (k + 1)) 4294967291 (by omega)
    generalize (i + 104729 * (k + 1)).fmod 4294967291 = u at a1 a2 ⊢
    refine ⟨⟨by omega, by omega, by omega⟩, by omega, ?_⟩
    obtain ⟨b1, b2⟩ := pos (u ^ Int.toNat 5) 4294967279 (by omega)
    generalize (u ^ Int.toNat 5).fmod 4294967279 = v at b1 b2 ⊢
    refine ⟨⟨by omega, by decide⟩, ?_⟩
    have e : v.fdiv 64 = v / 64 := Int.fdiv_eq_ediv_of_nonneg _ (by omega)
    rw [e]
    refine ⟨.inl (by omega), by omega, ?_⟩
    obtain ⟨c1, c2⟩ := pos (v / 64 * 69621 + v) 4294967231 (by omega)
    exact q _ c1 c2
theorem d_l_draw (T : TX K mg) : Dn P w K mg base 3 "_law_draw" p_l_draw (spDraw K) := by
  refine dn_of (fn_l_draw T) (g__law_draw T) sc_l_draw bd_l_draw (fun vs H Q E h => ?_) (fun cdv A outer s H vs Q E hr h => ?_)
  · obtain ⟨a, b, m, ns, z, rfl, _⟩ := h
    rfl
  · obtain ⟨a, b, m, ns, z, rfl, D, hz, hm, hm2, q⟩ := h
    refine ⟨_, (pss_cons (ps_expr (pe_bm PySem.F.plainAttrs_list PySem.F.slot_list_append PySem.F.type_list_append mt_append (pv 1) (pa_cons pe_int pa_nil))) (pss_one (ps_ret (pe_op op_modN (pe_op op_fdivN (pc (d_l_mix T) (hr.mono (by decide)) px (pa_cons (pv 0) (pa_cons (pe_callB call_len_seq (by rfl) (b_len T) boot_len (pa_cons (pv 1) pa_nil)) pa_nil))) pe_int) (pv 2))))), ?_⟩
    walk_at "rd"
    obtain ⟨zs, et, lt⟩ := D.tow
    refine ⟨.inl ⟨rfl, _, sq_of et⟩, zs, et, slt (by omega), _, .inl (sq_of upd_same), ?_⟩
    have nl : ((zs ++ [V.int 0]).length : Nat) ≤ z + 1 := by rw [List.length_append]; simp; omega
    have hf : Fx [b] H (upd H b (.lst (zs ++ [.int 0]))) := Fx.upd List.mem_cons_self
    have D' : Dr K (upd H b (.lst (zs ++ [.int 0]))) a b ns (z + 1) := ⟨D.scr.elim (fun q => .inl ⟨hf.rd q.1 (by simp [q.2]), q.2⟩) .inr, D.len, _, upd_same, nl⟩
    refine ⟨a, ns, _, rfl, D'.sql, D.len, by omega, by omega, fun i h0 h1 => ⟨_, rfl, ⟨by omega, by decide⟩, by omega, ?_⟩⟩
    rw [Int.fmod_eq_emod_of_nonneg _ (by omega)]
    exact q _ _ (Int.emod_nonneg _ (by omega)) (Int.emod_lt_of_pos _ hm) hf D'
theorem d_l_pick (T : TX K mg) : Dn P w K mg base 4 "_law_pick" p_l_pick (spPick K) := by
  refine dn_of (fn_l_pick T) (g__law_pick T) sc_l_pick bd_l_pick (fun vs H Q E h => ?_) (fun cdv A outer s H vs Q E hr h => ?_)
  · obtain ⟨a, b, l, xs, ns, z, rfl, _⟩ := h
    rfl
  · obtain ⟨a, b, l, xs, ns, z, rfl, D, hz, hL, nl, hx, hx2, q⟩ := h
    refine ⟨_, (pss_one (ps_ret (pe_ix ix_list (pv 2) (pc (d_l_draw T) (hr.mono (by decide)) px (pa_cons (pv 0) (pa_cons (pv 1) (pa_cons (pe_callB call_len_seq (by rfl) (b_len T) boot_len (pa_cons (pv 2) pa_nil)) pa_nil)))) (fun _ _ => rfl)))), ?_⟩
    walk_at "rd"
    have hp : 0 < xs.length := List.length_pos_iff.mpr hx
    refine ⟨_, .inl hL, a, b, _, ns, z, rfl, D, hz, by omega, by omega, fun d H' h0 h1 B D' => ⟨_, _, rfl, B.sql hL (by simp [nl]), ?_⟩⟩
    rw [atI_in h0 h1, List.getElem?_eq_getElem (by omega)]
    exact ⟨_, rfl, q d.toNat _ _ (List.getElem?_eq_getElem (by omega)) B D'⟩
/-- the errors and how they are told -/
def kinds : List (Str × Str) := [("BadKey", "key"), ("BadText", "text"), ("BadSize", "size"), ("BadPlace", "place")]
def spRefusal (K : PySem.W.Frag) : Sp := fun vs H Q _ => ∃ (x : Addr) (c d : Str), vs = [.ref x] ∧ (c, d) ∈ kinds ∧ H x = some (KX (He.ga K c) x) ∧
  ∀ p H', H p = none → Same H H' → H' p = some (.tup [.str "refused", .str d]) → Q (.ref p) H'
/-- the four answers, one of them true -/
structure Ans4 (bs : List Bool) (j : Nat) : Prop where
  len : bs.length = 4
  cnt : (bs.map V.bl).countP (fun z => eqV z (.bl true)) = 1
  at_ : bs[j]? = some true
  no : ∀ m, m < j → bs[m]? = some false
theorem d_l_refusal (T : TX K mg) : Dn P w K mg base 1 "_law_refusal" p_l_refusal (spRefusal K) := by
  refine dn_of (fn_l_refusal T) (g__law_refusal T) sc_l_refusal bd_l_refusal (fun vs H Q E h => ?_) (fun cdv A outer s H vs Q E hr h => ?_)
  · obtain ⟨x, c, d, rfl, _⟩ := h
    rfl
  · obtain ⟨x, c, d, rfl, hc, hx, k⟩ := h
    refine ⟨_, (pss_cons (ps_if (pt_cmpR op_isN (pv 0) pe_non (nomark _)) (pss_one (ps_ret (pe_tup (pa_cons pe_str pa_nil)))) pss_nil) (pss_cons (ps_set (i := 1) sc_l_refusal.nd rfl (Or.inl rfl) (pe_lst (pa_cons (pe_callB call_isX (by rfl) (b_isinstance T) (by decide +kernel) (pa_cons (pv 0) (pa_cons (pgr (g_BadKey T)) pa_nil))) (pa_cons (pe_callB call_isX (by rfl) (b_isinstance T) (by decide +kernel) (pa_cons (pv 0) (pa_cons (pgr (g_BadText T)) pa_nil))) (pa_cons (pe_callB call_isX (by rfl) (b_isinstance T) (by decide +kernel) (pa_cons (pv 0) (pa_cons (pgr (g_BadSize T)) pa_nil))) pa_nil))))) (pss_cons (ps_expr (pe_bm PySem.F.plainAttrs_list PySem.F.slot_list_append PySem.F.type_list_append mt_append (pv 1) (pa_cons (pe_callB call_isX (by rfl) (b_isinstance T) (by decide +kernel) (pa_cons (pv 0) (pa_cons (pgr (g_BadPlace T)) pa_nil))) pa_nil))) (pss_cons (ps_if (PW.pt (pw_or (pt_cmpR op_ne (pe_bm PySem.F.plainAttrs_list PySem.F.slot_list_count PySem.F.type_list_count mt_countB (pv 1) (pa_cons pe_bl pa_nil)) pe_int (nomark _)) (pw_or1 (pt_not (pt_val (pe_callB call_isX (by rfl) (b_isinstance T) (by decide +kernel) (pa_cons (pv 0) (pa_cons (pe_bltn (v := .ty "ValueError") rfl (b_ValueError T) (by decide +kernel) rfl) pa_nil)))))))) (pss_one (ps_ret (pe_tup (pa_cons pe_str pa_nil)))) pss_nil) (pss_one (ps_ret (pe_tup (pa_cons pe_str (pa_cons (pe_ix ix_list (pe_lst (pa_lits rfl)) (pe_bm PySem.F.plainAttrs_list PySem.F.slot_list_index PySem.F.type_list_index mt_index (pv 1) (pa_cons pe_bl pa_nil)) (fun _ _ => rfl)) pa_nil))))))))), ?_⟩
    walk_at "rd"
    have facts : ∃ (b0 b1 b2 b3 : Bool) (j : Nat), ExcC K (He.ga K c) ∧ PySem.W.kitOne K (.ref (He.ga K c)) (.ref (He.ga K "BadKey")) = some b0 ∧ PySem.W.kitOne K (.ref (He.ga K c)) (.ref (He.ga K "BadText")) = some b1 ∧
        PySem.W.kitOne K (.ref (He.ga K c)) (.ref (He.ga K "BadSize")) = some b2 ∧ PySem.W.kitOne K (.ref (He.ga K c)) (.ref (He.ga K "BadPlace")) = some b3 ∧ PySem.W.kitOne K (.ref (He.ga K c)) (.type "ValueError") = some true ∧
        Ans4 [b0, b1, b2, b3] j ∧ [V.str "key", .str "text", .str "size", .str "place"][j]? = some (.str d) := by
      have hc2 : (c, d) = (("BadKey", "key") : Str × Str) ∨ (c, d) = (("BadText", "text") : Str × Str) ∨ (c, d) = (("BadSize", "size") : Str × Str) ∨ (c, d) = (("BadPlace", "place") : Str × Str) := by
        simpa [kinds] using hc
      rcases hc2 with e | e | e | e
      · cases e
        exact ⟨_, _, _, _, 0, ex_BadKey T, ki_BadKey_BadKey T, ki_BadKey_BadText T, ki_BadKey_BadSize T, ki_BadKey_BadPlace T, ki_BadKey_ValueError T, ⟨rfl, rfl, rfl, fun m hm => by omega⟩, rfl⟩
      · cases e
        exact ⟨_, _, _, _, 1, ex_BadText T, ki_BadText_BadKey T, ki_BadText_BadText T, ki_BadText_BadSize T, ki_BadText_BadPlace T, ki_BadText_ValueError T, ⟨rfl, rfl, rfl, fun m hm => match m, hm with | 0, _ => rfl⟩, rfl⟩
      · cases e
        exact ⟨_, _, _, _, 2, ex_BadSize T, ki_BadSize_BadKey T, ki_BadSize_BadText T, ki_BadSize_BadSize T, ki_BadSize_BadPlace T, ki_BadSize_ValueError T, ⟨rfl, rfl, rfl, fun m hm => match m, hm with | 0, _ => rfl | 1, _ => rfl⟩, rfl⟩
      · cases e
        exact ⟨_, _, _, _, 3, ex_BadPlace T, ki_BadPlace_BadKey T, ki_BadPlace_BadText T, ki_BadPlace_BadSize T, ki_BadPlace_BadPlace T, ki_BadPlace_ValueError T, ⟨rfl, rfl, rfl, fun m hm => match m, hm with | 0, _ => rfl | 1, _ => rfl | 2, _ => rfl⟩, rfl⟩
    obtain ⟨b0, b1, b2, b3, j, hC, k0, k1, k2, k3, kV, A, hd⟩ := facts
    refine ⟨x, _, _, _, b0, rfl, hx, hC, fun _ r => r, k0, x, _, _, _, b1, rfl, hx, hC, fun _ r => r, k1, x, _, _, _, b2, rfl, hx, hC, fun _ r => r, k2, (by show 3 ≤ sizeLine; decide), fun p hp => ?_⟩
    have n1 : x ≠ p := ne_of_none hx hp
    have h1 : upd H p (.lst [.bl b0, .bl b1, .bl b2]) x = some (KX (He.ga K c) x) := by rw [upd_ne n1]; exact hx
    refine ⟨.inl ⟨rfl, _, sq_of upd_same⟩, x, _, _, _, b3, rfl, h1, hC, fun _ r => r, k3, _, upd_same, (by show 3 < sizeLine; decide), ?_⟩
    have h2 : upd (upd H p (.lst [.bl b0, .bl b1, .bl b2])) p (.lst ([.bl b0, .bl b1, .bl b2] ++ [.bl b3])) x = some (KX (He.ga K c) x) := by rw [upd_ne n1]; exact h1
    have flat : ([V.bl b0, .bl b1, .bl b2] ++ [V.bl b3]).all flatV = true := rfl
    refine ⟨.inl ⟨rfl, _, sq_of upd_same⟩, p, _, _, rfl, rfl, sq_of upd_same, rfl, flat, rfl, ?_⟩
    have ec : ([V.bl b0, .bl b1, .bl b2] ++ [V.bl b3]).countP (fun z => eqV z (.bl true)) = 1 := A.cnt
    rw [ec, if_neg (by decide)]
    refine ⟨x, _, _, _, true, rfl, h2, hC, fun _ r => r, kV, _, rfl, ?_⟩
    rw [if_neg (by decide)]
    refine ⟨by show 4 ≤ sizeLine; decide, fun p1 hp1 => ?_⟩
    have n2 : p ≠ p1 := ne_of_none upd_same hp1
    have hb : (upd (upd (upd H p (.lst [.bl b0, .bl b1, .bl b2])) p (.lst ([.bl b0, .bl b1, .bl b2] ++ [.bl b3]))) p1 (.lst ([("key" : Str), "text", "size", "place"].map V.str))) p = some (.lst ([.bl b0, .bl b1, .bl b2] ++ [.bl b3])) := by
      rw [upd_ne n2]
      exact upd_same
    have hz : ([V.bl b0, .bl b1, .bl b2] ++ [V.bl b3])[j]? = some (.bl true) := by
      have e := A.at_
      show ([b0, b1, b2, b3].map V.bl)[j]? = some (.bl true)
      rw [List.getElem?_map, e]
      rfl
    have hno : ∀ (m : Nat) (z : V), m < j → ([V.bl b0, .bl b1, .bl b2] ++ [V.bl b3])[m]? = some z → eqV z (.bl true) = false := fun m z hm e => by
      have e2 : ([b0, b1, b2, b3].map V.bl)[m]? = some z := e
      rw [List.getElem?_map, A.no m hm] at e2
      cases e2
      rfl
    have hj : j < 4 := by
      have := (List.getElem?_eq_some_iff.mp hz).1
      exact this
    refine ⟨.inl ⟨rfl, _, sq_of hb⟩, p, _, _, j, _, rfl, rfl, sq_of hb, rfl, flat, hz, rfl, hno, _, _, rfl, sq_of upd_same, .str d, ?_, (by show 2 ≤ sizeLine; decide), fun p2 hp2 => ?_⟩
    · rw [atI_in (by omega) (by show (j : Int) < 4; omega), Int.toNat_natCast]
      exact hd
    · have s1 : Same H (upd (upd (upd H p (.lst [.bl b0, .bl b1, .bl b2])) p (.lst ([.bl b0, .bl b1, .bl b2] ++ [.bl b3]))) p1 (.lst ([("key" : Str), "text", "size", "place"].map V.str))) := by
        refine same_upd (same_upd (same_new hp) hp) ?_
        have e := hp1
        rw [upd_ne n2.symm, upd_ne n2.symm] at e
        exact e
      exact k p2 _ (s1.free hp2) (same_upd s1 (s1.free hp2)) upd_same
end
/-- a refusal, told -/
def IsRef (H : Hp) (d : Str) (v : V) : Prop := ∃ p, v = .ref p ∧ H p = some (.tup [.str "refused", .str d])
/-- an error that a try's body lets out is kept in slot j -/
theorem rf_keep {K : PySem.W.Frag} {c : Str} {i j : Nat} {D : Ends} {σ : L2.St} {H : Hp} (xm : PySem.W.exmOne K (.ref (He.ga K c)) (.ref (He.ga K "HandError")) = some true) (hl : i < σ.length)
    (h : ∀ a H', Same H H' → H' a = none → D.nx (((σ.set i (some (.ref a))).set j (some (.ref a))).set i none) (upd H' a (KX (He.ga K c) a))) :
    ∀ H', Same H H' → WE (wKeep K (.ref (He.ga K "HandError")) i (fun _ _ _ => tAsg (tVar i) (gName j)) D) σ (.ref (He.ga K c)) none H' :=
  fun H' s => ⟨_, rfl, rfl, xm, fun a ha => ⟨.ref a, List.getElem?_set_self hl, h a H' s ha⟩⟩
/-- .. and told -/
theorem ref_end {K : PySem.W.Frag} {c d : Str} {a : Addr} {H H' : Hp} {Q : VK} {E : XK} (hk : (c, d) ∈ kinds) (s : Same H H') (na : H' a = none) (k : ∀ v H2, Same H H2 → IsRef H2 d v → Q v H2) : spRefusal K [.ref a] (upd H' a (KX (He.ga K c) a)) Q E := by
  refine ⟨a, c, d, rfl, hk, upd_same, fun p H2 hp s2 e => k _ H2 ((same_upd s (s.free na)).trans s2) ⟨p, rfl, e⟩⟩
theorem k_text : (("BadText", "text") : Str × Str) ∈ kinds := by simp [kinds]
theorem k_place : (("BadPlace", "place") : Str × Str) ∈ kinds := by simp [kinds]
theorem k_size : (("BadSize", "size") : Str × Str) ∈ kinds := by simp [kinds]
theorem k_key : (("BadKey", "key") : Str × Str) ∈ kinds := by simp [kinds]
/-! ### comparisons of data, lists of refusals -/
section
variable {K : PySem.W.Frag} {H : Hp} {x y : V} {d e : PyData} {Q : VK}
theorem ne_data (hx : Dp K H x d) (hy : Dp K H y e) (h1 : SeqAt.shaped d = true) (h2 : SeqAt.shaped e = true) (q : Q (.bl (!PyData.eqv d e)) H) : rNeD K x y H Q := ⟨d, e, hx, hy, h1, h2, q⟩
theorem eq_data' (hx : Dp K H x d) (hy : Dp K H y e) (h1 : SeqAt.shaped d = true) (h2 : SeqAt.shaped e = true) (q : Q (.bl (PyData.eqv d e)) H) : rEqD K x y H Q := ⟨d, e, hx, hy, h1, h2, q⟩
theorem ne_same (hx : Dp K H x d) (hy : Dp K H y d) (h1 : SeqAt.shaped d = true) (q : Q (.bl false) H) : rNeD K x y H Q := ne_data hx hy h1 h1 (by rw [SeqAt.eqv_refl _ (SeqAt.canLay_of_shaped h1)]; exact q)
theorem eq_same (hx : Dp K H x d) (hy : Dp K H y d) (h1 : SeqAt.shaped d = true) (q : Q (.bl true) H) : rEqD K x y H Q := eq_data' hx hy h1 h1 (by rw [SeqAt.eqv_refl _ (SeqAt.canLay_of_shaped h1)]; exact q)
theorem IsRef.same {H' : Hp} {d : Str} {v : V} (h : IsRef H d v) (s : Same H H') : IsRef H' d v := let ⟨p, e, q⟩ := h; ⟨p, e, s _ _ q⟩
abbrev refD (d : Str) : PyData := .tuple [.str "refused", .str d]
theorem IsRef.dp {d : Str} {v : V} (h : IsRef H d v) : Dp K H v (refD d) := by
  obtain ⟨p, rfl, q⟩ := h
  exact .tup (st_of q) (.cons (.str _) (.cons (.str _) .nil))
theorem dp_refs {d : Str} : ∀ {vs : List V}, (∀ v ∈ vs, IsRef H d v) → DpAll K H vs (List.replicate vs.length (refD d))
  | [], _ => .nil
  | v :: vs, h => .cons (h v List.mem_cons_self).dp (dp_refs fun u hu => h u (List.mem_cons_of_mem _ hu))
/-- a comprehension of refusals -/
theorem lcb_ref {g : TG} {te : TE} {vs : List Nat} {σ : L2.St} {α : Type} {J : It} {n : Nat} {G : Hp → Prop} (ys : List α) (inj : α → V) (w : Walk J n G (YAt (ys.map inj))) (hn : n = ys.length) (hG : ∀ H', Same H H' → G H') (hz : ys.length ≤ 1000) (d : Str)
    (hs : ∀ y H', y ∈ ys → Same H H' → ∀ Y : V → Hp → Prop, (∀ v H4, Same H' H4 → IsRef H4 d v → Y v H4) → g (inj y) (wipe σ vs) H' fun σ2 H2 => wipe σ2 vs = wipe σ vs ∧ te σ2 H2 Y)
    (hd : ∀ D acc H', Same H H' → H' D = some (.lst acc) → acc.length = n → (∀ v ∈ acc, IsRef H' d v) → Q (.ref D) H') : LcB J g tYes te vs σ H Q := by
  intro D hD
  refine lc_it w (fun i H' => Same H H' ∧ ∃ acc, H' D = some (.lst acc) ∧ acc.length = i ∧ ∀ v ∈ acc, IsRef H' d v) ⟨same_new hD, [], upd_same, rfl, fun v hv => absurd hv List.not_mem_nil⟩ (fun i H' _ p => hG H' p.1) ?_ ?_
  · rintro i x H1 H2 hi ⟨s, acc, e, la, ra⟩ ⟨rfl, hx⟩
    rw [List.getElem?_map] at hx
    cases hy : ys[i]? with
    | none =>
      rw [hy] at hx
      cases hx
    | some y =>
      rw [hy] at hx
      have ex : inj y = x := Option.some.inj hx
      subst ex
      refine hs y _ (List.mem_of_getElem? hy) s _ fun v H4 s4 rv => ⟨acc, s4 _ _ e, slt (by omega), same_upd (s.trans s4) hD, acc ++ [v], upd_same, by rw [List.length_append, la]; rfl, fun u hu => ?_⟩
      have key : ∀ u, IsRef H4 d u → IsRef (upd H4 D (.lst (acc ++ [v]))) d u := fun u hu => by
        obtain ⟨p, rfl, q⟩ := hu
        refine ⟨p, rfl, ?_⟩
        have ne : p ≠ D := ne_of q (s4 _ _ e) (by intro z; cases z)
        rw [upd_ne ne]
        exact q
      rcases List.mem_append.mp hu with h | h
      · exact key u ((ra u h).same s4)
      · rw [List.mem_singleton.mp h]
        exact key v rv
  · rintro H' ⟨s, acc, e, la, ra⟩
    exact hd D acc H' s e la ra
/-- compared with so many like one that is written -/
theorem ne_refs {d : Str} {n : Nat} {D q p : Addr} {acc ys : List V} {R : VK} (e : H D = some (.lst acc)) (la : acc.length = n) (ra : ∀ v ∈ acc, IsRef H d v) (eq : H q = some (.lst ys)) (hp : H p = some (.tup [.str "refused", .str d])) (hy : ys = List.replicate n (.ref p))
    (hs : SeqAt.shaped (.list (List.replicate n (refD d))) = true) (k : R (.bl false) H) : rNeD K (.ref D) (.ref q) H R := by
  have h1 : Dp K H (.ref D) (.list (List.replicate n (refD d))) := .lst (sq_of e) (by rw [← la]; exact dp_refs ra)
  have h2 : Dp K H (.ref q) (.list (List.replicate n (refD d))) := by
    refine .lst (sq_of eq) ?_
    rw [hy]
    have := dp_refs (K := K) (H := H) (d := d) (vs := List.replicate n (.ref p)) fun v hv => by
      rw [List.eq_of_mem_replicate hv]
      exact ⟨p, rfl, hp⟩
    rw [List.length_replicate] at this
    exact this
  exact ne_same h1 h2 hs k
theorem eq_refs {d : Str} {n : Nat} {D q p : Addr} {acc ys : List V} {R : VK} (e : H D = some (.lst acc)) (la : acc.length = n) (ra : ∀ v ∈ acc, IsRef H d v) (eq : H q = some (.lst ys)) (hp : H p = some (.tup [.str "refused", .str d])) (hy : ys = List.replicate n (.ref p))
    (hs : SeqAt.shaped (.list (List.replicate n (refD d))) = true) (k : R (.bl true) H) : rEqD K (.ref D) (.ref q) H R := by
  have h1 : Dp K H (.ref D) (.list (List.replicate n (refD d))) := .lst (sq_of e) (by rw [← la]; exact dp_refs ra)
  have h2 : Dp K H (.ref q) (.list (List.replicate n (refD d))) := by
    refine .lst (sq_of eq) ?_
    rw [hy]
    have := dp_refs (K := K) (H := H) (d := d) (vs := List.replicate n (.ref p)) fun v hv => by
      rw [List.eq_of_mem_replicate hv]
      exact ⟨p, rfl, hp⟩
    rw [List.length_replicate] at this
    exact this
  exact eq_same h1 h2 hs k
/-- [("refused", d)] * n -/
theorem mk_refs {d : Str} {n : Nat} {R : VK} (hn : n ≤ 1000) (k : ∀ p q H', Same H H' → H' p = some (.tup [.str "refused", .str d]) → H' q = some (.lst (List.replicate n (.ref p))) → R (.ref q) H') :
    [V.str "refused", V.str d].length ≤ sizeLine ∧ ∀ p, H p = none → [V.ref p].length ≤ sizeLine ∧ ∀ l, upd H p (.tup [.str "refused", .str d]) l = none → rRep (.ref l) (.int (n : Nat)) (upd (upd H p (.tup [.str "refused", .str d])) l (.lst [.ref p])) R := by
  refine ⟨by show 2 ≤ sizeLine; decide, fun p hp => ⟨by show 1 ≤ sizeLine; decide, fun l hl => ?_⟩⟩
  refine ⟨l, n, _, rfl, rfl, upd_same, by omega, by omega, sline (by rw [Int.toNat_natCast]; show 1 * n ≤ 100000; omega), fun q hq => ?_⟩
  have s1 : Same H (upd (upd H p (.tup [.str "refused", .str d])) l (.lst [.ref p])) := (same_new hp).trans (same_new hl)
  have e1 : upd (upd H p (.tup [.str "refused", .str d])) l (.lst [.ref p]) p = some (.tup [.str "refused", .str d]) := by
    rw [upd_ne (ne_of_none upd_same hl)]
    exact upd_same
  refine k p q _ (s1.trans (same_new hq)) (same_new hq _ _ e1) ?_
  rw [upd_same, Int.toNat_natCast]
  have e : (List.replicate n [V.ref p]).flatten = List.replicate n (V.ref p) := by
    clear k hn
    induction n with
    | zero => rfl
    | succ n ih => rw [List.replicate_succ, List.flatten_cons, ih, List.replicate_succ]; rfl
  rw [e]
end
end LH
/-! ## D2: the law's own look at letters, words, cases -/
namespace LH
open PySem PySem.Spec PyProof.Rows L2
theorem gap_no {t : List Nat} {i k : Nat} (h1 : i ≤ k) (h2 : k < gapEnd t i) : letAt t k = false := by
  by_cases hi : i < t.length
  · cases e : letAt t i with
    | true =>
      rw [gapEnd_let e] at h2
      omega
    | false =>
      by_cases q : k = i
      · rw [q]; exact e
      · rw [gapEnd_no hi e] at h2
        exact gap_no (by omega) h2
  · rw [gapEnd_end (by omega)] at h2
    omega
termination_by t.length - i
theorem gap_at {t : List Nat} {i : Nat} (h : i ≤ t.length) : letAt t (gapEnd t i) = true ∨ gapEnd t i = t.length := by
  by_cases hi : i < t.length
  · cases e : letAt t i with
    | true =>
      rw [gapEnd_let e]
      exact .inl e
    | false =>
      rw [gapEnd_no hi e]
      exact gap_at (by omega)
  · rw [gapEnd_end (by omega)]
    exact .inr (by omega)
termination_by t.length - i
theorem run_let {t : List Nat} {i k : Nat} (h1 : i ≤ k) (h2 : k < runEnd t i) : letAt t k = true := by
  cases e : letAt t i with
  | true =>
    by_cases q : k = i
    · rw [q]; exact e
    · have hl := lt_of_letAt e
      rw [runEnd_let e] at h2
      exact run_let (by omega) h2
  | false =>
    rw [runEnd_no e] at h2
    omega
termination_by t.length - i
theorem run_at (t : List Nat) (i : Nat) : letAt t (runEnd t i) = false := by
  cases e : letAt t i with
  | true =>
    have hl := lt_of_letAt e
    rw [runEnd_let e]
    exact run_at t (i + 1)
  | false =>
    rw [runEnd_no e]
    exact e
termination_by t.length - i
theorem gapS_no {t : List Nat} : ∀ {i k : Nat}, gapStart t i ≤ k → k < i → letAt t k = false
  | 0, k, _, h => by omega
  | i + 1, k, h1, h2 => by
    cases e : letAt t i with
    | true =>
      rw [gapStart_let e] at h1
      omega
    | false =>
      rw [gapStart_no e] at h1
      by_cases q : k = i
      · rw [q]; exact e
      · exact gapS_no h1 (by omega)
theorem gapS_at {t : List Nat} : ∀ {i j : Nat}, gapStart t i = j + 1 → letAt t j = true
  | 0, j, h => by cases h
  | i + 1, j, h => by
    cases e : letAt t i with
    | true =>
      rw [gapStart_let e] at h
      have : i = j := by omega
      rw [← this]
      exact e
    | false =>
      rw [gapStart_no e] at h
      exact gapS_at h
theorem runS_let {t : List Nat} : ∀ {i k : Nat}, runStart t i ≤ k → k < i → letAt t k = true
  | 0, k, _, h => by omega
  | i + 1, k, h1, h2 => by
    cases e : letAt t i with
    | true =>
      rw [runStart_let e] at h1
      by_cases q : k = i
      · rw [q]; exact e
      · exact runS_let h1 (by omega)
    | false =>
      rw [runStart_no e] at h1
      omega
theorem runS_at {t : List Nat} : ∀ {i j : Nat}, runStart t i = j + 1 → letAt t j = false
  | 0, j, h => by cases h
  | i + 1, j, h => by
    cases e : letAt t i with
    | true =>
      rw [runStart_let e] at h
      exact runS_at h
    | false =>
      rw [runStart_no e] at h
      have : i = j := by omega
      rw [← this]
      exact e
/-- the law's ends of words -/
def lawEnds (t : List Nat) (i : Nat) : List Int := (((List.range (t.length - i)).map fun k : Nat => ((i : Int) + 1) + (k : Int)).filter fun k => isLet t (k - 1) && !isLet t k) ++ [(t.length : Int)]
theorem end_mem {t : List Nat} {i : Nat} (h : i ≤ t.length) : ((wordEnd t i : Nat) : Int) ∈ lawEnds t i := by
  unfold lawEnds
  have l1 := le_gapEnd t i
  have l2 := le_runEnd t (gapEnd t i)
  have l3 := wordEnd_le h
  rcases gap_at h with e | e
  · have l4 : gapEnd t i + 1 ≤ wordEnd t i := by
      unfold wordEnd
      rw [runEnd_let e]
      exact le_runEnd t _
    refine List.mem_append_left _ (List.mem_filter.mpr ⟨List.mem_map.mpr ⟨wordEnd t i - (i + 1), List.mem_range.mpr (by omega), by omega⟩, ?_⟩)
    rw [show ((wordEnd t i : Nat) : Int) - 1 = ((wordEnd t i - 1 : Nat) : Int) by omega, isLet_nat, isLet_nat, run_let (i := gapEnd t i) (by omega) (by show _ < wordEnd t i; omega), show letAt t (wordEnd t i) = false from run_at t _]
    rfl
  · have e2 : wordEnd t i = t.length := by
      have : wordEnd t i ≥ gapEnd t i := l2
      omega
    rw [e2]
    exact List.mem_append_right _ List.mem_cons_self
theorem end_min {t : List Nat} {i : Nat} (h : i ≤ t.length) : ∀ y ∈ lawEnds t i, ((wordEnd t i : Nat) : Int) ≤ y := fun y hy => by
  have l3 := wordEnd_le h
  rcases List.mem_append.mp hy with hy | hy
  · obtain ⟨hm, hf⟩ := List.mem_filter.mp hy
    obtain ⟨k, hk, rfl⟩ := List.mem_map.mp hm
    have e1 : ((i : Int) + 1) + (k : Int) - 1 = ((i + k : Nat) : Int) := by omega
    have e2 : ((i : Int) + 1) + (k : Int) = ((i + k + 1 : Nat) : Int) := by omega
    rw [e1, e2, isLet_nat, isLet_nat, Bool.and_eq_true] at hf
    obtain ⟨f1, f2⟩ := hf
    rw [e2]
    by_cases q : wordEnd t i ≤ i + k + 1
    · omega
    · by_cases g : i + k < gapEnd t i
      · rw [gap_no (by omega) g] at f1
        cases f1
      · rw [run_let (i := gapEnd t i) (k := i + k + 1) (by omega) (by show _ < wordEnd t i; omega)] at f2
        cases f2
  · rw [List.mem_singleton.mp hy]
    omega
def lawStarts (t : List Nat) (i : Nat) : List Int := (((List.range i).map fun k : Nat => (0 : Int) + (k : Int)).filter fun k => isLet t k && !isLet t (k - 1)) ++ [0]
theorem start_mem {t : List Nat} {i : Nat} : ((wordStart t i : Nat) : Int) ∈ lawStarts t i := by
  unfold lawStarts
  have l1 := gapStart_le t i
  have l2 := runStart_le t (gapStart t i)
  cases e : gapStart t i with
  | zero =>
    have e2 : wordStart t i = 0 := by
      unfold wordStart
      rw [e]
      rfl
    rw [e2]
    exact List.mem_append_right _ List.mem_cons_self
  | succ j =>
    have f1 := gapS_at e
    have hs : wordStart t i ≤ j := by
      unfold wordStart
      rw [e, runStart_let f1]
      exact runStart_le t j
    have lw : letAt t (wordStart t i) = true := runS_let (i := gapStart t i) (Nat.le_refl _) (by omega)
    refine List.mem_append_left _ (List.mem_filter.mpr ⟨List.mem_map.mpr ⟨wordStart t i, List.mem_range.mpr (by omega), by omega⟩, ?_⟩)
    rw [isLet_nat, lw, isLet_prev]
    cases q : wordStart t i with
    | zero => rfl
    | succ m =>
      show (true && !letAt t m) = true
      rw [runS_at (i := gapStart t i) q]
      rfl
theorem start_max {t : List Nat} {i : Nat} : ∀ y ∈ lawStarts t i, y ≤ ((wordStart t i : Nat) : Int) := fun y hy => by
  rcases List.mem_append.mp hy with hy | hy
  · obtain ⟨hm, hf⟩ := List.mem_filter.mp hy
    obtain ⟨k, hk, rfl⟩ := List.mem_map.mp hm
    have hk := List.mem_range.mp hk
    have e1 : (0 : Int) + (k : Int) = ((k : Nat) : Int) := by omega
    rw [e1, isLet_nat, isLet_prev, Bool.and_eq_true] at hf
    obtain ⟨f1, f2⟩ := hf
    rw [e1]
    by_cases q : k ≤ wordStart t i
    · omega
    · by_cases g : gapStart t i ≤ k
      · rw [gapS_no g hk] at f1
        cases f1
      · cases k with
        | zero => omega
        | succ m =>
          have f3 : (!letAt t m) = true := f2
          rw [runS_let (i := gapStart t i) (k := m) (by show wordStart t i ≤ m; omega) (by omega)] at f3
          cases f3
  · rw [List.mem_singleton.mp hy]
    omega
/-! ### cases -/
def lawSign (t : List Nat) (i : Nat) (way : Str) (k : Nat) : Nat :=
  let c := t.getD k 0
  if gapEnd t i ≤ k ∧ k < wordEnd t i then (if way = ("great" : Str) ∨ way = ("cap" : Str) ∧ k = gapEnd t i then up1 c else lo1 c) else c
def Way (way : Str) : Prop := way = ("great" : Str) ∨ way = ("small" : Str) ∨ way = ("cap" : Str)
theorem recT_len {t : List Nat} {i : Nat} (h : i ≤ t.length) (way : Str) : (recT t i way).length = t.length := by
  have h1 : gapEnd t i ≤ wordEnd t i := le_runEnd t _
  have h2 := wordEnd_le h
  unfold recT
  rw [List.length_append, List.length_append, caseWord_len, List.length_take, List.length_take, List.length_drop, List.length_drop]
  omega
theorem caseWord_at {way : Str} (hw : Way way) {l : List Nat} {k : Nat} (h : k < l.length) : (caseWord way l)[k]? = some (if way = ("great" : Str) ∨ way = ("cap" : Str) ∧ k = 0 then up1 (l.getD k 0) else lo1 (l.getD k 0)) := by
  have ge : l[k]? = some (l.getD k 0) := by rw [List.getD_eq_getElem?_getD, List.getElem?_eq_getElem h]; rfl
  have n1 : ¬ (("small" : Str) = "great") := by decide +kernel
  have n2 : ¬ (("small" : Str) = "cap") := by decide +kernel
  have n3 : ¬ (("cap" : Str) = "great") := by decide +kernel
  have n4 : ¬ (("cap" : Str) = "small") := by decide +kernel
  unfold caseWord
  rcases hw with rfl | rfl | rfl
  · rw [if_pos rfl, if_pos (.inl rfl), List.getElem?_map, ge]
    rfl
  · rw [if_neg n1, if_pos rfl, if_neg (by simp [n1, n2]), List.getElem?_map, ge]
    rfl
  · rw [if_neg n3, if_neg n4]
    cases l with
    | nil => simp at h
    | cons c r =>
      cases k with
      | zero =>
        rw [if_pos (.inr ⟨rfl, rfl⟩)]
        rfl
      | succ m =>
        rw [if_neg (by simp [n3])]
        show (([c].map up1) ++ r.map lo1)[m + 1]? = _
        show (up1 c :: r.map lo1)[m + 1]? = _
        have ge2 : r[m]? = some ((c :: r).getD (m + 1) 0) := ge
        rw [List.getElem?_cons_succ, List.getElem?_map, ge2]
        rfl
theorem recT_is {t : List Nat} {i : Nat} (h : i ≤ t.length) {way : Str} (hw : Way way) : recT t i way = (List.range t.length).map (lawSign t i way) := by
  have h1 : gapEnd t i ≤ wordEnd t i := le_runEnd t _
  have h2 := wordEnd_le h
  apply List.ext_getElem?
  intro k
  by_cases hk : k < t.length
  · rw [List.getElem?_map, List.getElem?_range hk]
    have gk : t[k]? = some (t.getD k 0) := by rw [List.getD_eq_getElem?_getD, List.getElem?_eq_getElem hk]; rfl
    show _ = some (lawSign t i way k)
    unfold recT lawSign
    have lt : (t.take (gapEnd t i)).length = gapEnd t i := by rw [List.length_take]; omega
    have lc : (caseWord way ((t.drop (gapEnd t i)).take (wordEnd t i - gapEnd t i))).length = wordEnd t i - gapEnd t i := by
      rw [caseWord_len, List.length_take, List.length_drop]
      omega
    rw [List.append_assoc]
    by_cases c1 : k < gapEnd t i
    · rw [List.getElem?_append_left (by omega), List.getElem?_take, if_pos c1, gk]
      show some _ = some (if _ then _ else _)
      rw [if_neg (by omega)]
    · rw [List.getElem?_append_right (by omega), lt]
      by_cases c2 : k < wordEnd t i
      · rw [List.getElem?_append_left (by omega), caseWord_at hw (by rw [List.length_take, List.length_drop]; omega)]
        have eg : ((t.drop (gapEnd t i)).take (wordEnd t i - gapEnd t i)).getD (k - gapEnd t i) 0 = t.getD k 0 := by
          rw [List.getD_eq_getElem?_getD, List.getElem?_take, if_pos (by omega), List.getElem?_drop, show gapEnd t i + (k - gapEnd t i) = k by omega, List.getD_eq_getElem?_getD]
        rw [eg]
        show some _ = some (if _ then _ else _)
        rw [if_pos (show gapEnd t i ≤ k ∧ k < wordEnd t i by omega)]
        have ek : (k - gapEnd t i = 0) = (k = gapEnd t i) := propext (by omega)
        simp only [ek]
      · rw [List.getElem?_append_right (by omega), lc, List.getElem?_drop, show wordEnd t i + (k - gapEnd t i - (wordEnd t i - gapEnd t i)) = k by omega, gk]
        show some _ = some (if _ then _ else _)
        rw [if_neg (by omega)]
  · rw [List.getElem?_eq_none (by rw [recT_len h]; omega), List.getElem?_eq_none (by rw [List.length_map, List.length_range]; omega)]
/-- the law's letters of the word -/
theorem letters_are {t : List Nat} {i : Nat} : (((List.range (wordEnd t i - i)).map fun k : Nat => (i : Int) + (k : Int)).filter fun k => isLet t k) = (List.range (wordEnd t i - gapEnd t i)).map fun k : Nat => (gapEnd t i : Int) + (k : Int) := by
  have h1 := le_gapEnd t i
  have h2 : gapEnd t i ≤ wordEnd t i := le_runEnd t _
  rw [show wordEnd t i - i = (gapEnd t i - i) + (wordEnd t i - gapEnd t i) by omega, List.range_add, List.map_append, List.filter_append]
  have e1 : ((List.range (gapEnd t i - i)).map fun k : Nat => (i : Int) + (k : Int)).filter (fun k => isLet t k) = [] := by
    refine List.filter_eq_nil_iff.mpr fun y hy => ?_
    obtain ⟨k, hk, rfl⟩ := List.mem_map.mp hy
    have hk := List.mem_range.mp hk
    rw [show (i : Int) + (k : Int) = ((i + k : Nat) : Int) by omega, isLet_nat, gap_no (i := i) (by omega) (by omega)]
    decide
  rw [e1, List.nil_append, List.map_map, List.filter_eq_self.mpr]
  · refine List.map_congr_left fun k hk => ?_
    show (i : Int) + ((gapEnd t i - i + k : Nat) : Int) = _
    omega
  · intro y hy
    obtain ⟨k, hk, rfl⟩ := List.mem_map.mp hy
    have hk := List.mem_range.mp hk
    show isLet t ((i : Int) + ((gapEnd t i - i + k : Nat) : Int)) = true
    rw [show (i : Int) + ((gapEnd t i - i + k : Nat) : Int) = ((gapEnd t i + k : Nat) : Int) by omega, isLet_nat]
    exact run_let (i := gapEnd t i) (by omega) (by show _ < wordEnd t i; omega)
theorem in_run {g n k : Nat} : inV (.int (k : Nat)) (((List.range n).map fun j : Nat => (g : Int) + (j : Int)).map V.int) = decide (g ≤ k ∧ k < g + n) := by
  unfold inV
  rw [Bool.eq_iff_iff, List.any_eq_true, decide_eq_true_iff]
  constructor
  · rintro ⟨y, hy, e⟩
    obtain ⟨z, hz, rfl⟩ := List.mem_map.mp hy
    obtain ⟨j, hj, rfl⟩ := List.mem_map.mp hz
    have hj := List.mem_range.mp hj
    have e2 : ((g : Int) + (j : Int) == (k : Int)) = true := e
    have e3 := eq_of_beq e2
    omega
  · rintro ⟨h1, h2⟩
    refine ⟨.int (k : Nat), List.mem_map.mpr ⟨(k : Nat), List.mem_map.mpr ⟨k - g, List.mem_range.mpr (by omega), by omega⟩, rfl⟩, ?_⟩
    show ((k : Int) == (k : Int)) = true
    exact beq_self_eq_true _
theorem flat_ints (l : List Int) : (l.map V.int).all flatV = true := by
  rw [List.all_map]
  exact List.all_eq_true.mpr fun _ _ => rfl
/-! ### the walks -/
theorem law_letter : ∀ c, c < 128 → (Txt.isalpha ⟨#[c]⟩ || decide (c ∈ (Str.ofString "0123456789").cps.toList)) = isLetC c := by decide +kernel
def spLetter : Sp := fun vs H Q _ => ∃ (t : List Nat) (i : Int), vs = [.str (S t), .int i] ∧ t.length ≤ 100000 ∧ (∀ c ∈ t, c < 128) ∧ Q (.bl (isLet t i)) H
def spEnd : Sp := fun vs H Q _ => ∃ (t : List Nat) (i : Nat), vs = [.str (S t), .int (i : Nat)] ∧ t.length ≤ 1000 ∧ (∀ c ∈ t, c < 128) ∧ i ≤ t.length ∧ ∀ H', Same H H' → Q (.int (wordEnd t i : Nat)) H'
def spStart : Sp := fun vs H Q _ => ∃ (t : List Nat) (i : Nat), vs = [.str (S t), .int (i : Nat)] ∧ t.length ≤ 1000 ∧ (∀ c ∈ t, c < 128) ∧ i ≤ t.length ∧ ∀ H', Same H H' → Q (.int (wordStart t i : Nat)) H'
def spLRecased : Sp := fun vs H Q _ => ∃ (t : List Nat) (i : Nat) (way : Str), vs = [.str (S t), .int (i : Nat), .str way] ∧ t.length ≤ 1000 ∧ (∀ c ∈ t, c < 128) ∧ i ≤ t.length ∧ Way way ∧
  ∀ p H', H p = none → Same H H' → H' p = some (.tup [.str (S (recT t i way)), .int (wordEnd t i : Nat)]) → Q (.ref p) H'
section
variable {P : Program} {w : World} {K : PySem.W.Frag} {mg : Str → Option Value} {base : Heap}
theorem d_l_letter (T : TX K mg) : Dn P w K mg base 1 "_law_letter" p_l_letter spLetter := by
  refine dn_of (fn_l_letter T) (g__law_letter T) sc_l_letter bd_l_letter (fun vs H Q E h => ?_) (fun cdv A outer s H vs Q E hr h => ?_)
  · obtain ⟨t, i, rfl, _⟩ := h
    rfl
  · obtain ⟨t, i, rfl, ht, ha, k⟩ := h
    refine ⟨_, (pss_one (ps_ret (pe_and (pe_chain op_le op_lt pe_int (pv 1) (pe_callB call_len_str (by rfl) (b_len T) boot_len (pa_cons (pv 0) pa_nil))) (pe_one (pe_or (pe_bm0 PySem.F.plainAttrs_str PySem.F.slot_str_isalpha PySem.F.type_str_isalpha mt_isalpha (pe_ix ix_str (pv 0) (pv 1) (fun _ _ => rfl))) (pe_one (pe_cmpR op_in_sign (pe_ix ix_str (pv 0) (pv 1) (fun _ _ => rfl)) pe_str (by rfl)))))))), ?_⟩
    walk_at "rd"
    unfold isLet at k
    by_cases h0 : 0 ≤ i
    · rw [if_pos h0]
      rw [decide_eq_true h0, Bool.true_and] at k
      refine ⟨sline ht, ?_⟩
      by_cases h1 : i < (t.length : Int)
      · rw [if_pos h1, atI_in h0 h1]
        refine ⟨sline ht, ?_⟩
        have hlt : i.toNat < t.length := by omega
        have e : t[i.toNat]? = some (t[i.toNat]'hlt) := List.getElem?_eq_getElem hlt
        have hc := law_letter _ (ha _ (List.getElem_mem hlt))
        rw [e] at k ⊢
        generalize t[i.toNat]'hlt = c at k hc ⊢
        refine ⟨c, rfl, rfl, ?_⟩
        have k2 : Q (.bl (isLetC c)) H := k
        rw [← hc] at k2
        by_cases h2 : Txt.isalpha (S [c]) = true
        · rw [if_pos h2]
          rw [show Txt.isalpha ⟨#[c]⟩ = true from h2, Bool.true_or] at k2
          exact k2
        · rw [if_neg h2]
          have h3 : Txt.isalpha ⟨#[c]⟩ = false := Bool.eq_false_iff.mpr h2
          rw [h3, Bool.false_or] at k2
          exact ⟨sline ht, c, rfl, k2⟩
      · rw [if_neg h1]
        have e : t[i.toNat]? = none := List.getElem?_eq_none (by omega)
        rw [e] at k
        exact k
    · rw [if_neg h0]
      rw [decide_eq_false h0, Bool.false_and] at k
      exact k
theorem d_l_end (T : TX K mg) : Dn P w K mg base 2 "_law_end" p_l_end spEnd := by
  refine dn_of (fn_l_end T) (g__law_end T) sc_l_end bd_l_end (fun vs H Q E h => ?_) (fun cdv A outer s H vs Q E hr h => ?_)
  · obtain ⟨t, i, rfl, _⟩ := h
    rfl
  · obtain ⟨t, i, rfl, ht, ha, hi, k⟩ := h
    refine ⟨_, (pss_cons (ps_setLc (i := 2) rfl sc_l_end.nd rfl rfl (sw_true rfl rfl rfl (by decide +kernel)) (own := [("_law_k", 3)]) (pi_range2 rfl (b_range T) (pa_cons (pe_op op_add (pv 1) pe_int) (pa_cons (pe_op op_add (pe_callB call_len_str (by rfl) (b_len T) boot_len (pa_cons (pv 0) pa_nil)) pe_int) pa_nil))) (blkOk_by (own := [("_law_k", 3)]) (N := n_l_end) (sc := defScope s_l_end) (by decide +kernel)) (fun _ _ _ _ _ => (pg_name (i := 3) sc_l_end.nd rfl (Or.inl rfl))) (fun _ _ _ _ _ => (pts_one (PW.pt (pw_and (pt_val (pc (d_l_letter T) (hr.mono (by decide)) px0 (pa_cons (pv 0) (pa_cons (pe_op op_sub (pv 3) pe_int) pa_nil)))) (pw_and1 (pt_not (pt_val (pc (d_l_letter T) (hr.mono (by decide)) px0 (pa_cons (pv 0) (pa_cons (pv 3) pa_nil)))))))))) (fun _ _ _ _ _ => (pv 3))) (pss_one (ps_ret (pe_callB (cr_min rfl) (by rfl) (b_min T) (by decide +kernel) (pa_cons (pe_op op_cat (pv 2) (pe_lst (pa_cons (pe_callB call_len_str (by rfl) (b_len T) boot_len (pa_cons (pv 0) pa_nil)) pa_nil))) pa_nil))))), ?_⟩
    walk_at "rd"
    refine ⟨sline (by omega), by omega, by omega, by omega, by omega, ?_⟩
    rw [show ((t.length : Int) + 1 - ((i : Int) + 1)).toNat = t.length - i by omega]
    refine lcb_rng ((i : Int) + 1) (t.length - i) (fun k => isLet t (k - 1) && !isLet t k) V.int (by omega) (fun j H' hj s Y N hY hN => ?_) (fun D H' hD s e => ?_)
    · walk_at "rd"
      refine ⟨t, _, rfl, by omega, ha, _, rfl, ?_⟩
      cases e1 : isLet t ((i : Int) + 1 + j - 1) with
      | false =>
        rw [if_neg Bool.false_ne_true]
        exact hN (by rw [e1]; rfl) H' (Same.refl H')
      | true =>
        rw [if_pos rfl]
        refine ⟨t, _, rfl, by omega, ha, _, rfl, ?_⟩
        cases e2 : isLet t ((i : Int) + 1 + j) with
        | false =>
          rw [if_pos (by decide)]
          exact hY (by rw [e1, e2]; rfl) H' (Same.refl H')
        | true =>
          rw [if_neg (by decide)]
          exact hN (by rw [e1, e2]; rfl) H' (Same.refl H')
    · refine ⟨sline (by omega), by show 1 ≤ sizeLine; decide, fun p hp => ?_⟩
      have nD : D ≠ p := ne_of_none e hp
      have hl := List.length_filter_le (fun k => isLet t (k - 1) && !isLet t k) ((List.range (t.length - i)).map fun k : Nat => (i : Int) + 1 + (k : Int))
      rw [List.length_map, List.length_range] at hl
      refine ⟨D, p, _, _, rfl, rfl, by rw [upd_ne nD]; exact e, upd_same, sline (by rw [List.length_map, List.length_singleton]; omega), fun q hq => ?_⟩
      refine ⟨q, lawEnds t i, rfl, sq_of (by rw [upd_same]; unfold lawEnds; rw [List.map_append]; rfl), by unfold lawEnds; rw [List.length_append, List.length_singleton]; omega, fun m hm hle => ?_⟩
      have em : m = ((wordEnd t i : Nat) : Int) := Int.le_antisymm (hle _ (end_mem hi)) (end_min hi m hm)
      rw [em]
      have s1 : Same H (upd H' p (.lst [.int t.length])) := same_upd s (s.free hp)
      exact k _ (same_upd s1 (s1.free hq))
theorem d_l_start (T : TX K mg) : Dn P w K mg base 2 "_law_start" p_l_start spStart := by
  refine dn_of (fn_l_start T) (g__law_start T) sc_l_start bd_l_start (fun vs H Q E h => ?_) (fun cdv A outer s H vs Q E hr h => ?_)
  · obtain ⟨t, i, rfl, _⟩ := h
    rfl
  · obtain ⟨t, i, rfl, ht, ha, hi, k⟩ := h
    refine ⟨_, (pss_cons (ps_setLc (i := 2) rfl sc_l_start.nd rfl rfl (sw_true rfl rfl rfl (by decide +kernel)) (own := [("_law_k", 3)]) (pi_range1 rfl (b_range T) (pa_cons (pv 1) pa_nil)) (blkOk_by (own := [("_law_k", 3)]) (N := n_l_start) (sc := defScope s_l_start) (by decide +kernel)) (fun _ _ _ _ _ => (pg_name (i := 3) sc_l_start.nd rfl (Or.inl rfl))) (fun _ _ _ _ _ => (pts_one (PW.pt (pw_and (pt_val (pc (d_l_letter T) (hr.mono (by decide)) px0 (pa_cons (pv 0) (pa_cons (pv 3) pa_nil)))) (pw_and1 (pt_not (pt_val (pc (d_l_letter T) (hr.mono (by decide)) px0 (pa_cons (pv 0) (pa_cons (pe_op op_sub (pv 3) pe_int) pa_nil)))))))))) (fun _ _ _ _ _ => (pv 3))) (pss_one (ps_ret (pe_callB (cr_max rfl) (by rfl) (b_max T) (by decide +kernel) (pa_cons (pe_op op_cat (pv 2) (pe_lst (pa_cons pe_int pa_nil))) pa_nil))))), ?_⟩
    walk_at "rd"
    refine ⟨by omega, by omega, ?_⟩
    rw [Int.toNat_natCast]
    refine lcb_rng 0 i (fun k => isLet t k && !isLet t (k - 1)) V.int (by omega) (fun j H' hj s Y N hY hN => ?_) (fun D H' hD s e => ?_)
    · walk_at "rd"
      refine ⟨t, _, rfl, by omega, ha, _, rfl, ?_⟩
      cases e1 : isLet t (0 + (j : Int)) with
      | false =>
        rw [if_neg Bool.false_ne_true]
        exact hN (by rw [e1]; rfl) H' (Same.refl H')
      | true =>
        rw [if_pos rfl]
        refine ⟨t, _, rfl, by omega, ha, _, rfl, ?_⟩
        cases e2 : isLet t (0 + (j : Int) - 1) with
        | false =>
          rw [if_pos (by decide)]
          exact hY (by rw [e1, e2]; rfl) H' (Same.refl H')
        | true =>
          rw [if_neg (by decide)]
          exact hN (by rw [e1, e2]; rfl) H' (Same.refl H')
    · refine ⟨by show 1 ≤ sizeLine; decide, fun p hp => ?_⟩
      have nD : D ≠ p := ne_of_none e hp
      have hl := List.length_filter_le (fun k => isLet t k && !isLet t (k - 1)) ((List.range i).map fun k : Nat => (0 : Int) + (k : Int))
      rw [List.length_map, List.length_range] at hl
      refine ⟨D, p, _, _, rfl, rfl, by rw [upd_ne nD]; exact e, upd_same, sline (by rw [List.length_map, List.length_singleton]; omega), fun q hq => ?_⟩
      refine ⟨q, lawStarts t i, rfl, sq_of (by rw [upd_same]; unfold lawStarts; rw [List.map_append]; rfl), by unfold lawStarts; rw [List.length_append, List.length_singleton]; omega, fun m hm hle => ?_⟩
      have em : m = ((wordStart t i : Nat) : Int) := Int.le_antisymm (start_max m hm) (hle _ start_mem)
      rw [em]
      have s1 : Same H (upd H' p (.lst [.int 0])) := same_upd s (s.free hp)
      exact k _ (same_upd s1 (s1.free hq))
theorem d_l_recased (T : TX K mg) : Dn P w K mg base 3 "_law_recased" p_l_recased spLRecased := by
  refine dn_of (fn_l_recased T) (g__law_recased T) sc_l_recased bd_l_recased (fun vs H Q E h => ?_) (fun cdv A outer s H vs Q E hr h => ?_)
  · obtain ⟨t, i, way, rfl, _⟩ := h
    rfl
  · obtain ⟨t, i, way, rfl, ht, ha, hi, hw, k⟩ := h
    refine ⟨_, (pss_cons (ps_set (i := 3) sc_l_recased.nd rfl (Or.inl rfl) (pc (d_l_end T) (hr.mono (by decide)) px (pa_cons (pv 0) (pa_cons (pv 1) pa_nil)))) (pss_cons (ps_setLc (i := 4) rfl sc_l_recased.nd rfl rfl (sw_true rfl rfl rfl (by decide +kernel)) (own := [("_law_k", 5)]) (pi_range2 rfl (b_range T) (pa_cons (pv 1) (pa_cons (pv 3) pa_nil))) (blkOk_by (own := [("_law_k", 5)]) (N := n_l_recased) (sc := defScope s_l_recased) (by decide +kernel)) (fun _ _ _ _ _ => (pg_name (i := 5) sc_l_recased.nd rfl (Or.inl rfl))) (fun _ _ _ _ _ => (pts_one (pt_val (pc (d_l_letter T) (hr.mono (by decide)) px0 (pa_cons (pv 0) (pa_cons (pv 5) pa_nil)))))) (fun _ _ _ _ _ => (pv 5))) (pss_cons (ps_set (i := 6) sc_l_recased.nd rfl (Or.inl rfl) pe_str) (Evl.pss_cut (ps_for (passes_of rfl) rfl (pi_range1 rfl (b_range T) (pa_cons (pe_callB call_len_str (by rfl) (b_len T) boot_len (pa_cons (pv 0) pa_nil)) pa_nil)) (pg_name (i := 5) sc_l_recased.nd rfl (Or.inl rfl)) (pss_cons (ps_set (i := 7) sc_l_recased.nd rfl (Or.inl rfl) (pe_ix ix_str (pv 0) (pv 5) (fun _ _ => rfl))) (pss_cons (ps_if (pt_cmpR op_in_seq (pv 5) (pv 4) (by rfl)) (pss_cons (ps_set (i := 8) sc_l_recased.nd rfl (Or.inl rfl) (pe_or (pe_cmpR op_eq (pv 2) pe_str (nomark _)) (pe_one (pe_and (pe_cmpR op_eq (pv 2) pe_str (nomark _)) (pe_one (pe_cmpR (op_eqD hr.units) (pv 5) (pe_ix ix_list (pv 4) pe_int (fun _ _ => rfl)) (nomark _))))))) (pss_one (ps_set (i := 7) sc_l_recased.nd rfl (Or.inl rfl) (pe_ifExp (pt_val (pv 8)) (pe_upper (pv 7)) (pe_lower (pv 7)))))) pss_nil) (pss_one (ps_set (i := 6) sc_l_recased.nd rfl (Or.inl rfl) (pe_op op_add_str (pv 6) (pv 7))))))) (pss_one (ps_ret (pe_tup (pa_cons (pv 6) (pa_cons (pv 3) pa_nil))))))))), ?_⟩
    walk_at "rd"
    refine ⟨t, i, rfl, ht, ha, hi, fun H1 s1 => ⟨_, rfl, by omega, by omega, ?_⟩⟩
    have hge : gapEnd t i ≤ wordEnd t i := le_runEnd t _
    have hwl : wordEnd t i ≤ t.length := wordEnd_le hi
    refine ⟨by omega, by omega, ?_⟩
    rw [show (((wordEnd t i : Nat) : Int) - (i : Int)).toNat = wordEnd t i - i by omega]
    refine lcb_rng (i : Int) (wordEnd t i - i) (fun k => isLet t k) V.int (by omega) (fun j H' hj s Y N hY hN => ?_) (fun D H2 hD s2 e => ?_)
    · walk_at "rd"
      refine ⟨t, _, rfl, by omega, ha, _, rfl, ?_⟩
      cases e1 : isLet t ((i : Int) + j) with
      | false =>
        rw [if_neg Bool.false_ne_true]
        exact hN e1 H' (Same.refl H')
      | true =>
        rw [if_pos rfl]
        exact hY e1 H' (Same.refl H')
    · have hs12 := s1.trans s2
      rw [letters_are] at e
      refine ⟨fun σ' H' => ∃ v5 v7 v8 : Option V, σ' = [some (.str (S t)), some (.int i), some (.str way), some (.int (wordEnd t i : Nat)), some (.ref D), v5, some (.str (S (recT t i way))), v7, v8] ∧ Same H H', ?_, ?_⟩
      · walk_at "rd"
        refine ⟨sline (by omega), by omega, by omega, ?_⟩
        rw [Int.toNat_natCast]
        refine forb_rng (fun j σ' H' => ∃ v5 v7 v8 : Option V, σ' = [some (.str (S t)), some (.int i), some (.str way), some (.int (wordEnd t i : Nat)), some (.ref D), v5, some (.str (S ((List.range j).map (lawSign t i way)))), v7, v8] ∧ Same H2 H')
          ⟨_, _, _, rfl, Same.refl H2⟩ ?_ ?_
        · rintro j σ' H' hj ⟨v5, v7, v8, rfl, s3⟩
          rw [Int.zero_add]
          have ej : t[j]? = some (t.getD j 0) := by rw [List.getD_eq_getElem?_getD, List.getElem?_eq_getElem hj]; rfl
          have hc : t.getD j 0 < 128 := ha _ (List.mem_of_getElem? ej)
          have step : ∀ y, y = lawSign t i way j → S ((List.range j).map (lawSign t i way)) ++ S [y] = S ((List.range (j + 1)).map (lawSign t i way)) := fun y hy => by
            rw [S_app, List.range_succ, List.map_append, hy]
            rfl
          have lj : ((List.range j).map (lawSign t i way)).length = j := by rw [List.length_map, List.length_range]
          have eD := s3 _ _ e
          walk_at "rd"
          refine ⟨sline (by omega), t.getD j 0, by rw [atI_in (by omega) (by omega), Int.toNat_natCast]; exact ej, ?_⟩
          refine ⟨D, _, rfl, .inl (sq_of eD), rfl, flat_ints _, inV (.int (j : Nat)) (((List.range (wordEnd t i - gapEnd t i)).map fun k : Nat => (gapEnd t i : Int) + (k : Int)).map V.int), rfl, ?_⟩
          rw [in_run, show gapEnd t i + (wordEnd t i - gapEnd t i) = wordEnd t i by omega]
          have up : Txt.upper (S [t.getD j 0]) = S [up1 (t.getD j 0)] := up_S fun c hc' => by rw [List.mem_singleton.mp hc']; exact hc
          have lo : Txt.lower (S [t.getD j 0]) = S [lo1 (t.getD j 0)] := lo_S fun c hc' => by rw [List.mem_singleton.mp hc']; exact hc
          have one : ∀ c : Nat, [c].length ≤ 5592405 := fun c => by show 1 ≤ 5592405; decide
          have sz : ∀ c : Nat, ((List.range j).map (lawSign t i way)).length + (S [c]).length ≤ sizeLine := fun c => by
            rw [lj, S_len]
            exact sline (by show j + 1 ≤ 100000; omega)
          rw [up, lo]
          by_cases hin : gapEnd t i ≤ j ∧ j < wordEnd t i
          · rw [decide_eq_true hin, if_pos rfl]
            have ls : lawSign t i way j = if way = ("great" : Str) ∨ way = ("cap" : Str) ∧ j = gapEnd t i then up1 (t.getD j 0) else lo1 (t.getD j 0) := if_pos hin
            by_cases g : way = ("great" : Str)
            · rw [if_pos g]
              rw [if_pos (.inl g)] at ls
              exact ⟨one _, sz _, step _ ls.symm, s3⟩
            · rw [if_neg g]
              by_cases cp : way = ("cap" : Str)
              · rw [if_pos cp]
                have e0 : atI (((List.range (wordEnd t i - gapEnd t i)).map fun k : Nat => (gapEnd t i : Int) + (k : Int)).map V.int) 0 = some (.int (gapEnd t i : Nat)) := by
                  rw [atI_in (by decide) (by rw [List.length_map, List.length_map, List.length_range]; omega), List.getElem?_map, List.getElem?_map, show (0 : Int).toNat = 0 from rfl, List.getElem?_range (by omega)]
                  show some (V.int ((gapEnd t i : Int) + ((0 : Nat) : Int))) = _
                  rw [show (gapEnd t i : Int) + ((0 : Nat) : Int) = (gapEnd t i : Int) by omega]
                refine ⟨_, sq_of eD, _, e0, _, _, .int _, .int _, rfl, rfl, _, rfl, ?_⟩
                have ev : PyData.eqv (.int (j : Nat)) (.int (gapEnd t i : Nat)) = decide (j = gapEnd t i) := by
                  show ((j : Int) == (gapEnd t i : Int)) = _
                  rw [Bool.beq_eq_decide_eq]
                  exact decide_eq_decide.mpr (by omega)
                rw [ev]
                by_cases jg : j = gapEnd t i
                · rw [decide_eq_true jg, if_pos rfl]
                  rw [if_pos (.inr ⟨cp, jg⟩)] at ls
                  exact ⟨one _, sz _, step _ ls.symm, s3⟩
                · rw [decide_eq_false jg, if_neg Bool.false_ne_true]
                  rw [if_neg (by simp [g, jg])] at ls
                  exact ⟨one _, sz _, step _ ls.symm, s3⟩
              · rw [if_neg cp]
                rw [if_neg (by simp [g, cp])] at ls
                exact ⟨one _, sz _, step _ ls.symm, s3⟩
          · rw [decide_eq_false hin, if_neg Bool.false_ne_true]
            have ls : lawSign t i way j = t.getD j 0 := if_neg hin
            exact ⟨sz (t.getD j 0), step _ ls.symm, s3⟩
        · rintro σ' H' ⟨v5, v7, v8, rfl, s3⟩
          rw [recT_is hi hw]
          exact ⟨⟨_, _, _, rfl⟩, hs12.trans s3⟩
      · rintro σ' H' ⟨v5, v7, v8, rfl, s3⟩
        walk_at "rd"
        refine ⟨by show 2 ≤ sizeLine; decide, fun p hp => k p _ (s3.free hp) (same_upd s3 (s3.free hp)) upd_same⟩
end
end LH
/-! ## D3: the law's text of words and gaps -/
namespace LH
open PySem PySem.Spec PyProof.Rows L2
/-- signs alone, at most n -/
def okPiece (n : Nat) (z : Str) : Bool := decide (z.cps.toList.length ≤ n) && z.cps.toList.all fun c => isSign [c]
theorem pick_str {zs : List Str} {j : Nat} {v : V} (h : (zs.map V.str)[j]? = some v) : ∃ z ∈ zs, v = .str z := by
  rw [List.getElem?_map] at h
  cases e : zs[j]? with
  | none =>
    rw [e] at h
    cases h
  | some z =>
    rw [e] at h
    exact ⟨z, List.mem_of_getElem? e, (Option.some.inj h).symm⟩
theorem pick_piece {zs : List Str} {n j : Nat} {v : V} (h : (zs.map V.str)[j]? = some v) (ok : zs.all (okPiece n) = true) : ∃ t : List Nat, v = .str (S t) ∧ t.length ≤ n ∧ t.all (fun c => isSign [c]) = true := by
  obtain ⟨z, hz, rfl⟩ := pick_str h
  have q := List.all_eq_true.mp ok z hz
  unfold okPiece at q
  rw [Bool.and_eq_true, decide_eq_true_iff] at q
  exact ⟨z.cps.toList, rfl, q.1, q.2⟩
def spLText (K : PySem.W.Frag) : Sp := fun vs H Q _ => ∃ (a b : Addr) (m : Nat) (ns : List Int) (z : Nat), vs = [.ref a, .ref b, .int (m : Nat)] ∧ Dr K H a b ns z ∧ z ≤ 1000 ∧ m ≤ 8 ∧
  ∀ (t : List Nat) (H' : Hp), t.all (fun c => isSign [c]) = true → t.length ≤ 2 + 6 * m → Fx [b] H H' → Dr K H' a b ns (z + 2 + 2 * m) → Q (.str (S t)) H'
/-- one of a list that is made for it -/
theorem pick_new {K : PySem.W.Frag} {H : Hp} {a b : Addr} {ns : List Int} {z : Nat} {xs : List V} {R : VK} {E : XK} (D : Dr K H a b ns z) (hz : z < 90000) (hx : xs ≠ []) (hl : xs.length ≤ 1000)
    (k : ∀ (j : Nat) (v : V) (H' : Hp), xs[j]? = some v → Fx [b] H H' → Dr K H' a b ns (z + 1) → R v H') : xs.length ≤ sizeLine ∧ ∀ p, H p = none → spPick K [.ref a, .ref b, .ref p] (upd H p (.lst xs)) R E := by
  refine ⟨sline (by omega), fun p hp => ?_⟩
  have D1 := D.same (same_new (o := .lst xs) hp)
  refine ⟨a, b, p, xs, ns, z, rfl, D1, hz, sq_of upd_same, ?_, hx, hl, fun j v H' hj F D' => k j v H' hj ((Fx.of (same_new hp)).trans F) D'⟩
  intro e
  exact D.there (by rw [← e]; exact hp)
section
variable {P : Program} {w : World} {K : PySem.W.Frag} {mg : Str → Option Value} {base : Heap}
theorem d_l_text (T : TX K mg) : Dn P w K mg base 5 "_law_text" p_l_text (spLText K) := by
  refine dn_of (fn_l_text T) (g__law_text T) sc_l_text bd_l_text (fun vs H Q E h => ?_) (fun cdv A outer s H vs Q E hr h => ?_)
  · obtain ⟨a, b, m, ns, z, rfl, _⟩ := h
    rfl
  · obtain ⟨a, b, m, ns, z, rfl, D, hz, hm, k⟩ := h
    refine ⟨_, (pss_cons (ps_set (i := 3) sc_l_text.nd rfl (Or.inl rfl) (pc (d_l_pick T) (hr.mono (by decide)) px (pa_cons (pv 0) (pa_cons (pv 1) (pa_cons (pe_lst (pa_lits rfl)) pa_nil))))) (Evl.pss_cut (ps_for (passes_of rfl) rfl (pi_range1 rfl (b_range T) (pa_cons (pc (d_l_draw T) (hr.mono (by decide)) px (pa_cons (pv 0) (pa_cons (pv 1) (pa_cons (pe_op op_add (pv 2) pe_int) pa_nil)))) pa_nil)) (pg_name (i := 4) sc_l_text.nd rfl (Or.inl rfl)) (pss_cons (ps_set (i := 3) sc_l_text.nd rfl (Or.inl rfl) (pe_op op_add_str (pv 3) (pc (d_l_pick T) (hr.mono (by decide)) px (pa_cons (pv 0) (pa_cons (pv 1) (pa_cons (pe_lst (pa_lits rfl)) pa_nil)))))) (pss_one (ps_set (i := 3) sc_l_text.nd rfl (Or.inl rfl) (pe_op op_add_str (pv 3) (pc (d_l_pick T) (hr.mono (by decide)) px (pa_cons (pv 0) (pa_cons (pv 1) (pa_cons (pe_lst (pa_lits rfl)) pa_nil))))))))) (pss_one (ps_ret (pv 3))))), ?_⟩
    walk_at "rd"
    refine pick_new D (by omega) (by simp) (by simp) fun j v H1 hj F1 D1 => ?_
    obtain ⟨t0, rfl, l0, s0⟩ := pick_piece (n := 2) hj (by decide +kernel)
    refine ⟨fun σ' H' => ∃ (t : List Nat) (v4 : Option V), σ' = [some (.ref a), some (.ref b), some (.int (m : Nat)), some (.str (S t)), v4] ∧ t.all (fun c => isSign [c]) = true ∧ t.length ≤ 2 + 6 * m ∧ Fx [b] H H' ∧ Dr K H' a b ns (z + 2 + 2 * m), ?_, ?_⟩
    · walk_at "rd"
      refine ⟨a, b, _, ns, z + 1, rfl, D1, by omega, by omega, by omega, fun d H2 h0 h1 F2 D2 => ⟨_, rfl, by omega, by omega, ?_⟩⟩
      obtain ⟨d, rfl⟩ : ∃ n : Nat, d = (n : Int) := ⟨d.toNat, by omega⟩
      rw [Int.toNat_natCast]
      refine forb_rng (fun i σ' H' => ∃ (t : List Nat) (v4 : Option V), σ' = [some (.ref a), some (.ref b), some (.int (m : Nat)), some (.str (S t)), v4] ∧ t.all (fun c => isSign [c]) = true ∧ t.length ≤ 2 + 6 * i ∧ Fx [b] H H' ∧ Dr K H' a b ns (z + 2 + 2 * i))
        ⟨t0, none, rfl, s0, by omega, F1.trans F2, D2.mono (by omega)⟩ ?_ ?_
      · rintro i σ' H' hi ⟨t, v4, rfl, st, lt, Ft, Dt⟩
        walk_at "rd"
        refine pick_new Dt (by omega) (by simp) (by simp) fun j v H3 hj F3 D3 => ?_
        obtain ⟨t1, rfl, l1, s1⟩ := pick_piece (n := 4) hj (by decide +kernel)
        refine ⟨_, rfl, sline (by rw [S_len]; omega), ?_⟩
        refine pick_new D3 (by omega) (by simp) (by simp) fun j v H4 hj F4 D4 => ?_
        obtain ⟨t2, rfl, l2, s2⟩ := pick_piece (n := 2) hj (by decide +kernel)
        refine ⟨_, rfl, sline (by rw [S_app, S_len, S_len, List.length_append]; omega), t ++ t1 ++ t2, by rw [S_app, S_app], ?_, ?_, ((Ft.trans F3).trans F4), D4.mono (by omega)⟩
        · rw [List.all_append, List.all_append, st, s1, s2]
          rfl
        · rw [List.length_append, List.length_append]
          omega
      · rintro σ' H' ⟨t, v4, rfl, st, lt, Ft, Dt⟩
        first
          | exact ⟨t, ⟨v4, rfl⟩, st, by omega, Ft, Dt.mono (by omega)⟩
          | exact ⟨t, v4, rfl, st, by omega, Ft, Dt.mono (by omega)⟩
    · rintro σ' H' ⟨t, v4, rfl, st, lt, Ft, Dt⟩
      walk_at "rd"
      exact k t H' st lt Ft Dt
end
end LH
/-! ## L01: the law of words -/
namespace LH
open PySem PySem.Spec PyProof.Rows L2
/-- what is told of a text and a place: way 0 the word's end, 1 its start, 2 recased -/
def Told (t : List Nat) (i : Int) (way : Int) (word : Str) (H : Hp) (v : V) : Prop :=
  if okText t = true then (if 0 ≤ i ∧ i ≤ t.length then
    (if way = 0 then v = .int (wordEnd t i.toNat : Nat) else if way = 1 then v = .int (wordStart t i.toNat : Nat) else ∃ p, v = .ref p ∧ H p = some (.tup [.str (S (recT t i.toNat word)), .int (wordEnd t i.toNat : Nat)]))
    else IsRef H "place" v) else IsRef H "text" v
theorem shaped_tn {l : List Nat} {n : Int} (h : ∀ c ∈ l, c < 128) : SeqAt.shaped (.tuple [.str (S l), .int n]) = true := by
  have e : PyData.strOk (S l) = true := by
    show (l.toArray.all fun c => decide (c < 0x110000)) = true
    rw [List.all_toArray]
    exact List.all_eq_true.mpr fun c hc => decide_eq_true (by have := h c hc; omega)
  show (PyData.canLay0 _ && decide (PyData.depth _ ≤ 64)) = true
  have e2 : PyData.canLay0 (.tuple [.str (S l), .int n]) = true := by
    simp only [PyData.canLay0, PyData.canLayAll0, e, Bool.and_self]
  rw [e2]
  rfl
theorem up1_lt {c : Nat} (h : c < 128) : up1 c < 128 := by
  have : ∀ c : Fin 128, up1 c < 128 := by decide +kernel
  exact this ⟨c, h⟩
theorem lo1_lt {c : Nat} (h : c < 128) : lo1 c < 128 := by
  have : ∀ c : Fin 128, lo1 c < 128 := by decide +kernel
  exact this ⟨c, h⟩
theorem caseWord_lt {way : Str} {l : List Nat} (h : ∀ c ∈ l, c < 128) : ∀ c ∈ caseWord way l, c < 128 := by
  have key : ∀ (f : Nat → Nat) (m : List Nat), (∀ c, c < 128 → f c < 128) → (∀ c ∈ m, c ∈ l) → ∀ c ∈ m.map f, c < 128 := fun f m hf hm c hc => by
    obtain ⟨b, hb, rfl⟩ := List.mem_map.mp hc
    exact hf _ (h b (hm b hb))
  unfold caseWord
  split
  · exact key _ _ (fun _ => up1_lt) fun _ q => q
  · split
    · exact key _ _ (fun _ => lo1_lt) fun _ q => q
    · intro c hc
      rcases List.mem_append.mp hc with q | q
      · exact key _ _ (fun _ => up1_lt) (fun _ r => List.mem_of_mem_take r) c q
      · exact key _ _ (fun _ => lo1_lt) (fun _ r => List.mem_of_mem_drop r) c q
theorem recT_lt {t : List Nat} {i : Nat} {way : Str} (h : ∀ c ∈ t, c < 128) : ∀ c ∈ recT t i way, c < 128 := by
  intro c hc
  unfold recT at hc
  rcases List.mem_append.mp hc with q | q
  · rcases List.mem_append.mp q with q | q
    · exact h c (List.mem_of_mem_take q)
    · exact caseWord_lt (fun c r => h c (List.mem_of_mem_drop (List.mem_of_mem_take r))) c q
  · exact h c (List.mem_of_mem_drop q)
def spTold : Sp := fun vs H Q _ => ∃ (way i : Int) (t : List Nat) (word : Str), vs = [.int way, .str (S t), .int i, .str word] ∧ t.length ≤ 1000 ∧ ∀ v H', Same H H' → Told t i way word H' v → Q v H'
section
variable {P : Program} {w : World} {K : PySem.W.Frag} {mg : Str → Option Value} {base : Heap}
theorem d_l_told (T : TX K mg) : Dn P w K mg base 5 "_law_told" p_l_told spTold := by
  refine dn_of (fn_l_told T) (g__law_told T) sc_l_told bd_l_told (fun vs H Q E h => ?_) (fun cdv A outer s H vs Q E hr h => ?_)
  · obtain ⟨way, i, t, word, rfl, _⟩ := h
    rfl
  · obtain ⟨way, i, t, word, rfl, ht, k⟩ := h
    refine ⟨_, (pss_cons (ps_set (i := 4) sc_l_told.nd rfl (Or.inl rfl) pe_non) (pss_cons (ps_set (i := 5) sc_l_told.nd rfl (Or.inl rfl) pe_non) (pss_cons (ps_try_keep (i := 6) rfl rfl rfl sc_l_told.nd rfl rfl ⟨rfl, by decide, .inl (g_HandError T)⟩ (fun W pn xe tk _ => (pss_one (ps_if (pt_cmpR op_eq (pv 0) pe_int (nomark _)) (pss_one (ps_set (i := 5) sc_l_told.nd rfl (Or.inl rfl) (pcS (d_word_end T) (hr.mono (by decide)) (fun σ => passAt tk σ) (pa_cons (pv 1) (pa_cons (pv 2) pa_nil))))) (pss_one (ps_set (i := 5) sc_l_told.nd rfl (Or.inl rfl) (pe_ifExp (pt_cmpR op_eq (pv 0) pe_int (nomark _)) (pcS (d_word_start T) (hr.mono (by decide)) (fun σ => passAt tk σ) (pa_cons (pv 1) (pa_cons (pv 2) pa_nil))) (pcS (d_recased T) (hr.mono (by decide)) (fun σ => passAt tk σ) (pa_cons (pv 1) (pa_cons (pv 2) (pa_cons (pv 3) pa_nil)))))))))) (fun a oe cls d pn hz hf => (pss_one (ps_set (i := 4) sc_l_told.nd rfl (Or.inl rfl) (pv 6))))) (pss_one (ps_ret (pe_ifExp (pt_cmpR op_isN (pv 4) pe_non (nomark _)) (pv 5) (pc (d_l_refusal T) (hr.mono (by decide)) px (pa_cons (pv 4) pa_nil)))))))), ?_⟩
    walk_at "rd"
    have done : ∀ (A B : Prop), (okText t = true → 0 ≤ i → i ≤ t.length → B) → (∀ v H', Same H H' → ¬ okText t = true → IsRef H' "text" v → Q v H') ∧ (∀ v H', Same H H' → okText t = true → ¬ (0 ≤ i ∧ i ≤ t.length) → IsRef H' "place" v → Q v H') := fun A B _ =>
      ⟨fun v H' s ho r => k v H' s (by unfold Told; rw [if_neg ho]; exact r), fun v H' s ho hp r => k v H' s (by unfold Told; rw [if_pos ho, if_neg hp]; exact r)⟩
    obtain ⟨rt, rp⟩ := done True True fun _ _ _ => trivial
    have tried : ∀ {E : XK} {A : Prop}, (okText t = true → 0 ≤ i → i ≤ t.length → A) → ((∀ v H', Same H H' → IsRef H' "text" v → Q v H') → Rf K "BadText" E H) → ((∀ v H', Same H H' → IsRef H' "place" v → Q v H') → Rf K "BadPlace" E H) → Tried K t i E H A := fun {E A} hA ht hp => by
      unfold Tried
      by_cases ho : okText t = true
      · rw [if_pos ho]
        by_cases hp' : 0 ≤ i ∧ i ≤ t.length
        · rw [if_pos hp']
          exact hA ho hp'.1 hp'.2
        · rw [if_neg hp']
          exact hp fun v H' s r => rp v H' s ho hp' r
      · rw [if_neg ho]
        exact ht fun v H' s r => rt v H' s ho r
    have told : ∀ v H', okText t = true → 0 ≤ i → i ≤ t.length → Same H H' → (if way = 0 then v = .int (wordEnd t i.toNat : Nat) else if way = 1 then v = .int (wordStart t i.toNat : Nat) else ∃ p, v = .ref p ∧ H' p = some (.tup [.str (S (recT t i.toNat word)), .int (wordEnd t i.toNat : Nat)])) → Q v H' := fun v H' ho h0 h1 s r =>
      k v H' s (by unfold Told; rw [if_pos ho, if_pos ⟨h0, h1⟩]; exact r)
    by_cases w0 : way = 0
    · rw [if_pos w0]
      refine ⟨t, i, rfl, by omega, tried (fun ho h0 h1 H' s => told _ _ ho h0 h1 s (by rw [if_pos w0])) (fun r => rf_keep (xm_BadText T) (by show 6 < 7; decide) fun a H' s na => ?_) (fun r => rf_keep (xm_BadPlace T) (by show 6 < 7; decide) fun a H' s na => ?_)⟩
      · walk_at "rd"
        exact ref_end k_text s na r
      · walk_at "rd"
        exact ref_end k_place s na r
    · rw [if_neg w0]
      by_cases w1 : way = 1
      · rw [if_pos w1]
        refine ⟨t, i, rfl, by omega, tried (fun ho h0 h1 H' s => told _ _ ho h0 h1 s (by rw [if_neg w0, if_pos w1])) (fun r => rf_keep (xm_BadText T) (by show 6 < 7; decide) fun a H' s na => ?_) (fun r => rf_keep (xm_BadPlace T) (by show 6 < 7; decide) fun a H' s na => ?_)⟩
        · walk_at "rd"
          exact ref_end k_text s na r
        · walk_at "rd"
          exact ref_end k_place s na r
      · rw [if_neg w1]
        refine ⟨t, i, word, rfl, by omega, tried (fun ho h0 h1 p H' hp s e => told _ _ ho h0 h1 s (by rw [if_neg w0, if_neg w1]; exact ⟨p, rfl, e⟩)) (fun r => rf_keep (xm_BadText T) (by show 6 < 7; decide) fun a H' s na => ?_) (fun r => rf_keep (xm_BadPlace T) (by show 6 < 7; decide) fun a H' s na => ?_)⟩
        · walk_at "rd"
          exact ref_end k_text s na r
        · walk_at "rd"
          exact ref_end k_place s na r
def spLaw (K : PySem.W.Frag) : Sp := fun vs H Q _ => ∃ (a : Addr) (ns : List Int), vs = [.ref a] ∧ SqL K H a (ns.map V.int) ∧ ns.length ≤ 63 ∧ ∀ H', Q (.bl true) H'
theorem len_law (vs : List V) (H : Hp) (Q : VK) (E : XK) (h : spLaw K vs H Q E) : vs.length = p_law.length := by
  obtain ⟨a, ns, rfl, _⟩ := h
  rfl
theorem d_law (T : TX K mg) : BodyOk P w K mg base n_law "law" s_law (He.fAd K ("law", none)) 5 (spLaw K) := by
  intro cdv A outer s H vs Q E hr h
  · obtain ⟨a, ns, rfl, hS, hl, k⟩ := h
    refine ⟨_, (pss_cons (ps_set (i := 1) sc_law.nd rfl (Or.inl rfl) (pe_lst pa_nil)) (pss_cons (ps_set (i := 2) sc_law.nd rfl (Or.inr rfl) (pc (d_l_text T) (hr.mono (by decide)) px (pa_cons (pv 0) (pa_cons (pv 1) (pa_cons pe_int pa_nil))))) (Evl.pss_cut (ps_for (passes_of rfl) rfl (pi_range1 rfl (b_range T) (pa_cons (pe_op op_add (pe_callB call_len_str (by rfl) (b_len T) boot_len (pa_cons (pv 2) pa_nil)) pe_int) pa_nil)) (pg_name (i := 3) sc_law.nd rfl (Or.inr rfl)) (pss_cons (ps_if (PW.pt (pw_or (pt_cmpR (op_neD hr.units) (pc (d_l_told T) (hr.mono (by decide)) px (pa_cons pe_int (pa_cons (pv 2) (pa_cons (pv 3) (pa_cons pe_str pa_nil))))) (pc (d_l_end T) (hr.mono (by decide)) px (pa_cons (pv 2) (pa_cons (pv 3) pa_nil))) (nomark _)) (pw_or1 (pt_cmpR (op_neD hr.units) (pc (d_l_told T) (hr.mono (by decide)) px (pa_cons pe_int (pa_cons (pv 2) (pa_cons (pv 3) (pa_cons pe_str pa_nil))))) (pc (d_l_start T) (hr.mono (by decide)) px (pa_cons (pv 2) (pa_cons (pv 3) pa_nil))) (nomark _))))) (pss_one (ps_ret pe_bl)) pss_nil) (pss_one (ps_for (passes_of rfl) rfl (pi_list (pe_lst (pa_cons pe_str (pa_cons pe_str (pa_cons pe_str pa_nil))))) (pg_name (i := 4) sc_law.nd rfl (Or.inl rfl)) (pss_one (ps_if (pt_cmpR (op_neD hr.units) (pc (d_l_told T) (hr.mono (by decide)) px (pa_cons pe_int (pa_cons (pv 2) (pa_cons (pv 3) (pa_cons (pv 4) pa_nil))))) (pc (d_l_recased T) (hr.mono (by decide)) px (pa_cons (pv 2) (pa_cons (pv 3) (pa_cons (pv 4) pa_nil)))) (nomark _)) (pss_one (ps_ret pe_bl)) pss_nil)))))) (pss_cons (ps_set (i := 5) sc_law.nd rfl (Or.inr rfl) (pc (d_l_pick T) (hr.mono (by decide)) px (pa_cons (pv 0) (pa_cons (pv 1) (pa_cons (pe_lst (pa_cons pe_str (pa_cons (pe_op op_repS pe_str pe_int) (pa_cons pe_str pa_nil)))) pa_nil))))) (pss_cons (ps_if (pt_cmpR (op_neD hr.units) (pe_lc (own := [("_law_way", 6)]) rfl sc_law.nd (pi_range1 rfl (b_range T) (pa_cons pe_int pa_nil)) (blkOk_by (own := [("_law_way", 6)]) (N := n_law) (sc := defScope s_law) (by decide +kernel)) (fun _ _ _ _ _ => (pg_name (i := 6) sc_law.nd rfl (Or.inl rfl))) (fun _ _ _ _ _ => pts_nil) (fun _ _ _ _ _ => (pc (d_l_told T) (hr.mono (by decide)) px0 (pa_cons (pv 6) (pa_cons (pv 5) (pa_cons pe_int (pa_cons pe_str pa_nil))))))) (pe_op op_rep (pe_lst (pa_cons (pe_tup (pa_cons pe_str (pa_cons pe_str pa_nil))) pa_nil)) pe_int) (nomark _)) (pss_one (ps_ret pe_bl)) pss_nil) (pss_cons (ps_set (i := 3) sc_law.nd rfl (Or.inr rfl) (pc (d_l_pick T) (hr.mono (by decide)) px (pa_cons (pv 0) (pa_cons (pv 1) (pa_cons (pe_lst (pa_cons (pe_un un_neg pe_int) (pa_cons (pe_op op_add (pe_callB call_len_str (by rfl) (b_len T) boot_len (pa_cons (pv 2) pa_nil)) pe_int) pa_nil))) pa_nil))))) (pss_one (ps_ret (pe_cmpR (op_eqD hr.units) (pe_lc (own := [("_law_way", 6)]) rfl sc_law.nd (pi_range1 rfl (b_range T) (pa_cons pe_int pa_nil)) (blkOk_by (own := [("_law_way", 6)]) (N := n_law) (sc := defScope s_law) (by decide +kernel)) (fun _ _ _ _ _ => (pg_name (i := 6) sc_law.nd rfl (Or.inl rfl))) (fun _ _ _ _ _ => pts_nil) (fun _ _ _ _ _ => (pc (d_l_told T) (hr.mono (by decide)) px0 (pa_cons (pv 6) (pa_cons (pv 2) (pa_cons (pv 3) (pa_cons pe_str pa_nil))))))) (pe_op op_rep (pe_lst (pa_cons (pe_tup (pa_cons pe_str (pa_cons pe_str pa_nil))) pa_nil)) pe_int) (nomark _)))))))))), ?_⟩
    walk_at "rd"
    refine ⟨by decide, fun p hp => ?_⟩
    have hap : (Rd (upd H p (.lst [])) a (.lst (ns.map V.int)) ∧ a ≠ p) ∨ ∀ H' : Hp, SqL K H' a (ns.map V.int) := by
      rcases hS with h | h
      · have ne : a ≠ p := by
          rcases h with h | ⟨o, h⟩
          · exact ne_of_none h hp
          · exact ne_of_none h hp
        exact .inl ⟨(Fx.of (F := []) (same_new hp)).rd h List.not_mem_nil, ne⟩
      · exact .inr fun _ => .inr h
    have D0 : Dr K (upd H p (.lst [])) a p ns 0 := ⟨hap, hl, [], upd_same, Nat.le_refl _⟩
    refine ⟨a, p, 8, ns, 0, rfl, D0, by omega, by omega, fun t H1 st lt F1 D1 => ?_⟩
    have ok : okText t = true := by
      unfold okText
      rw [st, decide_eq_true (show t.length ≤ 400 by omega)]
      rfl
    have asc := okText_lt ok
    refine ⟨fun σ' H' => ∃ v3 v4 : Option V, σ' = [some (.ref a), some (.ref p), some (.str (S t)), v3, v4, none, none] ∧ Dr K H' a p ns 18, ?_, ?_⟩
    · walk_at "rd"
      refine ⟨sline (by omega), by omega, by omega, ?_⟩
      rw [show ((t.length : Int) + 1).toNat = t.length + 1 by omega]
      refine forb_rng (fun i σ' H' => ∃ v3 v4 : Option V, σ' = [some (.ref a), some (.ref p), some (.str (S t)), v3, v4, none, none] ∧ Dr K H' a p ns 18) ⟨none, none, rfl, D1.mono (by omega)⟩ ?_ ?_
      · rintro j σ' H' hj ⟨v3, v4, rfl, D2⟩
        rw [Int.zero_add]
        have hj2 : j ≤ t.length := by omega
        have val : ∀ {way : Int} {word : Str} {H : Hp} {v : V}, Told t (j : Int) way word H v → (if way = 0 then v = .int (wordEnd t j : Nat) else if way = 1 then v = .int (wordStart t j : Nat) else ∃ p, v = .ref p ∧ H p = some (.tup [.str (S (recT t j word)), .int (wordEnd t j : Nat)])) := fun {way word H v} r => by
          unfold Told at r
          rw [if_pos ok, if_pos ⟨by omega, by omega⟩, Int.toNat_natCast] at r
          exact r
        walk_at "rd"
        refine ⟨0, j, t, _, rfl, by omega, fun v H2 s2 r => ?_⟩
        have e0 : v = .int (wordEnd t j : Nat) := val r
        subst e0
        refine ⟨t, j, rfl, by omega, asc, hj2, fun H3 s3 => ne_same (.int _) (.int _) rfl ⟨false, rfl, ?_⟩⟩
        rw [if_neg Bool.false_ne_true]
        refine ⟨1, j, t, _, rfl, by omega, fun v H4 s4 r => ?_⟩
        have e1 : v = .int (wordStart t j : Nat) := val r
        subst e1
        refine ⟨t, j, rfl, by omega, asc, hj2, fun H5 s5 => ne_same (.int _) (.int _) rfl ⟨false, rfl, ?_⟩⟩
        rw [if_neg Bool.false_ne_true]
        have D3 := D2.same (((s2.trans s3).trans s4).trans s5)
        walk_at "rd"
        refine ⟨by decide, fun q hq => ⟨⟨_, sq_of upd_same⟩, ?_⟩⟩
        refine forb_list (xs := [("great" : Str), "small", "cap"].map V.str) (fun i σ' H' => ∃ v4 : Option V, σ' = [some (.ref a), some (.ref p), some (.str (S t)), some (.int (j : Nat)), v4, none, none] ∧ Dr K H' a p ns 18 ∧ H' q = some (.lst ([("great" : Str), "small", "cap"].map V.str)))
          ⟨v4, rfl, D3.same (same_new hq), upd_same⟩ (fun i σ' H' _ ⟨_, _, _, e⟩ => sq_of e) ?_ ?_
        · rintro i x σ' H' hx ⟨v4, rfl, D4, e4⟩
          obtain ⟨word, hw, rfl⟩ := pick_str hx
          have way : Way word := by simpa [Way] using hw
          walk_at "rd"
          refine ⟨2, j, t, word, rfl, by omega, fun v H6 s6 r => ?_⟩
          obtain ⟨p1, rfl, ep1⟩ : ∃ p, v = .ref p ∧ H6 p = some (.tup [.str (S (recT t j word)), .int (wordEnd t j : Nat)]) := val r
          refine ⟨t, j, word, rfl, by omega, asc, hj2, way, fun p2 H7 hp2 s7 ep2 => ?_⟩
          refine ne_same (.tup (st_of (s7 _ _ ep1)) (.cons (.str _) (.cons (.int _) .nil))) (.tup (st_of ep2) (.cons (.str _) (.cons (.int _) .nil))) (shaped_tn (recT_lt asc)) ⟨false, rfl, ?_⟩
          rw [if_neg Bool.false_ne_true]
          have s67 := s6.trans s7
          exact ⟨D4.same s67, s67 _ _ e4⟩
        · rintro σ' H' ⟨v4, rfl, D4, e4⟩
          exact ⟨⟨_, _, rfl⟩, D4⟩
      · rintro σ' H' ⟨v3, v4, rfl, D2⟩
        exact ⟨⟨_, _, rfl⟩, D2⟩
    · rintro σ' H' ⟨v3, v4, rfl, D2⟩
      walk_at "rd"
      have big : okText (Txt.mul ("x" : Str) 401).cps.toList = false := by decide +kernel
      have lbig : (Txt.mul ("x" : Str) 401).cps.toList.length = 401 := by decide +kernel
      refine ⟨_, _, rfl, rfl, ⟨by decide, fun _ _ => by decide +kernel, fun _ _ => by decide +kernel⟩, ?_⟩
      refine pick_new D2 (by omega) (by simp) (by simp) fun j v H2 hj F2 D3 => ?_
      have hv : ∃ u : List Nat, v = .str (S u) ∧ okText u = false ∧ u.length ≤ 1000 := by
        match j, hj with
        | 0, hj => exact ⟨("\n" : Str).cps.toList, (Option.some.inj hj).symm, by decide +kernel, by decide +kernel⟩
        | 1, hj => exact ⟨(Txt.mul ("x" : Str) 401).cps.toList, (Option.some.inj hj).symm, big, by rw [lbig]; decide⟩
        | 2, hj => exact ⟨("a\t" : Str).cps.toList, (Option.some.inj hj).symm, by decide +kernel, by decide +kernel⟩
        | j + 3, hj => simp at hj
      obtain ⟨u, rfl, bad, lu⟩ := hv
      refine ⟨by decide, by decide, ?_⟩
      refine lcb_ref ((List.range 3).map fun k : Nat => (0 : Int) + (k : Int)) V.int (by rw [List.map_map]; exact walk_rng) (by simp) (fun _ _ => trivial) (by simp) "text" (fun y H' hy s Y hY => ?_) (fun L acc H' s eL la ra => ?_)
      · walk_at "rd"
        refine ⟨_, _, u, _, rfl, lu, fun v H4 s4 r => hY v H4 s4 ?_⟩
        unfold Told at r
        rw [if_neg (by rw [bad]; decide)] at r
        exact r
      · refine mk_refs (n := 3) (by omega) fun p1 q1 H3 s3 ep eq => ?_
        refine ne_refs (n := 3) (s3 _ _ eL) la (fun v hv => (ra v hv).same s3) eq ep rfl (by decide +kernel) ?_
        walk_at "rd"
        have D5 := D3.same (((s.trans s3)))
        refine ⟨sline (by omega), by decide, fun p3 hp3 => ?_⟩
        refine (pick_new (xs := [.int (-1), .int (t.length + 1)]) D5 (by omega) (by simp) (by simp) fun j v H4 hj F4 D6 => ?_).2 p3 hp3
        have hv : ∃ i : Int, v = .int i ∧ ¬ (0 ≤ i ∧ i ≤ t.length) := by
          match j, hj with
          | 0, hj => exact ⟨_, (Option.some.inj hj).symm, by omega⟩
          | 1, hj => exact ⟨_, (Option.some.inj hj).symm, by omega⟩
          | j + 2, hj => simp at hj
        obtain ⟨i, rfl, bi⟩ := hv
        refine ⟨by decide, by decide, ?_⟩
        refine lcb_ref ((List.range 3).map fun k : Nat => (0 : Int) + (k : Int)) V.int (by rw [List.map_map]; exact walk_rng) (by simp) (fun _ _ => trivial) (by simp) "place" (fun y H' hy s Y hY => ?_) (fun L acc H' s eL la ra => ?_)
        · walk_at "rd"
          refine ⟨_, _, t, _, rfl, by omega, fun v H4 s4 r => hY v H4 s4 ?_⟩
          unfold Told at r
          rw [if_pos ok, if_neg bi] at r
          exact r
        · refine mk_refs (n := 3) (by omega) fun p1 q1 H3 s3 ep eq => ?_
          exact eq_refs (n := 3) (s3 _ _ eL) la (fun v hv => (ra v hv).same s3) eq ep rfl (by decide +kernel) (k _)
end
end LH
/-! ## End: the head, the theorem -/
namespace LH
open PySem PySem.Spec PyProof.Rows L2
/-- what a law lets out, whatever the world -/
def CXw (P : Program) (outer : List Env) (H : Hp) (s : Shared) (E : XK) (u : Value) (s' : Shared) : Prop := ∃ w : World, L2.CX P w outer H s E u s'
theorem fn_cx {P : Program} {w : World} {K : PySem.W.Frag} {mg : Str → Option Value} {base : Heap} {k : Nat} {f : Addr} {fd : FuncData} {ps : List Str} {sp : Sp} (F : FnOk P w K mg base (L2.CX P w) k f fd ps sp) :
    FnOk P w K mg base (CXw P) k f fd ps sp :=
  ⟨F.len, fun A outer s H args us vs Q E hr he hb hv hs => codeAny_mono (F.run A outer s H args us vs Q E hr he hb hv hs) fun r s' h => by
    match r, h with
    | .ok (.ret u), h => exact h
    | .error e, h => exact ⟨w, h⟩⟩
abbrev R : PySem.W.OpenRow := PySem.W.OpenLaw.row PySem.Challenge.rw_linehand_k01_whole_words
abbrev hk : PySem.W.Hook := hookM 4 fa fn exs
def ob (s : PySem.W.SharedT) : He.AlD × Bool := obsM fa fn exs (He.frG (HandSHeadRun.getT s) (He.asD (HandSHeadRun.getT s) 4))
theorem ob_eq (s : PySem.W.SharedT) : ob s = hk.obs s.abs := by
  have e : HandSHeadRun.getT s = s.abs.heap.get? := funext (HandSHeadRun.getT_eq s)
  show obsM fa fn exs _ = obsM fa fn exs _
  rw [e]
theorem run (w : World) : HandSHeadRun.RunEq R (PySem.W.view R.prog [28]) hk ob 6000 loose w := by
  intro os
  kernel_rfl
theorem fin {P : Program} {w : World} {K : PySem.W.Frag} {h : Heap} {mg : Str → Option Value} {f : Addr} (X : K.In h) (G : h.Ns mainGlobals mg) (hfa : mg ("law" : Str) = some (.ref f)) (c : He.SaysD fa fn K) (x : (exs.all fun f => f K) = true) :
    ∃ fd : FuncData, (∀ (s : Shared) (v : Value), BindsTo s fd ⟨[v], []⟩ [("_law_script", v)]) ∧ ∀ base : Heap, FnOk P w K mg base (CXw P) 6 f fd ["_law_script"] (spLaw K) := by
  have T : TX K mg := ⟨⟨h, X, G⟩, c, x⟩
  obtain ⟨fd, F⟩ := fn_law T
  have e := hfa.symm.trans (g_law T)
  cases e
  exact ⟨fd, fun s v => FunD.bindsA F bd_law s [v] rfl, fun base => fn_cx (F.ok sc_law len_law fun cdv A outer s H vs Q E hr h => d_law T cdv A outer s H vs Q E hr h)⟩
end LH
open PySem PySem.W PySem.Calls PyProof.Rows
theorem PySem.Challenge.cw_linehand_k01_whole_words_holds : PySem.Challenge.rw_linehand_k01_whole_words.Holds := by
  w_on; o_law
  refine HandSHeadRun.head_any (r := OpenLaw.row PySem.Challenge.rw_linehand_k01_whole_words) (q := view (OpenLaw.row PySem.Challenge.rw_linehand_k01_whole_words).prog [28]) (H := LH.hk) (ob := LH.ob) (M := 6000) (loose := LH.loose) (d := HandSHeadRun.topDef (OpenLaw.row PySem.Challenge.rw_linehand_k01_whole_words).prog 28) (kwd := []) LH.ob_eq
    (by kernel_rfl) (fun s => by kernel_rfl) LH.run (by kernel_rfl) (by kernel_rfl) (by kernel_rfl) (by rfl) (by first | assumption | decide +kernel) (by decide +kernel) ⟨rfl, rfl, rfl, rfl, rfl, by decide +kernel⟩ ?hw ?hc
  case hw => w_witness2
  case hc =>
    refine L2.walk_ofE (l := PySem.Challenge.rw_linehand_k01_whole_words) (n := 63) (k := 6) (x := "_law_script") (CX := LH.CXw PySem.Challenge.rw_linehand_k01_whole_words.prog) rfl (by decide) (by kernel_rfl) ⟨rfl, by decide, by decide⟩ ?F ?X
    case X =>
      intro H s e s' ⟨_, _, _, _, _, _, _, _, _, _, _, _, _, z⟩
      exact z
    intro w mg fa h Y G hmg0
    obtain ⟨K, KX, c, x⟩ := Y
    have hmg : mg ("law" : PySem.Str) = some (.ref fa) := by
      have e : (HandSHeadRun.topDef (OpenLaw.row PySem.Challenge.rw_linehand_k01_whole_words).prog 28).name = ("law" : PySem.Str) := by kernel_rfl
      rw [← e]
      exact hmg0
    obtain ⟨fd, hb, hF⟩ := LH.fin (P := (PySem.Challenge.rw_linehand_k01_whole_words).prog) (w := w) KX G hmg c x
    exact ⟨K, fd, LH.spLaw K, KX, hb, fun H a ns hl _ hS => ⟨a, ns, rfl, hS, hl, fun _ => rfl⟩, fun base _ _ => hF base⟩
