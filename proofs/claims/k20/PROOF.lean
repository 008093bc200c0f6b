import PyProof.Rows.All
import Wide.All
import OpenK.AllK
import Wide.FinOn
import KE.KStateDown
import Lean
import HandS.Base
import HandS.Call
import HandS.List
import HandS.Comp
import HandS.Ends
import HandS.Dict
import HandS.Iter
import HandS.Text
import HandS.Walk
import HandS.Exc
import HandS.TryOnly
import HandS.ExcOwn
import HandS.ExcIs
import HandS.ExcValue
import HandS.More
import HandS.Words
import HandS.WordsList
import HandS.WordsDict
import HandS.WordsExc
import HandS.Defaults
import HandS.Flow
import HandS.Style
import HandS.StrMore
import HandS.Deep
import HandS.Small
import HandS.Head0
import HandS.Head1
import HandS.Head2
import HandS.HeadEnd
import HandS.HeadHook1
import HandS.HeadHook2
import HandS.Evl
import PySem.Challenge.RW_linehand_k20_whole_lines
set_option Elab.async false
set_option linter.all false
set_option maxRecDepth 100000
set_option maxHeartbeats 4000000
/-! ## Base: texts as lists of signs, how defs are kept and called -/
namespace LH
open PySem PySem.Spec PyProof.Rows L2

/-- a text of these signs -/
def S (l : List Nat) : Str := ⟨l.toArray⟩
theorem S_len (l : List Nat) : (S l).length = l.length := by
  unfold S Str.length
  exact List.size_toArray
theorem S_tl (l : List Nat) : (S l).cps.toList = l := by
  unfold S
  rfl
/-- an item within -/
theorem atI_in {α : Type} {l : List α} {i : Int} (h0 : 0 ≤ i) (h1 : i < l.length) : atI l i = l[i.toNat]? := by
  unfold atI ixN
  rw [if_pos h0, if_pos h1]
  rfl
theorem S_of (z : Str) : S z.cps.toList = z := rfl
theorem S_app (a b : List Nat) : S a ++ S b = S (a ++ b) := TL.ext_tl (by rw [TL.tl_append]; rfl)
theorem S_inj {a b : List Nat} : (S a = S b) = (a = b) := by
  refine propext ⟨fun h => ?_, fun h => by rw [h]⟩
  have e : (S a).cps.toList = (S b).cps.toList := by rw [h]
  exact e
theorem ofS_inj {a b : String} : (Str.ofString a = Str.ofString b) = (a = b) := by
  refine propext ⟨fun h => ?_, fun h => by rw [h]⟩
  rw [Str.ofString_eq_toList, Str.ofString_eq_toList] at h
  have h1 : (a.toList.map Char.toNat).toArray = (b.toList.map Char.toNat).toArray := by
    injection h
  have h2 : a.toList.map Char.toNat = b.toList.map Char.toNat := by
    have := congrArg Array.toList h1
    simpa using this
  have h3 : a.toList = b.toList := List.map_inj_right (fun x y e => Char.toNat_inj.mp e) |>.mp h2
  exact String.toList_inj.mp h3
theorem S_one (c : Nat) : (⟨#[c]⟩ : Str) = S [c] := rfl
theorem sline {n : Nat} (h : n ≤ 100000) : n ≤ sizeLine := Nat.le_trans h (by decide)
theorem slt {n : Nat} (h : n < 100000) : n < sizeLine := Nat.lt_of_lt_of_le h (by decide)

theorem lines : ((0 ≤ sizeLine) = True) ∧ ((1 ≤ sizeLine) = True) ∧ ((2 ≤ sizeLine) = True) ∧ ((3 ≤ sizeLine) = True) ∧ ((4 ≤ sizeLine) = True) ∧ ((5 ≤ sizeLine) = True) ∧ ((6 ≤ sizeLine) = True) ∧ ((8 ≤ sizeLine) = True) := by
  refine ⟨?_, ?_, ?_, ?_, ?_, ?_, ?_, ?_⟩ <;> exact eq_true (by decide)
/-- a slice, its ends within the text -/
theorem cut_S (l : List Nat) (i j : Int) (h0 : 0 ≤ i) (h1 : i ≤ l.length) (h2 : 0 ≤ j) (h3 : j ≤ l.length) : cutS (S l) (some i) (some j) = S ((l.drop i.toNat).take (j.toNat - i.toNat)) := by
  have e1 : HT.sIx l.length 0 (some i) = i.toNat := by
    show (if i < 0 then _ else min i.toNat l.length) = _
    rw [if_neg (by omega)]
    omega
  have e2 : HT.sIx l.length l.length (some j) = j.toNat := by
    show (if j < 0 then _ else min j.toNat l.length) = _
    rw [if_neg (by omega)]
    omega
  unfold cutS
  show (⟨((l.drop (HT.sIx l.length 0 (some i))).take (HT.sIx l.length l.length (some j) - HT.sIx l.length 0 (some i))).toArray⟩ : Str) = _
  rw [e1, e2]
  rfl

theorem cut_to (l : List Nat) (j : Int) (h : 0 ≤ j) : cutS (S l) none (some j) = S (l.take j.toNat) := by
  have e2 : HT.sIx l.length l.length (some j) = min j.toNat l.length := by
    show (if j < 0 then _ else min j.toNat l.length) = _
    rw [if_neg (by omega)]
  unfold cutS
  show (⟨((l.drop 0).take (HT.sIx l.length l.length (some j) - 0)).toArray⟩ : Str) = _
  rw [e2, List.drop_zero, Nat.sub_zero, ← List.take_eq_take_min]
  rfl
theorem cut_from (l : List Nat) (i : Int) (h : 0 ≤ i) : cutS (S l) (some i) none = S (l.drop i.toNat) := by
  have e1 : HT.sIx l.length 0 (some i) = min i.toNat l.length := by
    show (if i < 0 then _ else min i.toNat l.length) = _
    rw [if_neg (by omega)]
  unfold cutS
  show (⟨((l.drop (HT.sIx l.length 0 (some i))).take (l.length - HT.sIx l.length 0 (some i))).toArray⟩ : Str) = _
  rw [e1, List.take_of_length_le (by rw [List.length_drop]; exact Nat.le_refl _)]
  by_cases q : i.toNat ≤ l.length
  · rw [Nat.min_eq_left q]
    rfl
  · rw [Nat.min_eq_right (by omega), List.drop_eq_nil_of_le (Nat.le_refl _), List.drop_eq_nil_of_le (by omega)]
    rfl
theorem cutV_to (xs : List V) (j : Int) (h : 0 ≤ j) : cutV xs none (some j) = xs.take j.toNat := by
  have e2 : HT.sIx xs.length xs.length (some j) = min j.toNat xs.length := by
    show (if j < 0 then _ else min j.toNat xs.length) = _
    rw [if_neg (by omega)]
  unfold cutV
  show (xs.drop 0).take (HT.sIx xs.length xs.length (some j) - 0) = _
  rw [e2, List.drop_zero, Nat.sub_zero, ← List.take_eq_take_min]
section
variable (P : Program) (w : World) (K : PySem.W.Frag) (mg : Str → Option Value) (base : Heap)
/-- the def x keeps its promise, and is called by its name -/
structure Dn (k : Nat) (x : Str) (ps : List Str) (sp : Sp) : Prop where
  ex : ∃ f fd, FnOk P w K mg base (L2.CX P w) k f fd ps sp ∧ Binds K fd ps [] ∧ mg x = some (.ref f) ∧ PySem.W.keepIn K (.ref f) = true
/-- the method m of the class at C -/
structure Mt (k : Nat) (C : Addr) (m : Str) (ps : List Str) (sp : Sp) : Prop where
  ex : ∃ f fd, FnOk P w K mg base (L2.CX P w) k f fd ps sp ∧ Binds K fd ps [] ∧ Meth K C m f
  cl : Cls K C
/-- a new one of the class x at C -/
structure Mn (k : Nat) (x : Str) (C : Addr) (ps : List Str) (sp : Sp) : Prop where
  ex : ∃ f fd, FnOk P w K mg base (L2.CX P w) k f fd ps sp ∧ Binds K fd ps [] ∧ Mk K C f
  gl : mg x = some (.ref C)
end
section
variable {X : Cx} {k : Nat} {C : Addr} {x m : Str} {ps : List Str} {sp : Sp} {E : XK} {p pos apos : Pos} {e o : Expr} {es : List Expr} {ta : TE} {t : TA}
theorem pc (D : Dn X.prog X.w X.K X.mg X.base k x ps sp) (hr : Room k X.A) (hx : Passes (L2.CX X.prog X.w) X E) (ha : PA X (e :: es) t) (hg : Gl X x := by rfl) (hdb : (x == ("__debug__" : Str)) = false := by decide)
    (he : starEach (e :: es) X.env = (false, eval e X.env) :: starEach es X.env := by rfl) (hpl : (backTo pos (starEach es X.env)).any (·.1) = false := by rfl) : PE X (.Call (.Name x p) (e :: es) [] pos) (tCall sp [] E t) := by
  obtain ⟨f, fd, F, b, hm, kp⟩ := D.ex
  exact pe_call F hr hg hm kp b .nil hx ha hdb he hpl
theorem pc0 (D : Dn X.prog X.w X.K X.mg X.base k x ps sp) (hr : Room k X.A) (hx : Passes (L2.CX X.prog X.w) X E) (hg : Gl X x := by rfl) (hdb : (x == ("__debug__" : Str)) = false := by decide) : PE X (.Call (.Name x p) [] [] pos) (tCall sp [] E tNil) := by
  obtain ⟨f, fd, F, b, hm, kp⟩ := D.ex
  exact pe_call0 F hr hg hm kp b .nil hx hdb
theorem pm {pl : Sem Bool} (M : Mt X.prog X.w X.K X.mg X.base k C m ps sp) (hr : Room k X.A) (hx : Passes (L2.CX X.prog X.w) X E) (ho : PE X o ta) (ha : PA X (e :: es) t)
    (hst : starEach (e :: es) X.env = (false, eval e X.env) :: starEach es X.env := by rfl) (hpl : (backTo pos (starEach es X.env)).any (·.1) = false := by rfl)
    (ht : eval (.Call (.Attribute o m apos) (e :: es) [] pos) X.env = (do
      let ov ← eval o X.env
      standAt apos.atName
      let (f, first) ← holding [ov] (getMethod ov m pl)
      callWith pos f first (backTo pos (starEach (e :: es) X.env)) (backToKw pos (keywordEach [] X.env))) := by rfl) : PE X (.Call (.Attribute o m apos) (e :: es) [] pos) (tMeth C m sp [] E ta t) := by
  obtain ⟨f, fd, F, b, hm⟩ := M.ex
  exact pe_meth ho M.cl hm F hr b .nil hx ha hst hpl ht
theorem pm0 {pl : Sem Bool} (M : Mt X.prog X.w X.K X.mg X.base k C m ps sp) (hr : Room k X.A) (hx : Passes (L2.CX X.prog X.w) X E) (ho : PE X o ta)
    (ht : eval (.Call (.Attribute o m apos) [] [] pos) X.env = (do
      let ov ← eval o X.env
      standAt apos.atName
      let (f, first) ← holding [ov] (getMethod ov m pl)
      callWith pos f first (backTo pos (starEach [] X.env)) (backToKw pos (keywordEach [] X.env))) := by rfl) : PE X (.Call (.Attribute o m apos) [] [] pos) (tMeth C m sp [] E ta tNil) := by
  obtain ⟨f, fd, F, b, hm⟩ := M.ex
  exact pe_meth0 ho M.cl hm F hr b .nil hx ht
theorem pn (D : Mn X.prog X.w X.K X.mg X.base k x C ps sp) (hr : Room (k + 1) X.A) (hx : Passes (L2.CX X.prog X.w) X E) (ha : PA X (e :: es) t) (hg : Gl X x := by rfl) (hdb : (x == ("__debug__" : Str)) = false := by decide)
    (he : starEach (e :: es) X.env = (false, eval e X.env) :: starEach es X.env := by rfl) (hpl : (backTo pos (starEach es X.env)).any (·.1) = false := by rfl) : PE X (.Call (.Name x p) (e :: es) [] pos) (tMake C sp [] E t) := by
  obtain ⟨f, fd, F, b, M⟩ := D.ex
  exact pe_make M F hr hg D.gl b .nil hx ha hdb he hpl
end
/-- in a def's own body: what a callee lets out is let out -/
theorem px {P : Program} {w : World} {K : PySem.W.Frag} {mg : Str → Option Value} {base : Heap} {N : List Str} {qual : Str} {scope : Scope} {f : Addr} {cd : Value} {A : Around} {outer : List Env} {s : Shared} {H : Hp} {E : XK} :
    Passes (L2.CX P w) (cxOf (L2.CX P w) P w K mg base N qual scope f cd A outer s H E) E :=
  passes_call (takes_of rfl rfl rfl rfl) fun _ _ _ _ h => h
end LH
namespace LH
open PySem PySem.Spec PyProof.Rows L2
section
variable {P : Program} {w : World} {K : PySem.W.Frag} {mg : Str → Option Value} {base : Heap} {x : Str} {st : Stmt} {N ps : List Str} {k : Nat} {sp : Sp}
/-- how the arguments bind, whatever the def's other fields are -/
def Bnd (x qual : Str) (st : Stmt) (ps : List Str) : Prop :=
  ∀ (kV doc pm : Value) (an : Option Addr) (cdv ct : Value) (us : List Value), us.length = ps.length → bindArgs (PySem.W.fnOf x qual (defArgs st) (defBody st) (defScope st) .none kV doc pm an cdv ct) ⟨us, []⟩ = pure (ps.zip us)
/-- what a def's body is to show -/
abbrev BodyOk (P : Program) (w : World) (K : PySem.W.Frag) (mg : Str → Option Value) (base : Heap) (N : List Str) (qual : Str) (st : Stmt) (f : Addr) (k : Nat) (sp : Sp) : Prop :=
  ∀ (cdv : Value) (A : Around) (outer : List Env) (s : Shared) (H : Hp) (vs : List V) (Q : VK) (E : XK), Room k (A.deeper (envOfC qual (defScope st) s.heap.objs.size f cdv)) → sp vs H Q E →
      ∃ t, PSs (cxOf (L2.CX P w) P w K mg base N qual (defScope st) f cdv A outer s H E) (defBody st) t ∧ t { nx := fun _ H' => Q .non H', rt := Q } (start N vs) H
theorem dn_of (F : ∃ fd, FunD K x x (defArgs st) (defBody st) (defScope st) [] [] (He.fAd K (x, none)) fd) (g : mg x = some (.ref (He.ga K x))) (S : FnScope N ps (defScope st)) (b : Bnd x x st ps) (len : ∀ vs H Q E, sp vs H Q E → vs.length = ps.length)
    (h : BodyOk P w K mg base N x st (He.fAd K (x, none)) k sp) : Dn P w K mg base (k + 1) x ps sp := by
  obtain ⟨fd, F⟩ := F
  exact ⟨_, fd, F.ok S len h, F.bindsN b, g, F.kp⟩
theorem mt_of {c m q : Str} (F : ∃ fd, FunD K m q (defArgs st) (defBody st) (defScope st) [] [] (He.fAd K (c, some m)) fd) (cl : Cls K (He.ga K c)) (me : Meth K (He.ga K c) m (He.ma K (He.ga K c) m)) (S : FnScope N ps (defScope st)) (b : Bnd m q st ps) (len : ∀ vs H Q E, sp vs H Q E → vs.length = ps.length)
    (h : BodyOk P w K mg base N q st (He.fAd K (c, some m)) k sp) : Mt P w K mg base (k + 1) (He.ga K c) m ps sp := by
  obtain ⟨fd, F⟩ := F
  exact ⟨⟨_, fd, F.ok S len h, F.bindsN b, me⟩, cl⟩
theorem mn_of {c q : Str} (F : ∃ fd, FunD K "__init__" q (defArgs st) (defBody st) (defScope st) [] [] (He.fAd K (c, some "__init__")) fd) (M : Mk K (He.ga K c) (He.ma K (He.ga K c) "__init__")) (g : mg c = some (.ref (He.ga K c))) (S : FnScope N ps (defScope st)) (b : Bnd "__init__" q st ps) (len : ∀ vs H Q E, sp vs H Q E → vs.length = ps.length)
    (h : BodyOk P w K mg base N q st (He.fAd K (c, some "__init__")) k sp) : Mn P w K mg base (k + 1) c (He.ga K c) ps sp := by
  obtain ⟨fd, F⟩ := F
  exact ⟨⟨_, fd, F.ok S len h, F.bindsN b, M⟩, g⟩
end
end LH
namespace LH
open PySem PySem.Spec PyProof.Rows L2
section
variable {X : Cx} {x : Str} {pos : Pos}
/-- a module's constant: a number, a text, an object -/
theorem pgi {i : Int} (hm : ∃ t, X.mg x = some (.int i t)) (hg : Gl X x := by rfl) (hd : (x == ("__debug__" : Str)) = false := by decide) : PE X (.Name x pos) (tC (.int i)) := by
  obtain ⟨t, hm⟩ := hm
  exact pe_glob hg hm ⟨t, rfl⟩ hd
theorem pgs {z : Str} (hm : ∃ t, X.mg x = some (.str z t)) (hg : Gl X x := by rfl) (hd : (x == ("__debug__" : Str)) = false := by decide) : PE X (.Name x pos) (tC (.str z)) := by
  obtain ⟨t, hm⟩ := hm
  exact pe_glob hg hm ⟨t, rfl⟩ hd
theorem pgr {a : Addr} (hm : X.mg x = some (.ref a)) (hg : Gl X x := by rfl) (hd : (x == ("__debug__" : Str)) = false := by decide) : PE X (.Name x pos) (tC (.ref a)) := pe_glob hg hm rfl hd
/-- in a comprehension's block nothing is let out -/
theorem px0 : Passes (L2.CX X.prog X.w) X E0 := passL
/-- written texts, one behind the other -/
def lits : List Expr → Option (List Str)
  | [] => some []
  | .Constant (.str x) _ _ :: r => (lits r).map (x :: ·)
  | _ => none
def tLits (xs : List Str) : TA := fun _ H Q => Q (xs.map V.str) H
theorem pa_lits : ∀ {es : List Expr} {xs : List Str}, lits es = some xs → PA X es (tLits xs)
  | [], xs, h => by
    have e : ([] : List Str) = xs := Option.some.inj h
    subst e
    exact ⟨fun pos pins s σ H Q I q => (pa_nil (X := X)).run pos pins s σ H Q I q⟩
  | e :: r, xs, h => by
    match e, h with
    | .Constant (.str x) j p, h =>
      have h1 : (lits r).map (x :: ·) = some xs := h
      cases e : lits r with
      | none =>
        rw [e] at h1
        cases h1
      | some ys =>
        rw [e] at h1
        have e2 : x :: ys = xs := Option.some.inj h1
        subst e2
        have p1 := pa_cons (X := X) (pe_str (x := x) (j := j) (pos := p)) (pa_lits e) rfl
        exact ⟨fun pos pins s σ H Q I q => p1.run pos pins s σ H Q I q⟩
end
end LH
namespace LH
open PySem PySem.Spec PyProof.Rows L2
/-! ### the Hook: He's facts, and more by Bools of one's own -/
def excB (K : PySem.W.Frag) (C : Addr) : Bool :=
  decide (PySem.W.findIn K (.ref C) "__getattribute__" = some (some (.builtin "BaseException.__getattribute__"))) && (decide (PySem.W.findIn K (.ref C) "__getattr__" = some none) &&
  (decide (PySem.W.subIn K (.ref C) (.type "BaseException") = some true) && (PySem.W.hasDictIn K C && (decide (PySem.W.findIn K (.ref C) "__class__" = some (some (.builtin "object.__class__"))) &&
  (decide (PySem.W.specialIn K (.builtin "object.__class__") "__get__" = some (some (.builtin "getset_descriptor.__get__"))) && (decide (PySem.W.takesIn K (.builtin "object.__class__") = some true) && decide (PySem.W.mroIn K C (.type "object") = some true)))))))
theorem excB_ok {K : PySem.W.Frag} {C : Addr} (h : excB K C = true) : ExcC K C := by
  unfold excB at h
  simp only [Bool.and_eq_true, decide_eq_true_eq] at h
  obtain ⟨h1, h2, h3, h4, h5, h6, h7, h8⟩ := h
  exact ⟨h1, h2, h3, h4, h5, h6, h7, h8⟩
def kitB (K : PySem.W.Frag) (C : Addr) (v : Value) (b : Bool) : Bool := decide (PySem.W.kitOne K (.ref C) v = some b)
theorem kitB_ok {K : PySem.W.Frag} {C : Addr} {v : Value} {b : Bool} (h : kitB K C v b = true) : PySem.W.kitOne K (.ref C) v = some b := of_decide_eq_true h
def obsM (fa : List He.Fa) (fn : List He.DefD) (ex : List (PySem.W.Frag → Bool)) (K : PySem.W.Frag) : He.AlD × Bool := (He.obsD fa fn K, ex.all fun f => f K)
def hookM (n : Nat) (fa : List He.Fa) (fn : List He.DefD) (ex : List (PySem.W.Frag → Bool)) : PySem.W.Hook where
  α := He.AlD × Bool
  obs := fun s => obsM fa fn ex (He.frG s.heap.get? (He.asD s.heap.get? n))
  val := fun _ => (He.valD fn, true)
  says := fun _ h => ∃ K : PySem.W.Frag, K.In h ∧ He.SaysD fa fn K ∧ (ex.all fun f => f K) = true
  of := fun _ _ e => ⟨_, He.frG_in, congrArg Prod.fst e, congrArg Prod.snd e⟩
  keeps := fun _ _ _ ⟨K, hK, c⟩ k => ⟨K, PySem.W.Frag.In.keeps hK k, c⟩
theorem ex_at {ex : List (PySem.W.Frag → Bool)} {K : PySem.W.Frag} (h : (ex.all fun f => f K) = true) (i : Nat) {f : PySem.W.Frag → Bool} (e : ex[i]? = some f := by rfl) : f K = true := List.all_eq_true.mp h f (List.mem_of_getElem? e)
end LH
/-! ## Top: the text by places, what the top leaves -/
namespace LH
open PySem PySem.Spec PyProof.Rows L2
abbrev pw : Program := PySem.Challenge.pw_linehand_k20_whole_lines
def top (i : Nat) : Stmt := pw.main.body.getD i (.Pass ⟨0, 0, 0, 0⟩)
abbrev s_is_sign : Stmt := top 9
abbrev s_look_text : Stmt := top 10
abbrev s_look_place : Stmt := top 11
abbrev s_Line_init : Stmt := inClass (top 14) 0
abbrev s_Line_text : Stmt := inClass (top 14) 1
abbrev s_Line_at : Stmt := inClass (top 14) 2
abbrev s_Line_marked : Stmt := inClass (top 14) 3
abbrev s_Line_go : Stmt := inClass (top 14) 4
abbrev s_Line_put_mark : Stmt := inClass (top 14) 6
abbrev s_Line_picture : Stmt := inClass (top 14) 7
abbrev s_Line_show : Stmt := inClass (top 14) 8
abbrev s_Line_change : Stmt := inClass (top 14) 9
abbrev s_Line_check : Stmt := inClass (top 14) 10
abbrev s_Line_replace : Stmt := inClass (top 14) 11
abbrev s_Line_write : Stmt := inClass (top 14) 12
abbrev s_Line_undo : Stmt := inClass (top 14) 13
abbrev s_Line_redo : Stmt := inClass (top 14) 14
abbrev s_Line_clear : Stmt := inClass (top 14) 15
abbrev s_Line_groups : Stmt := inClass (top 14) 16
abbrev s_l_cell : Stmt := top 16
abbrev s_l_mix : Stmt := top 17
abbrev s_l_draw : Stmt := top 18
abbrev s_l_pick : Stmt := top 19
abbrev s_l_refusal : Stmt := top 20
abbrev s_l_text : Stmt := top 21
abbrev s_l_told : Stmt := top 22
abbrev s_l_put : Stmt := top 23
abbrev s_l_back : Stmt := top 24
abbrev s_l_turn : Stmt := top 25
abbrev s_law : Stmt := top 26
def fn0 : List He.DefD := [
  ⟨("is_sign", none), "is_sign", "is_sign", defArgs s_is_sign, defBody s_is_sign, defScope s_is_sign, [], []⟩,
  ⟨("look_text", none), "look_text", "look_text", defArgs s_look_text, defBody s_look_text, defScope s_look_text, [], []⟩,
  ⟨("look_place", none), "look_place", "look_place", defArgs s_look_place, defBody s_look_place, defScope s_look_place, [], []⟩,
  ⟨("Line", some "__init__"), "__init__", "Line.__init__", defArgs s_Line_init, defBody s_Line_init, defScope s_Line_init, [], []⟩,
  ⟨("Line", some "text"), "text", "Line.text", defArgs s_Line_text, defBody s_Line_text, defScope s_Line_text, [], []⟩,
  ⟨("Line", some "at"), "at", "Line.at", defArgs s_Line_at, defBody s_Line_at, defScope s_Line_at, [], []⟩,
  ⟨("Line", some "marked"), "marked", "Line.marked", defArgs s_Line_marked, defBody s_Line_marked, defScope s_Line_marked, [], []⟩,
  ⟨("Line", some "go"), "go", "Line.go", defArgs s_Line_go, defBody s_Line_go, defScope s_Line_go, [], []⟩,
  ⟨("Line", some "put_mark"), "put_mark", "Line.put_mark", defArgs s_Line_put_mark, defBody s_Line_put_mark, defScope s_Line_put_mark, [], []⟩,
  ⟨("Line", some "picture"), "picture", "Line.picture", defArgs s_Line_picture, defBody s_Line_picture, defScope s_Line_picture, [], []⟩,
  ⟨("Line", some "show"), "show", "Line.show", defArgs s_Line_show, defBody s_Line_show, defScope s_Line_show, [], []⟩,
  ⟨("Line", some "change"), "change", "Line.change", defArgs s_Line_change, defBody s_Line_change, defScope s_Line_change, [], []⟩,
  ⟨("Line", some "check"), "check", "Line.check", defArgs s_Line_check, defBody s_Line_check, defScope s_Line_check, [], []⟩,
  ⟨("Line", some "replace"), "replace", "Line.replace", defArgs s_Line_replace, defBody s_Line_replace, defScope s_Line_replace, [], []⟩,
  ⟨("Line", some "write"), "write", "Line.write", defArgs s_Line_write, defBody s_Line_write, defScope s_Line_write, [], []⟩,
  ⟨("Line", some "undo"), "undo", "Line.undo", defArgs s_Line_undo, defBody s_Line_undo, defScope s_Line_undo, [], []⟩,
  ⟨("Line", some "redo"), "redo", "Line.redo", defArgs s_Line_redo, defBody s_Line_redo, defScope s_Line_redo, [], []⟩,
  ⟨("Line", some "clear"), "clear", "Line.clear", defArgs s_Line_clear, defBody s_Line_clear, defScope s_Line_clear, [], []⟩,
  ⟨("Line", some "groups"), "groups", "Line.groups", defArgs s_Line_groups, defBody s_Line_groups, defScope s_Line_groups, [], []⟩,
  ⟨("_law_cell", none), "_law_cell", "_law_cell", defArgs s_l_cell, defBody s_l_cell, defScope s_l_cell, [], []⟩,
  ⟨("_law_mix", none), "_law_mix", "_law_mix", defArgs s_l_mix, defBody s_l_mix, defScope s_l_mix, [], []⟩,
  ⟨("_law_draw", none), "_law_draw", "_law_draw", defArgs s_l_draw, defBody s_l_draw, defScope s_l_draw, [], []⟩,
  ⟨("_law_pick", none), "_law_pick", "_law_pick", defArgs s_l_pick, defBody s_l_pick, defScope s_l_pick, [], []⟩,
  ⟨("_law_refusal", none), "_law_refusal", "_law_refusal", defArgs s_l_refusal, defBody s_l_refusal, defScope s_l_refusal, [], []⟩,
  ⟨("_law_text", none), "_law_text", "_law_text", defArgs s_l_text, defBody s_l_text, defScope s_l_text, [], []⟩,
  ⟨("_law_told", none), "_law_told", "_law_told", defArgs s_l_told, defBody s_l_told, defScope s_l_told, [], []⟩,
  ⟨("_law_put", none), "_law_put", "_law_put", defArgs s_l_put, defBody s_l_put, defScope s_l_put, [], []⟩,
  ⟨("_law_back", none), "_law_back", "_law_back", defArgs s_l_back, defBody s_l_back, defScope s_l_back, [], []⟩,
  ⟨("_law_turn", none), "_law_turn", "_law_turn", defArgs s_l_turn, defBody s_l_turn, defScope s_l_turn, [], []⟩,
  ⟨("law", none), "law", "law", defArgs s_law, defBody s_law, defScope s_law, [], []⟩]
def fn : List He.DefD := fn0
def fa0 : List He.Fa := [
  .glo "_wall",
  .glo "HandError",
  .glo "BadKey",
  .glo "BadText",
  .glo "BadSize",
  .glo "BadPlace",
  .int "MOST_TEXT" 400,
  .glo "is_sign",
  .glo "look_text",
  .glo "look_place",
  .int "MOST_RUN" 20,
  .glo "Line",
  .glo "_law_cell",
  .glo "_law_mix",
  .glo "_law_draw",
  .glo "_law_pick",
  .glo "_law_refusal",
  .glo "_law_text",
  .glo "_law_told",
  .glo "_law_put",
  .glo "_law_back",
  .glo "_law_turn",
  .glo "law",
  .free "ValueError",
  .free "all",
  .free "isinstance",
  .free "len",
  .free "min",
  .free "ord",
  .free "range"]
def fa1 : List He.Fa := [
  .cls "Line",
  .noat "Line" "now",
  .noat "Line" "caret",
  .noat "Line" "mark",
  .noat "Line" "before",
  .noat "Line" "later",
  .noat "Line" "run",
  .meth "Line" "text",
  .meth "Line" "at",
  .meth "Line" "marked",
  .meth "Line" "go",
  .meth "Line" "put_mark",
  .meth "Line" "picture",
  .meth "Line" "show",
  .meth "Line" "change",
  .meth "Line" "check",
  .meth "Line" "replace",
  .meth "Line" "write",
  .meth "Line" "undo",
  .meth "Line" "redo",
  .meth "Line" "clear",
  .meth "Line" "groups",
  .mkr "Line",
  .exc "BadKey",
  .exc "BadText",
  .exc "BadSize",
  .exc "BadPlace",
  .keep "HandError",
  .keep "BadKey",
  .keep "BadText"]
def fa2 : List He.Fa := [
  .keep "BadSize",
  .keep "BadPlace",
  .exm "BadKey" "HandError" true,
  .exm "BadText" "HandError" true,
  .exm "BadSize" "HandError" true,
  .exm "BadPlace" "HandError" true]
def fa : List He.Fa := fa0 ++ fa1 ++ fa2
def loose0 : List Str := [
  "_wall",
  "HandError",
  "BadKey",
  "BadText",
  "BadSize",
  "BadPlace",
  "MOST_TEXT",
  "is_sign",
  "look_text",
  "look_place",
  "MOST_RUN",
  "Line",
  "_law_cell",
  "_law_mix",
  "_law_draw",
  "_law_pick",
  "_law_refusal",
  "_law_text",
  "_law_told",
  "_law_put",
  "_law_back",
  "_law_turn"]
def loose : List Str := loose0
def exs0 : List (PySem.W.Frag → Bool) := [
  fun K => excB K (He.ga K "BadKey"),
  fun K => kitB K (He.ga K "BadKey") (.ref (He.ga K "BadKey")) true,
  fun K => kitB K (He.ga K "BadKey") (.ref (He.ga K "BadText")) false,
  fun K => kitB K (He.ga K "BadKey") (.ref (He.ga K "BadSize")) false,
  fun K => kitB K (He.ga K "BadKey") (.ref (He.ga K "BadPlace")) false,
  fun K => kitB K (He.ga K "BadKey") (.type "ValueError") true,
  fun K => excB K (He.ga K "BadText"),
  fun K => kitB K (He.ga K "BadText") (.ref (He.ga K "BadKey")) false,
  fun K => kitB K (He.ga K "BadText") (.ref (He.ga K "BadText")) true,
  fun K => kitB K (He.ga K "BadText") (.ref (He.ga K "BadSize")) false,
  fun K => kitB K (He.ga K "BadText") (.ref (He.ga K "BadPlace")) false,
  fun K => kitB K (He.ga K "BadText") (.type "ValueError") true,
  fun K => excB K (He.ga K "BadSize"),
  fun K => kitB K (He.ga K "BadSize") (.ref (He.ga K "BadKey")) false,
  fun K => kitB K (He.ga K "BadSize") (.ref (He.ga K "BadText")) false,
  fun K => kitB K (He.ga K "BadSize") (.ref (He.ga K "BadSize")) true,
  fun K => kitB K (He.ga K "BadSize") (.ref (He.ga K "BadPlace")) false,
  fun K => kitB K (He.ga K "BadSize") (.type "ValueError") true,
  fun K => excB K (He.ga K "BadPlace"),
  fun K => kitB K (He.ga K "BadPlace") (.ref (He.ga K "BadKey")) false,
  fun K => kitB K (He.ga K "BadPlace") (.ref (He.ga K "BadText")) false,
  fun K => kitB K (He.ga K "BadPlace") (.ref (He.ga K "BadSize")) false,
  fun K => kitB K (He.ga K "BadPlace") (.ref (He.ga K "BadPlace")) true,
  fun K => kitB K (He.ga K "BadPlace") (.type "ValueError") true]
def exs : List (PySem.W.Frag → Bool) := exs0
/-- what the top has left -/
structure TX (K : PySem.W.Frag) (mg : Str → Option Value) : Prop where
  ex : ∃ h : Heap, K.In h ∧ h.Ns mainGlobals mg
  c : He.SaysD fa fn K
  x : (exs.all fun f => f K) = true
section
variable {K : PySem.W.Frag} {mg : Str → Option Value}
theorem g__wall (T : TX K mg) : mg "_wall" = some (.ref (He.ga K "_wall")) := by obtain ⟨h, X, G⟩ := T.ex; exact He.glo_ok X G (T.c.fact 0)
theorem g_HandError (T : TX K mg) : mg "HandError" = some (.ref (He.ga K "HandError")) := by obtain ⟨h, X, G⟩ := T.ex; exact He.glo_ok X G (T.c.fact 1)
theorem g_BadKey (T : TX K mg) : mg "BadKey" = some (.ref (He.ga K "BadKey")) := by obtain ⟨h, X, G⟩ := T.ex; exact He.glo_ok X G (T.c.fact 2)
theorem g_BadText (T : TX K mg) : mg "BadText" = some (.ref (He.ga K "BadText")) := by obtain ⟨h, X, G⟩ := T.ex; exact He.glo_ok X G (T.c.fact 3)
theorem g_BadSize (T : TX K mg) : mg "BadSize" = some (.ref (He.ga K "BadSize")) := by obtain ⟨h, X, G⟩ := T.ex; exact He.glo_ok X G (T.c.fact 4)
theorem g_BadPlace (T : TX K mg) : mg "BadPlace" = some (.ref (He.ga K "BadPlace")) := by obtain ⟨h, X, G⟩ := T.ex; exact He.glo_ok X G (T.c.fact 5)
theorem i_MOST_TEXT (T : TX K mg) : ∃ t, mg "MOST_TEXT" = some (.int 400 t) := by obtain ⟨h, X, G⟩ := T.ex; exact He.int_ok X G (T.c.fact 6)
theorem g_is_sign (T : TX K mg) : mg "is_sign" = some (.ref (He.ga K "is_sign")) := by obtain ⟨h, X, G⟩ := T.ex; exact He.glo_ok X G (T.c.fact 7)
theorem g_look_text (T : TX K mg) : mg "look_text" = some (.ref (He.ga K "look_text")) := by obtain ⟨h, X, G⟩ := T.ex; exact He.glo_ok X G (T.c.fact 8)
theorem g_look_place (T : TX K mg) : mg "look_place" = some (.ref (He.ga K "look_place")) := by obtain ⟨h, X, G⟩ := T.ex; exact He.glo_ok X G (T.c.fact 9)
theorem i_MOST_RUN (T : TX K mg) : ∃ t, mg "MOST_RUN" = some (.int 20 t) := by obtain ⟨h, X, G⟩ := T.ex; exact He.int_ok X G (T.c.fact 10)
theorem g_Line (T : TX K mg) : mg "Line" = some (.ref (He.ga K "Line")) := by obtain ⟨h, X, G⟩ := T.ex; exact He.glo_ok X G (T.c.fact 11)
theorem g__law_cell (T : TX K mg) : mg "_law_cell" = some (.ref (He.ga K "_law_cell")) := by obtain ⟨h, X, G⟩ := T.ex; exact He.glo_ok X G (T.c.fact 12)
theorem g__law_mix (T : TX K mg) : mg "_law_mix" = some (.ref (He.ga K "_law_mix")) := by obtain ⟨h, X, G⟩ := T.ex; exact He.glo_ok X G (T.c.fact 13)
theorem g__law_draw (T : TX K mg) : mg "_law_draw" = some (.ref (He.ga K "_law_draw")) := by obtain ⟨h, X, G⟩ := T.ex; exact He.glo_ok X G (T.c.fact 14)
theorem g__law_pick (T : TX K mg) : mg "_law_pick" = some (.ref (He.ga K "_law_pick")) := by obtain ⟨h, X, G⟩ := T.ex; exact He.glo_ok X G (T.c.fact 15)
theorem g__law_refusal (T : TX K mg) : mg "_law_refusal" = some (.ref (He.ga K "_law_refusal")) := by obtain ⟨h, X, G⟩ := T.ex; exact He.glo_ok X G (T.c.fact 16)
theorem g__law_text (T : TX K mg) : mg "_law_text" = some (.ref (He.ga K "_law_text")) := by obtain ⟨h, X, G⟩ := T.ex; exact He.glo_ok X G (T.c.fact 17)
theorem g__law_told (T : TX K mg) : mg "_law_told" = some (.ref (He.ga K "_law_told")) := by obtain ⟨h, X, G⟩ := T.ex; exact He.glo_ok X G (T.c.fact 18)
theorem g__law_put (T : TX K mg) : mg "_law_put" = some (.ref (He.ga K "_law_put")) := by obtain ⟨h, X, G⟩ := T.ex; exact He.glo_ok X G (T.c.fact 19)
theorem g__law_back (T : TX K mg) : mg "_law_back" = some (.ref (He.ga K "_law_back")) := by obtain ⟨h, X, G⟩ := T.ex; exact He.glo_ok X G (T.c.fact 20)
theorem g__law_turn (T : TX K mg) : mg "_law_turn" = some (.ref (He.ga K "_law_turn")) := by obtain ⟨h, X, G⟩ := T.ex; exact He.glo_ok X G (T.c.fact 21)
theorem g_law (T : TX K mg) : mg "law" = some (.ref (He.ga K "law")) := by obtain ⟨h, X, G⟩ := T.ex; exact He.glo_ok X G (T.c.fact 22)
theorem b_ValueError (T : TX K mg) : mg "ValueError" = none := by obtain ⟨h, X, G⟩ := T.ex; exact He.free_ok X G (T.c.fact 23)
theorem b_all (T : TX K mg) : mg "all" = none := by obtain ⟨h, X, G⟩ := T.ex; exact He.free_ok X G (T.c.fact 24)
theorem b_isinstance (T : TX K mg) : mg "isinstance" = none := by obtain ⟨h, X, G⟩ := T.ex; exact He.free_ok X G (T.c.fact 25)
theorem b_len (T : TX K mg) : mg "len" = none := by obtain ⟨h, X, G⟩ := T.ex; exact He.free_ok X G (T.c.fact 26)
theorem b_min (T : TX K mg) : mg "min" = none := by obtain ⟨h, X, G⟩ := T.ex; exact He.free_ok X G (T.c.fact 27)
theorem b_ord (T : TX K mg) : mg "ord" = none := by obtain ⟨h, X, G⟩ := T.ex; exact He.free_ok X G (T.c.fact 28)
theorem b_range (T : TX K mg) : mg "range" = none := by obtain ⟨h, X, G⟩ := T.ex; exact He.free_ok X G (T.c.fact 29)
theorem cl_Line (T : TX K mg) : Cls K (He.ga K "Line") := He.cls_ok (T.c.fact 30)
theorem na_Line_now (T : TX K mg) : NoAttr K (He.ga K "Line") "now" := He.noat_ok (T.c.fact 31)
theorem na_Line_caret (T : TX K mg) : NoAttr K (He.ga K "Line") "caret" := He.noat_ok (T.c.fact 32)
theorem na_Line_mark (T : TX K mg) : NoAttr K (He.ga K "Line") "mark" := He.noat_ok (T.c.fact 33)
theorem na_Line_before (T : TX K mg) : NoAttr K (He.ga K "Line") "before" := He.noat_ok (T.c.fact 34)
theorem na_Line_later (T : TX K mg) : NoAttr K (He.ga K "Line") "later" := He.noat_ok (T.c.fact 35)
theorem na_Line_run (T : TX K mg) : NoAttr K (He.ga K "Line") "run" := He.noat_ok (T.c.fact 36)
theorem me_Line_text (T : TX K mg) : Meth K (He.ga K "Line") "text" (He.ma K (He.ga K "Line") "text") := He.meth_ok (T.c.fact 37)
theorem me_Line_at (T : TX K mg) : Meth K (He.ga K "Line") "at" (He.ma K (He.ga K "Line") "at") := He.meth_ok (T.c.fact 38)
theorem me_Line_marked (T : TX K mg) : Meth K (He.ga K "Line") "marked" (He.ma K (He.ga K "Line") "marked") := He.meth_ok (T.c.fact 39)
theorem me_Line_go (T : TX K mg) : Meth K (He.ga K "Line") "go" (He.ma K (He.ga K "Line") "go") := He.meth_ok (T.c.fact 40)
theorem me_Line_put_mark (T : TX K mg) : Meth K (He.ga K "Line") "put_mark" (He.ma K (He.ga K "Line") "put_mark") := He.meth_ok (T.c.fact 41)
theorem me_Line_picture (T : TX K mg) : Meth K (He.ga K "Line") "picture" (He.ma K (He.ga K "Line") "picture") := He.meth_ok (T.c.fact 42)
theorem me_Line_show (T : TX K mg) : Meth K (He.ga K "Line") "show" (He.ma K (He.ga K "Line") "show") := He.meth_ok (T.c.fact 43)
theorem me_Line_change (T : TX K mg) : Meth K (He.ga K "Line") "change" (He.ma K (He.ga K "Line") "change") := He.meth_ok (T.c.fact 44)
theorem me_Line_check (T : TX K mg) : Meth K (He.ga K "Line") "check" (He.ma K (He.ga K "Line") "check") := He.meth_ok (T.c.fact 45)
theorem me_Line_replace (T : TX K mg) : Meth K (He.ga K "Line") "replace" (He.ma K (He.ga K "Line") "replace") := He.meth_ok (T.c.fact 46)
theorem me_Line_write (T : TX K mg) : Meth K (He.ga K "Line") "write" (He.ma K (He.ga K "Line") "write") := He.meth_ok (T.c.fact 47)
theorem me_Line_undo (T : TX K mg) : Meth K (He.ga K "Line") "undo" (He.ma K (He.ga K "Line") "undo") := He.meth_ok (T.c.fact 48)
theorem me_Line_redo (T : TX K mg) : Meth K (He.ga K "Line") "redo" (He.ma K (He.ga K "Line") "redo") := He.meth_ok (T.c.fact 49)
theorem me_Line_clear (T : TX K mg) : Meth K (He.ga K "Line") "clear" (He.ma K (He.ga K "Line") "clear") := He.meth_ok (T.c.fact 50)
theorem me_Line_groups (T : TX K mg) : Meth K (He.ga K "Line") "groups" (He.ma K (He.ga K "Line") "groups") := He.meth_ok (T.c.fact 51)
theorem mk_Line (T : TX K mg) : Mk K (He.ga K "Line") (He.ma K (He.ga K "Line") "__init__") := He.mkr_ok (T.c.fact 52)
theorem xc_BadKey (T : TX K mg) : PySem.W.excIn K (He.ga K "BadKey") He.veBase "ValueError.__new__" = true ∧ PySem.W.keepIn K (.ref (He.ga K "BadKey")) = true ∧ PySem.W.subIn K (.ref (He.ga K "BadKey")) (.type "BaseException") = some true ∧ PySem.W.typeIn K (.ref (He.ga K "BadKey")) = some (.type "type") := He.exc_ok (T.c.fact 53)
theorem xc_BadText (T : TX K mg) : PySem.W.excIn K (He.ga K "BadText") He.veBase "ValueError.__new__" = true ∧ PySem.W.keepIn K (.ref (He.ga K "BadText")) = true ∧ PySem.W.subIn K (.ref (He.ga K "BadText")) (.type "BaseException") = some true ∧ PySem.W.typeIn K (.ref (He.ga K "BadText")) = some (.type "type") := He.exc_ok (T.c.fact 54)
theorem xc_BadSize (T : TX K mg) : PySem.W.excIn K (He.ga K "BadSize") He.veBase "ValueError.__new__" = true ∧ PySem.W.keepIn K (.ref (He.ga K "BadSize")) = true ∧ PySem.W.subIn K (.ref (He.ga K "BadSize")) (.type "BaseException") = some true ∧ PySem.W.typeIn K (.ref (He.ga K "BadSize")) = some (.type "type") := He.exc_ok (T.c.fact 55)
theorem xc_BadPlace (T : TX K mg) : PySem.W.excIn K (He.ga K "BadPlace") He.veBase "ValueError.__new__" = true ∧ PySem.W.keepIn K (.ref (He.ga K "BadPlace")) = true ∧ PySem.W.subIn K (.ref (He.ga K "BadPlace")) (.type "BaseException") = some true ∧ PySem.W.typeIn K (.ref (He.ga K "BadPlace")) = some (.type "type") := He.exc_ok (T.c.fact 56)
theorem xm_BadKey (T : TX K mg) : PySem.W.exmOne K (.ref (He.ga K "BadKey")) (.ref (He.ga K "HandError")) = some true := He.exm_ok (T.c.fact 62)
theorem xm_BadText (T : TX K mg) : PySem.W.exmOne K (.ref (He.ga K "BadText")) (.ref (He.ga K "HandError")) = some true := He.exm_ok (T.c.fact 63)
theorem xm_BadSize (T : TX K mg) : PySem.W.exmOne K (.ref (He.ga K "BadSize")) (.ref (He.ga K "HandError")) = some true := He.exm_ok (T.c.fact 64)
theorem xm_BadPlace (T : TX K mg) : PySem.W.exmOne K (.ref (He.ga K "BadPlace")) (.ref (He.ga K "HandError")) = some true := He.exm_ok (T.c.fact 65)
theorem ex_BadKey (T : TX K mg) : ExcC K (He.ga K "BadKey") := excB_ok (ex_at T.x 0 (f := fun K => excB K (He.ga K "BadKey")))
theorem ki_BadKey_BadKey (T : TX K mg) : PySem.W.kitOne K (.ref (He.ga K "BadKey")) (.ref (He.ga K "BadKey")) = some true := kitB_ok (ex_at T.x 1 (f := fun K => kitB K (He.ga K "BadKey") (.ref (He.ga K "BadKey")) true))
theorem ki_BadKey_BadText (T : TX K mg) : PySem.W.kitOne K (.ref (He.ga K "BadKey")) (.ref (He.ga K "BadText")) = some false := kitB_ok (ex_at T.x 2 (f := fun K => kitB K (He.ga K "BadKey") (.ref (He.ga K "BadText")) false))
theorem ki_BadKey_BadSize (T : TX K mg) : PySem.W.kitOne K (.ref (He.ga K "BadKey")) (.ref (He.ga K "BadSize")) = some false := kitB_ok (ex_at T.x 3 (f := fun K => kitB K (He.ga K "BadKey") (.ref (He.ga K "BadSize")) false))
theorem ki_BadKey_BadPlace (T : TX K mg) : PySem.W.kitOne K (.ref (He.ga K "BadKey")) (.ref (He.ga K "BadPlace")) = some false := kitB_ok (ex_at T.x 4 (f := fun K => kitB K (He.ga K "BadKey") (.ref (He.ga K "BadPlace")) false))
theorem ki_BadKey_ValueError (T : TX K mg) : PySem.W.kitOne K (.ref (He.ga K "BadKey")) (.type "ValueError") = some true := kitB_ok (ex_at T.x 5 (f := fun K => kitB K (He.ga K "BadKey") (.type "ValueError") true))
theorem ex_BadText (T : TX K mg) : ExcC K (He.ga K "BadText") := excB_ok (ex_at T.x 6 (f := fun K => excB K (He.ga K "BadText")))
theorem ki_BadText_BadKey (T : TX K mg) : PySem.W.kitOne K (.ref (He.ga K "BadText")) (.ref (He.ga K "BadKey")) = some false := kitB_ok (ex_at T.x 7 (f := fun K => kitB K (He.ga K "BadText") (.ref (He.ga K "BadKey")) false))
theorem ki_BadText_BadText (T : TX K mg) : PySem.W.kitOne K (.ref (He.ga K "BadText")) (.ref (He.ga K "BadText")) = some true := kitB_ok (ex_at T.x 8 (f := fun K => kitB K (He.ga K "BadText") (.ref (He.ga K "BadText")) true))
theorem ki_BadText_BadSize (T : TX K mg) : PySem.W.kitOne K (.ref (He.ga K "BadText")) (.ref (He.ga K "BadSize")) = some false := kitB_ok (ex_at T.x 9 (f := fun K => kitB K (He.ga K "BadText") (.ref (He.ga K "BadSize")) false))
theorem ki_BadText_BadPlace (T : TX K mg) : PySem.W.kitOne K (.ref (He.ga K "BadText")) (.ref (He.ga K "BadPlace")) = some false := kitB_ok (ex_at T.x 10 (f := fun K => kitB K (He.ga K "BadText") (.ref (He.ga K "BadPlace")) false))
theorem ki_BadText_ValueError (T : TX K mg) : PySem.W.kitOne K (.ref (He.ga K "BadText")) (.type "ValueError") = some true := kitB_ok (ex_at T.x 11 (f := fun K => kitB K (He.ga K "BadText") (.type "ValueError") true))
theorem ex_BadSize (T : TX K mg) : ExcC K (He.ga K "BadSize") := excB_ok (ex_at T.x 12 (f := fun K => excB K (He.ga K "BadSize")))
theorem ki_BadSize_BadKey (T : TX K mg) : PySem.W.kitOne K (.ref (He.ga K "BadSize")) (.ref (He.ga K "BadKey")) = some false := kitB_ok (ex_at T.x 13 (f := fun K => kitB K (He.ga K "BadSize") (.ref (He.ga K "BadKey")) false))
theorem ki_BadSize_BadText (T : TX K mg) : PySem.W.kitOne K (.ref (He.ga K "BadSize")) (.ref (He.ga K "BadText")) = some false := kitB_ok (ex_at T.x 14 (f := fun K => kitB K (He.ga K "BadSize") (.ref (He.ga K "BadText")) false))
theorem ki_BadSize_BadSize (T : TX K mg) : PySem.W.kitOne K (.ref (He.ga K "BadSize")) (.ref (He.ga K "BadSize")) = some true := kitB_ok (ex_at T.x 15 (f := fun K => kitB K (He.ga K "BadSize") (.ref (He.ga K "BadSize")) true))
theorem ki_BadSize_BadPlace (T : TX K mg) : PySem.W.kitOne K (.ref (He.ga K "BadSize")) (.ref (He.ga K "BadPlace")) = some false := kitB_ok (ex_at T.x 16 (f := fun K => kitB K (He.ga K "BadSize") (.ref (He.ga K "BadPlace")) false))
theorem ki_BadSize_ValueError (T : TX K mg) : PySem.W.kitOne K (.ref (He.ga K "BadSize")) (.type "ValueError") = some true := kitB_ok (ex_at T.x 17 (f := fun K => kitB K (He.ga K "BadSize") (.type "ValueError") true))
theorem ex_BadPlace (T : TX K mg) : ExcC K (He.ga K "BadPlace") := excB_ok (ex_at T.x 18 (f := fun K => excB K (He.ga K "BadPlace")))
theorem ki_BadPlace_BadKey (T : TX K mg) : PySem.W.kitOne K (.ref (He.ga K "BadPlace")) (.ref (He.ga K "BadKey")) = some false := kitB_ok (ex_at T.x 19 (f := fun K => kitB K (He.ga K "BadPlace") (.ref (He.ga K "BadKey")) false))
theorem ki_BadPlace_BadText (T : TX K mg) : PySem.W.kitOne K (.ref (He.ga K "BadPlace")) (.ref (He.ga K "BadText")) = some false := kitB_ok (ex_at T.x 20 (f := fun K => kitB K (He.ga K "BadPlace") (.ref (He.ga K "BadText")) false))
theorem ki_BadPlace_BadSize (T : TX K mg) : PySem.W.kitOne K (.ref (He.ga K "BadPlace")) (.ref (He.ga K "BadSize")) = some false := kitB_ok (ex_at T.x 21 (f := fun K => kitB K (He.ga K "BadPlace") (.ref (He.ga K "BadSize")) false))
theorem ki_BadPlace_BadPlace (T : TX K mg) : PySem.W.kitOne K (.ref (He.ga K "BadPlace")) (.ref (He.ga K "BadPlace")) = some true := kitB_ok (ex_at T.x 22 (f := fun K => kitB K (He.ga K "BadPlace") (.ref (He.ga K "BadPlace")) true))
theorem ki_BadPlace_ValueError (T : TX K mg) : PySem.W.kitOne K (.ref (He.ga K "BadPlace")) (.type "ValueError") = some true := kitB_ok (ex_at T.x 23 (f := fun K => kitB K (He.ga K "BadPlace") (.type "ValueError") true))
theorem fn_is_sign (T : TX K mg) : ∃ fd, FunD K "is_sign" "is_sign" (defArgs s_is_sign) (defBody s_is_sign) (defScope s_is_sign) [] [] (He.fAd K ("is_sign", none)) fd := T.c.def_ 0 (d := ⟨("is_sign", none), "is_sign", "is_sign", defArgs s_is_sign, defBody s_is_sign, defScope s_is_sign, [], []⟩)
theorem fn_look_text (T : TX K mg) : ∃ fd, FunD K "look_text" "look_text" (defArgs s_look_text) (defBody s_look_text) (defScope s_look_text) [] [] (He.fAd K ("look_text", none)) fd := T.c.def_ 1 (d := ⟨("look_text", none), "look_text", "look_text", defArgs s_look_text, defBody s_look_text, defScope s_look_text, [], []⟩)
theorem fn_look_place (T : TX K mg) : ∃ fd, FunD K "look_place" "look_place" (defArgs s_look_place) (defBody s_look_place) (defScope s_look_place) [] [] (He.fAd K ("look_place", none)) fd := T.c.def_ 2 (d := ⟨("look_place", none), "look_place", "look_place", defArgs s_look_place, defBody s_look_place, defScope s_look_place, [], []⟩)
theorem fn_Line_init (T : TX K mg) : ∃ fd, FunD K "__init__" "Line.__init__" (defArgs s_Line_init) (defBody s_Line_init) (defScope s_Line_init) [] [] (He.fAd K ("Line", some "__init__")) fd := T.c.def_ 3 (d := ⟨("Line", some "__init__"), "__init__", "Line.__init__", defArgs s_Line_init, defBody s_Line_init, defScope s_Line_init, [], []⟩)
theorem fn_Line_text (T : TX K mg) : ∃ fd, FunD K "text" "Line.text" (defArgs s_Line_text) (defBody s_Line_text) (defScope s_Line_text) [] [] (He.fAd K ("Line", some "text")) fd := T.c.def_ 4 (d := ⟨("Line", some "text"), "text", "Line.text", defArgs s_Line_text, defBody s_Line_text, defScope s_Line_text, [], []⟩)
theorem fn_Line_at (T : TX K mg) : ∃ fd, FunD K "at" "Line.at" (defArgs s_Line_at) (defBody s_Line_at) (defScope s_Line_at) [] [] (He.fAd K ("Line", some "at")) fd := T.c.def_ 5 (d := ⟨("Line", some "at"), "at", "Line.at", defArgs s_Line_at, defBody s_Line_at, defScope s_Line_at, [], []⟩)
theorem fn_Line_marked (T : TX K mg) : ∃ fd, FunD K "marked" "Line.marked" (defArgs s_Line_marked) (defBody s_Line_marked) (defScope s_Line_marked) [] [] (He.fAd K ("Line", some "marked")) fd := T.c.def_ 6 (d := ⟨("Line", some "marked"), "marked", "Line.marked", defArgs s_Line_marked, defBody s_Line_marked, defScope s_Line_marked, [], []⟩)
theorem fn_Line_go (T : TX K mg) : ∃ fd, FunD K "go" "Line.go" (defArgs s_Line_go) (defBody s_Line_go) (defScope s_Line_go) [] [] (He.fAd K ("Line", some "go")) fd := T.c.def_ 7 (d := ⟨("Line", some "go"), "go", "Line.go", defArgs s_Line_go, defBody s_Line_go, defScope s_Line_go, [], []⟩)
theorem fn_Line_put_mark (T : TX K mg) : ∃ fd, FunD K "put_mark" "Line.put_mark" (defArgs s_Line_put_mark) (defBody s_Line_put_mark) (defScope s_Line_put_mark) [] [] (He.fAd K ("Line", some "put_mark")) fd := T.c.def_ 8 (d := ⟨("Line", some "put_mark"), "put_mark", "Line.put_mark", defArgs s_Line_put_mark, defBody s_Line_put_mark, defScope s_Line_put_mark, [], []⟩)
theorem fn_Line_picture (T : TX K mg) : ∃ fd, FunD K "picture" "Line.picture" (defArgs s_Line_picture) (defBody s_Line_picture) (defScope s_Line_picture) [] [] (He.fAd K ("Line", some "picture")) fd := T.c.def_ 9 (d := ⟨("Line", some "picture"), "picture", "Line.picture", defArgs s_Line_picture, defBody s_Line_picture, defScope s_Line_picture, [], []⟩)
theorem fn_Line_show (T : TX K mg) : ∃ fd, FunD K "show" "Line.show" (defArgs s_Line_show) (defBody s_Line_show) (defScope s_Line_show) [] [] (He.fAd K ("Line", some "show")) fd := T.c.def_ 10 (d := ⟨("Line", some "show"), "show", "Line.show", defArgs s_Line_show, defBody s_Line_show, defScope s_Line_show, [], []⟩)
theorem fn_Line_change (T : TX K mg) : ∃ fd, FunD K "change" "Line.change" (defArgs s_Line_change) (defBody s_Line_change) (defScope s_Line_change) [] [] (He.fAd K ("Line", some "change")) fd := T.c.def_ 11 (d := ⟨("Line", some "change"), "change", "Line.change", defArgs s_Line_change, defBody s_Line_change, defScope s_Line_change, [], []⟩)
theorem fn_Line_check (T : TX K mg) : ∃ fd, FunD K "check" "Line.check" (defArgs s_Line_check) (defBody s_Line_check) (defScope s_Line_check) [] [] (He.fAd K ("Line", some "check")) fd := T.c.def_ 12 (d := ⟨("Line", some "check"), "check", "Line.check", defArgs s_Line_check, defBody s_Line_check, defScope s_Line_check, [], []⟩)
theorem fn_Line_replace (T : TX K mg) : ∃ fd, FunD K "replace" "Line.replace" (defArgs s_Line_replace) (defBody s_Line_replace) (defScope s_Line_replace) [] [] (He.fAd K ("Line", some "replace")) fd := T.c.def_ 13 (d := ⟨("Line", some "replace"), "replace", "Line.replace", defArgs s_Line_replace, defBody s_Line_replace, defScope s_Line_replace, [], []⟩)
theorem fn_Line_write (T : TX K mg) : ∃ fd, FunD K "write" "Line.write" (defArgs s_Line_write) (defBody s_Line_write) (defScope s_Line_write) [] [] (He.fAd K ("Line", some "write")) fd := T.c.def_ 14 (d := ⟨("Line", some "write"), "write", "Line.write", defArgs s_Line_write, defBody s_Line_write, defScope s_Line_write, [], []⟩)
theorem fn_Line_undo (T : TX K mg) : ∃ fd, FunD K "undo" "Line.undo" (defArgs s_Line_undo) (defBody s_Line_undo) (defScope s_Line_undo) [] [] (He.fAd K ("Line", some "undo")) fd := T.c.def_ 15 (d := ⟨("Line", some "undo"), "undo", "Line.undo", defArgs s_Line_undo, defBody s_Line_undo, defScope s_Line_undo, [], []⟩)
theorem fn_Line_redo (T : TX K mg) : ∃ fd, FunD K "redo" "Line.redo" (defArgs s_Line_redo) (defBody s_Line_redo) (defScope s_Line_redo) [] [] (He.fAd K ("Line", some "redo")) fd := T.c.def_ 16 (d := ⟨("Line", some "redo"), "redo", "Line.redo", defArgs s_Line_redo, defBody s_Line_redo, defScope s_Line_redo, [], []⟩)
theorem fn_Line_clear (T : TX K mg) : ∃ fd, FunD K "clear" "Line.clear" (defArgs s_Line_clear) (defBody s_Line_clear) (defScope s_Line_clear) [] [] (He.fAd K ("Line", some "clear")) fd := T.c.def_ 17 (d := ⟨("Line", some "clear"), "clear", "Line.clear", defArgs s_Line_clear, defBody s_Line_clear, defScope s_Line_clear, [], []⟩)
theorem fn_Line_groups (T : TX K mg) : ∃ fd, FunD K "groups" "Line.groups" (defArgs s_Line_groups) (defBody s_Line_groups) (defScope s_Line_groups) [] [] (He.fAd K ("Line", some "groups")) fd := T.c.def_ 18 (d := ⟨("Line", some "groups"), "groups", "Line.groups", defArgs s_Line_groups, defBody s_Line_groups, defScope s_Line_groups, [], []⟩)
theorem fn_l_cell (T : TX K mg) : ∃ fd, FunD K "_law_cell" "_law_cell" (defArgs s_l_cell) (defBody s_l_cell) (defScope s_l_cell) [] [] (He.fAd K ("_law_cell", none)) fd := T.c.def_ 19 (d := ⟨("_law_cell", none), "_law_cell", "_law_cell", defArgs s_l_cell, defBody s_l_cell, defScope s_l_cell, [], []⟩)
theorem fn_l_mix (T : TX K mg) : ∃ fd, FunD K "_law_mix" "_law_mix" (defArgs s_l_mix) (defBody s_l_mix) (defScope s_l_mix) [] [] (He.fAd K ("_law_mix", none)) fd := T.c.def_ 20 (d := ⟨("_law_mix", none), "_law_mix", "_law_mix", defArgs s_l_mix, defBody s_l_mix, defScope s_l_mix, [], []⟩)
theorem fn_l_draw (T : TX K mg) : ∃ fd, FunD K "_law_draw" "_law_draw" (defArgs s_l_draw) (defBody s_l_draw) (defScope s_l_draw) [] [] (He.fAd K ("_law_draw", none)) fd := T.c.def_ 21 (d := ⟨("_law_draw", none), "_law_draw", "_law_draw", defArgs s_l_draw, defBody s_l_draw, defScope s_l_draw, [], []⟩)
theorem fn_l_pick (T : TX K mg) : ∃ fd, FunD K "_law_pick" "_law_pick" (defArgs s_l_pick) (defBody s_l_pick) (defScope s_l_pick) [] [] (He.fAd K ("_law_pick", none)) fd := T.c.def_ 22 (d := ⟨("_law_pick", none), "_law_pick", "_law_pick", defArgs s_l_pick, defBody s_l_pick, defScope s_l_pick, [], []⟩)
theorem fn_l_refusal (T : TX K mg) : ∃ fd, FunD K "_law_refusal" "_law_refusal" (defArgs s_l_refusal) (defBody s_l_refusal) (defScope s_l_refusal) [] [] (He.fAd K ("_law_refusal", none)) fd := T.c.def_ 23 (d := ⟨("_law_refusal", none), "_law_refusal", "_law_refusal", defArgs s_l_refusal, defBody s_l_refusal, defScope s_l_refusal, [], []⟩)
theorem fn_l_text (T : TX K mg) : ∃ fd, FunD K "_law_text" "_law_text" (defArgs s_l_text) (defBody s_l_text) (defScope s_l_text) [] [] (He.fAd K ("_law_text", none)) fd := T.c.def_ 24 (d := ⟨("_law_text", none), "_law_text", "_law_text", defArgs s_l_text, defBody s_l_text, defScope s_l_text, [], []⟩)
theorem fn_l_told (T : TX K mg) : ∃ fd, FunD K "_law_told" "_law_told" (defArgs s_l_told) (defBody s_l_told) (defScope s_l_told) [] [] (He.fAd K ("_law_told", none)) fd := T.c.def_ 25 (d := ⟨("_law_told", none), "_law_told", "_law_told", defArgs s_l_told, defBody s_l_told, defScope s_l_told, [], []⟩)
theorem fn_l_put (T : TX K mg) : ∃ fd, FunD K "_law_put" "_law_put" (defArgs s_l_put) (defBody s_l_put) (defScope s_l_put) [] [] (He.fAd K ("_law_put", none)) fd := T.c.def_ 26 (d := ⟨("_law_put", none), "_law_put", "_law_put", defArgs s_l_put, defBody s_l_put, defScope s_l_put, [], []⟩)
theorem fn_l_back (T : TX K mg) : ∃ fd, FunD K "_law_back" "_law_back" (defArgs s_l_back) (defBody s_l_back) (defScope s_l_back) [] [] (He.fAd K ("_law_back", none)) fd := T.c.def_ 27 (d := ⟨("_law_back", none), "_law_back", "_law_back", defArgs s_l_back, defBody s_l_back, defScope s_l_back, [], []⟩)
theorem fn_l_turn (T : TX K mg) : ∃ fd, FunD K "_law_turn" "_law_turn" (defArgs s_l_turn) (defBody s_l_turn) (defScope s_l_turn) [] [] (He.fAd K ("_law_turn", none)) fd := T.c.def_ 28 (d := ⟨("_law_turn", none), "_law_turn", "_law_turn", defArgs s_l_turn, defBody s_l_turn, defScope s_l_turn, [], []⟩)
theorem fn_law (T : TX K mg) : ∃ fd, FunD K "law" "law" (defArgs s_law) (defBody s_law) (defScope s_law) [] [] (He.fAd K ("law", none)) fd := T.c.def_ 29 (d := ⟨("law", none), "law", "law", defArgs s_law, defBody s_law, defScope s_law, [], []⟩)
end
abbrev n_is_sign : List Str := ["sign"]
abbrev p_is_sign : List Str := ["sign"]
theorem sc_is_sign : FnScope n_is_sign p_is_sign (defScope s_is_sign) := ⟨rfl, rfl, rfl, by decide +kernel, rfl, by decide +kernel, by decide +kernel⟩
theorem bd_is_sign : Bnd "is_sign" "is_sign" s_is_sign p_is_sign := fun _ _ _ _ _ _ us hl => match us, hl with | [_], _ => rfl
abbrev n_look_text : List Str := ["text", "sign"]
abbrev p_look_text : List Str := ["text"]
theorem sc_look_text : FnScope n_look_text p_look_text (defScope s_look_text) := ⟨rfl, rfl, rfl, by decide +kernel, rfl, by decide +kernel, by decide +kernel⟩
theorem bd_look_text : Bnd "look_text" "look_text" s_look_text p_look_text := fun _ _ _ _ _ _ us hl => match us, hl with | [_], _ => rfl
abbrev n_look_place : List Str := ["text", "at"]
abbrev p_look_place : List Str := ["text", "at"]
theorem sc_look_place : FnScope n_look_place p_look_place (defScope s_look_place) := ⟨rfl, rfl, rfl, by decide +kernel, rfl, by decide +kernel, by decide +kernel⟩
theorem bd_look_place : Bnd "look_place" "look_place" s_look_place p_look_place := fun _ _ _ _ _ _ us hl => match us, hl with | [_, _], _ => rfl
abbrev n_Line_init : List Str := ["self", "text"]
abbrev p_Line_init : List Str := ["self", "text"]
theorem sc_Line_init : FnScope n_Line_init p_Line_init (defScope s_Line_init) := ⟨rfl, rfl, rfl, by decide +kernel, rfl, by decide +kernel, by decide +kernel⟩
theorem bd_Line_init : Bnd "__init__" "Line.__init__" s_Line_init p_Line_init := fun _ _ _ _ _ _ us hl => match us, hl with | [_, _], _ => rfl
abbrev n_Line_text : List Str := ["self"]
abbrev p_Line_text : List Str := ["self"]
theorem sc_Line_text : FnScope n_Line_text p_Line_text (defScope s_Line_text) := ⟨rfl, rfl, rfl, by decide +kernel, rfl, by decide +kernel, by decide +kernel⟩
theorem bd_Line_text : Bnd "text" "Line.text" s_Line_text p_Line_text := fun _ _ _ _ _ _ us hl => match us, hl with | [_], _ => rfl
abbrev n_Line_at : List Str := ["self"]
abbrev p_Line_at : List Str := ["self"]
theorem sc_Line_at : FnScope n_Line_at p_Line_at (defScope s_Line_at) := ⟨rfl, rfl, rfl, by decide +kernel, rfl, by decide +kernel, by decide +kernel⟩
theorem bd_Line_at : Bnd "at" "Line.at" s_Line_at p_Line_at := fun _ _ _ _ _ _ us hl => match us, hl with | [_], _ => rfl
abbrev n_Line_marked : List Str := ["self"]
abbrev p_Line_marked : List Str := ["self"]
theorem sc_Line_marked : FnScope n_Line_marked p_Line_marked (defScope s_Line_marked) := ⟨rfl, rfl, rfl, by decide +kernel, rfl, by decide +kernel, by decide +kernel⟩
theorem bd_Line_marked : Bnd "marked" "Line.marked" s_Line_marked p_Line_marked := fun _ _ _ _ _ _ us hl => match us, hl with | [_], _ => rfl
abbrev n_Line_go : List Str := ["self", "at"]
abbrev p_Line_go : List Str := ["self", "at"]
theorem sc_Line_go : FnScope n_Line_go p_Line_go (defScope s_Line_go) := ⟨rfl, rfl, rfl, by decide +kernel, rfl, by decide +kernel, by decide +kernel⟩
theorem bd_Line_go : Bnd "go" "Line.go" s_Line_go p_Line_go := fun _ _ _ _ _ _ us hl => match us, hl with | [_, _], _ => rfl
abbrev n_Line_put_mark : List Str := ["self", "at"]
abbrev p_Line_put_mark : List Str := ["self", "at"]
theorem sc_Line_put_mark : FnScope n_Line_put_mark p_Line_put_mark (defScope s_Line_put_mark) := ⟨rfl, rfl, rfl, by decide +kernel, rfl, by decide +kernel, by decide +kernel⟩
theorem bd_Line_put_mark : Bnd "put_mark" "Line.put_mark" s_Line_put_mark p_Line_put_mark := fun _ _ _ _ _ _ us hl => match us, hl with | [_, _], _ => rfl
abbrev n_Line_picture : List Str := ["self"]
abbrev p_Line_picture : List Str := ["self"]
theorem sc_Line_picture : FnScope n_Line_picture p_Line_picture (defScope s_Line_picture) := ⟨rfl, rfl, rfl, by decide +kernel, rfl, by decide +kernel, by decide +kernel⟩
theorem bd_Line_picture : Bnd "picture" "Line.picture" s_Line_picture p_Line_picture := fun _ _ _ _ _ _ us hl => match us, hl with | [_], _ => rfl
abbrev n_Line_show : List Str := ["self", "picture"]
abbrev p_Line_show : List Str := ["self", "picture"]
theorem sc_Line_show : FnScope n_Line_show p_Line_show (defScope s_Line_show) := ⟨rfl, rfl, rfl, by decide +kernel, rfl, by decide +kernel, by decide +kernel⟩
theorem bd_Line_show : Bnd "show" "Line.show" s_Line_show p_Line_show := fun _ _ _ _ _ _ us hl => match us, hl with | [_, _], _ => rfl
abbrev n_Line_change : List Str := ["self", "first", "last", "new", "caret"]
abbrev p_Line_change : List Str := ["self", "first", "last", "new", "caret"]
theorem sc_Line_change : FnScope n_Line_change p_Line_change (defScope s_Line_change) := ⟨rfl, rfl, rfl, by decide +kernel, rfl, by decide +kernel, by decide +kernel⟩
theorem bd_Line_change : Bnd "change" "Line.change" s_Line_change p_Line_change := fun _ _ _ _ _ _ us hl => match us, hl with | [_, _, _, _, _], _ => rfl
abbrev n_Line_check : List Str := ["self", "first", "last", "new"]
abbrev p_Line_check : List Str := ["self", "first", "last", "new"]
theorem sc_Line_check : FnScope n_Line_check p_Line_check (defScope s_Line_check) := ⟨rfl, rfl, rfl, by decide +kernel, rfl, by decide +kernel, by decide +kernel⟩
theorem bd_Line_check : Bnd "check" "Line.check" s_Line_check p_Line_check := fun _ _ _ _ _ _ us hl => match us, hl with | [_, _, _, _], _ => rfl
abbrev n_Line_replace : List Str := ["self", "first", "last", "new", "caret"]
abbrev p_Line_replace : List Str := ["self", "first", "last", "new", "caret"]
theorem sc_Line_replace : FnScope n_Line_replace p_Line_replace (defScope s_Line_replace) := ⟨rfl, rfl, rfl, by decide +kernel, rfl, by decide +kernel, by decide +kernel⟩
theorem bd_Line_replace : Bnd "replace" "Line.replace" s_Line_replace p_Line_replace := fun _ _ _ _ _ _ us hl => match us, hl with | [_, _, _, _, _], _ => rfl
abbrev n_Line_write : List Str := ["self", "sign"]
abbrev p_Line_write : List Str := ["self", "sign"]
theorem sc_Line_write : FnScope n_Line_write p_Line_write (defScope s_Line_write) := ⟨rfl, rfl, rfl, by decide +kernel, rfl, by decide +kernel, by decide +kernel⟩
theorem bd_Line_write : Bnd "write" "Line.write" s_Line_write p_Line_write := fun _ _ _ _ _ _ us hl => match us, hl with | [_, _], _ => rfl
abbrev n_Line_undo : List Str := ["self"]
abbrev p_Line_undo : List Str := ["self"]
theorem sc_Line_undo : FnScope n_Line_undo p_Line_undo (defScope s_Line_undo) := ⟨rfl, rfl, rfl, by decide +kernel, rfl, by decide +kernel, by decide +kernel⟩
theorem bd_Line_undo : Bnd "undo" "Line.undo" s_Line_undo p_Line_undo := fun _ _ _ _ _ _ us hl => match us, hl with | [_], _ => rfl
abbrev n_Line_redo : List Str := ["self"]
abbrev p_Line_redo : List Str := ["self"]
theorem sc_Line_redo : FnScope n_Line_redo p_Line_redo (defScope s_Line_redo) := ⟨rfl, rfl, rfl, by decide +kernel, rfl, by decide +kernel, by decide +kernel⟩
theorem bd_Line_redo : Bnd "redo" "Line.redo" s_Line_redo p_Line_redo := fun _ _ _ _ _ _ us hl => match us, hl with | [_], _ => rfl
abbrev n_Line_clear : List Str := ["self"]
abbrev p_Line_clear : List Str := ["self"]
theorem sc_Line_clear : FnScope n_Line_clear p_Line_clear (defScope s_Line_clear) := ⟨rfl, rfl, rfl, by decide +kernel, rfl, by decide +kernel, by decide +kernel⟩
theorem bd_Line_clear : Bnd "clear" "Line.clear" s_Line_clear p_Line_clear := fun _ _ _ _ _ _ us hl => match us, hl with | [_], _ => rfl
abbrev n_Line_groups : List Str := ["self"]
abbrev p_Line_groups : List Str := ["self"]
theorem sc_Line_groups : FnScope n_Line_groups p_Line_groups (defScope s_Line_groups) := ⟨rfl, rfl, rfl, by decide +kernel, rfl, by decide +kernel, by decide +kernel⟩
theorem bd_Line_groups : Bnd "groups" "Line.groups" s_Line_groups p_Line_groups := fun _ _ _ _ _ _ us hl => match us, hl with | [_], _ => rfl
abbrev n_l_cell : List Str := ["_law_script", "_law_k"]
abbrev p_l_cell : List Str := ["_law_script", "_law_k"]
theorem sc_l_cell : FnScope n_l_cell p_l_cell (defScope s_l_cell) := ⟨rfl, rfl, rfl, by decide +kernel, rfl, by decide +kernel, by decide +kernel⟩
theorem bd_l_cell : Bnd "_law_cell" "_law_cell" s_l_cell p_l_cell := fun _ _ _ _ _ _ us hl => match us, hl with | [_, _], _ => rfl
abbrev n_l_mix : List Str := ["_law_script", "_law_k", "_law_number"]
abbrev p_l_mix : List Str := ["_law_script", "_law_k"]
theorem sc_l_mix : FnScope n_l_mix p_l_mix (defScope s_l_mix) := ⟨rfl, rfl, rfl, by decide +kernel, rfl, by decide +kernel, by decide +kernel⟩
theorem bd_l_mix : Bnd "_law_mix" "_law_mix" s_l_mix p_l_mix := fun _ _ _ _ _ _ us hl => match us, hl with | [_, _], _ => rfl
abbrev n_l_draw : List Str := ["_law_script", "_law_town", "_law_many"]
abbrev p_l_draw : List Str := ["_law_script", "_law_town", "_law_many"]
theorem sc_l_draw : FnScope n_l_draw p_l_draw (defScope s_l_draw) := ⟨rfl, rfl, rfl, by decide +kernel, rfl, by decide +kernel, by decide +kernel⟩
theorem bd_l_draw : Bnd "_law_draw" "_law_draw" s_l_draw p_l_draw := fun _ _ _ _ _ _ us hl => match us, hl with | [_, _, _], _ => rfl
abbrev n_l_pick : List Str := ["_law_script", "_law_town", "_law_some"]
abbrev p_l_pick : List Str := ["_law_script", "_law_town", "_law_some"]
theorem sc_l_pick : FnScope n_l_pick p_l_pick (defScope s_l_pick) := ⟨rfl, rfl, rfl, by decide +kernel, rfl, by decide +kernel, by decide +kernel⟩
theorem bd_l_pick : Bnd "_law_pick" "_law_pick" s_l_pick p_l_pick := fun _ _ _ _ _ _ us hl => match us, hl with | [_, _, _], _ => rfl
abbrev n_l_refusal : List Str := ["_law_held", "_law_kinds"]
abbrev p_l_refusal : List Str := ["_law_held"]
theorem sc_l_refusal : FnScope n_l_refusal p_l_refusal (defScope s_l_refusal) := ⟨rfl, rfl, rfl, by decide +kernel, rfl, by decide +kernel, by decide +kernel⟩
theorem bd_l_refusal : Bnd "_law_refusal" "_law_refusal" s_l_refusal p_l_refusal := fun _ _ _ _ _ _ us hl => match us, hl with | [_], _ => rfl
abbrev n_l_text : List Str := ["_law_script", "_law_town", "_law_most", "_law_found", "_law_k"]
abbrev p_l_text : List Str := ["_law_script", "_law_town", "_law_most"]
theorem sc_l_text : FnScope n_l_text p_l_text (defScope s_l_text) := ⟨rfl, rfl, rfl, by decide +kernel, rfl, by decide +kernel, by decide +kernel⟩
theorem bd_l_text : Bnd "_law_text" "_law_text" s_l_text p_l_text := fun _ _ _ _ _ _ us hl => match us, hl with | [_, _, _], _ => rfl
abbrev n_l_told : List Str := ["_law_line", "_law_word", "_law_some", "_law_held", "_law_found", "e"]
abbrev p_l_told : List Str := ["_law_line", "_law_word", "_law_some"]
theorem sc_l_told : FnScope n_l_told p_l_told (defScope s_l_told) := ⟨rfl, rfl, rfl, by decide +kernel, rfl, by decide +kernel, by decide +kernel⟩
theorem bd_l_told : Bnd "_law_told" "_law_told" s_l_told p_l_told := fun _ _ _ _ _ _ us hl => match us, hl with | [_, _, _], _ => rfl
abbrev n_l_put : List Str := ["_law_state", "_law_first", "_law_last", "_law_new", "_law_caret", "_law_text_here", "_law_at", "_law_mark"]
abbrev p_l_put : List Str := ["_law_state", "_law_first", "_law_last", "_law_new", "_law_caret"]
theorem sc_l_put : FnScope n_l_put p_l_put (defScope s_l_put) := ⟨rfl, rfl, rfl, by decide +kernel, rfl, by decide +kernel, by decide +kernel⟩
theorem bd_l_put : Bnd "_law_put" "_law_put" s_l_put p_l_put := fun _ _ _ _ _ _ us hl => match us, hl with | [_, _, _, _, _], _ => rfl
abbrev n_l_back : List Str := ["_law_state", "_law_word", "_law_source", "_law_goal"]
abbrev p_l_back : List Str := ["_law_state", "_law_word"]
theorem sc_l_back : FnScope n_l_back p_l_back (defScope s_l_back) := ⟨rfl, rfl, rfl, by decide +kernel, rfl, by decide +kernel, by decide +kernel⟩
theorem bd_l_back : Bnd "_law_back" "_law_back" s_l_back p_l_back := fun _ _ _ _ _ _ us hl => match us, hl with | [_, _], _ => rfl
abbrev n_l_turn : List Str := ["_law_script", "_law_town", "_law_line", "_law_state", "_law_text_here", "_law_at", "_law_mark", "_law_word", "_law_run", "_law_first", "_law_last", "_law_new", "_law_goal"]
abbrev p_l_turn : List Str := ["_law_script", "_law_town", "_law_line", "_law_state"]
theorem sc_l_turn : FnScope n_l_turn p_l_turn (defScope s_l_turn) := ⟨rfl, rfl, rfl, by decide +kernel, rfl, by decide +kernel, by decide +kernel⟩
theorem bd_l_turn : Bnd "_law_turn" "_law_turn" s_l_turn p_l_turn := fun _ _ _ _ _ _ us hl => match us, hl with | [_, _, _, _], _ => rfl
abbrev n_law : List Str := ["_law_script", "_law_town", "_law_text_here", "_law_line", "_law_state", "_law_k", "_law_size", "_law_far", "_law_word", "_law_some", "_law_bad"]
abbrev p_law : List Str := ["_law_script"]
theorem sc_law : FnScope n_law p_law (defScope s_law) := ⟨rfl, rfl, rfl, by decide +kernel, rfl, by decide +kernel, by decide +kernel⟩
theorem bd_law : Bnd "law" "law" s_law p_law := fun _ _ _ _ _ _ us hl => match us, hl with | [_], _ => rfl
def fs_Line (a0 a1 a2 a3 a4 a5 : V) : List (Str × V) := [("now", a0), ("caret", a1), ("mark", a2), ("before", a3), ("later", a4), ("run", a5)]
theorem lk_Line : (∀ a0 a1 a2 a3 a4 a5 : V, (fs_Line a0 a1 a2 a3 a4 a5).lookup ("now" : Str) = some a0) ∧ (∀ a0 a1 a2 a3 a4 a5 : V, (fs_Line a0 a1 a2 a3 a4 a5).lookup ("caret" : Str) = some a1) ∧ (∀ a0 a1 a2 a3 a4 a5 : V, (fs_Line a0 a1 a2 a3 a4 a5).lookup ("mark" : Str) = some a2) ∧ (∀ a0 a1 a2 a3 a4 a5 : V, (fs_Line a0 a1 a2 a3 a4 a5).lookup ("before" : Str) = some a3) ∧ (∀ a0 a1 a2 a3 a4 a5 : V, (fs_Line a0 a1 a2 a3 a4 a5).lookup ("later" : Str) = some a4) ∧ (∀ a0 a1 a2 a3 a4 a5 : V, (fs_Line a0 a1 a2 a3 a4 a5).lookup ("run" : Str) = some a5) ∧ (∀ a0 a1 a2 a3 a4 a5 : V, (fs_Line a0 a1 a2 a3 a4 a5).lookup ("text" : Str) = none) ∧ (∀ a0 a1 a2 a3 a4 a5 : V, (fs_Line a0 a1 a2 a3 a4 a5).lookup ("at" : Str) = none) ∧ (∀ a0 a1 a2 a3 a4 a5 : V, (fs_Line a0 a1 a2 a3 a4 a5).lookup ("marked" : Str) = none) ∧ (∀ a0 a1 a2 a3 a4 a5 : V, (fs_Line a0 a1 a2 a3 a4 a5).lookup ("go" : Str) = none) ∧ (∀ a0 a1 a2 a3 a4 a5 : V, (fs_Line a0 a1 a2 a3 a4 a5).lookup ("rest" : Str) = none) ∧ (∀ a0 a1 a2 a3 a4 a5 : V, (fs_Line a0 a1 a2 a3 a4 a5).lookup ("put_mark" : Str) = none) ∧ (∀ a0 a1 a2 a3 a4 a5 : V, (fs_Line a0 a1 a2 a3 a4 a5).lookup ("picture" : Str) = none) ∧ (∀ a0 a1 a2 a3 a4 a5 : V, (fs_Line a0 a1 a2 a3 a4 a5).lookup ("show" : Str) = none) ∧ (∀ a0 a1 a2 a3 a4 a5 : V, (fs_Line a0 a1 a2 a3 a4 a5).lookup ("change" : Str) = none) ∧ (∀ a0 a1 a2 a3 a4 a5 : V, (fs_Line a0 a1 a2 a3 a4 a5).lookup ("check" : Str) = none) ∧ (∀ a0 a1 a2 a3 a4 a5 : V, (fs_Line a0 a1 a2 a3 a4 a5).lookup ("replace" : Str) = none) ∧ (∀ a0 a1 a2 a3 a4 a5 : V, (fs_Line a0 a1 a2 a3 a4 a5).lookup ("write" : Str) = none) ∧ (∀ a0 a1 a2 a3 a4 a5 : V, (fs_Line a0 a1 a2 a3 a4 a5).lookup ("undo" : Str) = none) ∧ (∀ a0 a1 a2 a3 a4 a5 : V, (fs_Line a0 a1 a2 a3 a4 a5).lookup ("redo" : Str) = none) ∧ (∀ a0 a1 a2 a3 a4 a5 : V, (fs_Line a0 a1 a2 a3 a4 a5).lookup ("clear" : Str) = none) ∧ (∀ a0 a1 a2 a3 a4 a5 : V, (fs_Line a0 a1 a2 a3 a4 a5).lookup ("groups" : Str) = none) ∧ (∀ a0 a1 a2 a3 a4 a5 x : V, putF "now" x (fs_Line a0 a1 a2 a3 a4 a5) = fs_Line x a1 a2 a3 a4 a5) ∧ (∀ a0 a1 a2 a3 a4 a5 x : V, putF "caret" x (fs_Line a0 a1 a2 a3 a4 a5) = fs_Line a0 x a2 a3 a4 a5) ∧ (∀ a0 a1 a2 a3 a4 a5 x : V, putF "mark" x (fs_Line a0 a1 a2 a3 a4 a5) = fs_Line a0 a1 x a3 a4 a5) ∧ (∀ a0 a1 a2 a3 a4 a5 x : V, putF "before" x (fs_Line a0 a1 a2 a3 a4 a5) = fs_Line a0 a1 a2 x a4 a5) ∧ (∀ a0 a1 a2 a3 a4 a5 x : V, putF "later" x (fs_Line a0 a1 a2 a3 a4 a5) = fs_Line a0 a1 a2 a3 x a5) ∧ (∀ a0 a1 a2 a3 a4 a5 x : V, putF "run" x (fs_Line a0 a1 a2 a3 a4 a5) = fs_Line a0 a1 a2 a3 a4 x) ∧ (∀ a0 a1 a2 a3 a4 a5 : V, ((fs_Line a0 a1 a2 a3 a4 a5).length < 1000) = True) := by
  refine ⟨?_, ?_, ?_, ?_, ?_, ?_, ?_, ?_, ?_, ?_, ?_, ?_, ?_, ?_, ?_, ?_, ?_, ?_, ?_, ?_, ?_, ?_, ?_, ?_, ?_, ?_, ?_, ?_, ?_⟩ <;> intros <;> first | rfl | exact eq_true (by show _ < _; simp [fs_Line])
theorem mk_fs_Line : (∀ a0 : V, putF "now" a0 [] = [(("now" : Str), a0)]) ∧ (∀ a0 a1 : V, putF "caret" a1 [(("now" : Str), a0)] = [(("now" : Str), a0), (("caret" : Str), a1)]) ∧ (∀ a0 a1 a2 : V, putF "mark" a2 [(("now" : Str), a0), (("caret" : Str), a1)] = [(("now" : Str), a0), (("caret" : Str), a1), (("mark" : Str), a2)]) ∧ (∀ a0 a1 a2 a3 : V, putF "before" a3 [(("now" : Str), a0), (("caret" : Str), a1), (("mark" : Str), a2)] = [(("now" : Str), a0), (("caret" : Str), a1), (("mark" : Str), a2), (("before" : Str), a3)]) ∧ (∀ a0 a1 a2 a3 a4 : V, putF "later" a4 [(("now" : Str), a0), (("caret" : Str), a1), (("mark" : Str), a2), (("before" : Str), a3)] = [(("now" : Str), a0), (("caret" : Str), a1), (("mark" : Str), a2), (("before" : Str), a3), (("later" : Str), a4)]) ∧ (∀ a0 a1 a2 a3 a4 a5 : V, putF "run" a5 [(("now" : Str), a0), (("caret" : Str), a1), (("mark" : Str), a2), (("before" : Str), a3), (("later" : Str), a4)] = fs_Line a0 a1 a2 a3 a4 a5) ∧ ((([] : List (Str × V)).length < 1000) = True) ∧ (∀ a0 : V, (([(("now" : Str), a0)] : List (Str × V)).length < 1000) = True) ∧ (∀ a0 a1 : V, (([(("now" : Str), a0), (("caret" : Str), a1)] : List (Str × V)).length < 1000) = True) ∧ (∀ a0 a1 a2 : V, (([(("now" : Str), a0), (("caret" : Str), a1), (("mark" : Str), a2)] : List (Str × V)).length < 1000) = True) ∧ (∀ a0 a1 a2 a3 : V, (([(("now" : Str), a0), (("caret" : Str), a1), (("mark" : Str), a2), (("before" : Str), a3)] : List (Str × V)).length < 1000) = True) ∧ (∀ a0 a1 a2 a3 a4 : V, (([(("now" : Str), a0), (("caret" : Str), a1), (("mark" : Str), a2), (("before" : Str), a3), (("later" : Str), a4)] : List (Str × V)).length < 1000) = True) := by
  refine ⟨?_, ?_, ?_, ?_, ?_, ?_, ?_, ?_, ?_, ?_, ?_, ?_⟩ <;> intros <;> first | rfl | exact eq_true (by show _ < _; simp)
theorem inj_Line {a0 a1 a2 a3 a4 a5 b0 b1 b2 b3 b4 b5 : V} : (fs_Line a0 a1 a2 a3 a4 a5 = fs_Line b0 b1 b2 b3 b4 b5) = (a0 = b0 ∧ a1 = b1 ∧ a2 = b2 ∧ a3 = b3 ∧ a4 = b4 ∧ a5 = b5) := by
  unfold fs_Line
  simp only [List.cons.injEq, Prod.mk.injEq, true_and, and_true]
theorem fk_Line {K : PySem.W.Frag} {mg : Str → Option Value} (T : TX K mg) : (Cls K (He.ga K "Line") = True) ∧ (NoAttr K (He.ga K "Line") "now" = True) ∧ (NoAttr K (He.ga K "Line") "caret" = True) ∧ (NoAttr K (He.ga K "Line") "mark" = True) ∧ (NoAttr K (He.ga K "Line") "before" = True) ∧ (NoAttr K (He.ga K "Line") "later" = True) ∧ (NoAttr K (He.ga K "Line") "run" = True) := ⟨eq_true (cl_Line T), eq_true (na_Line_now T), eq_true (na_Line_caret T), eq_true (na_Line_mark T), eq_true (na_Line_before T), eq_true (na_Line_later T), eq_true (na_Line_run T)⟩
end LH
/-! ## Rd: readings by simp; loops, comprehensions -/
namespace LH
open PySem PySem.Spec PyProof.Rows L2
/-- texts as values -/
abbrev tv (t : List Nat) : V := .str (S t)
abbrev tvs (ts : List (List Nat)) : List V := ts.map tv
theorem ex_eq {α : Sort u} {a : α} {p : α → Prop} : (∃ x, a = x ∧ p x) = p a := propext ⟨fun ⟨_, e, h⟩ => e ▸ h, fun h => ⟨a, rfl, h⟩⟩
theorem ex_eq' {α : Sort u} {a : α} {p : α → Prop} : (∃ x, x = a ∧ p x) = p a := propext ⟨fun ⟨_, e, h⟩ => e ▸ h, fun h => ⟨a, rfl, h⟩⟩
theorem ex_eq0 {α : Sort u} {a : α} : (∃ x, a = x) = True := propext ⟨fun _ => trivial, fun _ => ⟨a, rfl⟩⟩
theorem cxK {CX : CXT} {P : Program} {w : World} {K : PySem.W.Frag} {mg : Str → Option Value} {base : Heap} {N : List Str} {qual : Str} {scope : Scope} {f : Addr} {cd : Value} {A : Around} {outer : List Env} {s : Shared} {H : Hp} {E : XK} :
    (cxOf CX P w K mg base N qual scope f cd A outer s H E).K = K := rfl
theorem if_tt {A B : Prop} : (if true = true then A else B) = A := if_pos rfl
theorem if_ff {A B : Prop} : (if false = true then A else B) = B := if_neg Bool.false_ne_true
theorem scII {i j : Int} : scal (.int i) (.int j) = true := rfl
theorem scSS {i j : Str} : scal (.str i) (.str j) = true := rfl
theorem scBB {i j : Bool} : scal (.bl i) (.bl j) = true := rfl
theorem scNN : scal .non .non = true := rfl
theorem scNI {j : Int} : scal .non (.int j) = true := rfl
theorem scNS {j : Str} : scal .non (.str j) = true := rfl
theorem scNB {j : Bool} : scal .non (.bl j) = true := rfl
theorem scIN {j : Int} : scal (.int j) .non = true := rfl
theorem scSN {j : Str} : scal (.str j) .non = true := rfl
theorem scBN {j : Bool} : scal (.bl j) .non = true := rfl
theorem scIS {i : Int} {j : Str} : scal (.int i) (.str j) = true := rfl
theorem scSI {i : Str} {j : Int} : scal (.str i) (.int j) = true := rfl
/-- the list comprehension behind its walk's making -/
def LcB (J : It) (g : TG) (tt : TT) (te : TE) (vs : List Nat) (σ : L2.St) (H1 : Hp) (Q : VK) : Prop := ∀ D, H1 D = none → ∃ W : Nat → Nat → Hp → Prop, (∃ m, W 0 m (upd H1 D (.lst []))) ∧ ∀ i m H, W i m H →
  (J.stop i H ∧ Q (.ref D) H) ∨ (J.go i H ∧ ∃ Nx : Hp → Prop, (∀ H', Nx H' → ∃ m', m' < m ∧ W (i + 1) m' H') ∧ ∀ x H', J.yld i H x H' → g x (wipe σ vs) H' fun σ2 H2 => wipe σ2 vs = wipe σ vs ∧ tt σ2 H2 fun b H3 =>
    if b = true then te σ2 H3 fun y H4 => ∃ acc, H4 D = some (.lst acc) ∧ acc.length < sizeLine ∧ Nx (upd H4 D (.lst (acc ++ [y]))) else Nx H3)
theorem tLc_eq {wi : TI} {g : TG} {tt : TT} {te : TE} {vs : List Nat} {σ : L2.St} {H : Hp} {Q : VK} : tLc wi g tt te vs σ H Q = wi σ H fun J H1 => LcB J g tt te vs σ H1 Q := rfl
/-- the for behind its walk's making -/
def ForB (J : It) (g : TG) (tb : TS) (D : Ends) (σ : L2.St) (H1 : Hp) : Prop := ∃ W : Nat → Nat → L2.St → Hp → Prop, (∃ m, W 0 m σ H1) ∧ ∀ i m σ H, W i m σ H →
  (J.stop i H ∧ D.nx σ H) ∨ (J.go i H ∧ ∃ N : L2.St → Hp → Prop, (∀ σ' H', N σ' H' → ∃ m', m' < m ∧ W (i + 1) m' σ' H') ∧ ∀ x H', J.yld i H x H' → g x σ H' fun σ2 H2 => tb { D with nx := N, ct := N, bk := D.nx } σ2 H2)
theorem tFor_eq {wi : TI} {g : TG} {tb : TS} {D : Ends} {σ : L2.St} {H : Hp} : tFor wi g tb D σ H = wi σ H fun J H1 => ForB J g tb D σ H1 := rfl

theorem same_upd {H H' : Hp} {p : Addr} {o : HO} (s : Same H H') (h : H p = none) : Same H (upd H' p o) := fun b u e => by
  rw [upd_ne (ne_of_none e h)]
  exact s b u e
theorem same_new {H : Hp} {p : Addr} {o : HO} (h : H p = none) : Same H (upd H p o) := same_upd (Same.refl H) h
theorem sq_of {K : PySem.W.Frag} {H : Hp} {a : Addr} {xs : List V} (h : H a = some (.lst xs)) : SqL K H a xs := .inl (.inl h)
theorem st_of {K : PySem.W.Frag} {H : Hp} {a : Addr} {xs : List V} (h : H a = some (.tup xs)) : SqT K H a xs := .inl (.inl h)
theorem rd_same {H H' : Hp} {a : Addr} {u : HO} (s : Same H H') (h : Rd H a u) : Rd H' a u := by
  rcases h with h | ⟨o, h⟩
  · exact .inl (s _ _ h)
  · exact .inr ⟨o, s _ _ h⟩
theorem seqT {K : PySem.W.Frag} {H H' : Hp} {a : Addr} {xs : List V} (s : Same H H') (h : SqT K H a xs) : SqT K H' a xs := by
  rcases h with h | h
  · exact .inl (rd_same s h)
  · exact .inr h

section
variable {g : TG} {tt : TT} {te : TE} {vs : List Nat} {σ : L2.St} {H : Hp} {Q : VK}
/-- a comprehension whose elements make nothing that matters: ys the items, f which are kept, v what is made of them -/
theorem lcb_gen {α : Type} {J : It} {n : Nat} {G : Hp → Prop} (ys : List α) (inj : α → V) (f : α → Bool) (v : α → V) (w : Walk J n G (YAt (ys.map inj))) (hn : n = ys.length) (hG : ∀ H', Same H H' → G H') (hz : ys.length ≤ 100000)
    (hs : ∀ y H', y ∈ ys → Same H H' → ∀ (Y : V → Hp → Prop) (N : Hp → Prop), (f y = true → ∀ H4, Same H' H4 → Y (v y) H4) → (f y = false → ∀ H3, Same H' H3 → N H3) →
      g (inj y) (wipe σ vs) H' fun σ2 H2 => wipe σ2 vs = wipe σ vs ∧ tt σ2 H2 fun b H3 => if b = true then te σ2 H3 Y else N H3)
    (hd : ∀ D H', H D = none → Same H H' → H' D = some (.lst ((ys.filter f).map v)) → Q (.ref D) H') : LcB J g tt te vs σ H Q := by
  intro D hD
  refine lc_it w (fun i H' => Same H H' ∧ H' D = some (.lst (((ys.take i).filter f).map v))) ⟨same_new hD, upd_same⟩ (fun i H' _ p => hG H' p.1) ?_ ?_
  · rintro i x H1 H2 hi ⟨s, e⟩ ⟨rfl, hx⟩
    rw [List.getElem?_map] at hx
    cases hy : ys[i]? with
    | none =>
      rw [hy] at hx
      cases hx
    | some y =>
      rw [hy] at hx
      have ex : inj y = x := Option.some.inj hx
      subst ex
      have et : ys.take (i + 1) = ys.take i ++ [y] := by rw [List.take_add_one, hy]; rfl
      refine hs y _ (List.mem_of_getElem? hy) s _ _ (fun hf H4 s4 => ?_) (fun hf H3 s3 => ?_)
      · refine ⟨_, s4 _ _ e, ?_, same_upd (s.trans s4) hD, ?_⟩
        · refine slt ?_
          have h1 := List.length_filter_le f (ys.take i)
          have h2 := List.length_take_le i ys
          have h3 : i < ys.length := by omega
          rw [List.length_map]
          have h4 : (ys.take i).length = i := by rw [List.length_take]; omega
          omega
        · rw [upd_same, et, List.filter_append, List.map_append, List.filter_cons, if_pos hf]
          rfl
      · refine ⟨s.trans s3, ?_⟩
        rw [s3 _ _ e, et, List.filter_append, List.map_append, List.filter_cons, if_neg (by rw [hf]; decide)]
        simp
  · rintro H' ⟨s, e⟩
    rw [hn, List.take_length] at e
    exact hd D H' hD s e
theorem walk_strS {t : List Nat} : Walk (Its (S t)) t.length (fun _ => True) (YAt (t.map fun c => V.str (S [c]))) := by
  have w := walk_str (z := S t)
  have e : (S t).cps.size = t.length := S_len t
  rw [e] at w
  refine w.mono (fun _ _ => trivial) fun i H x H' _ _ ⟨h1, c, h2, h3⟩ => ⟨h1, ?_⟩
  have h4 : t[i]? = some c := by
    rw [← h2]
    show t[i]? = (t.toArray)[i]?
    rw [List.getElem?_toArray]
  rw [List.getElem?_map, h4, h3]
  rfl
theorem walk_rng {lo : Int} {n : Nat} : Walk (Itr lo n) n (fun _ => True) (YAt ((List.range n).map fun i : Nat => V.int (lo + (i : Int)))) :=
  walk_range.mono (fun _ _ => trivial) fun i H x H' hi _ ⟨h1, h2⟩ => ⟨h1, by rw [List.getElem?_map, List.getElem?_range hi, h2]; rfl⟩
theorem lcb_str (t : List Nat) (f : Nat → Bool) (v : Nat → V) (hz : t.length ≤ 100000)
    (hs : ∀ c H', c ∈ t → Same H H' → ∀ (Y : V → Hp → Prop) (N : Hp → Prop), (f c = true → ∀ H4, Same H' H4 → Y (v c) H4) → (f c = false → ∀ H3, Same H' H3 → N H3) →
      g (.str (S [c])) (wipe σ vs) H' fun σ2 H2 => wipe σ2 vs = wipe σ vs ∧ tt σ2 H2 fun b H3 => if b = true then te σ2 H3 Y else N H3)
    (hd : ∀ D H', H D = none → Same H H' → H' D = some (.lst ((t.filter f).map v)) → Q (.ref D) H') : LcB (Its (S t)) g tt te vs σ H Q :=
  lcb_gen t (fun c => V.str (S [c])) f v walk_strS rfl (fun _ _ => trivial) hz hs hd
theorem lcb_rng (lo : Int) (n : Nat) (f : Int → Bool) (v : Int → V) (hz : n ≤ 100000)
    (hs : ∀ (k : Nat) H', k < n → Same H H' → ∀ (Y : V → Hp → Prop) (N : Hp → Prop), (f (lo + k) = true → ∀ H4, Same H' H4 → Y (v (lo + k)) H4) → (f (lo + k) = false → ∀ H3, Same H' H3 → N H3) →
      g (.int (lo + k)) (wipe σ vs) H' fun σ2 H2 => wipe σ2 vs = wipe σ vs ∧ tt σ2 H2 fun b H3 => if b = true then te σ2 H3 Y else N H3)
    (hd : ∀ D H', H D = none → Same H H' → H' D = some (.lst ((((List.range n).map fun k : Nat => lo + (k : Int)).filter f).map v)) → Q (.ref D) H') : LcB (Itr lo n) g tt te vs σ H Q := by
  refine lcb_gen ((List.range n).map fun k : Nat => lo + (k : Int)) V.int f v (by rw [List.map_map]; exact walk_rng) (by rw [List.length_map, List.length_range]) (fun _ _ => trivial) (by rw [List.length_map, List.length_range]; exact hz) (fun y H' hy => ?_) hd
  obtain ⟨k, hk, rfl⟩ := List.mem_map.mp hy
  exact hs k H' (List.mem_range.mp hk)
theorem lcb_list {α : Type} {K : PySem.W.Frag} {a : Addr} (ys : List α) (inj : α → V) (f : α → Bool) (v : α → V) (hl : SqL K H a (ys.map inj)) (hz : ys.length ≤ 100000)
    (hs : ∀ y H', y ∈ ys → Same H H' → ∀ (Y : V → Hp → Prop) (N : Hp → Prop), (f y = true → ∀ H4, Same H' H4 → Y (v y) H4) → (f y = false → ∀ H3, Same H' H3 → N H3) →
      g (inj y) (wipe σ vs) H' fun σ2 H2 => wipe σ2 vs = wipe σ vs ∧ tt σ2 H2 fun b H3 => if b = true then te σ2 H3 Y else N H3)
    (hd : ∀ D H', H D = none → Same H H' → H' D = some (.lst ((ys.filter f).map v)) → Q (.ref D) H') : LcB (Itl K a) g tt te vs σ H Q :=
  lcb_gen ys inj f v walk_list (by rw [List.length_map]) (fun _ s => s.seq hl) hz hs hd
theorem filter_tt {α : Type} : ∀ l : List α, l.filter (fun _ => true) = l
  | [] => rfl
  | a :: l => by rw [List.filter_cons, if_pos rfl, filter_tt l]
/-- the same where all are kept -/
theorem lcb_strM (t : List Nat) (v : Nat → V) (hz : t.length ≤ 100000)
    (hs : ∀ c H', c ∈ t → Same H H' → ∀ (Y : V → Hp → Prop), (∀ H4, Same H' H4 → Y (v c) H4) → g (.str (S [c])) (wipe σ vs) H' fun σ2 H2 => wipe σ2 vs = wipe σ vs ∧ te σ2 H2 Y)
    (hd : ∀ D H', H D = none → Same H H' → H' D = some (.lst (t.map v)) → Q (.ref D) H') : LcB (Its (S t)) g tYes te vs σ H Q := by
  refine lcb_str t (fun _ => true) v hz (fun c H' hc s Y N h1 _ => ?_) (by rw [filter_tt]; exact hd)
  have h := hs c H' hc s Y (h1 rfl)
  exact h
end
end LH
/-! ### loops, frames -/
namespace LH
open PySem PySem.Spec PyProof.Rows L2
section
variable {g : TG} {tb : TS} {D : Ends} {σ : L2.St} {H : Hp} {K : PySem.W.Frag}
theorem forb_rng {lo : Int} {n : Nat} (Pv : Nat → L2.St → Hp → Prop) (h0 : Pv 0 σ H) (hs : ∀ (i : Nat) σ' H', i < n → Pv i σ' H' → g (.int (lo + i)) σ' H' fun σ2 H2 => tb { D with nx := Pv (i + 1), ct := Pv (i + 1), bk := D.nx } σ2 H2)
    (hd : ∀ σ' H', Pv n σ' H' → D.nx σ' H') : ForB (Itr lo n) g tb D σ H := for_range Pv h0 hs hd
theorem forb_list {a : Addr} {xs : List V} (Pv : Nat → L2.St → Hp → Prop) (h0 : Pv 0 σ H) (hl : ∀ i σ' H', i ≤ xs.length → Pv i σ' H' → SqL K H' a xs)
    (hs : ∀ i x σ' H', xs[i]? = some x → Pv i σ' H' → g x σ' H' fun σ2 H2 => tb { D with nx := Pv (i + 1), ct := Pv (i + 1), bk := D.nx } σ2 H2) (hd : ∀ σ' H', Pv xs.length σ' H' → D.nx σ' H') : ForB (Itl K a) g tb D σ H := for_list Pv h0 hl hs hd
end
/-- what was tracked is as it was, but at F (tuples are at no time another); nothing goes -/
def Fx (F : List Addr) (H H' : Hp) : Prop := ∀ c o, H c = some o → (∃ o', H' c = some o') ∧ ((c ∉ F ∨ ∃ xs, o = .tup xs) → H' c = some o)
/-- no tuple is there -/
def NT (H : Hp) (p : Addr) : Prop := ∀ xs, H p ≠ some (.tup xs)
section
variable {F G : List Addr} {H H1 H2 H' : Hp} {a b c p : Addr} {o : HO} {xs : List V} {K : PySem.W.Frag}
theorem nt_lst {H : Hp} {p : Addr} {ys : List V} (e : H p = some (.lst ys)) : NT H p := fun xs h => by
  rw [e] at h
  cases h
theorem nt_ins {H : Hp} {p C dx : Addr} {fs : List (Str × V)} (e : H p = some (.ins C dx fs)) : NT H p := fun xs h => by
  rw [e] at h
  cases h
theorem nt_dK {H : Hp} {p : Addr} {kvs : List (Key × V)} (e : H p = some (.dK kvs)) : NT H p := fun xs h => by
  rw [e] at h
  cases h
theorem Fx.refl (F : List Addr) (H : Hp) : Fx F H H := fun _ _ e => ⟨⟨_, e⟩, fun _ => e⟩
theorem Fx.trans (x : Fx F H H1) (y : Fx F H1 H2) : Fx F H H2 := fun c o e => by
  obtain ⟨⟨o1, e1⟩, k⟩ := x c o e
  exact ⟨(y c o1 e1).1, fun n => (y c o (k n)).2 n⟩
theorem Fx.of (s : Same H H') : Fx F H H' := fun c o e => ⟨⟨_, s c o e⟩, fun _ => s c o e⟩
theorem Fx.mono (x : Fx F H H') (h : ∀ c ∈ F, c ∈ G) : Fx G H H' := fun c o e => ⟨(x c o e).1, fun n => (x c o e).2 (n.imp (fun q m => q (h c m)) id)⟩
theorem Fx.comp (x : Fx F H H1) (y : Fx G H1 H2) (h : ∀ c ∈ G, c ∈ F ∨ H c = none) : Fx F H H2 := fun c o e => by
  obtain ⟨⟨o1, e1⟩, k⟩ := x c o e
  refine ⟨(y c o1 e1).1, fun n => (y c o (k n)).2 (n.imp (fun n m => ?_) id)⟩
  rcases h c m with q | q
  · exact n q
  · rw [e] at q
    cases q
theorem Fx.upd (h : p ∈ F) (hp : NT H p) : Fx F H (L2.upd H p o) := fun c u e => by
  refine ⟨?_, fun n => ?_⟩
  · by_cases q : c = p
    · exact ⟨o, by rw [q, upd_same]⟩
    · exact ⟨u, by rw [upd_ne q]; exact e⟩
  · have ne : c ≠ p := fun z => by
      rcases n with n | ⟨xs, n⟩
      · exact n (by rw [z]; exact h)
      · rw [z, n] at e
        exact hp xs e
    rw [upd_ne ne]
    exact e
theorem Fx.new (h : H p = none) : Fx F H (L2.upd H p o) := Fx.of (same_new h)
theorem Fx.up (x : Fx F H H1) (h : p ∈ F) (hp : NT H1 p) : Fx F H (L2.upd H1 p o) := x.trans (Fx.upd h hp)
theorem Fx.nw (x : Fx F H H1) (h : H1 p = none) : Fx F H (L2.upd H1 p o) := x.trans (Fx.new h)
theorem Fx.at (x : Fx F H H') (e : H c = some o) (n : c ∉ F) : H' c = some o := (x c o e).2 (.inl n)
theorem Fx.tup (x : Fx F H H') (e : H c = some (.tup xs)) : H' c = some (.tup xs) := (x c _ e).2 (.inr ⟨_, rfl⟩)
theorem Fx.same (x : Fx [] H H') : Same H H' := fun c o e => (x c o e).2 (.inl List.not_mem_nil)
theorem Fx.rd {u : HO} (x : Fx F H H') (h : Rd H a u) (n : a ∉ F) : Rd H' a u := by
  rcases h with h | ⟨o, h⟩
  · exact .inl (x.at h n)
  · exact .inr ⟨o, x.at h n⟩
theorem Fx.sql (x : Fx F H H') (h : SqL K H a xs) (n : a ∉ F) : SqL K H' a xs := h.elim (fun q => .inl (x.rd q n)) .inr
theorem Fx.sqt (x : Fx F H H') (h : SqT K H a xs) (n : a ∉ F) : SqT K H' a xs := h.elim (fun q => .inl (x.rd q n)) .inr
/-- what is free was free -/
theorem Fx.free (x : Fx F H H') (n : H' p = none) : H p = none := by
  cases e : H p with
  | none => rfl
  | some o =>
    obtain ⟨⟨o', q⟩, _⟩ := x p o e
    rw [n] at q
    cases q
theorem tru_lst (h : H a = some (.lst xs)) : TruV K (.ref a) H (decide (xs ≠ [])) := by
  refine .inl ⟨xs, sq_of h, ?_⟩
  cases xs <;> rfl
theorem ne_of2 {p q : Addr} {o u : HO} (e : H p = some o) (f : H q = some u) (n : o ≠ u) : p ≠ q := fun z => n (by
  rw [z, f] at e
  exact (Option.some.inj e).symm)
theorem ne_il {p q C dx : Addr} {fs : List (Str × V)} {ys : List V} (e : H p = some (.ins C dx fs)) (f : H q = some (.lst ys)) : p ≠ q := ne_of2 e f (by intro z; cases z)
theorem ne_new {p q : Addr} {o : HO} (e : H p = some o) (f : H q = none) : p ≠ q := ne_of_none e f
/-- an address that a method leaves in the place of another one -/
abbrev New (H : Hp) (l l' : Addr) : Prop := l' = l ∨ H l' = none
/-- a free one is none of those put -/
theorem un {x : Addr} (h : upd H x o p = none) : x ≠ p ∧ H p = none := by
  by_cases e : p = x
  · rw [e, upd_same] at h
    cases h
  · rw [upd_ne e] at h
    exact ⟨fun q => e q.symm, h⟩
theorem Fx.nil (s : Same H H') : Fx [] H H' := Fx.of s
end
end LH
/-! ## X1: an error caught and kept, isinstance of it; further rules: o.f as a target, text * n, list.count -/
namespace LH
open PySem PySem.Spec PyProof.Rows L2

/-- an error of the class C that was caught, at a -/
def KX (C a : Addr) : HO := .ext fun h => ∃ (oe : Obj) (vs : Array Value), h.get? a = some oe ∧ Zc (.ref C) none oe ∧ oe.data = .fields vs
theorem kx_ok {P : Program} {w : World} {H : Hp} {h : Heap} {a C : Addr} {oe : Obj} {vs : Array Value} (e : h.get? a = some oe) (z : Zc (.ref C) none oe) (d : oe.data = .fields vs) : ObjOk P w H h a (KX C a) :=
  ⟨⟨oe, vs, e, z, d⟩, ⟨oe, e⟩, fun _ _ ⟨o, v, q, r⟩ k => ⟨o, v, k o q, r⟩⟩
section
variable {X : Cx} {pins : List (Addr × Obj)} {σ : L2.St} {H : Hp} {s : Shared}
/-- an object that is pinned, made behind the entry: from now on it is tracked -/
theorem track {a C : Addr} {oe : Obj} {vs : Array Value} (I : Inv X ((a, oe) :: pins) σ H s) (n0 : X.s_0.heap.get? a = none) (z : Zc (.ref C) none oe) (d : oe.data = .fields vs) (np : ∀ p ∈ X.pn ++ pins, p.1 ≠ a) : Inv X pins σ (upd H a (KX C a)) s := by
  obtain ⟨ea, na, nL, nF, _⟩ := I.pin (a, oe) (List.mem_append_right _ List.mem_cons_self)
  have old : ∀ b o, X.s_0.heap.get? b = some o → b ≠ a := fun b o e q => by
    rw [q, n0] at e
    cases e
  have ne : ∀ b o, H b = some o → b ≠ a := fun b o e => ne_of_none e na
  have B := I.base
  refine ⟨I.ok, I.os, I.bare, ⟨B.keep, B.slot, fun b o e n hx => ?_, B.there, fun b xs e => ?_, fun b o u e => ?_, fun b ps e => ?_⟩, I.loc, I.cell, ?_, fun x c e => ?_, fun p hp => ?_, fun b u e => ?_, I.len⟩
  · rw [upd_ne (old b o e)]
    exact B.free b o e n hx
  · have q := B.tups b xs e
    rw [upd_ne (ne b _ q)]
    exact q
  · have q := B.frzs b o u e
    rw [upd_ne (ne b _ q)]
    exact q
  · obtain ⟨m, q⟩ := B.tbls b ps e
    exact ⟨m, by rw [upd_ne (ne b _ q)]; exact q⟩
  · rw [upd_ne (Ne.symm nL)]
    exact I.free
  · have nc : c ≠ a := fun q => by
      obtain ⟨v, o, ho, hd⟩ := I.cell x c e
      rw [q, ea] at ho
      cases ho
      rw [d] at hd
      cases hd
    rw [upd_ne nc]
    exact I.freeC x c e
  · have hp2 : p ∈ X.pn ++ (a, oe) :: pins := by
      rcases List.mem_append.mp hp with q | q
      · exact List.mem_append_left _ q
      · exact List.mem_append_right _ (List.mem_cons_of_mem _ q)
    obtain ⟨e, n, r⟩ := I.pin p hp2
    exact ⟨e, by rw [upd_ne (np p hp)]; exact n, r⟩
  · by_cases hb : b = a
    · rw [hb, upd_same] at e
      cases e
      rw [hb]
      exact kx_ok ea z d
    · rw [upd_ne hb] at e
      exact (I.hok b u e).stay (fun _ _ _ q => q) (fun c q => by rw [upd_ne (ne c _ q)]; exact q) fun c xs q => by rw [upd_ne (ne c _ q)]; exact q
/-- what the clause 'except x as n' wishes, its one statement keeping the error: slot i is n's -/
def wKeep (K : PySem.W.Frag) (c : Value) (i : Nat) (ts : Addr → Value → Option Addr → TS) (D : Ends) : WX := fun cls d σ H =>
  ∃ C, cls = .ref C ∧ d = none ∧ PySem.W.exmOne K cls c = some true ∧ ∀ a, H a = none → ts a cls d { nx := fun σ' H' => D.nx (σ'.set i none) (upd H' a (KX C a)), rt := fun _ _ => False } (σ.set i (some (.ref a))) H
variable {x n : Str} {c : Value} {i : Nat} {body suite : List Stmt} {b₀ : Stmt} {np pos pos' : Pos} {tb : WX → TS} {ts : Addr → Value → Option Addr → TS}
/-- try: body / except x as n: suite, where the suite keeps the error: behind it the error is tracked -/
theorem ps_try_keep (hs : X.stack = X.env :: X.outer) (hf : X.env.frame = some X.env.locals) (hex : X.ex = []) (hN : X.N.Nodup) (hi : X.N[i]? = some n) (hln : X.env.kindOf n = some .local) (hc : Names X x c)
    (hb : ∀ (W : WX) (pn : List (Addr × Obj)) (xe : Value → Shared → Prop), Takes (X.tr pn xe) W → PassesOwn (model X.prog X.w) X.A X.env xe → PSs (X.tr pn xe) body (tb W))
    (hsu : ∀ (a : Addr) (oe : Obj) (cls : Value) (d : Option Addr) (pn : List (Addr × Obj)), Zc cls d oe → (∃ vs, oe.data = .fields vs) → PSs (X.suite a ((a, oe) :: pn)) (b₀ :: suite) (ts a cls d)) :
    PS X (.Try body [.ExceptHandler (some (.Name x np)) (some n) (b₀ :: suite) pos'] [] [] pos) (fun D σ H => tb (wKeep X.K c i ts D) D σ H) := by
  refine ⟨fun pins s σ H D I h => wpAny_Try_except ?_⟩
  have ok := I.ok
  let land : Value → Shared → Prop := fun e z1 => wpAny (model X.prog X.w) X.A (noteFrame e X.env) (fun _ z2 => wpAny (model X.prog X.w) X.A (setFlight e none) (fun _ z3 =>
    wpAny (model X.prog X.w) X.A (handleBy e X.env [.ExceptHandler (some (.Name x np)) (some n) (b₀ :: suite) pos']) (SP X pins D) X.xe z3) X.xe z2) X.xe z1
  have through := (hb (wKeep X.K c i ts D) (X.pn ++ pins) land (fun u z xx => ?_) PassesOwn.looking).run [] s σ H D (I.toTry _) h
  · refine wpAny_mono through (fun f z1 q => ?_) (fun e z1 he => he)
    cases f with
    | next =>
      obtain ⟨σ1, H1, J, q⟩ := q
      exact wpAny_execs_nil ⟨σ1, H1, J.ofTry ok, q⟩
    | brk =>
      obtain ⟨σ1, H1, J, q⟩ := q
      exact ⟨σ1, H1, J.ofTry ok, q⟩
    | cont =>
      obtain ⟨σ1, H1, J, q⟩ := q
      exact ⟨σ1, H1, J.ofTry ok, q⟩
    | ret u =>
      obtain ⟨v, σ1, H1, J, r, q⟩ := q
      exact ⟨v, σ1, H1, J.ofTry ok, r, q⟩
  · -- the error is here
    obtain ⟨a, B, sI, pins2, σ1, H1, cls, d, rfl, J0, nb, up, sky, na, os, ag, C, rfl, rfl, hm, hyes⟩ := xx
    have J : Inv X pins σ1 H1 sI := J0.ofTry ok
    have sky1 : Sky B (X.env :: X.outer) a (Zc (.ref C) none) X.env.locals z.heap := hs ▸ sky
    show land (.ref a) z
    refine Sky.land Zc.steady (by rw [ok.frames, hs]) hf sky1 fun h3 fly up3 => ?_
    have K3 : Inv X pins σ1 H1 { z with heap := h3 } := J.landed nb fly.1 (up.trans up3) os ag
    obtain ⟨o3, v3, g3, z3, d3⟩ := fly.there
    have noFr : a ∉ frs (X.env :: X.outer) := fun hm => by
      obtain ⟨_, o, e, bad⟩ := fly.2.2.1.mem hm
      rw [g3] at e
      cases e
      exact bad _ d3
    have nL : a ≠ X.env.locals := fun q => noFr (List.mem_filterMap.mpr ⟨X.env, List.mem_cons_self, by rw [hf, q]⟩)
    have nF : a ∉ X.fs := fun hm => by
      obtain ⟨e, he, q⟩ := List.mem_filterMap.mp hm
      exact noFr (List.mem_filterMap.mpr ⟨e, List.mem_cons_of_mem _ he, q⟩)
    -- it is younger than the entry, and no pinned object
    have gone : sI.heap.get? a = none := by
      cases e : sI.heap.get? a with
      | none => rfl
      | some o =>
        have q := nb a o e (by rw [show (X.tr (X.pn ++ pins) land).stack = X.env :: X.outer from hs]; exact noFr)
        rw [fly.2.1] at q
        cases q
    have n0 : X.s_0.heap.get? a = none := by
      cases e : X.s_0.heap.get? a with
      | none => rfl
      | some o =>
        obtain ⟨o2, q⟩ := J.base.there a o e (by rw [hex]; exact List.not_mem_nil)
        rw [gone] at q
        cases q
    have nP : ∀ p ∈ X.pn ++ pins, p.1 ≠ a := fun p hp q => by
      have e := (J.pin p hp).1
      rw [q, gone] at e
      cases e
    have S3 := K3.suite g3 d3 na nL nF
    refine wpAny_handleBy_cons (codeAny_handlers_test ?_) (by intro q; cases q)
    have ty : PySem.W.Looks (model X.prog X.w) h3 (typeOf (.ref a)) (.ref C) := fun A Q E s k q => wpAny_typeOf_ref (k _ _ g3) (by rw [z3.1]; exact q)
    have named : ∀ {Q : Value → Shared → Prop} {E : Value → Shared → Prop}, Q c { z with heap := h3 } → wpAny (model X.prog X.w) (X.A.mark (some (.ref a))) (eval (.Name x np) X.env) Q E { z with heap := h3 } := fun {Q E} q => by
      obtain ⟨hg, hdb, hx | ⟨hx, hv, hnn⟩⟩ := hc
      · exact ld_glob (X := X.suite a ((a, o3) :: (X.pn ++ pins))) S3 hg hx q hdb
      · exact ld_blt (X := X.suite a ((a, o3) :: (X.pn ++ pins))) S3 hg hx hv q hnn hdb
    refine named ((PySem.W.exm_one (M := model X.prog X.w) K3.kIn ty hm).here (codeAny_handlers_suite_as (HandSPX.lands_againZ fly fun h4 fl4 up4 => ?_)))
    obtain ⟨o4, v4, g4, z4, d4⟩ := fl4.there
    have K4 : Inv X pins σ1 H1 { z with heap := h4 } := J.landed nb fl4.1 ((up.trans up3).trans up4) os ag
    have S4 := K4.suite g4 d4 na nL nF
    refine store_ok (X := X.suite a ((a, o4) :: (X.pn ++ pins))) (v := .ref a) S4 hN hi (.inl hln) rfl (fun s5 S5 => ?_) (.inr hln)
    refine wpAny_mono ((hsu a o4 (.ref C) none (X.pn ++ pins) z4 ⟨_, d4⟩).run [] s5 _ H1 _ S5 (hyes a na)) (fun f s6 hsp => ?_) (fun _ _ q => False.elim q)
    cases f with
    | next =>
      obtain ⟨σ6, H6, S6, q6⟩ := hsp
      have S7 : Inv X ((a, o4) :: pins) σ6 H6 s6 := (S6.unsuite ok).pins_of fun p hp => by
        rcases List.mem_cons.mp hp with e | hp
        · exact S6.pin p (by rw [e]; exact List.mem_append_left _ List.mem_cons_self)
        · exact S6.pin p (List.mem_append_left _ (List.mem_cons_of_mem _ (List.mem_append_right _ hp)))
      exact gone_ok S7 hN hi hln fun s7 J7 => ⟨_, _, track J7 n0 z4 d4 nP, q6⟩
    | brk =>
      obtain ⟨_, _, _, q⟩ := hsp
      exact False.elim q
    | cont =>
      obtain ⟨_, _, _, q⟩ := hsp
      exact False.elim q
    | ret u =>
      obtain ⟨_, _, _, _, _, q⟩ := hsp
      exact False.elim q
/-- isinstance(e, c), e an error that was kept -/
def rIsX (K : PySem.W.Frag) : List V → Hp → VK → Prop := fun xs H Q => ∃ (a C : Addr) (c : V) (cv : Value) (b : Bool), xs = [.ref a, c] ∧ H a = some (KX C a) ∧ ExcC K C ∧ (∀ u, RelV c u → u = cv) ∧ PySem.W.kitOne K (.ref C) cv = some b ∧ Q (.bl b) H
theorem call_isX : CallR X (.builtin "isinstance") (rIsX X.K) := by
  intro pins s σ H xs us Q I r h
  obtain ⟨a, D, c, cv, b, rfl, ha, C, hcv, e, q⟩ := h
  cases r with
  | cons rx rr =>
    cases rr with
    | cons rt rr =>
      cases rr
      cases rx
      have ec := hcv _ rt
      subst ec
      obtain ⟨⟨⟨oc, od, oda, osl⟩, vs, hget, ⟨h1, h2⟩, hv⟩, _⟩ := I.hok a _ ha
      dsimp only at h1 h2 hv
      subst h1 h2 hv
      exact PySem.W.kia_one (PySem.W.handS_kitx_exc C.hg C.hk C.hs C.hd C.ha C.hn C.ht C.hm) I.kIn ⟨hget, rfl, rfl, trivial⟩ e (fun z => nomatch z) fun tk => ⟨.bl b, H, I.kept (t' := tk) fun _ _ z => z, rfl, q⟩
/-- list.count of flat items -/
def rCntF (K : PySem.W.Frag) : V → List V → Hp → VK → Prop := fun x xs H Q => ∃ (p : Addr) (ys : List V) (y : V), x = .ref p ∧ xs = [y] ∧ SqL K H p ys ∧ flatV y = true ∧ ys.all flatV = true ∧ Q (.int (ys.countP fun z => eqV z y : Nat)) H
theorem count_rel {y : V} : ∀ {ys : List V} {us : List Value}, Vals ys us → ys.all flatV = true → us.countP (eqU y) = ys.countP fun z => eqV z y
  | [], [], _, _ => rfl
  | z :: ys, u :: us, .cons r t, f => by
    rw [List.all_cons, Bool.and_eq_true] at f
    rw [List.countP_cons, List.countP_cons, count_rel t f.2, eqU_of r f.1]
theorem mt_countB : MtR X "list.count" (rCntF X.K) := by
  intro pins s σ H x xs v us Q I rx rxs h
  obtain ⟨p, ys, y, rfl, rfl, hl, fy, fys, q⟩ := h
  cases rx
  obtain ⟨u, rfl, ru⟩ := rxs.one
  obtain ⟨its, rv, ⟨⟨cls, dd, data, sl⟩, n, ho, hc, hdn, hd⟩, hlen⟩ := I.list hl
  simp only at hc hd
  subst hc hd
  refine call_meets PySem.F.slot_list_count ⟨_, ho, rfl⟩ PySem.F.entry_list_count (PySem.F.args_list_count_2 _ _) (SeqAt.list_countAt p its.toArray n dd sl u (eqU y)) ⟨ho, fun u2 hu2 => mem_eqAt ru fy rv fys u2 (by simpa using hu2), ?_⟩
  have e : its.toArray.toList.countP (eqU y) = ys.countP fun z => eqV z y := count_rel rv fys
  refine ⟨.int (ys.countP fun z => eqV z y : Nat), H, I.tok _, ⟨s.toks, ?_⟩, q⟩
  show Value.int ((its.toArray.toList.countP (eqU y) : Nat) : Int) s.toks = _
  rw [e]
/-- o.f as a target among others -/
def gAttr (K : PySem.W.Frag) (to : TE) (f : Str) : TG := fun v σ H Q => to σ H fun x H1 => ∃ a C dx fs, x = .ref a ∧ H1 a = some (.ins C dx fs) ∧ Cls K C ∧ NoAttr K C f ∧ fs.length < 1000 ∧ Q σ (upd H1 a (.ins C dx (putF f v fs)))
theorem pg_attr {o : Expr} {f : Str} {to : TE} {pos : Pos} (ho : PE X o to) : PG X (.Attribute o f pos) (gAttr X.K to f) := by
  refine ⟨fun pins s σ H v u Q I r h => PySem.W.kas_attr (thn (ho.run pins s σ H _ I h) fun ov s1 hq => ?_)⟩
  obtain ⟨y, H1, I1, rx, a, C, dx, fs, rfl, ea, c, n, l, q⟩ := hq
  cases rx
  exact setattr_ok I1 ea c n l r fun s2 I2 => ⟨σ, _, I2, q⟩
/-- text * n -/
def rRepS : R2 := fun x y H Q => ∃ z k, x = .str z ∧ y = .int k ∧ MulOk z k ∧ Q (.str (Txt.mul z k)) H
theorem op_repS : OpR X (binaryOp .Mult) rRepS := by
  intro pins s σ H x y v u Q I rx ry h
  obtain ⟨z, k, rfl, rfl, hk, q⟩ := h
  obtain ⟨t, rfl⟩ := rx
  obtain ⟨t2, rfl⟩ := ry
  exact SB.mul hk fun t' k' => ⟨.str _, H, I.tok _, ⟨_, rfl⟩, q⟩
end
section
variable {X : Cx} {k : Nat} {C : Addr} {x m : Str} {ps : List Str} {sp : Sp} {E : L2.St → XK} {p pos apos : Pos} {e o : Expr} {es : List Expr} {ta : TE} {t : TA}
/-- calls in a try's body: what is let out is wished for at the slots -/
theorem pcS (D : Dn X.prog X.w X.K X.mg X.base k x ps sp) (hr : Room k X.A) (hx : ∀ σ, PassesAt (L2.CX X.prog X.w) X σ (E σ)) (ha : PA X (e :: es) t) (hg : Gl X x := by rfl) (hdb : (x == ("__debug__" : Str)) = false := by decide)
    (he : starEach (e :: es) X.env = (false, eval e X.env) :: starEach es X.env := by rfl) (hpl : (backTo pos (starEach es X.env)).any (·.1) = false := by rfl) : PE X (.Call (.Name x p) (e :: es) [] pos) (tCallS sp E t) := by
  obtain ⟨f, fd, F, b, hm, kp⟩ := D.ex
  exact pe_callS F hr hg hm kp b hx ha hdb he hpl
def tMethW (C : Addr) (m : Str) (sp : Sp) (E : L2.St → XK) (ta : TE) (t : TA) : TE := fun σ H Q => ta σ H fun x H1 => ∃ a dx fs, x = .ref a ∧ H1 a = some (.ins C dx fs) ∧ fs.lookup m = none ∧ t σ H1 fun vs H2 => sp (x :: vs) H2 Q (E σ)
theorem pmS {pl : Sem Bool} (M : Mt X.prog X.w X.K X.mg X.base k C m ps sp) (hr : Room k X.A) (hx : ∀ σ, PassesAt (L2.CX X.prog X.w) X σ (E σ)) (ho : PE X o ta) (ha : PA X (e :: es) t)
    (hst : starEach (e :: es) X.env = (false, eval e X.env) :: starEach es X.env := by rfl) (hpl : (backTo pos (starEach es X.env)).any (·.1) = false := by rfl)
    (ht : eval (.Call (.Attribute o m apos) (e :: es) [] pos) X.env = (do
      let ov ← eval o X.env
      standAt apos.atName
      let (f, first) ← holding [ov] (getMethod ov m pl)
      callWith pos f first (backTo pos (starEach (e :: es) X.env)) (backToKw pos (keywordEach [] X.env))) := by rfl) : PE X (.Call (.Attribute o m apos) (e :: es) [] pos) (tMethW C m sp E ta t) := by
  obtain ⟨f, fd, F, b, hm⟩ := M.ex
  refine ⟨fun pins s σ H Q I h => PySem.W.methodCall_KW (pl := pl) (thn (ho.run pins s σ H _ I h) fun u s1 hq => ?_) ht⟩
  obtain ⟨y, H1, I1, rx, a, dx, fs, rfl, ea, l, q⟩ := hq
  cases rx
  refine getmeth_ok I1 ea M.cl hm l (PySem.W.callWith_K (first := [.ref a]) (h₀ := X.base) I.ok.mod.kin hm.kp (thn (ha.run pos pins s1 σ H1 _ I1 q) fun us s2 hv => ?_) hst hpl)
  obtain ⟨vs, H2, I2, r, q2⟩ := hv
  exact ⟨I2.kIn, run_fnS (us := .ref a :: us) (vs := .ref a :: vs) F hr b (hx σ) I2 (.cons rfl r) q2⟩
/-- a new one, made in a try's body -/
def tMakeS (C : Addr) (sp : Sp) (E : L2.St → XK) (t : TA) : TE := fun σ H Q => t σ H fun vs H1 => ∀ x dx, H1 x = none → H1 dx = none → dx ≠ x →
  sp (.ref x :: vs) (upd (upd H1 dx (.own x)) x (.ins C dx [])) (fun v H2 => v = .non ∧ Q (.ref x) H2) (E σ)
theorem pnS (D : Mn X.prog X.w X.K X.mg X.base k x C ps sp) (hr : Room (k + 1) X.A) (hx : ∀ σ, PassesAt (L2.CX X.prog X.w) X σ (E σ)) (ha : PA X (e :: es) t) (hg : Gl X x := by rfl) (hdb : (x == ("__debug__" : Str)) = false := by decide)
    (he : starEach (e :: es) X.env = (false, eval e X.env) :: starEach es X.env := by rfl) (hpl : (backTo pos (starEach es X.env)).any (·.1) = false := by rfl) : PE X (.Call (.Name x p) (e :: es) [] pos) (tMakeS C sp E t) := by
  obtain ⟨f, fd, F, b, M⟩ := D.ex
  refine ⟨fun pins s0 σ H0 Q0 I0 h0 => ?_⟩
  refine wpAny_Call_Name_kw (ld_glob I0 hg D.gl ?_ hdb)
  refine PySem.W.callWith_K (h₀ := X.base) I0.ok.mod.kin M.kp (thn (ha.run pos pins s0 σ H0 _ I0 h0) fun us s ⟨vs, H, I, r, h⟩ => ⟨I.kIn, ?_⟩) he hpl
  have hq := h (s.heap.objs.size + 1) s.heap.objs.size (I.hok.fresh (Nat.le_succ _)) (I.hok.fresh (Nat.le_refl _)) (Nat.ne_of_lt (Nat.lt_succ_self _))
  have I2 := Inv.made (C := C) I
  have r2 : Vals (V.ref (s.heap.objs.size + 1) :: vs) (Value.ref (s.heap.objs.size + 1) :: us) := .cons rfl r
  have hl : (Value.ref (s.heap.objs.size + 1) :: us).length = ps.length := by
    have e := r2.length
    rw [F.len _ _ _ _ hq] at e
    exact e.symm
  have bt := b _ (Value.ref (s.heap.objs.size + 1) :: us) I2.kIn (by rw [List.append_nil]; exact hl)
  rw [List.append_nil] at bt
  refine wpAny_call (make_map (f := f) I.kIn M.makes M.init (beq_iff_eq.mp M.fn) (codeAny_mono (F.run _ X.stack _ _ ⟨Value.ref (s.heap.objs.size + 1) :: us, []⟩ (Value.ref (s.heap.objs.size + 1) :: us) _ _ (E σ) (hr.make C us [])
    (I2.env0.make C us []) bt r2 hq) fun r s' hq' => ?_))
  cases r with
  | error e => exact hx σ pins _ _ e s' I2 hq'
  | ok fl =>
    cases fl with
    | ret u =>
      obtain ⟨v, H', I3, rv, ev, q3⟩ := I2.after hq'
      subst ev
      exact ⟨rv, ⟨V.ref (s.heap.objs.size + 1), H', I3, rfl, q3⟩⟩
    | next => exact False.elim hq'
    | brk => exact False.elim hq'
    | cont => exact False.elim hq'
theorem pmS0 {pl : Sem Bool} (M : Mt X.prog X.w X.K X.mg X.base k C m ps sp) (hr : Room k X.A) (hx : ∀ σ, PassesAt (L2.CX X.prog X.w) X σ (E σ)) (ho : PE X o ta)
    (ht : eval (.Call (.Attribute o m apos) [] [] pos) X.env = (do
      let ov ← eval o X.env
      standAt apos.atName
      let (f, first) ← holding [ov] (getMethod ov m pl)
      callWith pos f first (backTo pos (starEach [] X.env)) (backToKw pos (keywordEach [] X.env))) := by rfl) : PE X (.Call (.Attribute o m apos) [] [] pos) (tMethW C m sp E ta tNil) := by
  obtain ⟨f, fd, F, b, hm⟩ := M.ex
  refine ⟨fun pins s σ H Q I h => PySem.W.methodCall_KW (pl := pl) (thn (ho.run pins s σ H _ I h) fun u s1 hq => ?_) ht⟩
  obtain ⟨y, H1, I1, rx, a, dx, fs, rfl, ea, l, q⟩ := hq
  cases rx
  exact getmeth_ok I1 ea M.cl hm l (PySem.W.callWith_K0 (first := [.ref a]) I1.kIn hm.kp (run_fnS (us := [.ref a]) (vs := [.ref a]) F hr b (hx σ) I1 (.cons rfl .nil) q))
end
end LH
open L2 LH PySem in
local macro_rules | `(tactic| walk_at "rd0") => `(tactic| simp only [L2.start, List.map_cons, List.map_nil, List.length_cons, List.length_nil, Nat.reduceAdd, Nat.reduceSub, List.replicate_succ, List.replicate_zero, List.cons_append, List.nil_append, List.append_nil])
open L2 LH PySem in
local macro_rules | `(tactic| walk_at "rd1") => `(tactic| dsimp only [tVar, tC, tOp, tUn, tAndV, tOrV, tNotV, tIf, tAnd, tOr, tNot, tB, tTest, tChain, tCons, tNil, tTup, tLst, tCB, tCall, tMeth, tMake, tFld, sFld, tSeq, tNext, tAsg, gName, tIfS, tRet, tRetN, tDrop, tM0, tM1, tBM, tBM0, rAppend, rPop, tLits, tCallS, tMethW, tMakeS, WE, wKeep, iStr, iRng1, iRng2, iList, iTup, tSl, tPart, tNoPart,
  rI, rI0, rU, rEq, rNe, rIxL, rIxT, rIxS, rSlS, rSlL])
open L2 LH PySem in
local macro_rules | `(tactic| walk_at "rd2") => `(tactic| simp only [List.getElem?_cons_zero, List.getElem?_cons_succ, List.set_cons_zero, List.set_cons_succ, List.cons_append, List.nil_append, List.append_nil, Option.some.injEq, V.int.injEq, V.str.injEq, V.bl.injEq, V.ref.injEq, List.cons.injEq, HO.ins.injEq, HO.lst.injEq, HO.tup.injEq, S_inj, ofS_inj, String.reduceEq, ex_eq, ex_eq', ex_eq0, tLc_eq, tFor_eq, iStr, iRng1, iRng2, iList, iTup, tVar, tC, tOp, tCons, tNil, tCB, tFld, tCallS, tMethW, tMakeS, WE, wKeep, tLits, tLst, tTup, wipe, rI, rI0, rU, rEq, rNe, scII, scSS, scBB, scNN, scNI, scNS, scNB, scIN, scSN, scBN, scIS, scSI, if_tt, if_ff, and_true, true_and, and_assoc, exists_and_left, exists_and_right, exists_const, cxK, decide_true, decide_false, Bool.not_true, Bool.not_false, eq_self_iff_true, Bool.true_eq_false, Bool.false_eq_true, if_true, if_false, reduceCtorEq, S_len, S_one, S_tl, decide_eq_true_eq, tUn, tAndV, tOrV, tNotV, tIf, tAnd, tOr, tNot, tB, tTest, tChain, tCall, tMeth, tMake, sFld, tSeq, tNext, tAsg, gName, tIfS, tRet, tRetN, tDrop, tM0, tM1, tBM, tBM0, rAppend, rPop, tSl, tPart, tNoPart, rIxL, rIxT, rIxS, rSlS, rSlL, rCat, tDisp, tPairs, tDGet, sDPut, gTup, gCons, gNil, gSub, gAttr, rSetL, tv])
local macro_rules | `(tactic| walk_at "rd") => `(tactic| ((try walk_at "rd0"); (try walk_at "rd1"); (try walk_at "rd2")))
/-! ## Words: signs, texts, places -/
namespace LH
open PySem PySem.Spec PyProof.Rows L2

def isSign (t : List Nat) : Bool := match t with
  | [c] => decide (32 ≤ c) && decide (c < 127) && decide (c ≠ 37)
  | _ => false
def okText (t : List Nat) : Bool := decide (t.length ≤ 400) && t.all fun c => isSign [c]
def letters : List Nat := ("abcdefghijklmnopqrstuvwxyzABCDEFGHIJKLMNOPQRSTUVWXYZ0123456789" : Str).cps.toList
def isLetC (c : Nat) : Bool := decide (c ∈ letters)
def isLet (t : List Nat) (i : Int) : Bool := decide (0 ≤ i) && (match t[i.toNat]? with
  | some c => isLetC c
  | none => false)
def spIsSign : Sp := fun vs H Q _ => ∃ t : List Nat, vs = [.str (S t)] ∧ t.length ≤ 100000 ∧ Q (.bl (isSign t)) H
/-- refused: an exception of that class -/
abbrev Rf (K : PySem.W.Frag) (c : Str) (E : XK) (H : Hp) : Prop := ∀ H', Same H H' → E (.ref (He.ga K c)) none H'
def spLookText (K : PySem.W.Frag) : Sp := fun vs H Q E => ∃ t : List Nat, vs = [.str (S t)] ∧ t.length ≤ 100000 ∧ if okText t = true then ∀ H', Same H H' → Q .non H' else Rf K "BadText" E H
def spLookPlace (K : PySem.W.Frag) : Sp := fun vs H Q E => ∃ (t : List Nat) (i : Int), vs = [.str (S t), .int i] ∧ t.length ≤ 100000 ∧ if 0 ≤ i ∧ i ≤ t.length then Q .non H else Rf K "BadPlace" E H
def spIsLetter : Sp := fun vs H Q _ => ∃ (t : List Nat) (i : Int), vs = [.str (S t), .int i] ∧ t.length ≤ 100000 ∧ Q (.bl (isLet t i)) H
theorem S_get0 (t : List Nat) : (S t).cps.getD 0 0 = t.getD 0 0 := by
  unfold S
  cases t <;> rfl
theorem isSign_lt {c : Nat} (h : isSign [c] = true) : c < 128 := by
  have e : (decide (32 ≤ c) && decide (c < 127) && decide (c ≠ 37)) = true := h
  simp only [Bool.and_eq_true, decide_eq_true_eq] at e
  omega
theorem okText_lt {t : List Nat} (h : okText t = true) : ∀ c ∈ t, c < 128 := fun c hc => by
  unfold okText at h
  exact isSign_lt (List.all_eq_true.mp (Bool.and_eq_true_iff.mp h).2 c hc)
theorem okText_len {t : List Nat} (h : okText t = true) : t.length ≤ 400 := by
  unfold okText at h
  exact of_decide_eq_true (Bool.and_eq_true_iff.mp h).1
section
variable {P : Program} {w : World} {K : PySem.W.Frag} {mg : Str → Option Value} {base : Heap}
theorem d_is_sign (T : TX K mg) : Dn P w K mg base 1 "is_sign" p_is_sign spIsSign := by
  refine dn_of (fn_is_sign T) (g_is_sign T) sc_is_sign bd_is_sign (fun vs H Q E h => ?_) (fun cdv A outer s H vs Q E hr h => ?_)
  · obtain ⟨t, rfl, _⟩ := h
    rfl
  · obtain ⟨t, rfl, ht, k⟩ := h
    refine ⟨_, (pss_one (ps_ret (pe_and (pe_cmpR op_eq (pe_callB call_len_str (by rfl) (b_len T) boot_len (pa_cons (pv 0) pa_nil)) pe_int (nomark _)) (pe_and (pe_chain op_le op_lt pe_int (pe_callB call_ord (by rfl) (b_ord T) (by decide +kernel) (pa_cons (pv 0) pa_nil)) pe_int) (pe_one (pe_cmpR op_ne (pe_callB call_ord (by rfl) (b_ord T) (by decide +kernel) (pa_cons (pv 0) pa_nil)) pe_int (nomark _))))))), ?_⟩
    walk_at "rd"
    refine ⟨sline ht, ?_⟩
    match t, k with
    | [], k => exact k
    | [c], k =>
      rw [S_get0, if_pos (show (([c].length : Nat) : Int) = 1 from rfl)]
      refine ⟨rfl, ?_⟩
      have e : isSign [c] = (decide (32 ≤ c) && decide (c < 127) && decide (c ≠ 37)) := rfl
      rw [e] at k
      have ec : [c].getD 0 0 = c := rfl
      rw [ec]
      by_cases h1 : 32 ≤ c
      · rw [if_pos (show (32 : Int) ≤ (c : Int) by omega)]
        by_cases h2 : c < 127
        · rw [if_pos (show (c : Int) < 127 by omega)]
          refine ⟨rfl, ?_⟩
          have e2 : (decide (32 ≤ c) && decide (c < 127) && decide (c ≠ 37)) = !decide ((c : Int) = 37) := by
            rw [decide_eq_true h1, decide_eq_true h2]
            by_cases h3 : c = 37
            · subst h3; rfl
            · rw [decide_eq_true h3, decide_eq_false (show ¬ (c : Int) = 37 by omega)]; rfl
          rw [e2] at k
          exact k
        · rw [if_neg (show ¬ (c : Int) < 127 by omega)]
          rw [decide_eq_false h2, Bool.and_false, Bool.false_and] at k
          exact k
      · rw [if_neg (show ¬ (32 : Int) ≤ (c : Int) by omega)]
        rw [decide_eq_false h1, Bool.false_and, Bool.false_and] at k
        exact k
    | a :: b :: r, k =>
      rw [if_neg (show ¬ (((a :: b :: r).length : Nat) : Int) = 1 by rw [List.length_cons, List.length_cons]; omega)]
      exact k
theorem d_look_place (T : TX K mg) : Dn P w K mg base 1 "look_place" p_look_place (spLookPlace K) := by
  refine dn_of (fn_look_place T) (g_look_place T) sc_look_place bd_look_place (fun vs H Q E h => ?_) (fun cdv A outer s H vs Q E hr h => ?_)
  · obtain ⟨t, i, rfl, _⟩ := h
    rfl
  · obtain ⟨t, i, rfl, ht, k⟩ := h
    refine ⟨_, (pss_one (ps_if (pt_not (pt_chain op_le op_le pe_int (pv 1) (pe_callB call_len_str (by rfl) (b_len T) boot_len (pa_cons (pv 0) pa_nil)))) (pss_one (ps_raise rfl (takes_of rfl rfl rfl rfl) (pmk_own PySem.F.excBase_ValueError (xc_BadPlace T).1 (g_BadPlace T) (xc_BadPlace T).2.1 (raises_own (xc_BadPlace T).2.2.1 (xc_BadPlace T).2.2.2) rfl))) pss_nil)), ?_⟩
    walk_at "rd"
    by_cases h0 : 0 ≤ i
    · rw [if_pos h0]
      refine ⟨sline ht, ?_⟩
      by_cases h1 : i ≤ (t.length : Int)
      · rw [if_pos ⟨h0, h1⟩] at k
        rw [decide_eq_true h1]
        exact k
      · rw [if_neg fun z => h1 z.2] at k
        rw [decide_eq_false h1]
        exact k H (Same.refl H)
    · rw [if_neg h0]
      rw [if_neg fun z => h0 z.1] at k
      exact k H (Same.refl H)
theorem d_look_text (T : TX K mg) : Dn P w K mg base 2 "look_text" p_look_text (spLookText K) := by
  refine dn_of (fn_look_text T) (g_look_text T) sc_look_text bd_look_text (fun vs H Q E h => ?_) (fun cdv A outer s H vs Q E hr h => ?_)
  · obtain ⟨t, rfl, _⟩ := h
    rfl
  · obtain ⟨t, rfl, ht, k⟩ := h
    refine ⟨_, (pss_one (ps_if (PW.pt (pw_or (pt_cmpR op_gt (pe_callB call_len_str (by rfl) (b_len T) boot_len (pa_cons (pv 0) pa_nil)) (pgi (i_MOST_TEXT T)) (nomark _)) (pw_or1 (pt_not (pt_val (pe_callB (cr_all rfl) (by rfl) (b_all T) (by decide +kernel) (pa_cons (pe_lc (own := [("sign", 1)]) rfl sc_look_text.nd (pi_str (pv 0)) (blkOk_by (own := [("sign", 1)]) (N := n_look_text) (sc := defScope s_look_text) (by decide +kernel)) (fun _ _ _ _ _ => (pg_name (i := 1) sc_look_text.nd rfl (Or.inl rfl))) (fun _ _ _ _ _ => pts_nil) (fun _ _ _ _ _ => (pc (d_is_sign T) (hr.mono (by decide)) px0 (pa_cons (pv 1) pa_nil)))) pa_nil))))))) (pss_one (ps_raise rfl (takes_of rfl rfl rfl rfl) (pmk_own PySem.F.excBase_ValueError (xc_BadText T).1 (g_BadText T) (xc_BadText T).2.1 (raises_own (xc_BadText T).2.2.1 (xc_BadText T).2.2.2) rfl))) pss_nil)), ?_⟩
    walk_at "rd"
    refine ⟨sline ht, ?_⟩
    unfold okText at k
    by_cases h4 : (400 : Int) < (t.length : Int)
    · rw [if_pos h4]
      rw [decide_eq_false (by omega), Bool.false_and, if_neg Bool.false_ne_true] at k
      exact k H (Same.refl H)
    · rw [if_neg h4]
      rw [decide_eq_true (show t.length ≤ 400 by omega), Bool.true_and] at k
      refine lcb_strM t (fun c => .bl (isSign [c])) (by omega) (fun c H' hc s Y hY => ?_) (fun D H' hD s e => ?_)
      · walk_at "rd"
        exact ⟨[c], rfl, by simp, hY H' (Same.refl H')⟩
      · refine ⟨D, t.map fun c => isSign [c], rfl, sq_of (by rw [e, List.map_map]; rfl), _, rfl, ?_⟩
        have ea : (t.map fun c => isSign [c]).all id = t.all fun c => isSign [c] := by rw [List.all_map]; rfl
        rw [ea]
        cases ho : t.all fun c => isSign [c] with
        | true =>
          rw [ho] at k
          exact k H' s
        | false =>
          rw [ho] at k
          exact k H' s
end
end LH
/-! ## D1: the law's draws; how a refusal is told -/
namespace LH
open PySem PySem.Spec PyProof.Rows L2
/-- the script at a (it is no town), the town at b: its length the draws so far, at most z -/
structure Dr (K : PySem.W.Frag) (H : Hp) (a b : Addr) (ns : List Int) (z : Nat) : Prop where
  scr : (Rd H a (.lst (ns.map V.int)) ∧ a ≠ b) ∨ ∀ H' : Hp, SqL K H' a (ns.map V.int)
  len : ns.length ≤ 63
  tow : ∃ zs, H b = some (.lst zs) ∧ zs.length ≤ z
theorem Dr.sql {K : PySem.W.Frag} {H : Hp} {a b : Addr} {ns : List Int} {z : Nat} (d : Dr K H a b ns z) : SqL K H a (ns.map V.int) := d.scr.elim (fun q => .inl q.1) fun q => q H
theorem Dr.mono {K : PySem.W.Frag} {H : Hp} {a b : Addr} {ns : List Int} {z z' : Nat} (d : Dr K H a b ns z) (h : z ≤ z') : Dr K H a b ns z' :=
  ⟨d.scr, d.len, let ⟨zs, e, l⟩ := d.tow; ⟨zs, e, Nat.le_trans l h⟩⟩
/-- carried over what leaves the town and the script -/
theorem Dr.fx {K : PySem.W.Frag} {F : List Addr} {H H' : Hp} {a b : Addr} {ns : List Int} {z : Nat} (d : Dr K H a b ns z) (x : Fx F H H') (na : (∃ u, Rd H a u) → a ∉ F) (nb : b ∉ F) : Dr K H' a b ns z :=
  ⟨d.scr.elim (fun q => .inl ⟨x.rd q.1 (na ⟨_, q.1⟩), q.2⟩) .inr, d.len, let ⟨zs, e, l⟩ := d.tow; ⟨zs, x.at e nb, l⟩⟩
theorem Dr.same {K : PySem.W.Frag} {H H' : Hp} {a b : Addr} {ns : List Int} {z : Nat} (d : Dr K H a b ns z) (s : Same H H') : Dr K H' a b ns z := d.fx (F := []) (Fx.of s) (fun _ => List.not_mem_nil) List.not_mem_nil
theorem Dr.there {K : PySem.W.Frag} {H : Hp} {a b : Addr} {ns : List Int} {z : Nat} (d : Dr K H a b ns z) : H b ≠ none := by
  obtain ⟨zs, e, _⟩ := d.tow
  rw [e]
  exact fun q => nomatch q
/-- the script is a constant of the module -/
abbrev Cst (K : PySem.W.Frag) (a : Addr) (ns : List Int) : Prop := ∀ H' : Hp, SqL K H' a (ns.map V.int)
/-- the script is none of these -/
def Ap (K : PySem.W.Frag) (a : Addr) (ns : List Int) (F : List Addr) : Prop := Cst K a ns ∨ a ∉ F
theorem Dr.new {K : PySem.W.Frag} {H : Hp} {a b c : Addr} {ns : List Int} {z : Nat} (d : Dr K H a b ns z) (h : H c = none) : Ap K a ns [c] := by
  rcases d.scr with ⟨q, _⟩ | q
  · refine .inr fun m => ?_
    rw [List.mem_singleton] at m
    rw [← m] at h
    rcases q with q | ⟨o, q⟩
    · rw [h] at q
      cases q
    · rw [h] at q
      cases q
  · exact .inl q
theorem Ap.cons {K : PySem.W.Frag} {a c : Addr} {ns : List Int} {F : List Addr} (h : Ap K a ns [c]) (g : Ap K a ns F) : Ap K a ns (c :: F) := by
  rcases h with h | h
  · exact .inl h
  · rcases g with g | g
    · exact .inl g
    · refine .inr fun m => ?_
      rcases List.mem_cons.mp m with m | m
      · exact h (by rw [m]; exact List.mem_cons_self)
      · exact g m
theorem Ap.mono {K : PySem.W.Frag} {a : Addr} {ns : List Int} {F G : List Addr} (h : Ap K a ns G) (s : ∀ c ∈ F, c ∈ G) : Ap K a ns F := h.imp id fun n m => n (s a m)
theorem Dr.fy {K : PySem.W.Frag} {F : List Addr} {H H' : Hp} {a b : Addr} {ns : List Int} {z : Nat} (d : Dr K H a b ns z) (x : Fx F H H') (na : Ap K a ns F) (nb : b ∉ F) : Dr K H' a b ns z := by
  refine ⟨?_, d.len, let ⟨zs, e, l⟩ := d.tow; ⟨zs, x.at e nb, l⟩⟩
  rcases na with na | na
  · exact .inr na
  · exact d.scr.elim (fun q => .inl ⟨x.rd q.1 na, q.2⟩) .inr
theorem Dr.ne {K : PySem.W.Frag} {H : Hp} {a b c : Addr} {ns : List Int} {z : Nat} (d : Dr K H a b ns z) (h : H c = none) : b ≠ c := fun e => by
  obtain ⟨zs, q, _⟩ := d.tow
  rw [e, h] at q
  cases q
/-- a script, a new town -/
theorem Dr.start {K : PySem.W.Frag} {H : Hp} {a p : Addr} {ns : List Int} (hS : SqL K H a (ns.map V.int)) (hl : ns.length ≤ 63) (hp : H p = none) : Dr K (upd H p (.lst [])) a p ns 0 := by
  refine ⟨?_, hl, [], upd_same, Nat.le_refl _⟩
  rcases hS with h | h
  · have ne : a ≠ p := by
      rcases h with h | ⟨o, h⟩
      · exact ne_of_none h hp
      · exact ne_of_none h hp
    exact .inl ⟨(Fx.of (F := []) (same_new hp)).rd h List.not_mem_nil, ne⟩
  · exact .inr fun _ => .inr h
def spCell (K : PySem.W.Frag) : Sp := fun vs H Q _ => ∃ (a : Addr) (ns : List Int) (k : Int), vs = [.ref a, .int k] ∧ SqL K H a (ns.map V.int) ∧ ns.length ≤ 63 ∧ 0 ≤ k ∧ ∀ i : Int, Q (.int i) H
def spMix (K : PySem.W.Frag) : Sp := fun vs H Q _ => ∃ (a : Addr) (ns : List Int) (k : Int), vs = [.ref a, .int k] ∧ SqL K H a (ns.map V.int) ∧ ns.length ≤ 63 ∧ 0 ≤ k ∧ k ≤ 100000 ∧ ∀ i : Int, 0 ≤ i → i < 4294967231 → Q (.int i) H
def spDraw (K : PySem.W.Frag) : Sp := fun vs H Q _ => ∃ (a b : Addr) (m : Int) (ns : List Int) (z : Nat), vs = [.ref a, .ref b, .int m] ∧ Dr K H a b ns z ∧ z < 90000 ∧ 0 < m ∧ m < 1000000 ∧
  ∀ (d : Int) (H' : Hp), 0 ≤ d → d < m → Fx [b] H H' → Dr K H' a b ns (z + 1) → Q (.int d) H'
def spPick (K : PySem.W.Frag) : Sp := fun vs H Q _ => ∃ (a b l : Addr) (xs : List V) (ns : List Int) (z : Nat), vs = [.ref a, .ref b, .ref l] ∧ Dr K H a b ns z ∧ z < 90000 ∧ SqL K H l xs ∧ l ≠ b ∧ xs ≠ [] ∧ xs.length ≤ 1000 ∧
  ∀ (j : Nat) (v : V) (H' : Hp), xs[j]? = some v → Fx [b] H H' → Dr K H' a b ns (z + 1) → Q v H'
section
variable {P : Program} {w : World} {K : PySem.W.Frag} {mg : Str → Option Value} {base : Heap}
theorem d_l_cell (T : TX K mg) : Dn P w K mg base 1 "_law_cell" p_l_cell (spCell K) := by
  refine dn_of (fn_l_cell T) (g__law_cell T) sc_l_cell bd_l_cell (fun vs H Q E h => ?_) (fun cdv A outer s H vs Q E hr h => ?_)
  · obtain ⟨a, ns, k, rfl, _⟩ := h
    rfl
  · obtain ⟨a, ns, k, rfl, hS, hl, hk, q⟩ := h
    refine ⟨_, (pss_cons (ps_if (pt_truth (pv 0) (by intro _; rfl)) (pss_one (ps_ret (pe_ix ix_list (pv 0) (pe_op op_modN (pv 1) (pe_callB call_len_seq (by rfl) (b_len T) boot_len (pa_cons (pv 0) pa_nil))) (fun _ _ => rfl)))) pss_nil) (pss_one (ps_ret pe_int))), ?_⟩
    walk_at "rd"
    cases ns with
    | nil => exact ⟨false, .inl ⟨_, hS, rfl⟩, q 0⟩
    | cons n r =>
      refine ⟨true, .inl ⟨_, hS, rfl⟩, ?_⟩
      rw [if_pos rfl]
      refine ⟨_, .inl hS, by rw [List.length_map, List.length_cons]; omega, _, hS, ?_⟩
      have hp : (0 : Int) < ((((n :: r).map V.int).length : Nat) : Int) := by rw [List.length_map, List.length_cons]; omega
      generalize hm : k.fmod (((n :: r).map V.int).length : Nat) = m
      rw [Int.fmod_eq_emod_of_nonneg _ (by omega)] at hm
      have h1 : 0 ≤ m := by rw [← hm]; exact Int.emod_nonneg _ (by omega)
      have h2 : m < (((n :: r).map V.int).length : Nat) := by rw [← hm]; exact Int.emod_lt_of_pos _ hp
      rw [atI_in h1 h2, List.getElem?_map]
      have h3 : m.toNat < (n :: r).length := by
        rw [List.length_map] at h2
        omega
      rw [List.getElem?_eq_getElem h3]
      exact ⟨_, rfl, q _⟩
theorem d_l_mix (T : TX K mg) : Dn P w K mg base 2 "_law_mix" p_l_mix (spMix K) := by
  refine dn_of (fn_l_mix T) (g__law_mix T) sc_l_mix bd_l_mix (fun vs H Q E h => ?_) (fun cdv A outer s H vs Q E hr h => ?_)
  · obtain ⟨a, ns, k, rfl, _⟩ := h
    rfl
  · obtain ⟨a, ns, k, rfl, hS, hl, hk, hk2, q⟩ := h
    refine ⟨_, (pss_cons (ps_set (i := 2) sc_l_mix.nd rfl (Or.inl rfl) (pe_op op_modN (pe_op op_add (pc (d_l_cell T) (hr.mono (by decide)) px (pa_cons (pv 0) (pa_cons (pv 1) pa_nil))) (pe_op op_mul pe_int (pe_op op_add (pv 1) pe_int))) pe_int)) (pss_cons (ps_set (i := 2) sc_l_mix.nd rfl (Or.inl rfl) (pe_op op_modN (pe_op op_pow (pv 2) pe_int) pe_int)) (pss_one (ps_ret (pe_op op_modN (pe_op op_add (pe_op op_mul (pe_op op_fdivN (pv 2) pe_int) pe_int) (pv 2)) pe_int))))), ?_⟩
    walk_at "rd"
    refine ⟨a, ns, k, rfl, hS, hl, hk, fun i => ?_⟩
    have pos : ∀ (x m : Int), 0 < m → 0 ≤ x.fmod m ∧ x.fmod m < m := fun x m hm => by
      rw [Int.fmod_eq_emod_of_nonneg _ (by omega)]
      exact ⟨Int.emod_nonneg _ (by omega), Int.emod_lt_of_pos _ hm⟩
    refine ⟨.inl (by omega), _, rfl, by omega, ?_⟩
    obtain ⟨a1, a2⟩ := pos (i + 104729 * (k + 1)) 4294967291 (by omega)
    generalize (i + 104729 * (k + 1)).fmod 4294967291 = u at a1 a2 ⊢
    refine ⟨⟨by omega, by omega, by omega⟩, by omega, ?_⟩
    obtain ⟨b1, b2⟩ := pos (u ^ Int.toNat 5) 4294967279 (by omega)
    generalize (u ^ Int.toNat 5).fmod 4294967279 = v at b1 b2 ⊢
    refine ⟨⟨by omega, by decide⟩, ?_⟩
    have e : v.fdiv 64 = v / 64 := Int.fdiv_eq_ediv_of_nonneg _ (by omega)
    rw [e]
    refine ⟨.inl (by omega), by omega, ?_⟩
    obtain ⟨c1, c2⟩ := pos (v / 64 * 69621 + v) 4294967231 (by omega)
    exact q _ c1 c2
theorem d_l_draw (T : TX K mg) : Dn P w K mg base 3 "_law_draw" p_l_draw (spDraw K) := by
  refine dn_of (fn_l_draw T) (g__law_draw T) sc_l_draw bd_l_draw (fun vs H Q E h => ?_) (fun cdv A outer s H vs Q E hr h => ?_)
  · obtain ⟨a, b, m, ns, z, rfl, _⟩ := h
    rfl
  · obtain ⟨a, b, m, ns, z, rfl, D, hz, hm, hm2, q⟩ := h
    refine ⟨_, (pss_cons (ps_expr (pe_bm PySem.F.plainAttrs_list PySem.F.slot_list_append PySem.F.type_list_append mt_append (pv 1) (pa_cons pe_int pa_nil))) (pss_one (ps_ret (pe_op op_modN (pe_op op_fdivN (pc (d_l_mix T) (hr.mono (by decide)) px (pa_cons (pv 0) (pa_cons (pe_callB call_len_seq (by rfl) (b_len T) boot_len (pa_cons (pv 1) pa_nil)) pa_nil))) pe_int) (pv 2))))), ?_⟩
    walk_at "rd"
    obtain ⟨zs, et, lt⟩ := D.tow
    refine ⟨.inl ⟨rfl, _, sq_of et⟩, zs, et, slt (by omega), _, .inl (sq_of upd_same), ?_⟩
    have nl : ((zs ++ [V.int 0]).length : Nat) ≤ z + 1 := by rw [List.length_append]; simp; omega
    have hf : Fx [b] H (upd H b (.lst (zs ++ [.int 0]))) := Fx.upd List.mem_cons_self (nt_lst et)
    have D' : Dr K (upd H b (.lst (zs ++ [.int 0]))) a b ns (z + 1) := ⟨D.scr.elim (fun q => .inl ⟨hf.rd q.1 (by simp [q.2]), q.2⟩) .inr, D.len, _, upd_same, nl⟩
    refine ⟨a, ns, _, rfl, D'.sql, D.len, by omega, by omega, fun i h0 h1 => ⟨_, rfl, ⟨by omega, by decide⟩, by omega, ?_⟩⟩
    rw [Int.fmod_eq_emod_of_nonneg _ (by omega)]
    exact q _ _ (Int.emod_nonneg _ (by omega)) (Int.emod_lt_of_pos _ hm) hf D'
theorem d_l_pick (T : TX K mg) : Dn P w K mg base 4 "_law_pick" p_l_pick (spPick K) := by
  refine dn_of (fn_l_pick T) (g__law_pick T) sc_l_pick bd_l_pick (fun vs H Q E h => ?_) (fun cdv A outer s H vs Q E hr h => ?_)
  · obtain ⟨a, b, l, xs, ns, z, rfl, _⟩ := h
    rfl
  · obtain ⟨a, b, l, xs, ns, z, rfl, D, hz, hL, nl, hx, hx2, q⟩ := h
    refine ⟨_, (pss_one (ps_ret (pe_ix ix_list (pv 2) (pc (d_l_draw T) (hr.mono (by decide)) px (pa_cons (pv 0) (pa_cons (pv 1) (pa_cons (pe_callB call_len_seq (by rfl) (b_len T) boot_len (pa_cons (pv 2) pa_nil)) pa_nil)))) (fun _ _ => rfl)))), ?_⟩
    walk_at "rd"
    have hp : 0 < xs.length := List.length_pos_iff.mpr hx
    refine ⟨_, .inl hL, a, b, _, ns, z, rfl, D, hz, by omega, by omega, fun d H' h0 h1 B D' => ⟨_, _, rfl, B.sql hL (by simp [nl]), ?_⟩⟩
    rw [atI_in h0 h1, List.getElem?_eq_getElem (by omega)]
    exact ⟨_, rfl, q d.toNat _ _ (List.getElem?_eq_getElem (by omega)) B D'⟩
/-- the errors and how they are told -/
def kinds : List (Str × Str) := [("BadKey", "key"), ("BadText", "text"), ("BadSize", "size"), ("BadPlace", "place")]
def spRefusal (K : PySem.W.Frag) : Sp := fun vs H Q _ => ∃ (x : Addr) (c d : Str), vs = [.ref x] ∧ (c, d) ∈ kinds ∧ H x = some (KX (He.ga K c) x) ∧
  ∀ p H', H p = none → Same H H' → H' p = some (.tup [.str "refused", .str d]) → Q (.ref p) H'
/-- the four answers, one of them true -/
structure Ans4 (bs : List Bool) (j : Nat) : Prop where
  len : bs.length = 4
  cnt : (bs.map V.bl).countP (fun z => eqV z (.bl true)) = 1
  at_ : bs[j]? = some true
  no : ∀ m, m < j → bs[m]? = some false
theorem d_l_refusal (T : TX K mg) : Dn P w K mg base 1 "_law_refusal" p_l_refusal (spRefusal K) := by
  refine dn_of (fn_l_refusal T) (g__law_refusal T) sc_l_refusal bd_l_refusal (fun vs H Q E h => ?_) (fun cdv A outer s H vs Q E hr h => ?_)
  · obtain ⟨x, c, d, rfl, _⟩ := h
    rfl
  · obtain ⟨x, c, d, rfl, hc, hx, k⟩ := h
    refine ⟨_, (pss_cons (ps_if (pt_cmpR op_isN (pv 0) pe_non (nomark _)) (pss_one (ps_ret (pe_tup (pa_cons pe_str pa_nil)))) pss_nil) (pss_cons (ps_set (i := 1) sc_l_refusal.nd rfl (Or.inl rfl) (pe_lst (pa_cons (pe_callB call_isX (by rfl) (b_isinstance T) (by decide +kernel) (pa_cons (pv 0) (pa_cons (pgr (g_BadKey T)) pa_nil))) (pa_cons (pe_callB call_isX (by rfl) (b_isinstance T) (by decide +kernel) (pa_cons (pv 0) (pa_cons (pgr (g_BadText T)) pa_nil))) (pa_cons (pe_callB call_isX (by rfl) (b_isinstance T) (by decide +kernel) (pa_cons (pv 0) (pa_cons (pgr (g_BadSize T)) pa_nil))) pa_nil))))) (pss_cons (ps_expr (pe_bm PySem.F.plainAttrs_list PySem.F.slot_list_append PySem.F.type_list_append mt_append (pv 1) (pa_cons (pe_callB call_isX (by rfl) (b_isinstance T) (by decide +kernel) (pa_cons (pv 0) (pa_cons (pgr (g_BadPlace T)) pa_nil))) pa_nil))) (pss_cons (ps_if (PW.pt (pw_or (pt_cmpR op_ne (pe_bm PySem.F.plainAttrs_list PySem.F.slot_list_count PySem.F.type_list_count mt_countB (pv 1) (pa_cons pe_bl pa_nil)) pe_int (nomark _)) (pw_or1 (pt_not (pt_val (pe_callB call_isX (by rfl) (b_isinstance T) (by decide +kernel) (pa_cons (pv 0) (pa_cons (pe_bltn (v := .ty "ValueError") rfl (b_ValueError T) (by decide +kernel) rfl) pa_nil)))))))) (pss_one (ps_ret (pe_tup (pa_cons pe_str pa_nil)))) pss_nil) (pss_one (ps_ret (pe_tup (pa_cons pe_str (pa_cons (pe_ix ix_list (pe_lst (pa_lits rfl)) (pe_bm PySem.F.plainAttrs_list PySem.F.slot_list_index PySem.F.type_list_index mt_index (pv 1) (pa_cons pe_bl pa_nil)) (fun _ _ => rfl)) pa_nil))))))))), ?_⟩
    walk_at "rd"
    have facts : ∃ (b0 b1 b2 b3 : Bool) (j : Nat), ExcC K (He.ga K c) ∧ PySem.W.kitOne K (.ref (He.ga K c)) (.ref (He.ga K "BadKey")) = some b0 ∧ PySem.W.kitOne K (.ref (He.ga K c)) (.ref (He.ga K "BadText")) = some b1 ∧
        PySem.W.kitOne K (.ref (He.ga K c)) (.ref (He.ga K "BadSize")) = some b2 ∧ PySem.W.kitOne K (.ref (He.ga K c)) (.ref (He.ga K "BadPlace")) = some b3 ∧ PySem.W.kitOne K (.ref (He.ga K c)) (.type "ValueError") = some true ∧
        Ans4 [b0, b1, b2, b3] j ∧ [V.str "key", .str "text", .str "size", .str "place"][j]? = some (.str d) := by
      have hc2 : (c, d) = (("BadKey", "key") : Str × Str) ∨ (c, d) = (("BadText", "text") : Str × Str) ∨ (c, d) = (("BadSize", "size") : Str × Str) ∨ (c, d) = (("BadPlace", "place") : Str × Str) := by
        simpa [kinds] using hc
      rcases hc2 with e | e | e | e
      · cases e
        exact ⟨_, _, _, _, 0, ex_BadKey T, ki_BadKey_BadKey T, ki_BadKey_BadText T, ki_BadKey_BadSize T, ki_BadKey_BadPlace T, ki_BadKey_ValueError T, ⟨rfl, rfl, rfl, fun m hm => by omega⟩, rfl⟩
      · cases e
        exact ⟨_, _, _, _, 1, ex_BadText T, ki_BadText_BadKey T, ki_BadText_BadText T, ki_BadText_BadSize T, ki_BadText_BadPlace T, ki_BadText_ValueError T, ⟨rfl, rfl, rfl, fun m hm => match m, hm with | 0, _ => rfl⟩, rfl⟩
      · cases e
        exact ⟨_, _, _, _, 2, ex_BadSize T, ki_BadSize_BadKey T, ki_BadSize_BadText T, ki_BadSize_BadSize T, ki_BadSize_BadPlace T, ki_BadSize_ValueError T, ⟨rfl, rfl, rfl, fun m hm => match m, hm with | 0, _ => rfl | 1, _ => rfl⟩, rfl⟩
      · cases e
        exact ⟨_, _, _, _, 3, ex_BadPlace T, ki_BadPlace_BadKey T, ki_BadPlace_BadText T, ki_BadPlace_BadSize T, ki_BadPlace_BadPlace T, ki_BadPlace_ValueError T, ⟨rfl, rfl, rfl, fun m hm => match m, hm with | 0, _ => rfl | 1, _ => rfl | 2, _ => rfl⟩, rfl⟩
    obtain ⟨b0, b1, b2, b3, j, hC, k0, k1, k2, k3, kV, A, hd⟩ := facts
    refine ⟨x, _, _, _, b0, rfl, hx, hC, fun _ r => r, k0, x, _, _, _, b1, rfl, hx, hC, fun _ r => r, k1, x, _, _, _, b2, rfl, hx, hC, fun _ r => r, k2, (by show 3 ≤ sizeLine; decide), fun p hp => ?_⟩
    have n1 : x ≠ p := ne_of_none hx hp
    have h1 : upd H p (.lst [.bl b0, .bl b1, .bl b2]) x = some (KX (He.ga K c) x) := by rw [upd_ne n1]; exact hx
    refine ⟨.inl ⟨rfl, _, sq_of upd_same⟩, x, _, _, _, b3, rfl, h1, hC, fun _ r => r, k3, _, upd_same, (by show 3 < sizeLine; decide), ?_⟩
    have h2 : upd (upd H p (.lst [.bl b0, .bl b1, .bl b2])) p (.lst ([.bl b0, .bl b1, .bl b2] ++ [.bl b3])) x = some (KX (He.ga K c) x) := by rw [upd_ne n1]; exact h1
    have flat : ([V.bl b0, .bl b1, .bl b2] ++ [V.bl b3]).all flatV = true := rfl
    refine ⟨.inl ⟨rfl, _, sq_of upd_same⟩, p, _, _, rfl, rfl, sq_of upd_same, rfl, flat, rfl, ?_⟩
    have ec : ([V.bl b0, .bl b1, .bl b2] ++ [V.bl b3]).countP (fun z => eqV z (.bl true)) = 1 := A.cnt
    rw [ec, if_neg (by decide)]
    refine ⟨x, _, _, _, true, rfl, h2, hC, fun _ r => r, kV, _, rfl, ?_⟩
    rw [if_neg (by decide)]
    refine ⟨by show 4 ≤ sizeLine; decide, fun p1 hp1 => ?_⟩
    have n2 : p ≠ p1 := ne_of_none upd_same hp1
    have hb : (upd (upd (upd H p (.lst [.bl b0, .bl b1, .bl b2])) p (.lst ([.bl b0, .bl b1, .bl b2] ++ [.bl b3]))) p1 (.lst ([("key" : Str), "text", "size", "place"].map V.str))) p = some (.lst ([.bl b0, .bl b1, .bl b2] ++ [.bl b3])) := by
      rw [upd_ne n2]
      exact upd_same
    have hz : ([V.bl b0, .bl b1, .bl b2] ++ [V.bl b3])[j]? = some (.bl true) := by
      have e := A.at_
      show ([b0, b1, b2, b3].map V.bl)[j]? = some (.bl true)
      rw [List.getElem?_map, e]
      rfl
    have hno : ∀ (m : Nat) (z : V), m < j → ([V.bl b0, .bl b1, .bl b2] ++ [V.bl b3])[m]? = some z → eqV z (.bl true) = false := fun m z hm e => by
      have e2 : ([b0, b1, b2, b3].map V.bl)[m]? = some z := e
      rw [List.getElem?_map, A.no m hm] at e2
      cases e2
      rfl
    have hj : j < 4 := by
      have := (List.getElem?_eq_some_iff.mp hz).1
      exact this
    refine ⟨.inl ⟨rfl, _, sq_of hb⟩, p, _, _, j, _, rfl, rfl, sq_of hb, rfl, flat, hz, rfl, hno, _, _, rfl, sq_of upd_same, .str d, ?_, (by show 2 ≤ sizeLine; decide), fun p2 hp2 => ?_⟩
    · rw [atI_in (by omega) (by show (j : Int) < 4; omega), Int.toNat_natCast]
      exact hd
    · have s1 : Same H (upd (upd (upd H p (.lst [.bl b0, .bl b1, .bl b2])) p (.lst ([.bl b0, .bl b1, .bl b2] ++ [.bl b3]))) p1 (.lst ([("key" : Str), "text", "size", "place"].map V.str))) := by
        refine same_upd (same_upd (same_new hp) hp) ?_
        have e := hp1
        rw [upd_ne n2.symm, upd_ne n2.symm] at e
        exact e
      exact k p2 _ (s1.free hp2) (same_upd s1 (s1.free hp2)) upd_same
end
/-- a refusal, told -/
def IsRef (H : Hp) (d : Str) (v : V) : Prop := ∃ p, v = .ref p ∧ H p = some (.tup [.str "refused", .str d])
/-- an error that a try's body lets out is kept in slot j -/
theorem rf_keep {K : PySem.W.Frag} {c : Str} {i j : Nat} {D : Ends} {σ : L2.St} {H : Hp} (xm : PySem.W.exmOne K (.ref (He.ga K c)) (.ref (He.ga K "HandError")) = some true) (hl : i < σ.length)
    (h : ∀ a H', Same H H' → H' a = none → D.nx (((σ.set i (some (.ref a))).set j (some (.ref a))).set i none) (upd H' a (KX (He.ga K c) a))) :
    ∀ H', Same H H' → WE (wKeep K (.ref (He.ga K "HandError")) i (fun _ _ _ => tAsg (tVar i) (gName j)) D) σ (.ref (He.ga K c)) none H' :=
  fun H' s => ⟨_, rfl, rfl, xm, fun a ha => ⟨.ref a, List.getElem?_set_self hl, h a H' s ha⟩⟩
/-- .. and told -/
theorem ref_end {K : PySem.W.Frag} {c d : Str} {a : Addr} {H H' : Hp} {Q : VK} {E : XK} (hk : (c, d) ∈ kinds) (s : Same H H') (na : H' a = none) (k : ∀ v H2, Same H H2 → IsRef H2 d v → Q v H2) : spRefusal K [.ref a] (upd H' a (KX (He.ga K c) a)) Q E := by
  refine ⟨a, c, d, rfl, hk, upd_same, fun p H2 hp s2 e => k _ H2 ((same_upd s (s.free na)).trans s2) ⟨p, rfl, e⟩⟩
theorem k_text : (("BadText", "text") : Str × Str) ∈ kinds := by simp [kinds]
theorem k_place : (("BadPlace", "place") : Str × Str) ∈ kinds := by simp [kinds]
theorem k_size : (("BadSize", "size") : Str × Str) ∈ kinds := by simp [kinds]
theorem k_key : (("BadKey", "key") : Str × Str) ∈ kinds := by simp [kinds]
/-! ### comparisons of data, lists of refusals -/
section
variable {K : PySem.W.Frag} {H : Hp} {x y : V} {d e : PyData} {Q : VK}
theorem ne_data (hx : Dp K H x d) (hy : Dp K H y e) (h1 : SeqAt.shaped d = true) (h2 : SeqAt.shaped e = true) (q : Q (.bl (!PyData.eqv d e)) H) : rNeD K x y H Q := ⟨d, e, hx, hy, h1, h2, q⟩
theorem eq_data' (hx : Dp K H x d) (hy : Dp K H y e) (h1 : SeqAt.shaped d = true) (h2 : SeqAt.shaped e = true) (q : Q (.bl (PyData.eqv d e)) H) : rEqD K x y H Q := ⟨d, e, hx, hy, h1, h2, q⟩
theorem ne_same (hx : Dp K H x d) (hy : Dp K H y d) (h1 : SeqAt.shaped d = true) (q : Q (.bl false) H) : rNeD K x y H Q := ne_data hx hy h1 h1 (by rw [SeqAt.eqv_refl _ (SeqAt.canLay_of_shaped h1)]; exact q)
theorem eq_same (hx : Dp K H x d) (hy : Dp K H y d) (h1 : SeqAt.shaped d = true) (q : Q (.bl true) H) : rEqD K x y H Q := eq_data' hx hy h1 h1 (by rw [SeqAt.eqv_refl _ (SeqAt.canLay_of_shaped h1)]; exact q)
theorem IsRef.same {H' : Hp} {d : Str} {v : V} (h : IsRef H d v) (s : Same H H') : IsRef H' d v := let ⟨p, e, q⟩ := h; ⟨p, e, s _ _ q⟩
abbrev refD (d : Str) : PyData := .tuple [.str "refused", .str d]
theorem IsRef.dp {d : Str} {v : V} (h : IsRef H d v) : Dp K H v (refD d) := by
  obtain ⟨p, rfl, q⟩ := h
  exact .tup (st_of q) (.cons (.str _) (.cons (.str _) .nil))
theorem dp_refs {d : Str} : ∀ {vs : List V}, (∀ v ∈ vs, IsRef H d v) → DpAll K H vs (List.replicate vs.length (refD d))
  | [], _ => .nil
  | v :: vs, h => .cons (h v List.mem_cons_self).dp (dp_refs fun u hu => h u (List.mem_cons_of_mem _ hu))
/-- a comprehension of refusals -/
theorem lcb_ref {g : TG} {te : TE} {vs : List Nat} {σ : L2.St} {α : Type} {J : It} {n : Nat} {G : Hp → Prop} (ys : List α) (inj : α → V) (w : Walk J n G (YAt (ys.map inj))) (hn : n = ys.length) (hG : ∀ H', Same H H' → G H') (hz : ys.length ≤ 1000) (d : Str)
    (hs : ∀ y H', y ∈ ys → Same H H' → ∀ Y : V → Hp → Prop, (∀ v H4, Same H' H4 → IsRef H4 d v → Y v H4) → g (inj y) (wipe σ vs) H' fun σ2 H2 => wipe σ2 vs = wipe σ vs ∧ te σ2 H2 Y)
    (hd : ∀ D acc H', Same H H' → H' D = some (.lst acc) → acc.length = n → (∀ v ∈ acc, IsRef H' d v) → Q (.ref D) H') : LcB J g tYes te vs σ H Q := by
  intro D hD
  refine lc_it w (fun i H' => Same H H' ∧ ∃ acc, H' D = some (.lst acc) ∧ acc.length = i ∧ ∀ v ∈ acc, IsRef H' d v) ⟨same_new hD, [], upd_same, rfl, fun v hv => absurd hv List.not_mem_nil⟩ (fun i H' _ p => hG H' p.1) ?_ ?_
  · rintro i x H1 H2 hi ⟨s, acc, e, la, ra⟩ ⟨rfl, hx⟩
    rw [List.getElem?_map] at hx
    cases hy : ys[i]? with
    | none =>
      rw [hy] at hx
      cases hx
    | some y =>
      rw [hy] at hx
      have ex : inj y = x := Option.some.inj hx
      subst ex
      refine hs y _ (List.mem_of_getElem? hy) s _ fun v H4 s4 rv => ⟨acc, s4 _ _ e, slt (by omega), same_upd (s.trans s4) hD, acc ++ [v], upd_same, by rw [List.length_append, la]; rfl, fun u hu => ?_⟩
      have key : ∀ u, IsRef H4 d u → IsRef (upd H4 D (.lst (acc ++ [v]))) d u := fun u hu => by
        obtain ⟨p, rfl, q⟩ := hu
        refine ⟨p, rfl, ?_⟩
        have ne : p ≠ D := ne_of q (s4 _ _ e) (by intro z; cases z)
        rw [upd_ne ne]
        exact q
      rcases List.mem_append.mp hu with h | h
      · exact key u ((ra u h).same s4)
      · rw [List.mem_singleton.mp h]
        exact key v rv
  · rintro H' ⟨s, acc, e, la, ra⟩
    exact hd D acc H' s e la ra
/-- compared with so many like one that is written -/
theorem ne_refs {d : Str} {n : Nat} {D q p : Addr} {acc ys : List V} {R : VK} (e : H D = some (.lst acc)) (la : acc.length = n) (ra : ∀ v ∈ acc, IsRef H d v) (eq : H q = some (.lst ys)) (hp : H p = some (.tup [.str "refused", .str d])) (hy : ys = List.replicate n (.ref p))
    (hs : SeqAt.shaped (.list (List.replicate n (refD d))) = true) (k : R (.bl false) H) : rNeD K (.ref D) (.ref q) H R := by
  have h1 : Dp K H (.ref D) (.list (List.replicate n (refD d))) := .lst (sq_of e) (by rw [← la]; exact dp_refs ra)
  have h2 : Dp K H (.ref q) (.list (List.replicate n (refD d))) := by
    refine .lst (sq_of eq) ?_
    rw [hy]
    have := dp_refs (K := K) (H := H) (d := d) (vs := List.replicate n (.ref p)) fun v hv => by
      rw [List.eq_of_mem_replicate hv]
      exact ⟨p, rfl, hp⟩
    rw [List.length_replicate] at this
    exact this
  exact ne_same h1 h2 hs k
theorem eq_refs {d : Str} {n : Nat} {D q p : Addr} {acc ys : List V} {R : VK} (e : H D = some (.lst acc)) (la : acc.length = n) (ra : ∀ v ∈ acc, IsRef H d v) (eq : H q = some (.lst ys)) (hp : H p = some (.tup [.str "refused", .str d])) (hy : ys = List.replicate n (.ref p))
    (hs : SeqAt.shaped (.list (List.replicate n (refD d))) = true) (k : R (.bl true) H) : rEqD K (.ref D) (.ref q) H R := by
  have h1 : Dp K H (.ref D) (.list (List.replicate n (refD d))) := .lst (sq_of e) (by rw [← la]; exact dp_refs ra)
  have h2 : Dp K H (.ref q) (.list (List.replicate n (refD d))) := by
    refine .lst (sq_of eq) ?_
    rw [hy]
    have := dp_refs (K := K) (H := H) (d := d) (vs := List.replicate n (.ref p)) fun v hv => by
      rw [List.eq_of_mem_replicate hv]
      exact ⟨p, rfl, hp⟩
    rw [List.length_replicate] at this
    exact this
  exact eq_same h1 h2 hs k
/-- [("refused", d)] * n -/
theorem mk_refs {d : Str} {n : Nat} {R : VK} (hn : n ≤ 1000) (k : ∀ p q H', Same H H' → H' p = some (.tup [.str "refused", .str d]) → H' q = some (.lst (List.replicate n (.ref p))) → R (.ref q) H') :
    [V.str "refused", V.str d].length ≤ sizeLine ∧ ∀ p, H p = none → [V.ref p].length ≤ sizeLine ∧ ∀ l, upd H p (.tup [.str "refused", .str d]) l = none → rRep (.ref l) (.int (n : Nat)) (upd (upd H p (.tup [.str "refused", .str d])) l (.lst [.ref p])) R := by
  refine ⟨by show 2 ≤ sizeLine; decide, fun p hp => ⟨by show 1 ≤ sizeLine; decide, fun l hl => ?_⟩⟩
  refine ⟨l, n, _, rfl, rfl, upd_same, by omega, by omega, sline (by rw [Int.toNat_natCast]; show 1 * n ≤ 100000; omega), fun q hq => ?_⟩
  have s1 : Same H (upd (upd H p (.tup [.str "refused", .str d])) l (.lst [.ref p])) := (same_new hp).trans (same_new hl)
  have e1 : upd (upd H p (.tup [.str "refused", .str d])) l (.lst [.ref p]) p = some (.tup [.str "refused", .str d]) := by
    rw [upd_ne (ne_of_none upd_same hl)]
    exact upd_same
  refine k p q _ (s1.trans (same_new hq)) (same_new hq _ _ e1) ?_
  rw [upd_same, Int.toNat_natCast]
  have e : (List.replicate n [V.ref p]).flatten = List.replicate n (V.ref p) := by
    clear k hn
    induction n with
    | zero => rfl
    | succ n ih => rw [List.replicate_succ, List.flatten_cons, ih, List.replicate_succ]; rfl
  rw [e]
end
/-- signs alone, at most n -/
def okPiece (n : Nat) (z : Str) : Bool := decide (z.cps.toList.length ≤ n) && z.cps.toList.all fun c => isSign [c]
theorem pick_str {zs : List Str} {j : Nat} {v : V} (h : (zs.map V.str)[j]? = some v) : ∃ z ∈ zs, v = .str z := by
  rw [List.getElem?_map] at h
  cases e : zs[j]? with
  | none =>
    rw [e] at h
    cases h
  | some z =>
    rw [e] at h
    exact ⟨z, List.mem_of_getElem? e, (Option.some.inj h).symm⟩
theorem pick_piece {zs : List Str} {n j : Nat} {v : V} (h : (zs.map V.str)[j]? = some v) (ok : zs.all (okPiece n) = true) : ∃ t : List Nat, v = .str (S t) ∧ t.length ≤ n ∧ t.all (fun c => isSign [c]) = true := by
  obtain ⟨z, hz, rfl⟩ := pick_str h
  have q := List.all_eq_true.mp ok z hz
  unfold okPiece at q
  rw [Bool.and_eq_true, decide_eq_true_iff] at q
  exact ⟨z.cps.toList, rfl, q.1, q.2⟩
/-- one of a list that is made for it -/
theorem pick_new {K : PySem.W.Frag} {H : Hp} {a b : Addr} {ns : List Int} {z : Nat} {xs : List V} {R : VK} {E : XK} (D : Dr K H a b ns z) (hz : z < 90000) (hx : xs ≠ []) (hl : xs.length ≤ 1000)
    (k : ∀ (j : Nat) (v : V) (H' : Hp), xs[j]? = some v → Fx [b] H H' → Dr K H' a b ns (z + 1) → R v H') : xs.length ≤ sizeLine ∧ ∀ p, H p = none → spPick K [.ref a, .ref b, .ref p] (upd H p (.lst xs)) R E := by
  refine ⟨sline (by omega), fun p hp => ?_⟩
  have D1 := D.same (same_new (o := .lst xs) hp)
  refine ⟨a, b, p, xs, ns, z, rfl, D1, hz, sq_of upd_same, ?_, hx, hl, fun j v H' hj F D' => k j v H' hj ((Fx.of (same_new hp)).trans F) D'⟩
  intro e
  exact D.there (by rw [← e]; exact hp)
/-! ### lists of texts, compared -/
/-- signs that are told as data -/
abbrev Asc (t : List Nat) : Prop := ∀ c ∈ t, c < 128
abbrev AscL (ts : List (List Nat)) : Prop := ∀ u ∈ ts, Asc u
theorem strOk_asc {t : List Nat} (h : Asc t) : PyData.strOk (S t) = true := by
  show (t.toArray.all fun c => decide (c < 0x110000)) = true
  rw [List.all_toArray]
  exact List.all_eq_true.mpr fun c hc => decide_eq_true (by have := h c hc; omega)
abbrev tds (ts : List (List Nat)) : List PyData := ts.map fun u => .str (S u)
theorem canLay_texts : ∀ {ts : List (List Nat)}, AscL ts → PyData.canLayAll0 (tds ts) = true
  | [], _ => by simp [PyData.canLayAll0]
  | u :: us, h => by
    have h1 := strOk_asc (h u List.mem_cons_self)
    have h2 := canLay_texts (ts := us) fun x hx => h x (List.mem_cons_of_mem _ hx)
    show PyData.canLayAll0 (.str (S u) :: tds us) = true
    simp only [PyData.canLayAll0, PyData.canLay0, h1, h2, Bool.and_self]
theorem depth_texts : ∀ (ts : List (List Nat)), PyData.depthAll (tds ts) = 0
  | [] => by simp [PyData.depthAll]
  | u :: us => by
    show PyData.depthAll (.str (S u) :: tds us) = 0
    simp only [PyData.depthAll, PyData.depth, depth_texts us, Nat.max_self]
theorem shaped_texts {ts : List (List Nat)} (h : AscL ts) : SeqAt.shaped (.list (tds ts)) = true := by
  show (PyData.canLay0 _ && decide (PyData.depth _ ≤ 64)) = true
  have e1 : PyData.canLay0 (.list (tds ts)) = true := by
    simp only [PyData.canLay0]
    exact canLay_texts h
  have e2 : PyData.depth (.list (tds ts)) = 1 := by
    simp only [PyData.depth, depth_texts]
  rw [e1, e2]
  rfl
theorem dp_all {K : PySem.W.Frag} {H : Hp} : ∀ (ts : List (List Nat)), DpAll K H (tvs ts) (tds ts)
  | [] => .nil
  | u :: us => .cons (.str _) (dp_all us)
theorem dp_texts {K : PySem.W.Frag} {H : Hp} {t : Addr} {ts : List (List Nat)} (e : H t = some (.lst (tvs ts))) : Dp K H (.ref t) (.list (tds ts)) := .lst (sq_of e) (dp_all ts)
theorem eqv_nil {ts : List (List Nat)} : PyData.eqv (.list (tds ts)) (.list []) = decide (ts = []) := by
  cases ts with
  | nil => rfl
  | cons u us => rfl
/-- texts != [] -/
theorem ne_empty {K : PySem.W.Frag} {H : Hp} {t q : Addr} {ts : List (List Nat)} {Q : VK} (e : H t = some (.lst (tvs ts))) (f : H q = some (.lst [])) (h : AscL ts) (k : Q (.bl (decide (ts ≠ []))) H) : rNeD K (.ref t) (.ref q) H Q := by
  refine ne_data (dp_texts e) (.lst (sq_of f) .nil) (shaped_texts h) (by decide +kernel) ?_
  rw [eqv_nil]
  have e2 : (!decide (ts = [])) = decide (ts ≠ []) := by
    by_cases z : ts = [] <;> simp [z]
  rw [e2]
  exact k
theorem ne_texts {K : PySem.W.Frag} {H : Hp} {t q : Addr} {ts : List (List Nat)} {Q : VK} (e : H t = some (.lst (tvs ts))) (f : H q = some (.lst (tvs ts))) (h : AscL ts) (k : Q (.bl false) H) : rNeD K (.ref t) (.ref q) H Q := ne_same (dp_texts e) (dp_texts f) (shaped_texts h) k
theorem eq_texts {K : PySem.W.Frag} {H : Hp} {t q : Addr} {ts : List (List Nat)} {Q : VK} (e : H t = some (.lst (tvs ts))) (f : H q = some (.lst (tvs ts))) (h : AscL ts) (k : Q (.bl true) H) : rEqD K (.ref t) (.ref q) H Q := eq_same (dp_texts e) (dp_texts f) (shaped_texts h) k
theorem inV_strs (z : Str) : ∀ zs : List Str, inV (.str z) (zs.map V.str) = decide (z ∈ zs)
  | [] => by
    show ([] : List V).any _ = _
    simp
  | y :: zs => by
    have ih := inV_strs z zs
    show ((V.str y :: zs.map V.str).any fun u => eqV u (.str z)) = _
    rw [List.any_cons]
    have e : ((zs.map V.str).any fun u => eqV u (.str z)) = decide (z ∈ zs) := ih
    rw [e]
    have e2 : eqV (.str y) (.str z) = (y == z) := rfl
    rw [e2]
    by_cases h : z = y
    · subst h
      simp
    · have h2 : ¬ y = z := fun q => h q.symm
      simp [h, h2]
theorem flat_strs (zs : List Str) : (zs.map V.str).all flatV = true := by
  rw [List.all_map]
  exact List.all_eq_true.mpr fun _ _ => rfl
theorem in_strs {K : PySem.W.Frag} {H : Hp} {z : Str} {p : Addr} (zs : List Str) {Q : VK} (e : SqT K H p (zs.map V.str)) (k : Q (.bl (decide (z ∈ zs))) H) : rIn K false (.str z) (.ref p) H Q := by
  refine ⟨p, _, rfl, .inr e, rfl, flat_strs zs, ?_⟩
  rw [if_neg (by decide), inV_strs]
  exact k
theorem notin_strs {K : PySem.W.Frag} {H : Hp} {z : Str} {p : Addr} (zs : List Str) {Q : VK} (e : SqT K H p (zs.map V.str)) (k : Q (.bl (decide (z ∉ zs))) H) : rIn K true (.str z) (.ref p) H Q := by
  refine ⟨p, _, rfl, .inr e, rfl, flat_strs zs, ?_⟩
  rw [if_pos rfl, inV_strs]
  have e2 : (!decide (z ∈ zs)) = decide (z ∉ zs) := by
    by_cases h : z ∈ zs <;> simp [h]
  rw [e2]
  exact k
end LH
/-! ## D3: the law's text of words and gaps -/
namespace LH
open PySem PySem.Spec PyProof.Rows L2
def spLText (K : PySem.W.Frag) : Sp := fun vs H Q _ => ∃ (a b : Addr) (m : Nat) (ns : List Int) (z : Nat), vs = [.ref a, .ref b, .int (m : Nat)] ∧ Dr K H a b ns z ∧ z ≤ 1000 ∧ m ≤ 8 ∧
  ∀ (t : List Nat) (H' : Hp), t.all (fun c => isSign [c]) = true → t.length ≤ 2 + 6 * m → Fx [b] H H' → Dr K H' a b ns (z + 2 + 2 * m) → Q (.str (S t)) H'
section
variable {P : Program} {w : World} {K : PySem.W.Frag} {mg : Str → Option Value} {base : Heap}
theorem d_l_text (T : TX K mg) : Dn P w K mg base 5 "_law_text" p_l_text (spLText K) := by
  refine dn_of (fn_l_text T) (g__law_text T) sc_l_text bd_l_text (fun vs H Q E h => ?_) (fun cdv A outer s H vs Q E hr h => ?_)
  · obtain ⟨a, b, m, ns, z, rfl, _⟩ := h
    rfl
  · obtain ⟨a, b, m, ns, z, rfl, D, hz, hm, k⟩ := h
    refine ⟨_, (pss_cons (ps_set (i := 3) sc_l_text.nd rfl (Or.inl rfl) (pc (d_l_pick T) (hr.mono (by decide)) px (pa_cons (pv 0) (pa_cons (pv 1) (pa_cons (pe_lst (pa_lits rfl)) pa_nil))))) (Evl.pss_cut (ps_for (passes_of rfl) rfl (pi_range1 rfl (b_range T) (pa_cons (pc (d_l_draw T) (hr.mono (by decide)) px (pa_cons (pv 0) (pa_cons (pv 1) (pa_cons (pe_op op_add (pv 2) pe_int) pa_nil)))) pa_nil)) (pg_name (i := 4) sc_l_text.nd rfl (Or.inl rfl)) (pss_cons (ps_set (i := 3) sc_l_text.nd rfl (Or.inl rfl) (pe_op op_add_str (pv 3) (pc (d_l_pick T) (hr.mono (by decide)) px (pa_cons (pv 0) (pa_cons (pv 1) (pa_cons (pe_lst (pa_lits rfl)) pa_nil)))))) (pss_one (ps_set (i := 3) sc_l_text.nd rfl (Or.inl rfl) (pe_op op_add_str (pv 3) (pc (d_l_pick T) (hr.mono (by decide)) px (pa_cons (pv 0) (pa_cons (pv 1) (pa_cons (pe_lst (pa_lits rfl)) pa_nil))))))))) (pss_one (ps_ret (pv 3))))), ?_⟩
    walk_at "rd"
    refine pick_new D (by omega) (by simp) (by simp) fun j v H1 hj F1 D1 => ?_
    obtain ⟨t0, rfl, l0, s0⟩ := pick_piece (n := 2) hj (by decide +kernel)
    refine ⟨fun σ' H' => ∃ (t : List Nat) (v4 : Option V), σ' = [some (.ref a), some (.ref b), some (.int (m : Nat)), some (.str (S t)), v4] ∧ t.all (fun c => isSign [c]) = true ∧ t.length ≤ 2 + 6 * m ∧ Fx [b] H H' ∧ Dr K H' a b ns (z + 2 + 2 * m), ?_, ?_⟩
    · walk_at "rd"
      refine ⟨a, b, _, ns, z + 1, rfl, D1, by omega, by omega, by omega, fun d H2 h0 h1 F2 D2 => ⟨_, rfl, by omega, by omega, ?_⟩⟩
      obtain ⟨d, rfl⟩ : ∃ n : Nat, d = (n : Int) := ⟨d.toNat, by omega⟩
      rw [Int.toNat_natCast]
      refine forb_rng (fun i σ' H' => ∃ (t : List Nat) (v4 : Option V), σ' = [some (.ref a), some (.ref b), some (.int (m : Nat)), some (.str (S t)), v4] ∧ t.all (fun c => isSign [c]) = true ∧ t.length ≤ 2 + 6 * i ∧ Fx [b] H H' ∧ Dr K H' a b ns (z + 2 + 2 * i))
        ⟨t0, none, rfl, s0, by omega, F1.trans F2, D2.mono (by omega)⟩ ?_ ?_
      · rintro i σ' H' hi ⟨t, v4, rfl, st, lt, Ft, Dt⟩
        walk_at "rd"
        refine pick_new Dt (by omega) (by simp) (by simp) fun j v H3 hj F3 D3 => ?_
        obtain ⟨t1, rfl, l1, s1⟩ := pick_piece (n := 4) hj (by decide +kernel)
        refine ⟨_, rfl, sline (by rw [S_len]; omega), ?_⟩
        refine pick_new D3 (by omega) (by simp) (by simp) fun j v H4 hj F4 D4 => ?_
        obtain ⟨t2, rfl, l2, s2⟩ := pick_piece (n := 2) hj (by decide +kernel)
        refine ⟨_, rfl, sline (by rw [S_app, S_len, S_len, List.length_append]; omega), t ++ t1 ++ t2, by rw [S_app, S_app], ?_, ?_, ((Ft.trans F3).trans F4), D4.mono (by omega)⟩
        · rw [List.all_append, List.all_append, st, s1, s2]
          rfl
        · rw [List.length_append, List.length_append]
          omega
      · rintro σ' H' ⟨t, v4, rfl, st, lt, Ft, Dt⟩
        first
          | exact ⟨t, ⟨v4, rfl⟩, st, by omega, Ft, Dt.mono (by omega)⟩
          | exact ⟨t, v4, rfl, st, by omega, Ft, Dt.mono (by omega)⟩
    · rintro σ' H' ⟨t, v4, rfl, st, lt, Ft, Dt⟩
      walk_at "rd"
      exact k t H' st lt Ft Dt
end
end LH
/-! ## Lines -/
namespace LH
open PySem PySem.Spec PyProof.Rows L2
/-- text, caret and mark -/
structure Pic where
  t : List Nat
  c : Int
  m : Int
/-- a line: what is there, what was ahead of each group, what was taken back, the run -/
structure Ln where
  p : Pic
  b : List Pic
  l : List Pic
  r : Int
abbrev picV (p : Pic) : List V := [tv p.t, .int p.c, .int p.m]
def PicAt (H : Hp) (v : V) (p : Pic) : Prop := ∃ q, v = .ref q ∧ H q = some (.tup (picV p))
inductive PicsAt (H : Hp) : List V → List Pic → Prop
  | nil : PicsAt H [] []
  | cons {v : V} {p : Pic} {vs : List V} {ps : List Pic} : PicAt H v p → PicsAt H vs ps → PicsAt H (v :: vs) (p :: ps)
section
variable {F : List Addr} {H H' : Hp} {v : V} {p : Pic} {vs : List V} {ps : List Pic} {K : PySem.W.Frag}
theorem PicAt.fx (h : PicAt H v p) (x : Fx F H H') : PicAt H' v p := let ⟨q, e, t⟩ := h; ⟨q, e, x.tup t⟩
theorem PicsAt.fx (x : Fx F H H') : ∀ {vs : List V} {ps : List Pic}, PicsAt H vs ps → PicsAt H' vs ps
  | _, _, .nil => .nil
  | _, _, .cons h t => .cons (h.fx x) (t.fx x)
theorem PicsAt.len : ∀ {vs : List V} {ps : List Pic}, PicsAt H vs ps → vs.length = ps.length
  | _, _, .nil => rfl
  | _, _, .cons _ t => by rw [List.length_cons, List.length_cons, t.len]
theorem PicsAt.add : ∀ {vs : List V} {ps : List Pic}, PicsAt H vs ps → PicAt H v p → PicsAt H (vs ++ [v]) (ps ++ [p])
  | _, _, .nil, h => .cons h .nil
  | _, _, .cons h t, g => .cons h (t.add g)
theorem PicsAt.last : ∀ {vs : List V} {ps : List Pic}, PicsAt H vs ps → ∀ (us : List Pic) (p : Pic), ps = us ++ [p] → ∃ v ws, vs = ws ++ [v] ∧ PicAt H v p ∧ PicsAt H ws us
  | _, _, .nil, us, p, e => by
    cases us <;> cases e
  | v :: vs, q :: qs, .cons h t, us, p, e => by
    cases us with
    | nil =>
      cases e
      cases t
      exact ⟨v, [], rfl, h, .nil⟩
    | cons u us =>
      cases e
      obtain ⟨w, ws, rfl, a, b⟩ := t.last us p rfl
      exact ⟨w, v :: ws, rfl, a, .cons h b⟩
end
def LineAt (K : PySem.W.Frag) (H : Hp) (x ab al : Addr) (M : Ln) : Prop :=
  (∃ dx, H x = some (.ins (He.ga K "Line") dx (fs_Line (tv M.p.t) (.int M.p.c) (.int M.p.m) (.ref ab) (.ref al) (.int M.r)))) ∧
  (∃ vb, H ab = some (.lst vb) ∧ PicsAt H vb M.b) ∧ (∃ vl, H al = some (.lst vl) ∧ PicsAt H vl M.l) ∧ ab ≠ al
/-- behind a change of the line at x -/
def LineTo (K : PySem.W.Frag) (H : Hp) (x ab al : Addr) (M : Ln) (Q : Hp → Prop) : Prop :=
  ∀ ab' al' H', New H ab ab' → New H al al' → Fx [x, ab, al] H H' → LineAt K H' x ab' al' M → Q H'
def inT (t : List Nat) (i : Int) : Prop := 0 ≤ i ∧ i ≤ t.length
def Ln.go (M : Ln) (i : Int) : Ln := ⟨⟨M.p.t, i, M.p.m⟩, M.b, M.l, 0⟩
def Ln.markAt (M : Ln) (i : Int) : Ln := ⟨⟨M.p.t, M.p.c, i⟩, M.b, M.l, 0⟩
def Pic.put (p : Pic) (i j : Int) (new : List Nat) (c : Int) : Pic :=
  ⟨p.t.take i.toNat ++ new ++ p.t.drop j.toNat, c, if p.m ≥ j ∧ p.m > i then p.m - (j - i) + new.length else if p.m > i then i + new.length else p.m⟩
def Ln.change (M : Ln) (i j : Int) (new : List Nat) (c : Int) : Ln := ⟨M.p.put i j new c, M.b ++ [M.p], [], 0⟩
def Ln.write (M : Ln) (sign : List Nat) : Ln :=
  ⟨M.p.put M.p.c M.p.c sign (M.p.c + sign.length), if M.r = 0 ∨ M.r = 20 then M.b ++ [M.p] else M.b, [], if M.r = 0 ∨ M.r = 20 then 1 else M.r + 1⟩
def Ln.undo (M : Ln) : Ln := match M.b.getLast? with
  | none => ⟨M.p, M.b, M.l, 0⟩
  | some p => ⟨p, M.b.dropLast, M.l ++ [M.p], 0⟩
def Ln.redo (M : Ln) : Ln := match M.l.getLast? with
  | none => ⟨M.p, M.b, M.l, 0⟩
  | some p => ⟨p, M.b ++ [M.p], M.l.dropLast, 0⟩
def Ln.zero : Ln := ⟨⟨[], 0, 0⟩, [], [], 0⟩
def Ln.new (t : List Nat) : Ln := ⟨⟨t, t.length, 0⟩, [], [], 0⟩
/-- what check finds: places that are there, a text that isn't too long -/
def inTs (t : List Nat) (i j : Int) : Prop := inT t i ∧ inT t j
def fitsT (t : List Nat) (i j : Int) (new : List Nat) : Prop := okText new = true ∧ (t.length : Int) - (j - i) + new.length ≤ 400
instance {t : List Nat} {i : Int} : Decidable (inT t i) := inferInstanceAs (Decidable (_ ∧ _))
instance {t : List Nat} {i j : Int} : Decidable (inTs t i j) := inferInstanceAs (Decidable (_ ∧ _))
instance {t new : List Nat} {i j : Int} : Decidable (fitsT t i j new) := inferInstanceAs (Decidable (_ ∧ _))
def Chk (K : PySem.W.Frag) (t : List Nat) (i j : Int) (new : List Nat) (E : XK) (H : Hp) (A : Prop) : Prop :=
  if inTs t i j then (if fitsT t i j new then A else Rf K "BadText" E H) else Rf K "BadPlace" E H
theorem Chk.imp {K : PySem.W.Frag} {t new : List Nat} {i j : Int} {E : XK} {H : Hp} {A B : Prop} (k : Chk K t i j new E H A) (h : inTs t i j → fitsT t i j new → A → B) : Chk K t i j new E H B := by
  unfold Chk at k ⊢
  by_cases h1 : inTs t i j
  · rw [if_pos h1] at k ⊢
    by_cases h2 : fitsT t i j new
    · rw [if_pos h2] at k ⊢
      exact h h1 h2 k
    · rw [if_neg h2] at k ⊢
      exact k
  · rw [if_neg h1] at k ⊢
    exact k
/-- the object at x has other attributes -/
theorem LineAt.put {K : PySem.W.Frag} {H : Hp} {x ab al dx : Addr} {M : Ln} (R : LineAt K H x ab al M) (p : Pic) (r : Int) :
    LineAt K (upd H x (.ins (He.ga K "Line") dx (fs_Line (tv p.t) (.int p.c) (.int p.m) (.ref ab) (.ref al) (.int r)))) x ab al ⟨p, M.b, M.l, r⟩ ∧
      Fx [x, ab, al] H (upd H x (.ins (He.ga K "Line") dx (fs_Line (tv p.t) (.int p.c) (.int p.m) (.ref ab) (.ref al) (.int r)))) := by
  obtain ⟨⟨dx', hp⟩, ⟨vb, hb, pb⟩, ⟨vl, hl, pl⟩, n⟩ := R
  have f : ∀ {o : HO}, Fx [x, ab, al] H (upd H x o) := Fx.upd List.mem_cons_self (nt_ins hp)
  refine ⟨⟨⟨dx, upd_same⟩, ⟨vb, ?_, pb.fx f⟩, ⟨vl, ?_, pl.fx f⟩, n⟩, f⟩
  · rw [upd_ne (ne_il hp hb).symm]
    exact hb
  · rw [upd_ne (ne_il hp hl).symm]
    exact hl
theorem LineAt.fx {K : PySem.W.Frag} {F : List Addr} {H H' : Hp} {x ab al : Addr} {M : Ln} (R : LineAt K H x ab al M) (f : Fx F H H') (h1 : x ∉ F) (h2 : ab ∉ F) (h3 : al ∉ F) : LineAt K H' x ab al M := by
  obtain ⟨⟨dx, hp⟩, ⟨vb, hb, pb⟩, ⟨vl, hl, pl⟩, n⟩ := R
  exact ⟨⟨dx, f.at hp h1⟩, ⟨vb, f.at hb h2, pb.fx f⟩, ⟨vl, f.at hl h3, pl.fx f⟩, n⟩
theorem LineAt.same {K : PySem.W.Frag} {H H' : Hp} {x ab al : Addr} {M : Ln} (R : LineAt K H x ab al M) (s : Same H H') : LineAt K H' x ab al M :=
  R.fx (Fx.of (F := []) s) List.not_mem_nil List.not_mem_nil List.not_mem_nil
theorem LineTo.same {K : PySem.W.Frag} {H H1 : Hp} {x ab al : Addr} {M : Ln} {Q : Hp → Prop} (k : LineTo K H x ab al M Q) (s : Same H H1) : LineTo K H1 x ab al M Q :=
  fun ab' al' H' n1 n2 f R => k ab' al' H' (n1.imp id s.free) (n2.imp id s.free) ((Fx.of s).trans f) R
theorem LineTo.now {K : PySem.W.Frag} {H H' : Hp} {x ab al : Addr} {M : Ln} {Q : Hp → Prop} (k : LineTo K H x ab al M Q) (r : LineAt K H' x ab al M ∧ Fx [x, ab, al] H H') : Q H' := k ab al H' (.inl rfl) (.inl rfl) r.2 r.1
theorem LineTo.trans {K : PySem.W.Frag} {H H1 : Hp} {x ab al ab1 al1 : Addr} {M : Ln} {Q : Hp → Prop} (k : LineTo K H x ab al M Q) (f : Fx [x, ab, al] H H1) (n1 : New H ab ab1) (n2 : New H al al1) : LineTo K H1 x ab1 al1 M Q := fun ab' al' H' m1 m2 g R => by
  refine k ab' al' H' ?_ ?_ (f.comp g fun c hc => ?_) R
  · rcases m1 with rfl | m1
    · exact n1
    · exact .inr (f.free m1)
  · rcases m2 with rfl | m2
    · exact n2
    · exact .inr (f.free m2)
  · simp only [List.mem_cons, List.not_mem_nil, or_false] at hc ⊢
    rcases hc with q | q | q
    · exact .inl (.inl q)
    · rcases n1 with n | n
      · exact .inl (.inr (.inl (by rw [q, n])))
      · exact .inr (by rw [q]; exact n)
    · rcases n2 with n | n
      · exact .inl (.inr (.inr (by rw [q, n])))
      · exact .inr (by rw [q]; exact n)
/-- a picture more, ahead of the groups or behind -/
theorem LineAt.addB {K : PySem.W.Frag} {H : Hp} {x ab al q : Addr} {M : Ln} {vb : List V} (R : LineAt K H x ab al M) (hb : H ab = some (.lst vb)) (hq : H q = none) (p : Pic) :
    LineAt K (upd (upd H q (.tup (picV p))) ab (.lst (vb ++ [.ref q]))) x ab al ⟨M.p, M.b ++ [p], M.l, M.r⟩ ∧ Fx [x, ab, al] H (upd (upd H q (.tup (picV p))) ab (.lst (vb ++ [.ref q]))) := by
  obtain ⟨⟨dx, hp⟩, ⟨vb', hb', pb⟩, ⟨vl, hl, pl⟩, n⟩ := R
  rw [hb] at hb'
  cases hb'
  have n1 := ne_new hb hq
  have n2 := ne_new hp hq
  have n3 := ne_new hl hq
  have n4 := ne_il hp hb
  have f : Fx [x, ab, al] H (upd (upd H q (.tup (picV p))) ab (.lst (vb ++ [.ref q]))) := Fx.up (Fx.new hq) (List.mem_cons_of_mem _ List.mem_cons_self) (nt_lst (by rw [upd_ne n1]; exact hb))
  refine ⟨⟨⟨dx, ?_⟩, ⟨_, upd_same, (pb.fx f).add ⟨q, rfl, ?_⟩⟩, ⟨vl, ?_, pl.fx f⟩, n⟩, f⟩
  · rw [upd_ne n4, upd_ne n2]
    exact hp
  · rw [upd_ne n1.symm, upd_same]
  · rw [upd_ne n.symm, upd_ne n3]
    exact hl
theorem LineAt.addL {K : PySem.W.Frag} {H : Hp} {x ab al q : Addr} {M : Ln} {vl : List V} (R : LineAt K H x ab al M) (hl : H al = some (.lst vl)) (hq : H q = none) (p : Pic) :
    LineAt K (upd (upd H q (.tup (picV p))) al (.lst (vl ++ [.ref q]))) x ab al ⟨M.p, M.b, M.l ++ [p], M.r⟩ ∧ Fx [x, ab, al] H (upd (upd H q (.tup (picV p))) al (.lst (vl ++ [.ref q]))) := by
  obtain ⟨⟨dx, hp⟩, ⟨vb, hb, pb⟩, ⟨vl', hl', pl⟩, n⟩ := R
  rw [hl] at hl'
  cases hl'
  have n1 := ne_new hb hq
  have n2 := ne_new hp hq
  have n3 := ne_new hl hq
  have n4 := ne_il hp hl
  have f : Fx [x, ab, al] H (upd (upd H q (.tup (picV p))) al (.lst (vl ++ [.ref q]))) := Fx.up (Fx.new hq) (by simp) (nt_lst (by rw [upd_ne n3]; exact hl))
  refine ⟨⟨⟨dx, ?_⟩, ⟨vb, ?_, pb.fx f⟩, ⟨_, upd_same, (pl.fx f).add ⟨q, rfl, ?_⟩⟩, n⟩, f⟩
  · rw [upd_ne n4, upd_ne n2]
    exact hp
  · rw [upd_ne n, upd_ne n1]
    exact hb
  · rw [upd_ne n3.symm, upd_same]
/-- nothing is to be done again -/
theorem LineAt.newL {K : PySem.W.Frag} {H : Hp} {x ab al q dx : Addr} {M : Ln} (R : LineAt K H x ab al M) (hq : H q = none) (p : Pic) (r : Int) :
    LineAt K (upd (upd H q (.lst [])) x (.ins (He.ga K "Line") dx (fs_Line (tv p.t) (.int p.c) (.int p.m) (.ref ab) (.ref q) (.int r)))) x ab q ⟨p, M.b, [], r⟩ ∧
      Fx [x, ab, al] H (upd (upd H q (.lst [])) x (.ins (He.ga K "Line") dx (fs_Line (tv p.t) (.int p.c) (.int p.m) (.ref ab) (.ref q) (.int r)))) := by
  obtain ⟨⟨dx', hp⟩, ⟨vb, hb, pb⟩, ⟨vl, hl, pl⟩, n⟩ := R
  have n1 := ne_new hb hq
  have n2 := ne_new hp hq
  have n4 := ne_il hp hb
  have f : Fx [x, ab, al] H (upd (upd H q (.lst [])) x (.ins (He.ga K "Line") dx (fs_Line (tv p.t) (.int p.c) (.int p.m) (.ref ab) (.ref q) (.int r)))) := Fx.up (Fx.new hq) List.mem_cons_self (nt_ins (by rw [upd_ne n2]; exact hp))
  refine ⟨⟨⟨dx, upd_same⟩, ⟨vb, ?_, pb.fx f⟩, ⟨[], ?_, .nil⟩, n1⟩, f⟩
  · rw [upd_ne n4.symm, upd_ne n1]
    exact hb
  · rw [upd_ne n2.symm, upd_same]
theorem LineAt.newB {K : PySem.W.Frag} {H : Hp} {x ab al q dx : Addr} {M : Ln} (R : LineAt K H x ab al M) (hq : H q = none) (p : Pic) (r : Int) :
    LineAt K (upd (upd H q (.lst [])) x (.ins (He.ga K "Line") dx (fs_Line (tv p.t) (.int p.c) (.int p.m) (.ref q) (.ref al) (.int r)))) x q al ⟨p, [], M.l, r⟩ ∧
      Fx [x, ab, al] H (upd (upd H q (.lst [])) x (.ins (He.ga K "Line") dx (fs_Line (tv p.t) (.int p.c) (.int p.m) (.ref q) (.ref al) (.int r)))) := by
  obtain ⟨⟨dx', hp⟩, ⟨vb, hb, pb⟩, ⟨vl, hl, pl⟩, n⟩ := R
  have n1 := ne_new hl hq
  have n2 := ne_new hp hq
  have n4 := ne_il hp hl
  have f : Fx [x, ab, al] H (upd (upd H q (.lst [])) x (.ins (He.ga K "Line") dx (fs_Line (tv p.t) (.int p.c) (.int p.m) (.ref q) (.ref al) (.int r)))) := Fx.up (Fx.new hq) List.mem_cons_self (nt_ins (by rw [upd_ne n2]; exact hp))
  refine ⟨⟨⟨dx, upd_same⟩, ⟨[], ?_, .nil⟩, ⟨vl, ?_, pl.fx f⟩, n1.symm⟩, f⟩
  · rw [upd_ne n2.symm, upd_same]
  · rw [upd_ne n4.symm, upd_ne n1]
    exact hl
/-- the last one is taken -/
theorem LineAt.popB {K : PySem.W.Frag} {H : Hp} {x ab al : Addr} {M : Ln} {vb : List V} {us : List Pic} {p : Pic} (R : LineAt K H x ab al M) (hb : H ab = some (.lst vb)) (e : M.b = us ++ [p]) :
    ∃ q, vb[vb.length - 1]? = some (.ref q) ∧ H q = some (.tup (picV p)) ∧ LineAt K (upd H ab (.lst vb.dropLast)) x ab al ⟨M.p, us, M.l, M.r⟩ ∧ Fx [x, ab, al] H (upd H ab (.lst vb.dropLast)) := by
  obtain ⟨⟨dx, hp⟩, ⟨vb', hb', pb⟩, ⟨vl, hl, pl⟩, n⟩ := R
  rw [hb] at hb'
  cases hb'
  obtain ⟨v, ws, rfl, ⟨q, rfl, hq⟩, pw⟩ := pb.last us p e
  have f : Fx [x, ab, al] H (upd H ab (.lst (ws ++ [V.ref q]).dropLast)) := Fx.upd (by simp) (nt_lst hb)
  refine ⟨q, by simp, hq, ⟨⟨dx, ?_⟩, ⟨_, upd_same, ?_⟩, ⟨vl, ?_, pl.fx f⟩, n⟩, f⟩
  · rw [upd_ne (ne_il hp hb)]
    exact hp
  · have z := pw.fx f
    rw [List.dropLast_concat] at z ⊢
    exact z
  · rw [upd_ne n.symm]
    exact hl
theorem LineAt.popL {K : PySem.W.Frag} {H : Hp} {x ab al : Addr} {M : Ln} {vl : List V} {us : List Pic} {p : Pic} (R : LineAt K H x ab al M) (hl : H al = some (.lst vl)) (e : M.l = us ++ [p]) :
    ∃ q, vl[vl.length - 1]? = some (.ref q) ∧ H q = some (.tup (picV p)) ∧ LineAt K (upd H al (.lst vl.dropLast)) x ab al ⟨M.p, M.b, us, M.r⟩ ∧ Fx [x, ab, al] H (upd H al (.lst vl.dropLast)) := by
  obtain ⟨⟨dx, hp⟩, ⟨vb, hb, pb⟩, ⟨vl', hl', pl⟩, n⟩ := R
  rw [hl] at hl'
  cases hl'
  obtain ⟨v, ws, rfl, ⟨q, rfl, hq⟩, pw⟩ := pl.last us p e
  have f : Fx [x, ab, al] H (upd H al (.lst (ws ++ [V.ref q]).dropLast)) := Fx.upd (by simp) (nt_lst hl)
  refine ⟨q, by simp, hq, ⟨⟨dx, ?_⟩, ⟨vb, ?_, pb.fx f⟩, ⟨_, upd_same, ?_⟩, n⟩, f⟩
  · rw [upd_ne (ne_il hp hl)]
    exact hp
  · rw [upd_ne n]
    exact hb
  · have z := pw.fx f
    rw [List.dropLast_concat] at z ⊢
    exact z
def spLine (K : PySem.W.Frag) : Sp := fun vs H Q E => ∃ (x dx : Addr) (t : List Nat), vs = [.ref x, tv t] ∧ H x = some (.ins (He.ga K "Line") dx []) ∧ t.length ≤ 100000 ∧
  if okText t = true then (∀ ab al H', H ab = none → H al = none → Fx [x] H H' → LineAt K H' x ab al (.new t) → Q .non H') else Rf K "BadText" E H
def spGet (K : PySem.W.Frag) (C f : Str) : Sp := fun vs H Q _ => ∃ (x dx : Addr) (fs : List (Str × V)) (v : V), vs = [.ref x] ∧ H x = some (.ins (He.ga K C) dx fs) ∧ fs.lookup f = some v ∧ Q v H
def spLGo (K : PySem.W.Frag) : Sp := fun vs H Q E => ∃ (x ab al : Addr) (M : Ln) (i : Int), vs = [.ref x, .int i] ∧ LineAt K H x ab al M ∧ M.p.t.length ≤ 100000 ∧
  if inT M.p.t i then LineTo K H x ab al (M.go i) (Q .non) else Rf K "BadPlace" E H
def spLMark (K : PySem.W.Frag) : Sp := fun vs H Q E => ∃ (x ab al : Addr) (M : Ln) (i : Int), vs = [.ref x, .int i] ∧ LineAt K H x ab al M ∧ M.p.t.length ≤ 100000 ∧
  if inT M.p.t i then LineTo K H x ab al (M.markAt i) (Q .non) else Rf K "BadPlace" E H
def spLRest (K : PySem.W.Frag) : Sp := fun vs H Q E => ∃ (x ab al : Addr) (M : Ln), vs = [.ref x] ∧ LineAt K H x ab al M ∧ LineTo K H x ab al ⟨M.p, M.b, M.l, 0⟩ (Q .non)
def spLPicture (K : PySem.W.Frag) : Sp := fun vs H Q E => ∃ (x ab al : Addr) (M : Ln), vs = [.ref x] ∧ LineAt K H x ab al M ∧ ∀ q, H q = none → Q (.ref q) (upd H q (.tup (picV M.p)))
def spLShow (K : PySem.W.Frag) : Sp := fun vs H Q E => ∃ (x ab al q : Addr) (M : Ln) (p : Pic), vs = [.ref x, .ref q] ∧ LineAt K H x ab al M ∧ H q = some (.tup (picV p)) ∧ LineTo K H x ab al ⟨p, M.b, M.l, M.r⟩ (Q .non)
def spLCheck (K : PySem.W.Frag) : Sp := fun vs H Q E => ∃ (x ab al : Addr) (M : Ln) (i j : Int) (new : List Nat), vs = [.ref x, .int i, .int j, tv new] ∧ LineAt K H x ab al M ∧ M.p.t.length ≤ 100000 ∧ new.length ≤ 100000 ∧
  Chk K M.p.t i j new E H (∀ H', Same H H' → Q .non H')
def spLReplace (K : PySem.W.Frag) : Sp := fun vs H Q E => ∃ (x ab al : Addr) (M : Ln) (i j : Int) (new : List Nat) (c : Int), vs = [.ref x, .int i, .int j, tv new, .int c] ∧ LineAt K H x ab al M ∧ M.p.t.length ≤ 100000 ∧ new.length ≤ 100000 ∧ inTs M.p.t i j ∧
  LineTo K H x ab al ⟨M.p.put i j new c, M.b, M.l, M.r⟩ (Q .non)
def spLChange (K : PySem.W.Frag) : Sp := fun vs H Q E => ∃ (x ab al : Addr) (M : Ln) (i j : Int) (new : List Nat) (c : Int), vs = [.ref x, .int i, .int j, tv new, .int c] ∧ LineAt K H x ab al M ∧ M.p.t.length ≤ 100000 ∧ new.length ≤ 100000 ∧ M.b.length ≤ 10000000 ∧
  Chk K M.p.t i j new E H (LineTo K H x ab al (M.change i j new c) (Q .non))
def spLWrite (K : PySem.W.Frag) : Sp := fun vs H Q E => ∃ (x ab al : Addr) (M : Ln) (sign : List Nat), vs = [.ref x, tv sign] ∧ LineAt K H x ab al M ∧ M.p.t.length ≤ 100000 ∧ sign.length ≤ 100000 ∧ M.b.length ≤ 10000000 ∧ inT M.p.t M.p.c ∧
  if fitsT M.p.t M.p.c M.p.c sign then LineTo K H x ab al (M.write sign) (Q .non) else Rf K "BadText" E H
def spLUndo (K : PySem.W.Frag) : Sp := fun vs H Q E => ∃ (x ab al : Addr) (M : Ln), vs = [.ref x] ∧ LineAt K H x ab al M ∧ M.l.length ≤ 10000000 ∧ LineTo K H x ab al M.undo (Q (.bl (decide (M.b ≠ []))))
def spLRedo (K : PySem.W.Frag) : Sp := fun vs H Q E => ∃ (x ab al : Addr) (M : Ln), vs = [.ref x] ∧ LineAt K H x ab al M ∧ M.b.length ≤ 10000000 ∧ LineTo K H x ab al M.redo (Q (.bl (decide (M.l ≠ []))))
def spLClear (K : PySem.W.Frag) : Sp := fun vs H Q E => ∃ (x ab al : Addr) (M : Ln), vs = [.ref x] ∧ LineAt K H x ab al M ∧ LineTo K H x ab al .zero (Q .non)
def spLGroups (K : PySem.W.Frag) : Sp := fun vs H Q E => ∃ (x ab al : Addr) (M : Ln), vs = [.ref x] ∧ LineAt K H x ab al M ∧ ∀ q, H q = none → Q (.ref q) (upd H q (.tup [.int (M.b.length : Nat), .int (M.l.length : Nat)]))
section
variable {P : Program} {w : World} {K : PySem.W.Frag} {mg : Str → Option Value} {base : Heap}
theorem d_Line_init (T : TX K mg) : Mn P w K mg base 3 "Line" (He.ga K "Line") p_Line_init (spLine K) := by
  refine mn_of (fn_Line_init T) (mk_Line T) (g_Line T) sc_Line_init bd_Line_init (fun vs H Q E h => ?_) (fun cdv A outer s H vs Q E hr h => ?_)
  · obtain ⟨x, dx, t, rfl, _⟩ := h
    rfl
  · obtain ⟨x, dx, t, rfl, hp, ht, k⟩ := h
    refine ⟨_, (pss_cons (ps_expr (pc (d_look_text T) (hr.mono (by decide)) px (pa_cons (pv 1) pa_nil))) (pss_cons (ps_fld (pv 0) (pv 1) rfl) (pss_cons (ps_fld (pv 0) (pe_callB call_len_str (by rfl) (b_len T) boot_len (pa_cons (pv 1) pa_nil)) rfl) (pss_cons (ps_fld (pv 0) pe_int rfl) (pss_cons (ps_fld (pv 0) (pe_lst pa_nil) rfl) (pss_cons (ps_fld (pv 0) (pe_lst pa_nil) rfl) (pss_one (ps_fld (pv 0) pe_int rfl)))))))), ?_⟩
    walk_at "rd"
    refine ⟨t, rfl, ht, ?_⟩
    by_cases ok : okText t = true
    · rw [if_pos ok] at k ⊢
      intro H1 s1
      have hp1 := s1 _ _ hp
      simp only [List.getElem?_cons_zero, List.getElem?_cons_succ, List.set_cons_zero, List.set_cons_succ, List.cons_append, List.nil_append, List.append_nil, Option.some.injEq, V.int.injEq, V.str.injEq, V.bl.injEq, V.ref.injEq, List.cons.injEq, HO.ins.injEq, HO.lst.injEq, HO.tup.injEq, S_inj, ofS_inj, String.reduceEq, ex_eq, ex_eq', ex_eq0, tLc_eq, tFor_eq, iStr, iRng1, iRng2, iList, iTup, tVar, tC, tOp, tCons, tNil, tCB, tFld, tCallS, tMethW, tMakeS, WE, wKeep, tLits, tLst, tTup, wipe, rI, rI0, rU, rEq, rNe, scII, scSS, scBB, scNN, scNI, scNS, scNB, scIN, scSN, scBN, scIS, scSI, if_tt, if_ff, and_true, true_and, and_assoc, exists_and_left, exists_and_right, exists_const, cxK, decide_true, decide_false, Bool.not_true, Bool.not_false, eq_self_iff_true, Bool.true_eq_false, Bool.false_eq_true, if_true, if_false, reduceCtorEq, S_len, S_one, S_tl, decide_eq_true_eq, tUn, tAndV, tOrV, tNotV, tIf, tAnd, tOr, tNot, tB, tTest, tChain, tCall, tMeth, tMake, sFld, tSeq, tNext, tAsg, gName, tIfS, tRet, tRetN, tDrop, tM0, tM1, tBM, tBM0, rAppend, rPop, tSl, tPart, tNoPart, rIxL, rIxT, rIxS, rSlS, rSlL, rCat, tDisp, tPairs, tDGet, sDPut, gTup, gCons, gNil, gSub, gAttr, rSetL, tv, fk_Line T, lk_Line, inj_Line, hp1, mk_fs_Line, upd_same, upd_upd]
      refine ⟨sline ht, by decide, fun al hal => ?_⟩
      obtain ⟨n1, hal⟩ := un hal
      simp only [List.getElem?_cons_zero, List.getElem?_cons_succ, List.set_cons_zero, List.set_cons_succ, List.cons_append, List.nil_append, List.append_nil, Option.some.injEq, V.int.injEq, V.str.injEq, V.bl.injEq, V.ref.injEq, List.cons.injEq, HO.ins.injEq, HO.lst.injEq, HO.tup.injEq, S_inj, ofS_inj, String.reduceEq, ex_eq, ex_eq', ex_eq0, tLc_eq, tFor_eq, iStr, iRng1, iRng2, iList, iTup, tVar, tC, tOp, tCons, tNil, tCB, tFld, tCallS, tMethW, tMakeS, WE, wKeep, tLits, tLst, tTup, wipe, rI, rI0, rU, rEq, rNe, scII, scSS, scBB, scNN, scNI, scNS, scNB, scIN, scSN, scBN, scIS, scSI, if_tt, if_ff, and_true, true_and, and_assoc, exists_and_left, exists_and_right, exists_const, cxK, decide_true, decide_false, Bool.not_true, Bool.not_false, eq_self_iff_true, Bool.true_eq_false, Bool.false_eq_true, if_true, if_false, reduceCtorEq, S_len, S_one, S_tl, decide_eq_true_eq, tUn, tAndV, tOrV, tNotV, tIf, tAnd, tOr, tNot, tB, tTest, tChain, tCall, tMeth, tMake, sFld, tSeq, tNext, tAsg, gName, tIfS, tRet, tRetN, tDrop, tM0, tM1, tBM, tBM0, rAppend, rPop, tSl, tPart, tNoPart, rIxL, rIxT, rIxS, rSlS, rSlL, rCat, tDisp, tPairs, tDGet, sDPut, gTup, gCons, gNil, gSub, gAttr, rSetL, tv, fk_Line T, lk_Line, inj_Line, hp1, mk_fs_Line, upd_same, upd_upd, upd_ne n1]
      refine ⟨by decide, fun ar har => ?_⟩
      obtain ⟨n2, har⟩ := un har
      obtain ⟨n3, har⟩ := un har
      obtain ⟨_, har⟩ := un har
      simp only [List.getElem?_cons_zero, List.getElem?_cons_succ, List.set_cons_zero, List.set_cons_succ, List.cons_append, List.nil_append, List.append_nil, Option.some.injEq, V.int.injEq, V.str.injEq, V.bl.injEq, V.ref.injEq, List.cons.injEq, HO.ins.injEq, HO.lst.injEq, HO.tup.injEq, S_inj, ofS_inj, String.reduceEq, ex_eq, ex_eq', ex_eq0, tLc_eq, tFor_eq, iStr, iRng1, iRng2, iList, iTup, tVar, tC, tOp, tCons, tNil, tCB, tFld, tCallS, tMethW, tMakeS, WE, wKeep, tLits, tLst, tTup, wipe, rI, rI0, rU, rEq, rNe, scII, scSS, scBB, scNN, scNI, scNS, scNB, scIN, scSN, scBN, scIS, scSI, if_tt, if_ff, and_true, true_and, and_assoc, exists_and_left, exists_and_right, exists_const, cxK, decide_true, decide_false, Bool.not_true, Bool.not_false, eq_self_iff_true, Bool.true_eq_false, Bool.false_eq_true, if_true, if_false, reduceCtorEq, S_len, S_one, S_tl, decide_eq_true_eq, tUn, tAndV, tOrV, tNotV, tIf, tAnd, tOr, tNot, tB, tTest, tChain, tCall, tMeth, tMake, sFld, tSeq, tNext, tAsg, gName, tIfS, tRet, tRetN, tDrop, tM0, tM1, tBM, tBM0, rAppend, rPop, tSl, tPart, tNoPart, rIxL, rIxT, rIxS, rSlS, rSlL, rCat, tDisp, tPairs, tDGet, sDPut, gTup, gCons, gNil, gSub, gAttr, rSetL, tv, fk_Line T, lk_Line, inj_Line, hp1, mk_fs_Line, upd_same, upd_upd, upd_ne n1, upd_ne n2]
      refine k al ar _ (s1.free hal) (s1.free har) ?_ ⟨⟨dx, upd_same⟩, ⟨[], ?_, .nil⟩, ⟨[], ?_, .nil⟩, n3⟩
      · have m : x ∈ [x] := List.mem_cons_self
        refine Fx.up (Fx.nw (Fx.up (Fx.nw (Fx.up (Fx.of s1) m (nt_ins hp1)) ?_) m (nt_ins (by rw [upd_ne n1, upd_same]))) ?_) m (nt_ins (by rw [upd_ne n2, upd_same]))
        · rw [upd_ne n1.symm]
          exact hal
        · rw [upd_ne n2.symm, upd_ne n3.symm, upd_ne n2.symm]
          exact har
      · rw [upd_ne n1.symm, upd_ne n3, upd_ne n1.symm, upd_same]
      · rw [upd_ne n2.symm, upd_same]
    · rw [if_neg ok] at k ⊢
      exact k
theorem d_Line_text (T : TX K mg) : Mt P w K mg base 1 (He.ga K "Line") "text" p_Line_text (spGet K "Line" "now") := by
  refine mt_of (fn_Line_text T) (cl_Line T) (me_Line_text T) sc_Line_text bd_Line_text (fun vs H Q E h => ?_) (fun cdv A outer s H vs Q E hr h => ?_)
  · obtain ⟨x, dx, fs, v, rfl, _⟩ := h
    rfl
  · obtain ⟨x, dx, fs, v, rfl, hp, hv, q⟩ := h
    refine ⟨_, (pss_one (ps_ret (pe_fld (pv 0) rfl))), ?_⟩
    walk_at "rd"
    simp only [List.getElem?_cons_zero, List.getElem?_cons_succ, List.set_cons_zero, List.set_cons_succ, List.cons_append, List.nil_append, List.append_nil, Option.some.injEq, V.int.injEq, V.str.injEq, V.bl.injEq, V.ref.injEq, List.cons.injEq, HO.ins.injEq, HO.lst.injEq, HO.tup.injEq, S_inj, ofS_inj, String.reduceEq, ex_eq, ex_eq', ex_eq0, tLc_eq, tFor_eq, iStr, iRng1, iRng2, iList, iTup, tVar, tC, tOp, tCons, tNil, tCB, tFld, tCallS, tMethW, tMakeS, WE, wKeep, tLits, tLst, tTup, wipe, rI, rI0, rU, rEq, rNe, scII, scSS, scBB, scNN, scNI, scNS, scNB, scIN, scSN, scBN, scIS, scSI, if_tt, if_ff, and_true, true_and, and_assoc, exists_and_left, exists_and_right, exists_const, cxK, decide_true, decide_false, Bool.not_true, Bool.not_false, eq_self_iff_true, Bool.true_eq_false, Bool.false_eq_true, if_true, if_false, reduceCtorEq, S_len, S_one, S_tl, decide_eq_true_eq, tUn, tAndV, tOrV, tNotV, tIf, tAnd, tOr, tNot, tB, tTest, tChain, tCall, tMeth, tMake, sFld, tSeq, tNext, tAsg, gName, tIfS, tRet, tRetN, tDrop, tM0, tM1, tBM, tBM0, rAppend, rPop, tSl, tPart, tNoPart, rIxL, rIxT, rIxS, rSlS, rSlL, rCat, tDisp, tPairs, tDGet, sDPut, gTup, gCons, gNil, gSub, gAttr, rSetL, tv, fk_Line T, lk_Line, inj_Line, hp, hv]
    exact q
theorem d_Line_at (T : TX K mg) : Mt P w K mg base 1 (He.ga K "Line") "at" p_Line_at (spGet K "Line" "caret") := by
  refine mt_of (fn_Line_at T) (cl_Line T) (me_Line_at T) sc_Line_at bd_Line_at (fun vs H Q E h => ?_) (fun cdv A outer s H vs Q E hr h => ?_)
  · obtain ⟨x, dx, fs, v, rfl, _⟩ := h
    rfl
  · obtain ⟨x, dx, fs, v, rfl, hp, hv, q⟩ := h
    refine ⟨_, (pss_one (ps_ret (pe_fld (pv 0) rfl))), ?_⟩
    walk_at "rd"
    simp only [List.getElem?_cons_zero, List.getElem?_cons_succ, List.set_cons_zero, List.set_cons_succ, List.cons_append, List.nil_append, List.append_nil, Option.some.injEq, V.int.injEq, V.str.injEq, V.bl.injEq, V.ref.injEq, List.cons.injEq, HO.ins.injEq, HO.lst.injEq, HO.tup.injEq, S_inj, ofS_inj, String.reduceEq, ex_eq, ex_eq', ex_eq0, tLc_eq, tFor_eq, iStr, iRng1, iRng2, iList, iTup, tVar, tC, tOp, tCons, tNil, tCB, tFld, tCallS, tMethW, tMakeS, WE, wKeep, tLits, tLst, tTup, wipe, rI, rI0, rU, rEq, rNe, scII, scSS, scBB, scNN, scNI, scNS, scNB, scIN, scSN, scBN, scIS, scSI, if_tt, if_ff, and_true, true_and, and_assoc, exists_and_left, exists_and_right, exists_const, cxK, decide_true, decide_false, Bool.not_true, Bool.not_false, eq_self_iff_true, Bool.true_eq_false, Bool.false_eq_true, if_true, if_false, reduceCtorEq, S_len, S_one, S_tl, decide_eq_true_eq, tUn, tAndV, tOrV, tNotV, tIf, tAnd, tOr, tNot, tB, tTest, tChain, tCall, tMeth, tMake, sFld, tSeq, tNext, tAsg, gName, tIfS, tRet, tRetN, tDrop, tM0, tM1, tBM, tBM0, rAppend, rPop, tSl, tPart, tNoPart, rIxL, rIxT, rIxS, rSlS, rSlL, rCat, tDisp, tPairs, tDGet, sDPut, gTup, gCons, gNil, gSub, gAttr, rSetL, tv, fk_Line T, lk_Line, inj_Line, hp, hv]
    exact q
theorem d_Line_marked (T : TX K mg) : Mt P w K mg base 1 (He.ga K "Line") "marked" p_Line_marked (spGet K "Line" "mark") := by
  refine mt_of (fn_Line_marked T) (cl_Line T) (me_Line_marked T) sc_Line_marked bd_Line_marked (fun vs H Q E h => ?_) (fun cdv A outer s H vs Q E hr h => ?_)
  · obtain ⟨x, dx, fs, v, rfl, _⟩ := h
    rfl
  · obtain ⟨x, dx, fs, v, rfl, hp, hv, q⟩ := h
    refine ⟨_, (pss_one (ps_ret (pe_fld (pv 0) rfl))), ?_⟩
    walk_at "rd"
    simp only [List.getElem?_cons_zero, List.getElem?_cons_succ, List.set_cons_zero, List.set_cons_succ, List.cons_append, List.nil_append, List.append_nil, Option.some.injEq, V.int.injEq, V.str.injEq, V.bl.injEq, V.ref.injEq, List.cons.injEq, HO.ins.injEq, HO.lst.injEq, HO.tup.injEq, S_inj, ofS_inj, String.reduceEq, ex_eq, ex_eq', ex_eq0, tLc_eq, tFor_eq, iStr, iRng1, iRng2, iList, iTup, tVar, tC, tOp, tCons, tNil, tCB, tFld, tCallS, tMethW, tMakeS, WE, wKeep, tLits, tLst, tTup, wipe, rI, rI0, rU, rEq, rNe, scII, scSS, scBB, scNN, scNI, scNS, scNB, scIN, scSN, scBN, scIS, scSI, if_tt, if_ff, and_true, true_and, and_assoc, exists_and_left, exists_and_right, exists_const, cxK, decide_true, decide_false, Bool.not_true, Bool.not_false, eq_self_iff_true, Bool.true_eq_false, Bool.false_eq_true, if_true, if_false, reduceCtorEq, S_len, S_one, S_tl, decide_eq_true_eq, tUn, tAndV, tOrV, tNotV, tIf, tAnd, tOr, tNot, tB, tTest, tChain, tCall, tMeth, tMake, sFld, tSeq, tNext, tAsg, gName, tIfS, tRet, tRetN, tDrop, tM0, tM1, tBM, tBM0, rAppend, rPop, tSl, tPart, tNoPart, rIxL, rIxT, rIxS, rSlS, rSlL, rCat, tDisp, tPairs, tDGet, sDPut, gTup, gCons, gNil, gSub, gAttr, rSetL, tv, fk_Line T, lk_Line, inj_Line, hp, hv]
    exact q
theorem d_Line_go (T : TX K mg) : Mt P w K mg base 2 (He.ga K "Line") "go" p_Line_go (spLGo K) := by
  refine mt_of (fn_Line_go T) (cl_Line T) (me_Line_go T) sc_Line_go bd_Line_go (fun vs H Q E h => ?_) (fun cdv A outer s H vs Q E hr h => ?_)
  · obtain ⟨x, ab, al, M, i, rfl, _⟩ := h
    rfl
  · obtain ⟨x, ab, al, M, i, rfl, R, ht, k⟩ := h
    obtain ⟨⟨dx, hp⟩, ⟨vb, hb, pb⟩, ⟨vl, hl, pl⟩, nbl⟩ := id R
    have nb := ne_il hp hb
    have nl := ne_il hp hl
    refine ⟨_, (pss_cons (ps_expr (pc (d_look_place T) (hr.mono (by decide)) px (pa_cons (pe_fld (pv 0) rfl) (pa_cons (pv 1) pa_nil)))) (pss_cons (ps_fld (pv 0) (pv 1) rfl) (pss_one (ps_fld (pv 0) pe_int rfl)))), ?_⟩
    walk_at "rd"
    simp only [List.getElem?_cons_zero, List.getElem?_cons_succ, List.set_cons_zero, List.set_cons_succ, List.cons_append, List.nil_append, List.append_nil, Option.some.injEq, V.int.injEq, V.str.injEq, V.bl.injEq, V.ref.injEq, List.cons.injEq, HO.ins.injEq, HO.lst.injEq, HO.tup.injEq, S_inj, ofS_inj, String.reduceEq, ex_eq, ex_eq', ex_eq0, tLc_eq, tFor_eq, iStr, iRng1, iRng2, iList, iTup, tVar, tC, tOp, tCons, tNil, tCB, tFld, tCallS, tMethW, tMakeS, WE, wKeep, tLits, tLst, tTup, wipe, rI, rI0, rU, rEq, rNe, scII, scSS, scBB, scNN, scNI, scNS, scNB, scIN, scSN, scBN, scIS, scSI, if_tt, if_ff, and_true, true_and, and_assoc, exists_and_left, exists_and_right, exists_const, cxK, decide_true, decide_false, Bool.not_true, Bool.not_false, eq_self_iff_true, Bool.true_eq_false, Bool.false_eq_true, if_true, if_false, reduceCtorEq, S_len, S_one, S_tl, decide_eq_true_eq, tUn, tAndV, tOrV, tNotV, tIf, tAnd, tOr, tNot, tB, tTest, tChain, tCall, tMeth, tMake, sFld, tSeq, tNext, tAsg, gName, tIfS, tRet, tRetN, tDrop, tM0, tM1, tBM, tBM0, rAppend, rPop, tSl, tPart, tNoPart, rIxL, rIxT, rIxS, rSlS, rSlL, rCat, tDisp, tPairs, tDGet, sDPut, gTup, gCons, gNil, gSub, gAttr, rSetL, tv, upd_same, upd_upd, List.length_cons, List.length_nil, Nat.reduceAdd, Nat.zero_add, lines, fk_Line T, lk_Line, inj_Line, hp]
    refine ⟨M.p.t, i, rfl, ht, ?_⟩
    by_cases hi : inT M.p.t i
    · rw [if_pos hi] at k
      rw [if_pos (show 0 ≤ i ∧ i ≤ (M.p.t.length : Int) from hi)]
      simp only [List.getElem?_cons_zero, List.getElem?_cons_succ, List.set_cons_zero, List.set_cons_succ, List.cons_append, List.nil_append, List.append_nil, Option.some.injEq, V.int.injEq, V.str.injEq, V.bl.injEq, V.ref.injEq, List.cons.injEq, HO.ins.injEq, HO.lst.injEq, HO.tup.injEq, S_inj, ofS_inj, String.reduceEq, ex_eq, ex_eq', ex_eq0, tLc_eq, tFor_eq, iStr, iRng1, iRng2, iList, iTup, tVar, tC, tOp, tCons, tNil, tCB, tFld, tCallS, tMethW, tMakeS, WE, wKeep, tLits, tLst, tTup, wipe, rI, rI0, rU, rEq, rNe, scII, scSS, scBB, scNN, scNI, scNS, scNB, scIN, scSN, scBN, scIS, scSI, if_tt, if_ff, and_true, true_and, and_assoc, exists_and_left, exists_and_right, exists_const, cxK, decide_true, decide_false, Bool.not_true, Bool.not_false, eq_self_iff_true, Bool.true_eq_false, Bool.false_eq_true, if_true, if_false, reduceCtorEq, S_len, S_one, S_tl, decide_eq_true_eq, tUn, tAndV, tOrV, tNotV, tIf, tAnd, tOr, tNot, tB, tTest, tChain, tCall, tMeth, tMake, sFld, tSeq, tNext, tAsg, gName, tIfS, tRet, tRetN, tDrop, tM0, tM1, tBM, tBM0, rAppend, rPop, tSl, tPart, tNoPart, rIxL, rIxT, rIxS, rSlS, rSlL, rCat, tDisp, tPairs, tDGet, sDPut, gTup, gCons, gNil, gSub, gAttr, rSetL, tv, upd_same, upd_upd, List.length_cons, List.length_nil, Nat.reduceAdd, Nat.zero_add, lines, fk_Line T, lk_Line, inj_Line, hp]
      exact k.now (R.put ⟨M.p.t, i, M.p.m⟩ 0)
    · rw [if_neg hi] at k
      rw [if_neg (show ¬ (0 ≤ i ∧ i ≤ (M.p.t.length : Int)) from hi)]
      exact k
theorem d_Line_put_mark (T : TX K mg) : Mt P w K mg base 2 (He.ga K "Line") "put_mark" p_Line_put_mark (spLMark K) := by
  refine mt_of (fn_Line_put_mark T) (cl_Line T) (me_Line_put_mark T) sc_Line_put_mark bd_Line_put_mark (fun vs H Q E h => ?_) (fun cdv A outer s H vs Q E hr h => ?_)
  · obtain ⟨x, ab, al, M, i, rfl, _⟩ := h
    rfl
  · obtain ⟨x, ab, al, M, i, rfl, R, ht, k⟩ := h
    obtain ⟨⟨dx, hp⟩, ⟨vb, hb, pb⟩, ⟨vl, hl, pl⟩, nbl⟩ := id R
    have nb := ne_il hp hb
    have nl := ne_il hp hl
    refine ⟨_, (pss_cons (ps_expr (pc (d_look_place T) (hr.mono (by decide)) px (pa_cons (pe_fld (pv 0) rfl) (pa_cons (pv 1) pa_nil)))) (pss_cons (ps_fld (pv 0) (pv 1) rfl) (pss_one (ps_fld (pv 0) pe_int rfl)))), ?_⟩
    walk_at "rd"
    simp only [List.getElem?_cons_zero, List.getElem?_cons_succ, List.set_cons_zero, List.set_cons_succ, List.cons_append, List.nil_append, List.append_nil, Option.some.injEq, V.int.injEq, V.str.injEq, V.bl.injEq, V.ref.injEq, List.cons.injEq, HO.ins.injEq, HO.lst.injEq, HO.tup.injEq, S_inj, ofS_inj, String.reduceEq, ex_eq, ex_eq', ex_eq0, tLc_eq, tFor_eq, iStr, iRng1, iRng2, iList, iTup, tVar, tC, tOp, tCons, tNil, tCB, tFld, tCallS, tMethW, tMakeS, WE, wKeep, tLits, tLst, tTup, wipe, rI, rI0, rU, rEq, rNe, scII, scSS, scBB, scNN, scNI, scNS, scNB, scIN, scSN, scBN, scIS, scSI, if_tt, if_ff, and_true, true_and, and_assoc, exists_and_left, exists_and_right, exists_const, cxK, decide_true, decide_false, Bool.not_true, Bool.not_false, eq_self_iff_true, Bool.true_eq_false, Bool.false_eq_true, if_true, if_false, reduceCtorEq, S_len, S_one, S_tl, decide_eq_true_eq, tUn, tAndV, tOrV, tNotV, tIf, tAnd, tOr, tNot, tB, tTest, tChain, tCall, tMeth, tMake, sFld, tSeq, tNext, tAsg, gName, tIfS, tRet, tRetN, tDrop, tM0, tM1, tBM, tBM0, rAppend, rPop, tSl, tPart, tNoPart, rIxL, rIxT, rIxS, rSlS, rSlL, rCat, tDisp, tPairs, tDGet, sDPut, gTup, gCons, gNil, gSub, gAttr, rSetL, tv, upd_same, upd_upd, List.length_cons, List.length_nil, Nat.reduceAdd, Nat.zero_add, lines, fk_Line T, lk_Line, inj_Line, hp]
    refine ⟨M.p.t, i, rfl, ht, ?_⟩
    by_cases hi : inT M.p.t i
    · rw [if_pos hi] at k
      rw [if_pos (show 0 ≤ i ∧ i ≤ (M.p.t.length : Int) from hi)]
      simp only [List.getElem?_cons_zero, List.getElem?_cons_succ, List.set_cons_zero, List.set_cons_succ, List.cons_append, List.nil_append, List.append_nil, Option.some.injEq, V.int.injEq, V.str.injEq, V.bl.injEq, V.ref.injEq, List.cons.injEq, HO.ins.injEq, HO.lst.injEq, HO.tup.injEq, S_inj, ofS_inj, String.reduceEq, ex_eq, ex_eq', ex_eq0, tLc_eq, tFor_eq, iStr, iRng1, iRng2, iList, iTup, tVar, tC, tOp, tCons, tNil, tCB, tFld, tCallS, tMethW, tMakeS, WE, wKeep, tLits, tLst, tTup, wipe, rI, rI0, rU, rEq, rNe, scII, scSS, scBB, scNN, scNI, scNS, scNB, scIN, scSN, scBN, scIS, scSI, if_tt, if_ff, and_true, true_and, and_assoc, exists_and_left, exists_and_right, exists_const, cxK, decide_true, decide_false, Bool.not_true, Bool.not_false, eq_self_iff_true, Bool.true_eq_false, Bool.false_eq_true, if_true, if_false, reduceCtorEq, S_len, S_one, S_tl, decide_eq_true_eq, tUn, tAndV, tOrV, tNotV, tIf, tAnd, tOr, tNot, tB, tTest, tChain, tCall, tMeth, tMake, sFld, tSeq, tNext, tAsg, gName, tIfS, tRet, tRetN, tDrop, tM0, tM1, tBM, tBM0, rAppend, rPop, tSl, tPart, tNoPart, rIxL, rIxT, rIxS, rSlS, rSlL, rCat, tDisp, tPairs, tDGet, sDPut, gTup, gCons, gNil, gSub, gAttr, rSetL, tv, upd_same, upd_upd, List.length_cons, List.length_nil, Nat.reduceAdd, Nat.zero_add, lines, fk_Line T, lk_Line, inj_Line, hp]
      exact k.now (R.put ⟨M.p.t, M.p.c, i⟩ 0)
    · rw [if_neg hi] at k
      rw [if_neg (show ¬ (0 ≤ i ∧ i ≤ (M.p.t.length : Int)) from hi)]
      exact k
theorem d_Line_picture (T : TX K mg) : Mt P w K mg base 1 (He.ga K "Line") "picture" p_Line_picture (spLPicture K) := by
  refine mt_of (fn_Line_picture T) (cl_Line T) (me_Line_picture T) sc_Line_picture bd_Line_picture (fun vs H Q E h => ?_) (fun cdv A outer s H vs Q E hr h => ?_)
  · obtain ⟨x, ab, al, M, rfl, _⟩ := h
    rfl
  · obtain ⟨x, ab, al, M, rfl, R, k⟩ := h
    obtain ⟨⟨dx, hp⟩, ⟨vb, hb, pb⟩, ⟨vl, hl, pl⟩, nbl⟩ := id R
    have nb := ne_il hp hb
    have nl := ne_il hp hl
    refine ⟨_, (pss_one (ps_ret (pe_tup (pa_cons (pe_fld (pv 0) rfl) (pa_cons (pe_fld (pv 0) rfl) (pa_cons (pe_fld (pv 0) rfl) pa_nil)))))), ?_⟩
    walk_at "rd"
    simp only [List.getElem?_cons_zero, List.getElem?_cons_succ, List.set_cons_zero, List.set_cons_succ, List.cons_append, List.nil_append, List.append_nil, Option.some.injEq, V.int.injEq, V.str.injEq, V.bl.injEq, V.ref.injEq, List.cons.injEq, HO.ins.injEq, HO.lst.injEq, HO.tup.injEq, S_inj, ofS_inj, String.reduceEq, ex_eq, ex_eq', ex_eq0, tLc_eq, tFor_eq, iStr, iRng1, iRng2, iList, iTup, tVar, tC, tOp, tCons, tNil, tCB, tFld, tCallS, tMethW, tMakeS, WE, wKeep, tLits, tLst, tTup, wipe, rI, rI0, rU, rEq, rNe, scII, scSS, scBB, scNN, scNI, scNS, scNB, scIN, scSN, scBN, scIS, scSI, if_tt, if_ff, and_true, true_and, and_assoc, exists_and_left, exists_and_right, exists_const, cxK, decide_true, decide_false, Bool.not_true, Bool.not_false, eq_self_iff_true, Bool.true_eq_false, Bool.false_eq_true, if_true, if_false, reduceCtorEq, S_len, S_one, S_tl, decide_eq_true_eq, tUn, tAndV, tOrV, tNotV, tIf, tAnd, tOr, tNot, tB, tTest, tChain, tCall, tMeth, tMake, sFld, tSeq, tNext, tAsg, gName, tIfS, tRet, tRetN, tDrop, tM0, tM1, tBM, tBM0, rAppend, rPop, tSl, tPart, tNoPart, rIxL, rIxT, rIxS, rSlS, rSlL, rCat, tDisp, tPairs, tDGet, sDPut, gTup, gCons, gNil, gSub, gAttr, rSetL, tv, upd_same, upd_upd, List.length_cons, List.length_nil, Nat.reduceAdd, Nat.zero_add, lines, fk_Line T, lk_Line, inj_Line, hp]
    exact k
theorem d_Line_show (T : TX K mg) : Mt P w K mg base 1 (He.ga K "Line") "show" p_Line_show (spLShow K) := by
  refine mt_of (fn_Line_show T) (cl_Line T) (me_Line_show T) sc_Line_show bd_Line_show (fun vs H Q E h => ?_) (fun cdv A outer s H vs Q E hr h => ?_)
  · obtain ⟨x, ab, al, q, M, p, rfl, _⟩ := h
    rfl
  · obtain ⟨x, ab, al, q, M, p, rfl, R, hq, k⟩ := h
    obtain ⟨⟨dx, hp⟩, ⟨vb, hb, pb⟩, ⟨vl, hl, pl⟩, nbl⟩ := id R
    have nb := ne_il hp hb
    have nl := ne_il hp hl
    refine ⟨_, (pss_one (ps_asg (pv 1) (pg_tup (n := 3) rfl (pgs_cons (pg_attr (pv 0)) (pgs_cons (pg_attr (pv 0)) (pgs_cons (pg_attr (pv 0)) pgs_nil)))))), ?_⟩
    walk_at "rd"
    refine ⟨_, st_of hq, rfl, ?_⟩
    simp only [List.getElem?_cons_zero, List.getElem?_cons_succ, List.set_cons_zero, List.set_cons_succ, List.cons_append, List.nil_append, List.append_nil, Option.some.injEq, V.int.injEq, V.str.injEq, V.bl.injEq, V.ref.injEq, List.cons.injEq, HO.ins.injEq, HO.lst.injEq, HO.tup.injEq, S_inj, ofS_inj, String.reduceEq, ex_eq, ex_eq', ex_eq0, tLc_eq, tFor_eq, iStr, iRng1, iRng2, iList, iTup, tVar, tC, tOp, tCons, tNil, tCB, tFld, tCallS, tMethW, tMakeS, WE, wKeep, tLits, tLst, tTup, wipe, rI, rI0, rU, rEq, rNe, scII, scSS, scBB, scNN, scNI, scNS, scNB, scIN, scSN, scBN, scIS, scSI, if_tt, if_ff, and_true, true_and, and_assoc, exists_and_left, exists_and_right, exists_const, cxK, decide_true, decide_false, Bool.not_true, Bool.not_false, eq_self_iff_true, Bool.true_eq_false, Bool.false_eq_true, if_true, if_false, reduceCtorEq, S_len, S_one, S_tl, decide_eq_true_eq, tUn, tAndV, tOrV, tNotV, tIf, tAnd, tOr, tNot, tB, tTest, tChain, tCall, tMeth, tMake, sFld, tSeq, tNext, tAsg, gName, tIfS, tRet, tRetN, tDrop, tM0, tM1, tBM, tBM0, rAppend, rPop, tSl, tPart, tNoPart, rIxL, rIxT, rIxS, rSlS, rSlL, rCat, tDisp, tPairs, tDGet, sDPut, gTup, gCons, gNil, gSub, gAttr, rSetL, tv, upd_same, upd_upd, List.length_cons, List.length_nil, Nat.reduceAdd, Nat.zero_add, lines, fk_Line T, lk_Line, inj_Line, hp]
    exact k.now (R.put p M.r)
theorem d_Line_check (T : TX K mg) : Mt P w K mg base 3 (He.ga K "Line") "check" p_Line_check (spLCheck K) := by
  refine mt_of (fn_Line_check T) (cl_Line T) (me_Line_check T) sc_Line_check bd_Line_check (fun vs H Q E h => ?_) (fun cdv A outer s H vs Q E hr h => ?_)
  · obtain ⟨x, ab, al, M, i, j, new, rfl, _⟩ := h
    rfl
  · obtain ⟨x, ab, al, M, i, j, new, rfl, R, ht, hn, k⟩ := h
    obtain ⟨⟨dx, hp⟩, ⟨vb, hb, pb⟩, ⟨vl, hl, pl⟩, nbl⟩ := id R
    have nb := ne_il hp hb
    have nl := ne_il hp hl
    refine ⟨_, (pss_cons (ps_expr (pc (d_look_place T) (hr.mono (by decide)) px (pa_cons (pe_fld (pv 0) rfl) (pa_cons (pv 1) pa_nil)))) (pss_cons (ps_expr (pc (d_look_place T) (hr.mono (by decide)) px (pa_cons (pe_fld (pv 0) rfl) (pa_cons (pv 2) pa_nil)))) (pss_cons (ps_expr (pc (d_look_text T) (hr.mono (by decide)) px (pa_cons (pv 3) pa_nil))) (pss_one (ps_if (pt_cmpR op_gt (pe_op op_add (pe_op op_sub (pe_callB call_len_str (by rfl) (b_len T) boot_len (pa_cons (pe_fld (pv 0) rfl) pa_nil)) (pe_op op_sub (pv 2) (pv 1))) (pe_callB call_len_str (by rfl) (b_len T) boot_len (pa_cons (pv 3) pa_nil))) (pgi (i_MOST_TEXT T)) (nomark _)) (pss_one (ps_raise rfl (takes_of rfl rfl rfl rfl) (pmk_own PySem.F.excBase_ValueError (xc_BadText T).1 (g_BadText T) (xc_BadText T).2.1 (raises_own (xc_BadText T).2.2.1 (xc_BadText T).2.2.2) rfl))) pss_nil))))), ?_⟩
    walk_at "rd"
    simp only [List.getElem?_cons_zero, List.getElem?_cons_succ, List.set_cons_zero, List.set_cons_succ, List.cons_append, List.nil_append, List.append_nil, Option.some.injEq, V.int.injEq, V.str.injEq, V.bl.injEq, V.ref.injEq, List.cons.injEq, HO.ins.injEq, HO.lst.injEq, HO.tup.injEq, S_inj, ofS_inj, String.reduceEq, ex_eq, ex_eq', ex_eq0, tLc_eq, tFor_eq, iStr, iRng1, iRng2, iList, iTup, tVar, tC, tOp, tCons, tNil, tCB, tFld, tCallS, tMethW, tMakeS, WE, wKeep, tLits, tLst, tTup, wipe, rI, rI0, rU, rEq, rNe, scII, scSS, scBB, scNN, scNI, scNS, scNB, scIN, scSN, scBN, scIS, scSI, if_tt, if_ff, and_true, true_and, and_assoc, exists_and_left, exists_and_right, exists_const, cxK, decide_true, decide_false, Bool.not_true, Bool.not_false, eq_self_iff_true, Bool.true_eq_false, Bool.false_eq_true, if_true, if_false, reduceCtorEq, S_len, S_one, S_tl, decide_eq_true_eq, tUn, tAndV, tOrV, tNotV, tIf, tAnd, tOr, tNot, tB, tTest, tChain, tCall, tMeth, tMake, sFld, tSeq, tNext, tAsg, gName, tIfS, tRet, tRetN, tDrop, tM0, tM1, tBM, tBM0, rAppend, rPop, tSl, tPart, tNoPart, rIxL, rIxT, rIxS, rSlS, rSlL, rCat, tDisp, tPairs, tDGet, sDPut, gTup, gCons, gNil, gSub, gAttr, rSetL, tv, upd_same, upd_upd, List.length_cons, List.length_nil, Nat.reduceAdd, Nat.zero_add, lines, fk_Line T, lk_Line, inj_Line, hp]
    refine ⟨M.p.t, i, rfl, ht, ?_⟩
    unfold Chk at k
    by_cases hi : inT M.p.t i
    · rw [if_pos (show 0 ≤ i ∧ i ≤ (M.p.t.length : Int) from hi)]
      simp only [List.getElem?_cons_zero, List.getElem?_cons_succ, List.set_cons_zero, List.set_cons_succ, List.cons_append, List.nil_append, List.append_nil, Option.some.injEq, V.int.injEq, V.str.injEq, V.bl.injEq, V.ref.injEq, List.cons.injEq, HO.ins.injEq, HO.lst.injEq, HO.tup.injEq, S_inj, ofS_inj, String.reduceEq, ex_eq, ex_eq', ex_eq0, tLc_eq, tFor_eq, iStr, iRng1, iRng2, iList, iTup, tVar, tC, tOp, tCons, tNil, tCB, tFld, tCallS, tMethW, tMakeS, WE, wKeep, tLits, tLst, tTup, wipe, rI, rI0, rU, rEq, rNe, scII, scSS, scBB, scNN, scNI, scNS, scNB, scIN, scSN, scBN, scIS, scSI, if_tt, if_ff, and_true, true_and, and_assoc, exists_and_left, exists_and_right, exists_const, cxK, decide_true, decide_false, Bool.not_true, Bool.not_false, eq_self_iff_true, Bool.true_eq_false, Bool.false_eq_true, if_true, if_false, reduceCtorEq, S_len, S_one, S_tl, decide_eq_true_eq, tUn, tAndV, tOrV, tNotV, tIf, tAnd, tOr, tNot, tB, tTest, tChain, tCall, tMeth, tMake, sFld, tSeq, tNext, tAsg, gName, tIfS, tRet, tRetN, tDrop, tM0, tM1, tBM, tBM0, rAppend, rPop, tSl, tPart, tNoPart, rIxL, rIxT, rIxS, rSlS, rSlL, rCat, tDisp, tPairs, tDGet, sDPut, gTup, gCons, gNil, gSub, gAttr, rSetL, tv, upd_same, upd_upd, List.length_cons, List.length_nil, Nat.reduceAdd, Nat.zero_add, lines, fk_Line T, lk_Line, inj_Line, hp]
      refine ⟨M.p.t, j, rfl, ht, ?_⟩
      by_cases hj : inT M.p.t j
      · rw [if_pos (show 0 ≤ j ∧ j ≤ (M.p.t.length : Int) from hj)]
        rw [if_pos (show inTs M.p.t i j from ⟨hi, hj⟩)] at k
        refine ⟨new, rfl, hn, ?_⟩
        by_cases ok : okText new = true
        · rw [if_pos ok]
          intro H1 s1
          simp only [List.getElem?_cons_zero, List.getElem?_cons_succ, List.set_cons_zero, List.set_cons_succ, List.cons_append, List.nil_append, List.append_nil, Option.some.injEq, V.int.injEq, V.str.injEq, V.bl.injEq, V.ref.injEq, List.cons.injEq, HO.ins.injEq, HO.lst.injEq, HO.tup.injEq, S_inj, ofS_inj, String.reduceEq, ex_eq, ex_eq', ex_eq0, tLc_eq, tFor_eq, iStr, iRng1, iRng2, iList, iTup, tVar, tC, tOp, tCons, tNil, tCB, tFld, tCallS, tMethW, tMakeS, WE, wKeep, tLits, tLst, tTup, wipe, rI, rI0, rU, rEq, rNe, scII, scSS, scBB, scNN, scNI, scNS, scNB, scIN, scSN, scBN, scIS, scSI, if_tt, if_ff, and_true, true_and, and_assoc, exists_and_left, exists_and_right, exists_const, cxK, decide_true, decide_false, Bool.not_true, Bool.not_false, eq_self_iff_true, Bool.true_eq_false, Bool.false_eq_true, if_true, if_false, reduceCtorEq, S_len, S_one, S_tl, decide_eq_true_eq, tUn, tAndV, tOrV, tNotV, tIf, tAnd, tOr, tNot, tB, tTest, tChain, tCall, tMeth, tMake, sFld, tSeq, tNext, tAsg, gName, tIfS, tRet, tRetN, tDrop, tM0, tM1, tBM, tBM0, rAppend, rPop, tSl, tPart, tNoPart, rIxL, rIxT, rIxS, rSlS, rSlL, rCat, tDisp, tPairs, tDGet, sDPut, gTup, gCons, gNil, gSub, gAttr, rSetL, tv, upd_same, upd_upd, List.length_cons, List.length_nil, Nat.reduceAdd, Nat.zero_add, lines, fk_Line T, lk_Line, inj_Line, s1 _ _ hp]
          refine ⟨sline ht, sline hn, ?_⟩
          by_cases fit : fitsT M.p.t i j new
          · rw [if_pos fit] at k
            rw [if_neg (by have := fit.2; omega)]
            exact k H1 s1
          · rw [if_neg fit] at k
            rw [if_pos (by
              have : ¬ ((M.p.t.length : Int) - (j - i) + new.length ≤ 400) := fun h => fit ⟨ok, h⟩
              omega)]
            exact k H1 s1
        · rw [if_neg ok]
          rw [if_neg (fun h : fitsT M.p.t i j new => ok h.1)] at k
          exact k
      · rw [if_neg (show ¬ (0 ≤ j ∧ j ≤ (M.p.t.length : Int)) from hj)]
        rw [if_neg (fun h : inTs M.p.t i j => hj h.2)] at k
        exact k
    · rw [if_neg (show ¬ (0 ≤ i ∧ i ≤ (M.p.t.length : Int)) from hi)]
      rw [if_neg (fun h : inTs M.p.t i j => hi h.1)] at k
      exact k
theorem d_Line_replace (T : TX K mg) : Mt P w K mg base 1 (He.ga K "Line") "replace" p_Line_replace (spLReplace K) := by
  refine mt_of (fn_Line_replace T) (cl_Line T) (me_Line_replace T) sc_Line_replace bd_Line_replace (fun vs H Q E h => ?_) (fun cdv A outer s H vs Q E hr h => ?_)
  · obtain ⟨x, ab, al, M, i, j, new, c, rfl, _⟩ := h
    rfl
  · obtain ⟨x, ab, al, M, i, j, new, c, rfl, R, ht, hn, hij, k⟩ := h
    obtain ⟨⟨dx, hp⟩, ⟨vb, hb, pb⟩, ⟨vl, hl, pl⟩, nbl⟩ := id R
    have nb := ne_il hp hb
    have nl := ne_il hp hl
    refine ⟨_, (pss_cons (ps_fld (pv 0) (pe_op op_add_str (pe_op op_add_str (pe_slice sl_str (pe_fld (pv 0) rfl) po_none (po_some (pv 1))) (pv 3)) (pe_slice sl_str (pe_fld (pv 0) rfl) (po_some (pv 2)) po_none)) rfl) (pss_cons (ps_fld (pv 0) (pv 4) rfl) (pss_one (ps_if (PW.pt (pw_and (pt_cmpR op_ge (pe_fld (pv 0) rfl) (pv 2) (nomark _)) (pw_and1 (pt_cmpR op_gt (pe_fld (pv 0) rfl) (pv 1) (nomark _))))) (pss_one (ps_fld (pv 0) (pe_op op_add (pe_op op_sub (pe_fld (pv 0) rfl) (pe_op op_sub (pv 2) (pv 1))) (pe_callB call_len_str (by rfl) (b_len T) boot_len (pa_cons (pv 3) pa_nil))) rfl)) (pss_one (ps_if (pt_cmpR op_gt (pe_fld (pv 0) rfl) (pv 1) (nomark _)) (pss_one (ps_fld (pv 0) (pe_op op_add (pv 1) (pe_callB call_len_str (by rfl) (b_len T) boot_len (pa_cons (pv 3) pa_nil))) rfl)) pss_nil)))))), ?_⟩
    walk_at "rd"
    have c1 := cut_to M.p.t i hij.1.1
    have c2 := cut_from M.p.t j hij.2.1
    simp only [List.getElem?_cons_zero, List.getElem?_cons_succ, List.set_cons_zero, List.set_cons_succ, List.cons_append, List.nil_append, List.append_nil, Option.some.injEq, V.int.injEq, V.str.injEq, V.bl.injEq, V.ref.injEq, List.cons.injEq, HO.ins.injEq, HO.lst.injEq, HO.tup.injEq, S_inj, ofS_inj, String.reduceEq, ex_eq, ex_eq', ex_eq0, tLc_eq, tFor_eq, iStr, iRng1, iRng2, iList, iTup, tVar, tC, tOp, tCons, tNil, tCB, tFld, tCallS, tMethW, tMakeS, WE, wKeep, tLits, tLst, tTup, wipe, rI, rI0, rU, rEq, rNe, scII, scSS, scBB, scNN, scNI, scNS, scNB, scIN, scSN, scBN, scIS, scSI, if_tt, if_ff, and_true, true_and, and_assoc, exists_and_left, exists_and_right, exists_const, cxK, decide_true, decide_false, Bool.not_true, Bool.not_false, eq_self_iff_true, Bool.true_eq_false, Bool.false_eq_true, if_true, if_false, reduceCtorEq, S_len, S_one, S_tl, decide_eq_true_eq, tUn, tAndV, tOrV, tNotV, tIf, tAnd, tOr, tNot, tB, tTest, tChain, tCall, tMeth, tMake, sFld, tSeq, tNext, tAsg, gName, tIfS, tRet, tRetN, tDrop, tM0, tM1, tBM, tBM0, rAppend, rPop, tSl, tPart, tNoPart, rIxL, rIxT, rIxS, rSlS, rSlL, rCat, tDisp, tPairs, tDGet, sDPut, gTup, gCons, gNil, gSub, gAttr, rSetL, tv, upd_same, upd_upd, List.length_cons, List.length_nil, Nat.reduceAdd, Nat.zero_add, lines, fk_Line T, lk_Line, inj_Line, hp, c1, c2, S_app]
    have l1 : (M.p.t.take i.toNat).length ≤ 100000 := by
      rw [List.length_take]
      omega
    have l2 : (M.p.t.drop j.toNat).length ≤ 100000 := by
      rw [List.length_drop]
      omega
    have z := k.now (R.put (dx := dx) (M.p.put i j new c) M.r)
    have big : ∀ n : Nat, n ≤ 1000000 → n ≤ sizeLine := fun n h => Nat.le_trans h (by decide)
    refine ⟨sline ht, big _ (by omega), sline ht, big _ (by rw [List.length_append]; omega), ?_⟩
    by_cases h1 : j ≤ M.p.m
    · rw [if_pos h1]
      by_cases h2 : i < M.p.m
      · rw [if_pos h2]
        refine ⟨sline hn, ?_⟩
        have e : (M.p.put i j new c).m = M.p.m - (j - i) + new.length := if_pos ⟨h1, h2⟩
        rw [e] at z
        exact z
      · rw [if_neg h2, if_neg h2]
        have e : (M.p.put i j new c).m = M.p.m := by
          show (if _ then _ else if _ then _ else _) = _
          rw [if_neg (fun h => h2 h.2), if_neg h2]
        rw [e] at z
        exact z
    · rw [if_neg h1]
      by_cases h2 : i < M.p.m
      · rw [if_pos h2]
        refine ⟨sline hn, ?_⟩
        have e : (M.p.put i j new c).m = i + new.length := by
          show (if _ then _ else if _ then _ else _) = _
          rw [if_neg (fun h => h1 h.1), if_pos h2]
        rw [e] at z
        exact z
      · rw [if_neg h2]
        have e : (M.p.put i j new c).m = M.p.m := by
          show (if _ then _ else if _ then _ else _) = _
          rw [if_neg (fun h => h1 h.1), if_neg h2]
        rw [e] at z
        exact z
theorem d_Line_change (T : TX K mg) : Mt P w K mg base 4 (He.ga K "Line") "change" p_Line_change (spLChange K) := by
  refine mt_of (fn_Line_change T) (cl_Line T) (me_Line_change T) sc_Line_change bd_Line_change (fun vs H Q E h => ?_) (fun cdv A outer s H vs Q E hr h => ?_)
  · obtain ⟨x, ab, al, M, i, j, new, c, rfl, _⟩ := h
    rfl
  · obtain ⟨x, ab, al, M, i, j, new, c, rfl, R, ht, hn, hbl, k⟩ := h
    obtain ⟨⟨dx, hp⟩, ⟨vb, hb, pb⟩, ⟨vl, hl, pl⟩, nbl⟩ := id R
    have nb := ne_il hp hb
    have nl := ne_il hp hl
    refine ⟨_, (pss_cons (ps_expr (pm (d_Line_check T) (hr.mono (by decide)) px (pv 0) (pa_cons (pv 1) (pa_cons (pv 2) (pa_cons (pv 3) pa_nil))))) (pss_cons (ps_expr (pe_bm PySem.F.plainAttrs_list PySem.F.slot_list_append PySem.F.type_list_append mt_append (pe_fld (pv 0) rfl) (pa_cons (pm0 (d_Line_picture T) (hr.mono (by decide)) px (pv 0)) pa_nil))) (pss_cons (ps_fld (pv 0) (pe_lst pa_nil) rfl) (pss_cons (ps_fld (pv 0) pe_int rfl) (pss_one (ps_expr (pm (d_Line_replace T) (hr.mono (by decide)) px (pv 0) (pa_cons (pv 1) (pa_cons (pv 2) (pa_cons (pv 3) (pa_cons (pv 4) pa_nil))))))))))), ?_⟩
    walk_at "rd"
    simp only [List.getElem?_cons_zero, List.getElem?_cons_succ, List.set_cons_zero, List.set_cons_succ, List.cons_append, List.nil_append, List.append_nil, Option.some.injEq, V.int.injEq, V.str.injEq, V.bl.injEq, V.ref.injEq, List.cons.injEq, HO.ins.injEq, HO.lst.injEq, HO.tup.injEq, S_inj, ofS_inj, String.reduceEq, ex_eq, ex_eq', ex_eq0, tLc_eq, tFor_eq, iStr, iRng1, iRng2, iList, iTup, tVar, tC, tOp, tCons, tNil, tCB, tFld, tCallS, tMethW, tMakeS, WE, wKeep, tLits, tLst, tTup, wipe, rI, rI0, rU, rEq, rNe, scII, scSS, scBB, scNN, scNI, scNS, scNB, scIN, scSN, scBN, scIS, scSI, if_tt, if_ff, and_true, true_and, and_assoc, exists_and_left, exists_and_right, exists_const, cxK, decide_true, decide_false, Bool.not_true, Bool.not_false, eq_self_iff_true, Bool.true_eq_false, Bool.false_eq_true, if_true, if_false, reduceCtorEq, S_len, S_one, S_tl, decide_eq_true_eq, tUn, tAndV, tOrV, tNotV, tIf, tAnd, tOr, tNot, tB, tTest, tChain, tCall, tMeth, tMake, sFld, tSeq, tNext, tAsg, gName, tIfS, tRet, tRetN, tDrop, tM0, tM1, tBM, tBM0, rAppend, rPop, tSl, tPart, tNoPart, rIxL, rIxT, rIxS, rSlS, rSlL, rCat, tDisp, tPairs, tDGet, sDPut, gTup, gCons, gNil, gSub, gAttr, rSetL, tv, upd_same, upd_upd, List.length_cons, List.length_nil, Nat.reduceAdd, Nat.zero_add, lines, fk_Line T, lk_Line, inj_Line, hp]
    refine ⟨x, ab, al, M, i, j, new, rfl, R, ht, hn, k.imp fun hij fit k H1 s1 => ?_⟩
    have R1 := R.same s1
    have k1 := k.same s1
    have hp1 := s1 _ _ hp
    have hb1 := s1 _ _ hb
    have hl1 := s1 _ _ hl
    simp only [List.getElem?_cons_zero, List.getElem?_cons_succ, List.set_cons_zero, List.set_cons_succ, List.cons_append, List.nil_append, List.append_nil, Option.some.injEq, V.int.injEq, V.str.injEq, V.bl.injEq, V.ref.injEq, List.cons.injEq, HO.ins.injEq, HO.lst.injEq, HO.tup.injEq, S_inj, ofS_inj, String.reduceEq, ex_eq, ex_eq', ex_eq0, tLc_eq, tFor_eq, iStr, iRng1, iRng2, iList, iTup, tVar, tC, tOp, tCons, tNil, tCB, tFld, tCallS, tMethW, tMakeS, WE, wKeep, tLits, tLst, tTup, wipe, rI, rI0, rU, rEq, rNe, scII, scSS, scBB, scNN, scNI, scNS, scNB, scIN, scSN, scBN, scIS, scSI, if_tt, if_ff, and_true, true_and, and_assoc, exists_and_left, exists_and_right, exists_const, cxK, decide_true, decide_false, Bool.not_true, Bool.not_false, eq_self_iff_true, Bool.true_eq_false, Bool.false_eq_true, if_true, if_false, reduceCtorEq, S_len, S_one, S_tl, decide_eq_true_eq, tUn, tAndV, tOrV, tNotV, tIf, tAnd, tOr, tNot, tB, tTest, tChain, tCall, tMeth, tMake, sFld, tSeq, tNext, tAsg, gName, tIfS, tRet, tRetN, tDrop, tM0, tM1, tBM, tBM0, rAppend, rPop, tSl, tPart, tNoPart, rIxL, rIxT, rIxS, rSlS, rSlL, rCat, tDisp, tPairs, tDGet, sDPut, gTup, gCons, gNil, gSub, gAttr, rSetL, tv, upd_same, upd_upd, List.length_cons, List.length_nil, Nat.reduceAdd, Nat.zero_add, lines, fk_Line T, lk_Line, inj_Line, hp1]
    refine ⟨.inl ⟨rfl, _, sq_of hb1⟩, x, ab, al, M, rfl, R1, fun q hq => ?_⟩
    have n1 := ne_new hp1 hq
    simp only [List.getElem?_cons_zero, List.getElem?_cons_succ, List.set_cons_zero, List.set_cons_succ, List.cons_append, List.nil_append, List.append_nil, Option.some.injEq, V.int.injEq, V.str.injEq, V.bl.injEq, V.ref.injEq, List.cons.injEq, HO.ins.injEq, HO.lst.injEq, HO.tup.injEq, S_inj, ofS_inj, String.reduceEq, ex_eq, ex_eq', ex_eq0, tLc_eq, tFor_eq, iStr, iRng1, iRng2, iList, iTup, tVar, tC, tOp, tCons, tNil, tCB, tFld, tCallS, tMethW, tMakeS, WE, wKeep, tLits, tLst, tTup, wipe, rI, rI0, rU, rEq, rNe, scII, scSS, scBB, scNN, scNI, scNS, scNB, scIN, scSN, scBN, scIS, scSI, if_tt, if_ff, and_true, true_and, and_assoc, exists_and_left, exists_and_right, exists_const, cxK, decide_true, decide_false, Bool.not_true, Bool.not_false, eq_self_iff_true, Bool.true_eq_false, Bool.false_eq_true, if_true, if_false, reduceCtorEq, S_len, S_one, S_tl, decide_eq_true_eq, tUn, tAndV, tOrV, tNotV, tIf, tAnd, tOr, tNot, tB, tTest, tChain, tCall, tMeth, tMake, sFld, tSeq, tNext, tAsg, gName, tIfS, tRet, tRetN, tDrop, tM0, tM1, tBM, tBM0, rAppend, rPop, tSl, tPart, tNoPart, rIxL, rIxT, rIxS, rSlS, rSlL, rCat, tDisp, tPairs, tDGet, sDPut, gTup, gCons, gNil, gSub, gAttr, rSetL, tv, upd_same, upd_upd, List.length_cons, List.length_nil, Nat.reduceAdd, Nat.zero_add, lines, fk_Line T, lk_Line, inj_Line, hp1, upd_ne n1]
    have n2 := ne_new hb1 hq
    refine ⟨vb, by rw [upd_ne n2]; exact hb1, Nat.lt_of_le_of_lt (by rw [pb.len]; exact hbl) (by decide), fun p0 hp0 => ?_⟩
    obtain ⟨R2, f2⟩ := R1.addB hb1 hq M.p
    obtain ⟨⟨dx2, hp2⟩, _⟩ := id R2
    have n3 := ne_new hp2 hp0
    simp only [List.getElem?_cons_zero, List.getElem?_cons_succ, List.set_cons_zero, List.set_cons_succ, List.cons_append, List.nil_append, List.append_nil, Option.some.injEq, V.int.injEq, V.str.injEq, V.bl.injEq, V.ref.injEq, List.cons.injEq, HO.ins.injEq, HO.lst.injEq, HO.tup.injEq, S_inj, ofS_inj, String.reduceEq, ex_eq, ex_eq', ex_eq0, tLc_eq, tFor_eq, iStr, iRng1, iRng2, iList, iTup, tVar, tC, tOp, tCons, tNil, tCB, tFld, tCallS, tMethW, tMakeS, WE, wKeep, tLits, tLst, tTup, wipe, rI, rI0, rU, rEq, rNe, scII, scSS, scBB, scNN, scNI, scNS, scNB, scIN, scSN, scBN, scIS, scSI, if_tt, if_ff, and_true, true_and, and_assoc, exists_and_left, exists_and_right, exists_const, cxK, decide_true, decide_false, Bool.not_true, Bool.not_false, eq_self_iff_true, Bool.true_eq_false, Bool.false_eq_true, if_true, if_false, reduceCtorEq, S_len, S_one, S_tl, decide_eq_true_eq, tUn, tAndV, tOrV, tNotV, tIf, tAnd, tOr, tNot, tB, tTest, tChain, tCall, tMeth, tMake, sFld, tSeq, tNext, tAsg, gName, tIfS, tRet, tRetN, tDrop, tM0, tM1, tBM, tBM0, rAppend, rPop, tSl, tPart, tNoPart, rIxL, rIxT, rIxS, rSlS, rSlL, rCat, tDisp, tPairs, tDGet, sDPut, gTup, gCons, gNil, gSub, gAttr, rSetL, tv, upd_same, upd_upd, List.length_cons, List.length_nil, Nat.reduceAdd, Nat.zero_add, lines, fk_Line T, lk_Line, inj_Line, upd_ne n3, hp2]
    obtain ⟨R3, f3⟩ := R2.newL (dx := dx2) hp0 M.p 0
    exact ⟨x, ab, p0, _, i, j, new, c, rfl, R3, ht, hn, hij, (k1.trans (f2.trans f3) (.inl rfl) (.inr (f2.free hp0)))⟩
theorem d_Line_write (T : TX K mg) : Mt P w K mg base 4 (He.ga K "Line") "write" p_Line_write (spLWrite K) := by
  refine mt_of (fn_Line_write T) (cl_Line T) (me_Line_write T) sc_Line_write bd_Line_write (fun vs H Q E h => ?_) (fun cdv A outer s H vs Q E hr h => ?_)
  · obtain ⟨x, ab, al, M, sign, rfl, _⟩ := h
    rfl
  · obtain ⟨x, ab, al, M, sign, rfl, R, ht, hn, hbl, hc, k⟩ := h
    obtain ⟨⟨dx, hp⟩, ⟨vb, hb, pb⟩, ⟨vl, hl, pl⟩, nbl⟩ := id R
    have nb := ne_il hp hb
    have nl := ne_il hp hl
    refine ⟨_, (pss_cons (ps_expr (pm (d_Line_check T) (hr.mono (by decide)) px (pv 0) (pa_cons (pe_fld (pv 0) rfl) (pa_cons (pe_fld (pv 0) rfl) (pa_cons (pv 1) pa_nil))))) (Evl.pss_cut (ps_if (PW.pt (pw_or (pt_cmpR op_eq (pe_fld (pv 0) rfl) pe_int (nomark _)) (pw_or1 (pt_cmpR op_eq (pe_fld (pv 0) rfl) (pgi (i_MOST_RUN T)) (nomark _))))) (pss_cons (ps_expr (pe_bm PySem.F.plainAttrs_list PySem.F.slot_list_append PySem.F.type_list_append mt_append (pe_fld (pv 0) rfl) (pa_cons (pm0 (d_Line_picture T) (hr.mono (by decide)) px (pv 0)) pa_nil))) (pss_one (ps_fld (pv 0) pe_int rfl))) pss_nil) (pss_cons (ps_fld (pv 0) (pe_lst pa_nil) rfl) (pss_cons (ps_fld (pv 0) (pe_op op_add (pe_fld (pv 0) rfl) pe_int) rfl) (pss_one (ps_expr (pm (d_Line_replace T) (hr.mono (by decide)) px (pv 0) (pa_cons (pe_fld (pv 0) rfl) (pa_cons (pe_fld (pv 0) rfl) (pa_cons (pv 1) (pa_cons (pe_op op_add (pe_fld (pv 0) rfl) (pe_callB call_len_str (by rfl) (b_len T) boot_len (pa_cons (pv 1) pa_nil))) pa_nil))))))))))), ?_⟩
    walk_at "rd"
    simp only [List.getElem?_cons_zero, List.getElem?_cons_succ, List.set_cons_zero, List.set_cons_succ, List.cons_append, List.nil_append, List.append_nil, Option.some.injEq, V.int.injEq, V.str.injEq, V.bl.injEq, V.ref.injEq, List.cons.injEq, HO.ins.injEq, HO.lst.injEq, HO.tup.injEq, S_inj, ofS_inj, String.reduceEq, ex_eq, ex_eq', ex_eq0, tLc_eq, tFor_eq, iStr, iRng1, iRng2, iList, iTup, tVar, tC, tOp, tCons, tNil, tCB, tFld, tCallS, tMethW, tMakeS, WE, wKeep, tLits, tLst, tTup, wipe, rI, rI0, rU, rEq, rNe, scII, scSS, scBB, scNN, scNI, scNS, scNB, scIN, scSN, scBN, scIS, scSI, if_tt, if_ff, and_true, true_and, and_assoc, exists_and_left, exists_and_right, exists_const, cxK, decide_true, decide_false, Bool.not_true, Bool.not_false, eq_self_iff_true, Bool.true_eq_false, Bool.false_eq_true, if_true, if_false, reduceCtorEq, S_len, S_one, S_tl, decide_eq_true_eq, tUn, tAndV, tOrV, tNotV, tIf, tAnd, tOr, tNot, tB, tTest, tChain, tCall, tMeth, tMake, sFld, tSeq, tNext, tAsg, gName, tIfS, tRet, tRetN, tDrop, tM0, tM1, tBM, tBM0, rAppend, rPop, tSl, tPart, tNoPart, rIxL, rIxT, rIxS, rSlS, rSlL, rCat, tDisp, tPairs, tDGet, sDPut, gTup, gCons, gNil, gSub, gAttr, rSetL, tv, upd_same, upd_upd, List.length_cons, List.length_nil, Nat.reduceAdd, Nat.zero_add, lines, fk_Line T, lk_Line, inj_Line, hp]
    refine ⟨x, ab, al, M, M.p.c, M.p.c, sign, rfl, R, ht, hn, ?_⟩
    unfold Chk
    rw [if_pos ⟨hc, hc⟩]
    by_cases fit : fitsT M.p.t M.p.c M.p.c sign
    · rw [if_pos fit] at k ⊢
      intro H1 s1
      have R1 := R.same s1
      have k1 := k.same s1
      have hp1 := s1 _ _ hp
      have hb1 := s1 _ _ hb
      have hl1 := s1 _ _ hl
      let M1 : Ln := ⟨M.p, if M.r = 0 ∨ M.r = 20 then M.b ++ [M.p] else M.b, M.l, if M.r = 0 ∨ M.r = 20 then 0 else M.r⟩
      refine ⟨fun σ' H' => σ' = [some (.ref x), some (tv sign)] ∧ LineAt K H' x ab al M1 ∧ Fx [x, ab, al] H1 H', ?_, ?_⟩
      · walk_at "rd"
        simp only [List.getElem?_cons_zero, List.getElem?_cons_succ, List.set_cons_zero, List.set_cons_succ, List.cons_append, List.nil_append, List.append_nil, Option.some.injEq, V.int.injEq, V.str.injEq, V.bl.injEq, V.ref.injEq, List.cons.injEq, HO.ins.injEq, HO.lst.injEq, HO.tup.injEq, S_inj, ofS_inj, String.reduceEq, ex_eq, ex_eq', ex_eq0, tLc_eq, tFor_eq, iStr, iRng1, iRng2, iList, iTup, tVar, tC, tOp, tCons, tNil, tCB, tFld, tCallS, tMethW, tMakeS, WE, wKeep, tLits, tLst, tTup, wipe, rI, rI0, rU, rEq, rNe, scII, scSS, scBB, scNN, scNI, scNS, scNB, scIN, scSN, scBN, scIS, scSI, if_tt, if_ff, and_true, true_and, and_assoc, exists_and_left, exists_and_right, exists_const, cxK, decide_true, decide_false, Bool.not_true, Bool.not_false, eq_self_iff_true, Bool.true_eq_false, Bool.false_eq_true, if_true, if_false, reduceCtorEq, S_len, S_one, S_tl, decide_eq_true_eq, tUn, tAndV, tOrV, tNotV, tIf, tAnd, tOr, tNot, tB, tTest, tChain, tCall, tMeth, tMake, sFld, tSeq, tNext, tAsg, gName, tIfS, tRet, tRetN, tDrop, tM0, tM1, tBM, tBM0, rAppend, rPop, tSl, tPart, tNoPart, rIxL, rIxT, rIxS, rSlS, rSlL, rCat, tDisp, tPairs, tDGet, sDPut, gTup, gCons, gNil, gSub, gAttr, rSetL, tv, upd_same, upd_upd, List.length_cons, List.length_nil, Nat.reduceAdd, Nat.zero_add, lines, fk_Line T, lk_Line, inj_Line, hp1]
        have grp : (M.r = 0 ∨ M.r = 20) → ∀ q, H1 q = none → LineAt K (upd (upd (upd H1 q (.tup (picV M.p))) ab (.lst (vb ++ [.ref q]))) x (.ins (He.ga K "Line") dx (fs_Line (tv M.p.t) (.int M.p.c) (.int M.p.m) (.ref ab) (.ref al) (.int 0)))) x ab al M1 ∧
            Fx [x, ab, al] H1 (upd (upd (upd H1 q (.tup (picV M.p))) ab (.lst (vb ++ [.ref q]))) x (.ins (He.ga K "Line") dx (fs_Line (tv M.p.t) (.int M.p.c) (.int M.p.m) (.ref ab) (.ref al) (.int 0)))) := fun r q hq => by
          obtain ⟨R2, f2⟩ := R1.addB hb1 hq M.p
          obtain ⟨R3, f3⟩ := R2.put (dx := dx) M.p 0
          refine ⟨?_, f2.trans f3⟩
          show LineAt K _ x ab al ⟨M.p, if M.r = 0 ∨ M.r = 20 then M.b ++ [M.p] else M.b, M.l, if M.r = 0 ∨ M.r = 20 then 0 else M.r⟩
          rw [if_pos r, if_pos r]
          exact R3
        by_cases r0 : M.r = 0
        · rw [if_pos r0]
          refine ⟨.inl ⟨rfl, _, sq_of hb1⟩, x, ab, al, M, rfl, R1, fun q hq => ?_⟩
          have n2 := ne_new hb1 hq
          have n1 := ne_new hp1 hq
          have n4 := ne_il hp1 hb1
          refine ⟨vb, by rw [upd_ne n2]; exact hb1, Nat.lt_of_le_of_lt (by rw [pb.len]; exact hbl) (by decide), ?_⟩
          simp only [List.getElem?_cons_zero, List.getElem?_cons_succ, List.set_cons_zero, List.set_cons_succ, List.cons_append, List.nil_append, List.append_nil, Option.some.injEq, V.int.injEq, V.str.injEq, V.bl.injEq, V.ref.injEq, List.cons.injEq, HO.ins.injEq, HO.lst.injEq, HO.tup.injEq, S_inj, ofS_inj, String.reduceEq, ex_eq, ex_eq', ex_eq0, tLc_eq, tFor_eq, iStr, iRng1, iRng2, iList, iTup, tVar, tC, tOp, tCons, tNil, tCB, tFld, tCallS, tMethW, tMakeS, WE, wKeep, tLits, tLst, tTup, wipe, rI, rI0, rU, rEq, rNe, scII, scSS, scBB, scNN, scNI, scNS, scNB, scIN, scSN, scBN, scIS, scSI, if_tt, if_ff, and_true, true_and, and_assoc, exists_and_left, exists_and_right, exists_const, cxK, decide_true, decide_false, Bool.not_true, Bool.not_false, eq_self_iff_true, Bool.true_eq_false, Bool.false_eq_true, if_true, if_false, reduceCtorEq, S_len, S_one, S_tl, decide_eq_true_eq, tUn, tAndV, tOrV, tNotV, tIf, tAnd, tOr, tNot, tB, tTest, tChain, tCall, tMeth, tMake, sFld, tSeq, tNext, tAsg, gName, tIfS, tRet, tRetN, tDrop, tM0, tM1, tBM, tBM0, rAppend, rPop, tSl, tPart, tNoPart, rIxL, rIxT, rIxS, rSlS, rSlL, rCat, tDisp, tPairs, tDGet, sDPut, gTup, gCons, gNil, gSub, gAttr, rSetL, tv, upd_same, upd_upd, List.length_cons, List.length_nil, Nat.reduceAdd, Nat.zero_add, lines, fk_Line T, lk_Line, inj_Line, upd_ne n1, upd_ne n4, hp1]
          exact grp (.inl r0) q hq
        · rw [if_neg r0]
          by_cases r20 : M.r = 20
          · rw [if_pos r20]
            refine ⟨.inl ⟨rfl, _, sq_of hb1⟩, x, ab, al, M, rfl, R1, fun q hq => ?_⟩
            have n2 := ne_new hb1 hq
            have n1 := ne_new hp1 hq
            have n4 := ne_il hp1 hb1
            refine ⟨vb, by rw [upd_ne n2]; exact hb1, Nat.lt_of_le_of_lt (by rw [pb.len]; exact hbl) (by decide), ?_⟩
            simp only [List.getElem?_cons_zero, List.getElem?_cons_succ, List.set_cons_zero, List.set_cons_succ, List.cons_append, List.nil_append, List.append_nil, Option.some.injEq, V.int.injEq, V.str.injEq, V.bl.injEq, V.ref.injEq, List.cons.injEq, HO.ins.injEq, HO.lst.injEq, HO.tup.injEq, S_inj, ofS_inj, String.reduceEq, ex_eq, ex_eq', ex_eq0, tLc_eq, tFor_eq, iStr, iRng1, iRng2, iList, iTup, tVar, tC, tOp, tCons, tNil, tCB, tFld, tCallS, tMethW, tMakeS, WE, wKeep, tLits, tLst, tTup, wipe, rI, rI0, rU, rEq, rNe, scII, scSS, scBB, scNN, scNI, scNS, scNB, scIN, scSN, scBN, scIS, scSI, if_tt, if_ff, and_true, true_and, and_assoc, exists_and_left, exists_and_right, exists_const, cxK, decide_true, decide_false, Bool.not_true, Bool.not_false, eq_self_iff_true, Bool.true_eq_false, Bool.false_eq_true, if_true, if_false, reduceCtorEq, S_len, S_one, S_tl, decide_eq_true_eq, tUn, tAndV, tOrV, tNotV, tIf, tAnd, tOr, tNot, tB, tTest, tChain, tCall, tMeth, tMake, sFld, tSeq, tNext, tAsg, gName, tIfS, tRet, tRetN, tDrop, tM0, tM1, tBM, tBM0, rAppend, rPop, tSl, tPart, tNoPart, rIxL, rIxT, rIxS, rSlS, rSlL, rCat, tDisp, tPairs, tDGet, sDPut, gTup, gCons, gNil, gSub, gAttr, rSetL, tv, upd_same, upd_upd, List.length_cons, List.length_nil, Nat.reduceAdd, Nat.zero_add, lines, fk_Line T, lk_Line, inj_Line, upd_ne n1, upd_ne n4, hp1]
            exact grp (.inr r20) q hq
          · rw [if_neg r20]
            refine ⟨?_, Fx.refl _ _⟩
            show LineAt K _ x ab al ⟨M.p, if M.r = 0 ∨ M.r = 20 then M.b ++ [M.p] else M.b, M.l, if M.r = 0 ∨ M.r = 20 then 0 else M.r⟩
            have r : ¬ (M.r = 0 ∨ M.r = 20) := fun h => h.elim r0 r20
            rw [if_neg r, if_neg r]
            exact R1
      · rintro σ' H2 ⟨rfl, R2, f2⟩
        walk_at "rd"
        obtain ⟨⟨dx2, hp2⟩, _⟩ := id R2
        refine ⟨by decide, fun q hq => ?_⟩
        have n1 := ne_new hp2 hq
        obtain ⟨R3, f3⟩ := R2.newL (dx := dx2) hq M.p (M1.r + 1)
        simp only [List.getElem?_cons_zero, List.getElem?_cons_succ, List.set_cons_zero, List.set_cons_succ, List.cons_append, List.nil_append, List.append_nil, Option.some.injEq, V.int.injEq, V.str.injEq, V.bl.injEq, V.ref.injEq, List.cons.injEq, HO.ins.injEq, HO.lst.injEq, HO.tup.injEq, S_inj, ofS_inj, String.reduceEq, ex_eq, ex_eq', ex_eq0, tLc_eq, tFor_eq, iStr, iRng1, iRng2, iList, iTup, tVar, tC, tOp, tCons, tNil, tCB, tFld, tCallS, tMethW, tMakeS, WE, wKeep, tLits, tLst, tTup, wipe, rI, rI0, rU, rEq, rNe, scII, scSS, scBB, scNN, scNI, scNS, scNB, scIN, scSN, scBN, scIS, scSI, if_tt, if_ff, and_true, true_and, and_assoc, exists_and_left, exists_and_right, exists_const, cxK, decide_true, decide_false, Bool.not_true, Bool.not_false, eq_self_iff_true, Bool.true_eq_false, Bool.false_eq_true, if_true, if_false, reduceCtorEq, S_len, S_one, S_tl, decide_eq_true_eq, tUn, tAndV, tOrV, tNotV, tIf, tAnd, tOr, tNot, tB, tTest, tChain, tCall, tMeth, tMake, sFld, tSeq, tNext, tAsg, gName, tIfS, tRet, tRetN, tDrop, tM0, tM1, tBM, tBM0, rAppend, rPop, tSl, tPart, tNoPart, rIxL, rIxT, rIxS, rSlS, rSlL, rCat, tDisp, tPairs, tDGet, sDPut, gTup, gCons, gNil, gSub, gAttr, rSetL, tv, upd_same, upd_upd, List.length_cons, List.length_nil, Nat.reduceAdd, Nat.zero_add, lines, fk_Line T, lk_Line, inj_Line, upd_ne n1, hp2]
        refine ⟨sline hn, x, ab, q, _, M.p.c, M.p.c, sign, M.p.c + sign.length, rfl, R3, ht, hn, ⟨hc, hc⟩, ?_⟩
        have e : M.write sign = ⟨M.p.put M.p.c M.p.c sign (M.p.c + sign.length), M1.b, [], M1.r + 1⟩ := by
          show (⟨_, _, _, _⟩ : Ln) = ⟨_, if M.r = 0 ∨ M.r = 20 then M.b ++ [M.p] else M.b, _, (if M.r = 0 ∨ M.r = 20 then 0 else M.r) + 1⟩
          by_cases r : M.r = 0 ∨ M.r = 20
          · rw [if_pos r, if_pos r, if_pos r]
            rfl
          · rw [if_neg r, if_neg r, if_neg r]
        rw [e] at k1
        exact k1.trans (f2.trans f3) (.inl rfl) (.inr (f2.free hq))
    · rw [if_neg fit] at k ⊢
      exact k
theorem d_Line_undo (T : TX K mg) : Mt P w K mg base 2 (He.ga K "Line") "undo" p_Line_undo (spLUndo K) := by
  refine mt_of (fn_Line_undo T) (cl_Line T) (me_Line_undo T) sc_Line_undo bd_Line_undo (fun vs H Q E h => ?_) (fun cdv A outer s H vs Q E hr h => ?_)
  · obtain ⟨x, ab, al, M, rfl, _⟩ := h
    rfl
  · obtain ⟨x, ab, al, M, rfl, R, hll, k⟩ := h
    obtain ⟨⟨dx, hp⟩, ⟨vb, hb, pb⟩, ⟨vl, hl, pl⟩, nbl⟩ := id R
    have nb := ne_il hp hb
    have nl := ne_il hp hl
    refine ⟨_, (pss_cons (ps_fld (pv 0) pe_int rfl) (pss_cons (ps_if (pt_not (pt_truth (pe_fld (pv 0) rfl) (by intro _; rfl))) (pss_one (ps_ret pe_bl)) pss_nil) (pss_cons (ps_expr (pe_bm PySem.F.plainAttrs_list PySem.F.slot_list_append PySem.F.type_list_append mt_append (pe_fld (pv 0) rfl) (pa_cons (pm0 (d_Line_picture T) (hr.mono (by decide)) px (pv 0)) pa_nil))) (pss_cons (ps_expr (pm (d_Line_show T) (hr.mono (by decide)) px (pv 0) (pa_cons (pe_bm0 PySem.F.plainAttrs_list PySem.F.slot_list_pop PySem.F.type_list_pop mt_pop (pe_fld (pv 0) rfl)) pa_nil))) (pss_one (ps_ret pe_bl)))))), ?_⟩
    walk_at "rd"
    simp only [List.getElem?_cons_zero, List.getElem?_cons_succ, List.set_cons_zero, List.set_cons_succ, List.cons_append, List.nil_append, List.append_nil, Option.some.injEq, V.int.injEq, V.str.injEq, V.bl.injEq, V.ref.injEq, List.cons.injEq, HO.ins.injEq, HO.lst.injEq, HO.tup.injEq, S_inj, ofS_inj, String.reduceEq, ex_eq, ex_eq', ex_eq0, tLc_eq, tFor_eq, iStr, iRng1, iRng2, iList, iTup, tVar, tC, tOp, tCons, tNil, tCB, tFld, tCallS, tMethW, tMakeS, WE, wKeep, tLits, tLst, tTup, wipe, rI, rI0, rU, rEq, rNe, scII, scSS, scBB, scNN, scNI, scNS, scNB, scIN, scSN, scBN, scIS, scSI, if_tt, if_ff, and_true, true_and, and_assoc, exists_and_left, exists_and_right, exists_const, cxK, decide_true, decide_false, Bool.not_true, Bool.not_false, eq_self_iff_true, Bool.true_eq_false, Bool.false_eq_true, if_true, if_false, reduceCtorEq, S_len, S_one, S_tl, decide_eq_true_eq, tUn, tAndV, tOrV, tNotV, tIf, tAnd, tOr, tNot, tB, tTest, tChain, tCall, tMeth, tMake, sFld, tSeq, tNext, tAsg, gName, tIfS, tRet, tRetN, tDrop, tM0, tM1, tBM, tBM0, rAppend, rPop, tSl, tPart, tNoPart, rIxL, rIxT, rIxS, rSlS, rSlL, rCat, tDisp, tPairs, tDGet, sDPut, gTup, gCons, gNil, gSub, gAttr, rSetL, tv, upd_same, upd_upd, List.length_cons, List.length_nil, Nat.reduceAdd, Nat.zero_add, lines, fk_Line T, lk_Line, inj_Line, hp]
    refine ⟨_, tru_lst (by rw [upd_ne nb.symm]; exact hb), ?_⟩
    have R1 := R.put (dx := dx) M.p 0
    by_cases e : M.b = []
    · have ev : vb = [] := by
        have := pb.len
        rw [e] at this
        exact List.length_eq_zero_iff.mp this
      rw [if_pos (by rw [ev]; decide)]
      have e1 : M.undo = ⟨M.p, M.b, M.l, 0⟩ := by
        unfold Ln.undo
        rw [e]
        rfl
      rw [e1, e] at k
      have := k.now (by rw [← e]; exact R1)
      exact this
    · have ev : vb ≠ [] := fun z => e (by
        have := pb.len
        rw [z] at this
        exact List.length_eq_zero_iff.mp this.symm)
      rw [if_neg (by rw [decide_eq_true ev]; decide)]
      obtain ⟨us, p, eb⟩ : ∃ us p, M.b = us ++ [p] := ⟨M.b.dropLast, M.b.getLast e, (List.dropLast_concat_getLast e).symm⟩
      have hl1 : upd H x (.ins (He.ga K "Line") dx (fs_Line (tv M.p.t) (.int M.p.c) (.int M.p.m) (.ref ab) (.ref al) (.int 0))) al = some (.lst vl) := by
        rw [upd_ne nl.symm]
        exact hl
      refine ⟨.inl ⟨rfl, _, sq_of hl1⟩, x, ab, al, _, rfl, R1.1, fun q hq => ?_⟩
      have n1 := ne_new hl1 hq
      refine ⟨vl, by rw [upd_ne n1]; exact hl1, Nat.lt_of_le_of_lt (by rw [pl.len]; exact hll) (by decide), ?_⟩
      obtain ⟨R2, f2⟩ := R1.1.addL hl1 hq M.p
      obtain ⟨⟨dx2, hp2⟩, ⟨vb2, hb2, pb2⟩, _⟩ := id R2
      simp only [List.getElem?_cons_zero, List.getElem?_cons_succ, List.set_cons_zero, List.set_cons_succ, List.cons_append, List.nil_append, List.append_nil, Option.some.injEq, V.int.injEq, V.str.injEq, V.bl.injEq, V.ref.injEq, List.cons.injEq, HO.ins.injEq, HO.lst.injEq, HO.tup.injEq, S_inj, ofS_inj, String.reduceEq, ex_eq, ex_eq', ex_eq0, tLc_eq, tFor_eq, iStr, iRng1, iRng2, iList, iTup, tVar, tC, tOp, tCons, tNil, tCB, tFld, tCallS, tMethW, tMakeS, WE, wKeep, tLits, tLst, tTup, wipe, rI, rI0, rU, rEq, rNe, scII, scSS, scBB, scNN, scNI, scNS, scNB, scIN, scSN, scBN, scIS, scSI, if_tt, if_ff, and_true, true_and, and_assoc, exists_and_left, exists_and_right, exists_const, cxK, decide_true, decide_false, Bool.not_true, Bool.not_false, eq_self_iff_true, Bool.true_eq_false, Bool.false_eq_true, if_true, if_false, reduceCtorEq, S_len, S_one, S_tl, decide_eq_true_eq, tUn, tAndV, tOrV, tNotV, tIf, tAnd, tOr, tNot, tB, tTest, tChain, tCall, tMeth, tMake, sFld, tSeq, tNext, tAsg, gName, tIfS, tRet, tRetN, tDrop, tM0, tM1, tBM, tBM0, rAppend, rPop, tSl, tPart, tNoPart, rIxL, rIxT, rIxS, rSlS, rSlL, rCat, tDisp, tPairs, tDGet, sDPut, gTup, gCons, gNil, gSub, gAttr, rSetL, tv, upd_same, upd_upd, List.length_cons, List.length_nil, Nat.reduceAdd, Nat.zero_add, lines, fk_Line T, lk_Line, inj_Line, hp2]
      obtain ⟨q2, e3, hq2, R3, f3⟩ := R2.popB hb2 eb
      refine ⟨.inl ⟨rfl, _, sq_of hb2⟩, _, hb2, _, e3, ?_⟩
      refine ⟨x, ab, al, q2, _, p, rfl, R3, f3.tup hq2, ?_⟩
      have e4 : M.undo = ⟨p, us, M.l ++ [M.p], 0⟩ := by
        unfold Ln.undo
        rw [eb, List.getLast?_concat, List.dropLast_concat]
      rw [decide_eq_true e, e4] at k
      exact k.trans ((R1.2.trans f2).trans f3) (.inl rfl) (.inl rfl)
theorem d_Line_redo (T : TX K mg) : Mt P w K mg base 2 (He.ga K "Line") "redo" p_Line_redo (spLRedo K) := by
  refine mt_of (fn_Line_redo T) (cl_Line T) (me_Line_redo T) sc_Line_redo bd_Line_redo (fun vs H Q E h => ?_) (fun cdv A outer s H vs Q E hr h => ?_)
  · obtain ⟨x, ab, al, M, rfl, _⟩ := h
    rfl
  · obtain ⟨x, ab, al, M, rfl, R, hll, k⟩ := h
    obtain ⟨⟨dx, hp⟩, ⟨vb, hb, pb⟩, ⟨vl, hl, pl⟩, nbl⟩ := id R
    have nb := ne_il hp hb
    have nl := ne_il hp hl
    refine ⟨_, (pss_cons (ps_fld (pv 0) pe_int rfl) (pss_cons (ps_if (pt_not (pt_truth (pe_fld (pv 0) rfl) (by intro _; rfl))) (pss_one (ps_ret pe_bl)) pss_nil) (pss_cons (ps_expr (pe_bm PySem.F.plainAttrs_list PySem.F.slot_list_append PySem.F.type_list_append mt_append (pe_fld (pv 0) rfl) (pa_cons (pm0 (d_Line_picture T) (hr.mono (by decide)) px (pv 0)) pa_nil))) (pss_cons (ps_expr (pm (d_Line_show T) (hr.mono (by decide)) px (pv 0) (pa_cons (pe_bm0 PySem.F.plainAttrs_list PySem.F.slot_list_pop PySem.F.type_list_pop mt_pop (pe_fld (pv 0) rfl)) pa_nil))) (pss_one (ps_ret pe_bl)))))), ?_⟩
    walk_at "rd"
    simp only [List.getElem?_cons_zero, List.getElem?_cons_succ, List.set_cons_zero, List.set_cons_succ, List.cons_append, List.nil_append, List.append_nil, Option.some.injEq, V.int.injEq, V.str.injEq, V.bl.injEq, V.ref.injEq, List.cons.injEq, HO.ins.injEq, HO.lst.injEq, HO.tup.injEq, S_inj, ofS_inj, String.reduceEq, ex_eq, ex_eq', ex_eq0, tLc_eq, tFor_eq, iStr, iRng1, iRng2, iList, iTup, tVar, tC, tOp, tCons, tNil, tCB, tFld, tCallS, tMethW, tMakeS, WE, wKeep, tLits, tLst, tTup, wipe, rI, rI0, rU, rEq, rNe, scII, scSS, scBB, scNN, scNI, scNS, scNB, scIN, scSN, scBN, scIS, scSI, if_tt, if_ff, and_true, true_and, and_assoc, exists_and_left, exists_and_right, exists_const, cxK, decide_true, decide_false, Bool.not_true, Bool.not_false, eq_self_iff_true, Bool.true_eq_false, Bool.false_eq_true, if_true, if_false, reduceCtorEq, S_len, S_one, S_tl, decide_eq_true_eq, tUn, tAndV, tOrV, tNotV, tIf, tAnd, tOr, tNot, tB, tTest, tChain, tCall, tMeth, tMake, sFld, tSeq, tNext, tAsg, gName, tIfS, tRet, tRetN, tDrop, tM0, tM1, tBM, tBM0, rAppend, rPop, tSl, tPart, tNoPart, rIxL, rIxT, rIxS, rSlS, rSlL, rCat, tDisp, tPairs, tDGet, sDPut, gTup, gCons, gNil, gSub, gAttr, rSetL, tv, upd_same, upd_upd, List.length_cons, List.length_nil, Nat.reduceAdd, Nat.zero_add, lines, fk_Line T, lk_Line, inj_Line, hp]
    refine ⟨_, tru_lst (by rw [upd_ne nl.symm]; exact hl), ?_⟩
    have R1 := R.put (dx := dx) M.p 0
    by_cases e : M.l = []
    · have ev : vl = [] := by
        have := pl.len
        rw [e] at this
        exact List.length_eq_zero_iff.mp this
      rw [if_pos (by rw [ev]; decide)]
      have e1 : M.redo = ⟨M.p, M.b, M.l, 0⟩ := by
        unfold Ln.redo
        rw [e]
        rfl
      rw [e1, e] at k
      have := k.now (by rw [← e]; exact R1)
      exact this
    · have ev : vl ≠ [] := fun z => e (by
        have := pl.len
        rw [z] at this
        exact List.length_eq_zero_iff.mp this.symm)
      rw [if_neg (by rw [decide_eq_true ev]; decide)]
      obtain ⟨us, p, eb⟩ : ∃ us p, M.l = us ++ [p] := ⟨M.l.dropLast, M.l.getLast e, (List.dropLast_concat_getLast e).symm⟩
      have hb1 : upd H x (.ins (He.ga K "Line") dx (fs_Line (tv M.p.t) (.int M.p.c) (.int M.p.m) (.ref ab) (.ref al) (.int 0))) ab = some (.lst vb) := by
        rw [upd_ne nb.symm]
        exact hb
      refine ⟨.inl ⟨rfl, _, sq_of hb1⟩, x, ab, al, _, rfl, R1.1, fun q hq => ?_⟩
      have n1 := ne_new hb1 hq
      refine ⟨vb, by rw [upd_ne n1]; exact hb1, Nat.lt_of_le_of_lt (by rw [pb.len]; exact hll) (by decide), ?_⟩
      obtain ⟨R2, f2⟩ := R1.1.addB hb1 hq M.p
      obtain ⟨⟨dx2, hp2⟩, _, ⟨vl2, hl2, pl2⟩, _⟩ := id R2
      simp only [List.getElem?_cons_zero, List.getElem?_cons_succ, List.set_cons_zero, List.set_cons_succ, List.cons_append, List.nil_append, List.append_nil, Option.some.injEq, V.int.injEq, V.str.injEq, V.bl.injEq, V.ref.injEq, List.cons.injEq, HO.ins.injEq, HO.lst.injEq, HO.tup.injEq, S_inj, ofS_inj, String.reduceEq, ex_eq, ex_eq', ex_eq0, tLc_eq, tFor_eq, iStr, iRng1, iRng2, iList, iTup, tVar, tC, tOp, tCons, tNil, tCB, tFld, tCallS, tMethW, tMakeS, WE, wKeep, tLits, tLst, tTup, wipe, rI, rI0, rU, rEq, rNe, scII, scSS, scBB, scNN, scNI, scNS, scNB, scIN, scSN, scBN, scIS, scSI, if_tt, if_ff, and_true, true_and, and_assoc, exists_and_left, exists_and_right, exists_const, cxK, decide_true, decide_false, Bool.not_true, Bool.not_false, eq_self_iff_true, Bool.true_eq_false, Bool.false_eq_true, if_true, if_false, reduceCtorEq, S_len, S_one, S_tl, decide_eq_true_eq, tUn, tAndV, tOrV, tNotV, tIf, tAnd, tOr, tNot, tB, tTest, tChain, tCall, tMeth, tMake, sFld, tSeq, tNext, tAsg, gName, tIfS, tRet, tRetN, tDrop, tM0, tM1, tBM, tBM0, rAppend, rPop, tSl, tPart, tNoPart, rIxL, rIxT, rIxS, rSlS, rSlL, rCat, tDisp, tPairs, tDGet, sDPut, gTup, gCons, gNil, gSub, gAttr, rSetL, tv, upd_same, upd_upd, List.length_cons, List.length_nil, Nat.reduceAdd, Nat.zero_add, lines, fk_Line T, lk_Line, inj_Line, hp2]
      obtain ⟨q2, e3, hq2, R3, f3⟩ := R2.popL hl2 eb
      refine ⟨.inl ⟨rfl, _, sq_of hl2⟩, _, hl2, _, e3, ?_⟩
      refine ⟨x, ab, al, q2, _, p, rfl, R3, f3.tup hq2, ?_⟩
      have e4 : M.redo = ⟨p, M.b ++ [M.p], us, 0⟩ := by
        unfold Ln.redo
        rw [eb, List.getLast?_concat, List.dropLast_concat]
      rw [decide_eq_true e, e4] at k
      exact k.trans ((R1.2.trans f2).trans f3) (.inl rfl) (.inl rfl)
theorem d_Line_clear (T : TX K mg) : Mt P w K mg base 2 (He.ga K "Line") "clear" p_Line_clear (spLClear K) := by
  refine mt_of (fn_Line_clear T) (cl_Line T) (me_Line_clear T) sc_Line_clear bd_Line_clear (fun vs H Q E h => ?_) (fun cdv A outer s H vs Q E hr h => ?_)
  · obtain ⟨x, ab, al, M, rfl, _⟩ := h
    rfl
  · obtain ⟨x, ab, al, M, rfl, R, k⟩ := h
    obtain ⟨⟨dx, hp⟩, ⟨vb, hb, pb⟩, ⟨vl, hl, pl⟩, nbl⟩ := id R
    have nb := ne_il hp hb
    have nl := ne_il hp hl
    refine ⟨_, (pss_cons (ps_expr (pm (d_Line_show T) (hr.mono (by decide)) px (pv 0) (pa_cons (pe_tup (pa_cons pe_str (pa_cons pe_int (pa_cons pe_int pa_nil)))) pa_nil))) (pss_cons (ps_fld (pv 0) (pe_lst pa_nil) rfl) (pss_cons (ps_fld (pv 0) (pe_lst pa_nil) rfl) (pss_one (ps_fld (pv 0) pe_int rfl))))), ?_⟩
    walk_at "rd"
    simp only [List.getElem?_cons_zero, List.getElem?_cons_succ, List.set_cons_zero, List.set_cons_succ, List.cons_append, List.nil_append, List.append_nil, Option.some.injEq, V.int.injEq, V.str.injEq, V.bl.injEq, V.ref.injEq, List.cons.injEq, HO.ins.injEq, HO.lst.injEq, HO.tup.injEq, S_inj, ofS_inj, String.reduceEq, ex_eq, ex_eq', ex_eq0, tLc_eq, tFor_eq, iStr, iRng1, iRng2, iList, iTup, tVar, tC, tOp, tCons, tNil, tCB, tFld, tCallS, tMethW, tMakeS, WE, wKeep, tLits, tLst, tTup, wipe, rI, rI0, rU, rEq, rNe, scII, scSS, scBB, scNN, scNI, scNS, scNB, scIN, scSN, scBN, scIS, scSI, if_tt, if_ff, and_true, true_and, and_assoc, exists_and_left, exists_and_right, exists_const, cxK, decide_true, decide_false, Bool.not_true, Bool.not_false, eq_self_iff_true, Bool.true_eq_false, Bool.false_eq_true, if_true, if_false, reduceCtorEq, S_len, S_one, S_tl, decide_eq_true_eq, tUn, tAndV, tOrV, tNotV, tIf, tAnd, tOr, tNot, tB, tTest, tChain, tCall, tMeth, tMake, sFld, tSeq, tNext, tAsg, gName, tIfS, tRet, tRetN, tDrop, tM0, tM1, tBM, tBM0, rAppend, rPop, tSl, tPart, tNoPart, rIxL, rIxT, rIxS, rSlS, rSlL, rCat, tDisp, tPairs, tDGet, sDPut, gTup, gCons, gNil, gSub, gAttr, rSetL, tv, upd_same, upd_upd, List.length_cons, List.length_nil, Nat.reduceAdd, Nat.zero_add, lines, fk_Line T, lk_Line, inj_Line, hp]
    intro q hq
    refine ⟨x, ab, al, q, M, ⟨[], 0, 0⟩, rfl, R.same (same_new hq), upd_same, fun ab1 al1 H1 m1 m2 f1 R1 => ?_⟩
    have k1 := (k.same (same_new hq)).trans f1 m1 m2
    obtain ⟨⟨dx1, hp1⟩, _⟩ := id R1
    simp only [List.getElem?_cons_zero, List.getElem?_cons_succ, List.set_cons_zero, List.set_cons_succ, List.cons_append, List.nil_append, List.append_nil, Option.some.injEq, V.int.injEq, V.str.injEq, V.bl.injEq, V.ref.injEq, List.cons.injEq, HO.ins.injEq, HO.lst.injEq, HO.tup.injEq, S_inj, ofS_inj, String.reduceEq, ex_eq, ex_eq', ex_eq0, tLc_eq, tFor_eq, iStr, iRng1, iRng2, iList, iTup, tVar, tC, tOp, tCons, tNil, tCB, tFld, tCallS, tMethW, tMakeS, WE, wKeep, tLits, tLst, tTup, wipe, rI, rI0, rU, rEq, rNe, scII, scSS, scBB, scNN, scNI, scNS, scNB, scIN, scSN, scBN, scIS, scSI, if_tt, if_ff, and_true, true_and, and_assoc, exists_and_left, exists_and_right, exists_const, cxK, decide_true, decide_false, Bool.not_true, Bool.not_false, eq_self_iff_true, Bool.true_eq_false, Bool.false_eq_true, if_true, if_false, reduceCtorEq, S_len, S_one, S_tl, decide_eq_true_eq, tUn, tAndV, tOrV, tNotV, tIf, tAnd, tOr, tNot, tB, tTest, tChain, tCall, tMeth, tMake, sFld, tSeq, tNext, tAsg, gName, tIfS, tRet, tRetN, tDrop, tM0, tM1, tBM, tBM0, rAppend, rPop, tSl, tPart, tNoPart, rIxL, rIxT, rIxS, rSlS, rSlL, rCat, tDisp, tPairs, tDGet, sDPut, gTup, gCons, gNil, gSub, gAttr, rSetL, tv, upd_same, upd_upd, List.length_cons, List.length_nil, Nat.reduceAdd, Nat.zero_add, lines, fk_Line T, lk_Line, inj_Line, hp1]
    intro p0 hp0
    have n1 := ne_new hp1 hp0
    obtain ⟨R2, f2⟩ := R1.newB (dx := dx1) hp0 ⟨[], 0, 0⟩ M.r
    obtain ⟨⟨dx2, hp2⟩, _⟩ := id R2
    simp only [List.getElem?_cons_zero, List.getElem?_cons_succ, List.set_cons_zero, List.set_cons_succ, List.cons_append, List.nil_append, List.append_nil, Option.some.injEq, V.int.injEq, V.str.injEq, V.bl.injEq, V.ref.injEq, List.cons.injEq, HO.ins.injEq, HO.lst.injEq, HO.tup.injEq, S_inj, ofS_inj, String.reduceEq, ex_eq, ex_eq', ex_eq0, tLc_eq, tFor_eq, iStr, iRng1, iRng2, iList, iTup, tVar, tC, tOp, tCons, tNil, tCB, tFld, tCallS, tMethW, tMakeS, WE, wKeep, tLits, tLst, tTup, wipe, rI, rI0, rU, rEq, rNe, scII, scSS, scBB, scNN, scNI, scNS, scNB, scIN, scSN, scBN, scIS, scSI, if_tt, if_ff, and_true, true_and, and_assoc, exists_and_left, exists_and_right, exists_const, cxK, decide_true, decide_false, Bool.not_true, Bool.not_false, eq_self_iff_true, Bool.true_eq_false, Bool.false_eq_true, if_true, if_false, reduceCtorEq, S_len, S_one, S_tl, decide_eq_true_eq, tUn, tAndV, tOrV, tNotV, tIf, tAnd, tOr, tNot, tB, tTest, tChain, tCall, tMeth, tMake, sFld, tSeq, tNext, tAsg, gName, tIfS, tRet, tRetN, tDrop, tM0, tM1, tBM, tBM0, rAppend, rPop, tSl, tPart, tNoPart, rIxL, rIxT, rIxS, rSlS, rSlL, rCat, tDisp, tPairs, tDGet, sDPut, gTup, gCons, gNil, gSub, gAttr, rSetL, tv, upd_same, upd_upd, List.length_cons, List.length_nil, Nat.reduceAdd, Nat.zero_add, lines, fk_Line T, lk_Line, inj_Line, upd_ne n1, hp1]
    intro p1 hp1'
    have n2 := ne_new hp2 hp1'
    obtain ⟨R3, f3⟩ := R2.newL (dx := dx1) hp1' ⟨[], 0, 0⟩ 0
    simp only [List.getElem?_cons_zero, List.getElem?_cons_succ, List.set_cons_zero, List.set_cons_succ, List.cons_append, List.nil_append, List.append_nil, Option.some.injEq, V.int.injEq, V.str.injEq, V.bl.injEq, V.ref.injEq, List.cons.injEq, HO.ins.injEq, HO.lst.injEq, HO.tup.injEq, S_inj, ofS_inj, String.reduceEq, ex_eq, ex_eq', ex_eq0, tLc_eq, tFor_eq, iStr, iRng1, iRng2, iList, iTup, tVar, tC, tOp, tCons, tNil, tCB, tFld, tCallS, tMethW, tMakeS, WE, wKeep, tLits, tLst, tTup, wipe, rI, rI0, rU, rEq, rNe, scII, scSS, scBB, scNN, scNI, scNS, scNB, scIN, scSN, scBN, scIS, scSI, if_tt, if_ff, and_true, true_and, and_assoc, exists_and_left, exists_and_right, exists_const, cxK, decide_true, decide_false, Bool.not_true, Bool.not_false, eq_self_iff_true, Bool.true_eq_false, Bool.false_eq_true, if_true, if_false, reduceCtorEq, S_len, S_one, S_tl, decide_eq_true_eq, tUn, tAndV, tOrV, tNotV, tIf, tAnd, tOr, tNot, tB, tTest, tChain, tCall, tMeth, tMake, sFld, tSeq, tNext, tAsg, gName, tIfS, tRet, tRetN, tDrop, tM0, tM1, tBM, tBM0, rAppend, rPop, tSl, tPart, tNoPart, rIxL, rIxT, rIxS, rSlS, rSlL, rCat, tDisp, tPairs, tDGet, sDPut, gTup, gCons, gNil, gSub, gAttr, rSetL, tv, upd_same, upd_upd, List.length_cons, List.length_nil, Nat.reduceAdd, Nat.zero_add, lines, fk_Line T, lk_Line, inj_Line, upd_ne n2]
    refine k1 p0 p1 _ (.inr hp0) (.inr (f2.free hp1')) (f2.comp f3 fun c hc => ?_) R3
    simp only [List.mem_cons, List.not_mem_nil, or_false] at hc ⊢
    rcases hc with h | h | h
    · exact .inl (.inl h)
    · exact .inr (by rw [h]; exact hp0)
    · exact .inl (.inr (.inr h))
theorem d_Line_groups (T : TX K mg) : Mt P w K mg base 1 (He.ga K "Line") "groups" p_Line_groups (spLGroups K) := by
  refine mt_of (fn_Line_groups T) (cl_Line T) (me_Line_groups T) sc_Line_groups bd_Line_groups (fun vs H Q E h => ?_) (fun cdv A outer s H vs Q E hr h => ?_)
  · obtain ⟨x, ab, al, M, rfl, _⟩ := h
    rfl
  · obtain ⟨x, ab, al, M, rfl, R, k⟩ := h
    obtain ⟨⟨dx, hp⟩, ⟨vb, hb, pb⟩, ⟨vl, hl, pl⟩, nbl⟩ := id R
    have nb := ne_il hp hb
    have nl := ne_il hp hl
    refine ⟨_, (pss_one (ps_ret (pe_tup (pa_cons (pe_callB call_len_seq (by rfl) (b_len T) boot_len (pa_cons (pe_fld (pv 0) rfl) pa_nil)) (pa_cons (pe_callB call_len_seq (by rfl) (b_len T) boot_len (pa_cons (pe_fld (pv 0) rfl) pa_nil)) pa_nil))))), ?_⟩
    walk_at "rd"
    simp only [List.getElem?_cons_zero, List.getElem?_cons_succ, List.set_cons_zero, List.set_cons_succ, List.cons_append, List.nil_append, List.append_nil, Option.some.injEq, V.int.injEq, V.str.injEq, V.bl.injEq, V.ref.injEq, List.cons.injEq, HO.ins.injEq, HO.lst.injEq, HO.tup.injEq, S_inj, ofS_inj, String.reduceEq, ex_eq, ex_eq', ex_eq0, tLc_eq, tFor_eq, iStr, iRng1, iRng2, iList, iTup, tVar, tC, tOp, tCons, tNil, tCB, tFld, tCallS, tMethW, tMakeS, WE, wKeep, tLits, tLst, tTup, wipe, rI, rI0, rU, rEq, rNe, scII, scSS, scBB, scNN, scNI, scNS, scNB, scIN, scSN, scBN, scIS, scSI, if_tt, if_ff, and_true, true_and, and_assoc, exists_and_left, exists_and_right, exists_const, cxK, decide_true, decide_false, Bool.not_true, Bool.not_false, eq_self_iff_true, Bool.true_eq_false, Bool.false_eq_true, if_true, if_false, reduceCtorEq, S_len, S_one, S_tl, decide_eq_true_eq, tUn, tAndV, tOrV, tNotV, tIf, tAnd, tOr, tNot, tB, tTest, tChain, tCall, tMeth, tMake, sFld, tSeq, tNext, tAsg, gName, tIfS, tRet, tRetN, tDrop, tM0, tM1, tBM, tBM0, rAppend, rPop, tSl, tPart, tNoPart, rIxL, rIxT, rIxS, rSlS, rSlL, rCat, tDisp, tPairs, tDGet, sDPut, gTup, gCons, gNil, gSub, gAttr, rSetL, tv, upd_same, upd_upd, List.length_cons, List.length_nil, Nat.reduceAdd, Nat.zero_add, lines, fk_Line T, lk_Line, inj_Line, hp]
    refine ⟨_, .inl (sq_of hb), _, .inl (sq_of hl), ?_⟩
    simp only [List.getElem?_cons_zero, List.getElem?_cons_succ, List.set_cons_zero, List.set_cons_succ, List.cons_append, List.nil_append, List.append_nil, Option.some.injEq, V.int.injEq, V.str.injEq, V.bl.injEq, V.ref.injEq, List.cons.injEq, HO.ins.injEq, HO.lst.injEq, HO.tup.injEq, S_inj, ofS_inj, String.reduceEq, ex_eq, ex_eq', ex_eq0, tLc_eq, tFor_eq, iStr, iRng1, iRng2, iList, iTup, tVar, tC, tOp, tCons, tNil, tCB, tFld, tCallS, tMethW, tMakeS, WE, wKeep, tLits, tLst, tTup, wipe, rI, rI0, rU, rEq, rNe, scII, scSS, scBB, scNN, scNI, scNS, scNB, scIN, scSN, scBN, scIS, scSI, if_tt, if_ff, and_true, true_and, and_assoc, exists_and_left, exists_and_right, exists_const, cxK, decide_true, decide_false, Bool.not_true, Bool.not_false, eq_self_iff_true, Bool.true_eq_false, Bool.false_eq_true, if_true, if_false, reduceCtorEq, S_len, S_one, S_tl, decide_eq_true_eq, tUn, tAndV, tOrV, tNotV, tIf, tAnd, tOr, tNot, tB, tTest, tChain, tCall, tMeth, tMake, sFld, tSeq, tNext, tAsg, gName, tIfS, tRet, tRetN, tDrop, tM0, tM1, tBM, tBM0, rAppend, rPop, tSl, tPart, tNoPart, rIxL, rIxT, rIxS, rSlS, rSlL, rCat, tDisp, tPairs, tDGet, sDPut, gTup, gCons, gNil, gSub, gAttr, rSetL, tv, upd_same, upd_upd, List.length_cons, List.length_nil, Nat.reduceAdd, Nat.zero_add, lines, fk_Line T, lk_Line, inj_Line, pb.len, pl.len]
    exact k
end
end LH
/-! ## A law's own line: a dict of what is there -/
namespace LH
open PySem PySem.Spec PyProof.Rows L2
/-- the dict at d tells a line: its pictures by tuples, two lists, the run -/
structure StAt (H : Hp) (d : Addr) (kvs : List (Key × V)) (ab al : Addr) (L : Ln) : Prop where
  e : H d = some (.dK kvs)
  n : ∃ qn, valV kvs (.inr "now") = some (.ref qn) ∧ H qn = some (.tup (picV L.p))
  vb : valV kvs (.inr "before") = some (.ref ab)
  b : ∃ xs, H ab = some (.lst xs) ∧ PicsAt H xs L.b
  vl : valV kvs (.inr "later") = some (.ref al)
  l : ∃ xs, H al = some (.lst xs) ∧ PicsAt H xs L.l
  r : valV kvs (.inr "run") = some (.int L.r)
  ne : ab ≠ al
  len : kvs.length ≤ 100
def lineKeys : List Key := [.inr "now", .inr "before", .inr "later", .inr "run"]
/-- other keys are as they were -/
def KeyFx (kvs kvs' : List (Key × V)) : Prop := ∀ k, k ∉ lineKeys → valV kvs' k = valV kvs k
def StTo (H : Hp) (d : Addr) (kvs : List (Key × V)) (ab al : Addr) (L : Ln) (Q : Hp → Prop) : Prop :=
  ∀ kvs' ab' al' H', KeyFx kvs kvs' → New H ab ab' → New H al al' → Fx [d, ab, al] H H' → StAt H' d kvs' ab' al' L → Q H'
theorem putK_there {kvs : List (Key × V)} {k : Key} {u v : V} (h : valV kvs k = some u) : (putK kvs k v).length = kvs.length := by
  have a : (kvs.any fun kv => decide (kv.1 = k)) = true := by
    cases e : kvs.any fun kv => decide (kv.1 = k) with
    | true => rfl
    | false =>
      rw [List.any_eq_false] at e
      have z : valV kvs k = none := by
        unfold valV
        rw [List.find?_eq_none.mpr fun x hx => e x hx]
        rfl
      rw [z] at h
      cases h
  unfold putK
  rw [if_pos a, List.length_map]
theorem StAt.setN {H : Hp} {d ab al : Addr} {kvs : List (Key × V)} {L : Ln} (S : StAt H d kvs ab al L) {q : Addr} {p : Pic} (hq : H q = some (.tup (picV p))) :
    StAt (upd H d (.dK (putK kvs (.inr "now") (.ref q)))) d (putK kvs (.inr "now") (.ref q)) ab al ⟨p, L.b, L.l, L.r⟩ ∧ Fx [d, ab, al] H (upd H d (.dK (putK kvs (.inr "now") (.ref q)))) ∧ KeyFx kvs (putK kvs (.inr "now") (.ref q)) := by
  have z : ∀ j : Key, valV (putK kvs (.inr "now") (.ref q)) j = if j = .inr "now" then some (.ref q) else valV kvs j := fun j => valV_put kvs _ j _
  have f : Fx [d, ab, al] H (upd H d (.dK (putK kvs (.inr "now") (.ref q)))) := Fx.upd List.mem_cons_self (nt_dK S.e)
  obtain ⟨vb, hb, pb⟩ := S.b
  obtain ⟨vl, hl, pl⟩ := S.l
  obtain ⟨qn, vn, hn⟩ := S.n
  have db : d ≠ ab := ne_of2 S.e hb (by intro z; cases z)
  have dl : d ≠ al := ne_of2 S.e hl (by intro z; cases z)
  have len : (putK kvs (.inr "now") (.ref q)).length ≤ 100 := by
    rw [putK_there vn]
    exact S.len
  refine ⟨⟨upd_same, ?_, ?_, ?_, ?_, ?_, ?_, S.ne, len⟩, f, fun k hk => ?_⟩
  · exact ⟨q, by rw [z]; simp only [Sum.inr.injEq, ofS_inj, String.reduceEq, if_true, if_false, reduceIte], f.tup hq⟩
  · rw [z]
    simp only [Sum.inr.injEq, ofS_inj, String.reduceEq, if_true, if_false, reduceIte]
    exact S.vb
  · exact ⟨vb, by rw [upd_ne db.symm]; exact hb, pb.fx f⟩
  · rw [z]
    simp only [Sum.inr.injEq, ofS_inj, String.reduceEq, if_true, if_false, reduceIte]
    exact S.vl
  · exact ⟨vl, by rw [upd_ne dl.symm]; exact hl, pl.fx f⟩
  · rw [z]
    simp only [Sum.inr.injEq, ofS_inj, String.reduceEq, if_true, if_false, reduceIte]
    exact S.r
  · rw [z, if_neg fun e => hk (by rw [e]; simp [lineKeys])]
theorem StAt.setR {H : Hp} {d ab al : Addr} {kvs : List (Key × V)} {L : Ln} (S : StAt H d kvs ab al L) (r : Int) :
    StAt (upd H d (.dK (putK kvs (.inr "run") (.int r)))) d (putK kvs (.inr "run") (.int r)) ab al ⟨L.p, L.b, L.l, r⟩ ∧ Fx [d, ab, al] H (upd H d (.dK (putK kvs (.inr "run") (.int r)))) ∧ KeyFx kvs (putK kvs (.inr "run") (.int r)) := by
  have z : ∀ j : Key, valV (putK kvs (.inr "run") (.int r)) j = if j = .inr "run" then some (.int r) else valV kvs j := fun j => valV_put kvs _ j _
  have f : Fx [d, ab, al] H (upd H d (.dK (putK kvs (.inr "run") (.int r)))) := Fx.upd List.mem_cons_self (nt_dK S.e)
  obtain ⟨vb, hb, pb⟩ := S.b
  obtain ⟨vl, hl, pl⟩ := S.l
  obtain ⟨qn, vn, hn⟩ := S.n
  have db : d ≠ ab := ne_of2 S.e hb (by intro z; cases z)
  have dl : d ≠ al := ne_of2 S.e hl (by intro z; cases z)
  have len : (putK kvs (.inr "run") (.int r)).length ≤ 100 := by
    rw [putK_there S.r]
    exact S.len
  refine ⟨⟨upd_same, ?_, ?_, ?_, ?_, ?_, ?_, S.ne, len⟩, f, fun k hk => ?_⟩
  · exact ⟨qn, by rw [z]; simp only [Sum.inr.injEq, ofS_inj, String.reduceEq, if_true, if_false, reduceIte]; exact vn, f.tup hn⟩
  · rw [z]
    simp only [Sum.inr.injEq, ofS_inj, String.reduceEq, if_true, if_false, reduceIte]
    exact S.vb
  · exact ⟨vb, by rw [upd_ne db.symm]; exact hb, pb.fx f⟩
  · rw [z]
    simp only [Sum.inr.injEq, ofS_inj, String.reduceEq, if_true, if_false, reduceIte]
    exact S.vl
  · exact ⟨vl, by rw [upd_ne dl.symm]; exact hl, pl.fx f⟩
  · rw [z]
    simp only [Sum.inr.injEq, ofS_inj, String.reduceEq, if_true, if_false, reduceIte]
  · rw [z, if_neg fun e => hk (by rw [e]; simp [lineKeys])]
theorem StAt.setLater {H : Hp} {d ab al : Addr} {kvs : List (Key × V)} {L : Ln} (S : StAt H d kvs ab al L) {q : Addr} (hq : H q = some (.lst [])) (nq : ab ≠ q) :
    StAt (upd H d (.dK (putK kvs (.inr "later") (.ref q)))) d (putK kvs (.inr "later") (.ref q)) ab q ⟨L.p, L.b, [], L.r⟩ ∧ Fx [d, ab, al] H (upd H d (.dK (putK kvs (.inr "later") (.ref q)))) ∧ KeyFx kvs (putK kvs (.inr "later") (.ref q)) := by
  have z : ∀ j : Key, valV (putK kvs (.inr "later") (.ref q)) j = if j = .inr "later" then some (.ref q) else valV kvs j := fun j => valV_put kvs _ j _
  have f : Fx [d, ab, al] H (upd H d (.dK (putK kvs (.inr "later") (.ref q)))) := Fx.upd List.mem_cons_self (nt_dK S.e)
  obtain ⟨vb, hb, pb⟩ := S.b
  obtain ⟨vl, hl, pl⟩ := S.l
  obtain ⟨qn, vn, hn⟩ := S.n
  have db : d ≠ ab := ne_of2 S.e hb (by intro z; cases z)
  have dl : d ≠ al := ne_of2 S.e hl (by intro z; cases z)
  have len : (putK kvs (.inr "later") (.ref q)).length ≤ 100 := by
    rw [putK_there S.vl]
    exact S.len
  refine ⟨⟨upd_same, ?_, ?_, ?_, ?_, ?_, ?_, nq, len⟩, f, fun k hk => ?_⟩
  · exact ⟨qn, by rw [z]; simp only [Sum.inr.injEq, ofS_inj, String.reduceEq, if_true, if_false, reduceIte]; exact vn, f.tup hn⟩
  · rw [z]
    simp only [Sum.inr.injEq, ofS_inj, String.reduceEq, if_true, if_false, reduceIte]
    exact S.vb
  · exact ⟨vb, by rw [upd_ne db.symm]; exact hb, pb.fx f⟩
  · rw [z]
    simp only [Sum.inr.injEq, ofS_inj, String.reduceEq, if_true, if_false, reduceIte]
  · exact ⟨[], by rw [upd_ne (ne_of2 S.e hq (by intro z; cases z)).symm]; exact hq, .nil⟩
  · rw [z]
    simp only [Sum.inr.injEq, ofS_inj, String.reduceEq, if_true, if_false, reduceIte]
    exact S.r
  · rw [z, if_neg fun e => hk (by rw [e]; simp [lineKeys])]
theorem StAt.setBefore {H : Hp} {d ab al : Addr} {kvs : List (Key × V)} {L : Ln} (S : StAt H d kvs ab al L) {q : Addr} (hq : H q = some (.lst [])) (nq : q ≠ al) :
    StAt (upd H d (.dK (putK kvs (.inr "before") (.ref q)))) d (putK kvs (.inr "before") (.ref q)) q al ⟨L.p, [], L.l, L.r⟩ ∧ Fx [d, ab, al] H (upd H d (.dK (putK kvs (.inr "before") (.ref q)))) ∧ KeyFx kvs (putK kvs (.inr "before") (.ref q)) := by
  have z : ∀ j : Key, valV (putK kvs (.inr "before") (.ref q)) j = if j = .inr "before" then some (.ref q) else valV kvs j := fun j => valV_put kvs _ j _
  have f : Fx [d, ab, al] H (upd H d (.dK (putK kvs (.inr "before") (.ref q)))) := Fx.upd List.mem_cons_self (nt_dK S.e)
  obtain ⟨vb, hb, pb⟩ := S.b
  obtain ⟨vl, hl, pl⟩ := S.l
  obtain ⟨qn, vn, hn⟩ := S.n
  have db : d ≠ ab := ne_of2 S.e hb (by intro z; cases z)
  have dl : d ≠ al := ne_of2 S.e hl (by intro z; cases z)
  have len : (putK kvs (.inr "before") (.ref q)).length ≤ 100 := by
    rw [putK_there S.vb]
    exact S.len
  refine ⟨⟨upd_same, ?_, ?_, ?_, ?_, ?_, ?_, nq, len⟩, f, fun k hk => ?_⟩
  · exact ⟨qn, by rw [z]; simp only [Sum.inr.injEq, ofS_inj, String.reduceEq, if_true, if_false, reduceIte]; exact vn, f.tup hn⟩
  · rw [z]
    simp only [Sum.inr.injEq, ofS_inj, String.reduceEq, if_true, if_false, reduceIte]
  · exact ⟨[], by rw [upd_ne (ne_of2 S.e hq (by intro z; cases z)).symm]; exact hq, .nil⟩
  · rw [z]
    simp only [Sum.inr.injEq, ofS_inj, String.reduceEq, if_true, if_false, reduceIte]
    exact S.vl
  · exact ⟨vl, by rw [upd_ne dl.symm]; exact hl, pl.fx f⟩
  · rw [z]
    simp only [Sum.inr.injEq, ofS_inj, String.reduceEq, if_true, if_false, reduceIte]
    exact S.r
  · rw [z, if_neg fun e => hk (by rw [e]; simp [lineKeys])]
theorem StAt.addB {H : Hp} {d ab al q : Addr} {kvs : List (Key × V)} {L : Ln} {xs : List V} {p : Pic} (S : StAt H d kvs ab al L) (hb : H ab = some (.lst xs)) (hq : H q = some (.tup (picV p))) :
    StAt (upd H ab (.lst (xs ++ [.ref q]))) d kvs ab al ⟨L.p, L.b ++ [p], L.l, L.r⟩ ∧ Fx [d, ab, al] H (upd H ab (.lst (xs ++ [.ref q]))) := by
  have f : Fx [d, ab, al] H (upd H ab (.lst (xs ++ [.ref q]))) := Fx.upd (by simp) (nt_lst hb)
  obtain ⟨vb, hb', pb⟩ := S.b
  obtain ⟨vl, hl, pl⟩ := S.l
  obtain ⟨qn, vn, hn⟩ := S.n
  rw [hb] at hb'
  cases hb'
  have db : d ≠ ab := ne_of2 S.e hb (by intro z; cases z)
  exact ⟨⟨by rw [upd_ne db]; exact S.e, ⟨qn, vn, f.tup hn⟩, S.vb, ⟨_, upd_same, (pb.fx f).add ⟨q, rfl, f.tup hq⟩⟩, S.vl, ⟨vl, by rw [upd_ne S.ne.symm]; exact hl, pl.fx f⟩, S.r, S.ne, S.len⟩, f⟩
theorem StAt.addL {H : Hp} {d ab al q : Addr} {kvs : List (Key × V)} {L : Ln} {xs : List V} {p : Pic} (S : StAt H d kvs ab al L) (hl : H al = some (.lst xs)) (hq : H q = some (.tup (picV p))) :
    StAt (upd H al (.lst (xs ++ [.ref q]))) d kvs ab al ⟨L.p, L.b, L.l ++ [p], L.r⟩ ∧ Fx [d, ab, al] H (upd H al (.lst (xs ++ [.ref q]))) := by
  have f : Fx [d, ab, al] H (upd H al (.lst (xs ++ [.ref q]))) := Fx.upd (by simp) (nt_lst hl)
  obtain ⟨vb, hb, pb⟩ := S.b
  obtain ⟨vl, hl', pl⟩ := S.l
  obtain ⟨qn, vn, hn⟩ := S.n
  rw [hl] at hl'
  cases hl'
  have dl : d ≠ al := ne_of2 S.e hl (by intro z; cases z)
  exact ⟨⟨by rw [upd_ne dl]; exact S.e, ⟨qn, vn, f.tup hn⟩, S.vb, ⟨vb, by rw [upd_ne S.ne]; exact hb, pb.fx f⟩, S.vl, ⟨_, upd_same, (pl.fx f).add ⟨q, rfl, f.tup hq⟩⟩, S.r, S.ne, S.len⟩, f⟩
theorem StAt.popB {H : Hp} {d ab al : Addr} {kvs : List (Key × V)} {L : Ln} {xs : List V} {us : List Pic} {p : Pic} (S : StAt H d kvs ab al L) (hb : H ab = some (.lst xs)) (e : L.b = us ++ [p]) :
    ∃ q, xs[xs.length - 1]? = some (.ref q) ∧ H q = some (.tup (picV p)) ∧ StAt (upd H ab (.lst xs.dropLast)) d kvs ab al ⟨L.p, us, L.l, L.r⟩ ∧ Fx [d, ab, al] H (upd H ab (.lst xs.dropLast)) := by
  obtain ⟨vb, hb', pb⟩ := S.b
  obtain ⟨vl, hl, pl⟩ := S.l
  obtain ⟨qn, vn, hn⟩ := S.n
  rw [hb] at hb'
  cases hb'
  have db : d ≠ ab := ne_of2 S.e hb (by intro z; cases z)
  obtain ⟨v, ws, rfl, ⟨q, rfl, hq⟩, pw⟩ := pb.last us p e
  have f : Fx [d, ab, al] H (upd H ab (.lst (ws ++ [V.ref q]).dropLast)) := Fx.upd (by simp) (nt_lst hb)
  refine ⟨q, by simp, hq, ⟨by rw [upd_ne db]; exact S.e, ⟨qn, vn, f.tup hn⟩, S.vb, ⟨_, upd_same, ?_⟩, S.vl, ⟨vl, by rw [upd_ne S.ne.symm]; exact hl, pl.fx f⟩, S.r, S.ne, S.len⟩, f⟩
  have z := pw.fx f
  rw [List.dropLast_concat] at z ⊢
  exact z
theorem StAt.popL {H : Hp} {d ab al : Addr} {kvs : List (Key × V)} {L : Ln} {xs : List V} {us : List Pic} {p : Pic} (S : StAt H d kvs ab al L) (hl : H al = some (.lst xs)) (e : L.l = us ++ [p]) :
    ∃ q, xs[xs.length - 1]? = some (.ref q) ∧ H q = some (.tup (picV p)) ∧ StAt (upd H al (.lst xs.dropLast)) d kvs ab al ⟨L.p, L.b, us, L.r⟩ ∧ Fx [d, ab, al] H (upd H al (.lst xs.dropLast)) := by
  obtain ⟨vb, hb, pb⟩ := S.b
  obtain ⟨vl, hl', pl⟩ := S.l
  obtain ⟨qn, vn, hn⟩ := S.n
  rw [hl] at hl'
  cases hl'
  have dl : d ≠ al := ne_of2 S.e hl (by intro z; cases z)
  obtain ⟨v, ws, rfl, ⟨q, rfl, hq⟩, pw⟩ := pl.last us p e
  have f : Fx [d, ab, al] H (upd H al (.lst (ws ++ [V.ref q]).dropLast)) := Fx.upd (by simp) (nt_lst hl)
  refine ⟨q, by simp, hq, ⟨by rw [upd_ne dl]; exact S.e, ⟨qn, vn, f.tup hn⟩, S.vb, ⟨vb, by rw [upd_ne S.ne]; exact hb, pb.fx f⟩, S.vl, ⟨_, upd_same, ?_⟩, S.r, S.ne, S.len⟩, f⟩
  have z := pw.fx f
  rw [List.dropLast_concat] at z ⊢
  exact z
theorem StAt.fx {F : List Addr} {H H' : Hp} {d ab al : Addr} {kvs : List (Key × V)} {L : Ln} (S : StAt H d kvs ab al L) (f : Fx F H H') (h1 : d ∉ F) (h2 : ab ∉ F) (h3 : al ∉ F) : StAt H' d kvs ab al L := by
  obtain ⟨vb, hb, pb⟩ := S.b
  obtain ⟨vl, hl, pl⟩ := S.l
  obtain ⟨qn, vn, hn⟩ := S.n
  exact ⟨f.at S.e h1, ⟨qn, vn, f.tup hn⟩, S.vb, ⟨vb, f.at hb h2, pb.fx f⟩, S.vl, ⟨vl, f.at hl h3, pl.fx f⟩, S.r, S.ne, S.len⟩
theorem StAt.same {H H' : Hp} {d ab al : Addr} {kvs : List (Key × V)} {L : Ln} (S : StAt H d kvs ab al L) (s : Same H H') : StAt H' d kvs ab al L :=
  S.fx (Fx.of (F := []) s) List.not_mem_nil List.not_mem_nil List.not_mem_nil
/-- what is read -/
theorem StAt.getN {H : Hp} {d ab al : Addr} {kvs : List (Key × V)} {L : Ln} (S : StAt H d kvs ab al L) : ∃ qn, DGet H d (.str "now") (some (.ref qn)) ∧ H qn = some (.tup (picV L.p)) := by
  obtain ⟨qn, vn, hn⟩ := S.n
  have z := DGet.k (k := .inr "now") S.e
  rw [vn] at z
  exact ⟨qn, z, hn⟩
theorem StAt.getB {H : Hp} {d ab al : Addr} {kvs : List (Key × V)} {L : Ln} (S : StAt H d kvs ab al L) : DGet H d (.str "before") (some (.ref ab)) := by
  have z := DGet.k (k := .inr "before") S.e
  rw [S.vb] at z
  exact z
theorem StAt.getL {H : Hp} {d ab al : Addr} {kvs : List (Key × V)} {L : Ln} (S : StAt H d kvs ab al L) : DGet H d (.str "later") (some (.ref al)) := by
  have z := DGet.k (k := .inr "later") S.e
  rw [S.vl] at z
  exact z
theorem StAt.getR {H : Hp} {d ab al : Addr} {kvs : List (Key × V)} {L : Ln} (S : StAt H d kvs ab al L) : DGet H d (.str "run") (some (.int L.r)) := by
  have z := DGet.k (k := .inr "run") S.e
  rw [S.r] at z
  exact z
theorem StAt.dput {H : Hp} {d ab al : Addr} {kvs : List (Key × V)} {L : Ln} (S : StAt H d kvs ab al L) (k : Str) (v : V) : DPut H d (.str k) v (upd H d (.dK (putK kvs (.inr k) v))) :=
  DPut.k (k := .inr k) S.e (Nat.lt_of_le_of_lt S.len (by decide))
theorem KeyFx.refl {kvs : List (Key × V)} : KeyFx kvs kvs := fun _ _ => rfl
theorem KeyFx.trans {a b c : List (Key × V)} (x : KeyFx a b) (y : KeyFx b c) : KeyFx a c := fun k h => (y k h).trans (x k h)
theorem StTo.trans {H H1 : Hp} {d ab al ab1 al1 : Addr} {kvs kvs1 : List (Key × V)} {L : Ln} {Q : Hp → Prop} (k : StTo H d kvs ab al L Q) (f : Fx [d, ab, al] H H1) (kf : KeyFx kvs kvs1) (n1 : New H ab ab1) (n2 : New H al al1) : StTo H1 d kvs1 ab1 al1 L Q := fun kvs' ab' al' H' kg m1 m2 g S => by
  refine k kvs' ab' al' H' (kf.trans kg) ?_ ?_ (f.comp g fun c hc => ?_) S
  · rcases m1 with rfl | m1
    · exact n1
    · exact .inr (f.free m1)
  · rcases m2 with rfl | m2
    · exact n2
    · exact .inr (f.free m2)
  · simp only [List.mem_cons, List.not_mem_nil, or_false] at hc ⊢
    rcases hc with q | q | q
    · exact .inl (.inl q)
    · rcases n1 with n | n
      · exact .inl (.inr (.inl (by rw [q, n])))
      · exact .inr (by rw [q]; exact n)
    · rcases n2 with n | n
      · exact .inl (.inr (.inr (by rw [q, n])))
      · exact .inr (by rw [q]; exact n)
theorem StTo.same {H H1 : Hp} {d ab al : Addr} {kvs : List (Key × V)} {L : Ln} {Q : Hp → Prop} (k : StTo H d kvs ab al L Q) (s : Same H H1) : StTo H1 d kvs ab al L Q := k.trans (Fx.of s) .refl (.inl rfl) (.inl rfl)
theorem StTo.now {H H' : Hp} {d ab al : Addr} {kvs kvs' : List (Key × V)} {L : Ln} {Q : Hp → Prop} (k : StTo H d kvs ab al L Q) (S : StAt H' d kvs' ab al L) (f : Fx [d, ab, al] H H') (kf : KeyFx kvs kvs') : Q H' := k kvs' ab al H' kf (.inl rfl) (.inl rfl) f S
abbrev kNow : Key := .inr "now"
abbrev kBefore : Key := .inr "before"
abbrev kLater : Key := .inr "later"
abbrev kRun : Key := .inr "run"
/-- a dict of a new line -/
abbrev newKvs (q b l : Addr) : List (Key × V) := mergeK [] [(.inr "now", .ref q), (.inr "before", .ref b), (.inr "later", .ref l), (.inr "run", .int 0)]
theorem newKvs_val (q b l : Addr) (j : Key) : valV (newKvs q b l) j = if j = .inr "run" then some (.int 0) else if j = .inr "later" then some (.ref l) else if j = .inr "before" then some (.ref b) else if j = .inr "now" then some (.ref q) else none := by
  show valV (putK (putK (putK (putK [] kNow (.ref q)) kBefore (.ref b)) kLater (.ref l)) kRun (.int 0)) j = _
  rw [valV_put, valV_put, valV_put, valV_put]
  rfl
theorem StAt.make {H : Hp} {d q b l : Addr} {p : Pic} (hd : H d = some (.dK [])) (hq : H q = some (.tup (picV p))) (hb : H b = some (.lst [])) (hl : H l = some (.lst [])) (n : b ≠ l) :
    StAt (upd H d (.dK (newKvs q b l))) d (newKvs q b l) b l ⟨p, [], [], 0⟩ := by
  have f : Fx [d] H (upd H d (.dK (newKvs q b l))) := Fx.upd List.mem_cons_self (nt_dK hd)
  have db : b ≠ d := ne_of2 hb hd (by intro z; cases z)
  have dl : l ≠ d := ne_of2 hl hd (by intro z; cases z)
  refine ⟨upd_same, ⟨q, ?_, f.tup hq⟩, ?_, ⟨[], by rw [upd_ne db]; exact hb, .nil⟩, ?_, ⟨[], by rw [upd_ne dl]; exact hl, .nil⟩, ?_, n, ?_⟩
  · rw [newKvs_val]
    simp only [Sum.inr.injEq, ofS_inj, String.reduceEq, if_true, if_false, reduceIte]
  · rw [newKvs_val]
    simp only [Sum.inr.injEq, ofS_inj, String.reduceEq, if_true, if_false, reduceIte]
  · rw [newKvs_val]
    simp only [Sum.inr.injEq, ofS_inj, String.reduceEq, if_true, if_false, reduceIte]
  · rw [newKvs_val]
    simp only [Sum.inr.injEq, ofS_inj, String.reduceEq, if_true, if_false, reduceIte]
  · show (putK (putK (putK (putK [] kNow (.ref q)) kBefore (.ref b)) kLater (.ref l)) kRun (.int 0)).length ≤ 100
    have h1 := length_putK (putK (putK (putK [] kNow (.ref q)) kBefore (.ref b)) kLater (.ref l)) kRun (.int 0)
    have h2 := length_putK (putK (putK [] kNow (.ref q)) kBefore (.ref b)) kLater (.ref l)
    have h3 := length_putK (putK [] kNow (.ref q)) kBefore (.ref b)
    have h4 := length_putK ([] : List (Key × V)) kNow (.ref q)
    rw [List.length_nil] at h4
    omega
/-! ### pictures as data -/
def Ln.asc (L : Ln) : Prop := Asc L.p.t ∧ (∀ p ∈ L.b, Asc p.t) ∧ ∀ p ∈ L.l, Asc p.t
abbrev picD (p : Pic) : PyData := .tuple [.str (S p.t), .int p.c, .int p.m]
theorem dp_pic {K : PySem.W.Frag} {H : Hp} {q : Addr} {p : Pic} (h : H q = some (.tup (picV p))) : Dp K H (.ref q) (picD p) := .tup (st_of h) (.cons (.str _) (.cons (.int _) (.cons (.int _) .nil)))
theorem dp_pics {K : PySem.W.Frag} {H : Hp} : ∀ {vs : List V} {ps : List Pic}, PicsAt H vs ps → DpAll K H vs (ps.map picD)
  | _, _, .nil => .nil
  | _, _, .cons ⟨q, e, h⟩ t => .cons (by rw [e]; exact dp_pic h) (dp_pics t)
theorem can_pic {p : Pic} (h : Asc p.t) : PyData.canLay0 (picD p) = true := by
  show PyData.canLay0 (.tuple [.str (S p.t), .int p.c, .int p.m]) = true
  simp only [PyData.canLay0, PyData.canLayAll0, strOk_asc h, Bool.and_self]
theorem depth_pic {p : Pic} : PyData.depth (picD p) = 1 := by
  show PyData.depth (.tuple [.str (S p.t), .int p.c, .int p.m]) = 1
  simp only [PyData.depth, PyData.depthAll, Nat.max_self]
theorem shaped_pic {p : Pic} (h : Asc p.t) : SeqAt.shaped (picD p) = true := by
  show (PyData.canLay0 _ && decide (PyData.depth _ ≤ 64)) = true
  rw [can_pic h, depth_pic]
  rfl
theorem can_pics : ∀ {ps : List Pic}, (∀ p ∈ ps, Asc p.t) → PyData.canLayAll0 (ps.map picD) = true
  | [], _ => by simp [PyData.canLayAll0]
  | p :: ps, h => by
    have h2 := can_pics (ps := ps) fun x hx => h x (List.mem_cons_of_mem _ hx)
    show PyData.canLayAll0 (picD p :: ps.map picD) = true
    rw [PyData.canLayAll0, can_pic (h p List.mem_cons_self), h2]
    rfl
theorem depth_pics : ∀ (ps : List Pic), PyData.depthAll (ps.map picD) ≤ 1
  | [] => by simp [PyData.depthAll]
  | p :: ps => by
    have h2 := depth_pics ps
    show PyData.depthAll (picD p :: ps.map picD) ≤ 1
    rw [PyData.depthAll, depth_pic]
    omega
theorem shaped_pics {ps : List Pic} (h : ∀ p ∈ ps, Asc p.t) : SeqAt.shaped (.list (ps.map picD)) = true := by
  show (PyData.canLay0 _ && decide (PyData.depth _ ≤ 64)) = true
  have e1 : PyData.canLay0 (.list (ps.map picD)) = true := by
    simp only [PyData.canLay0]
    exact can_pics h
  have e2 : PyData.depth (.list (ps.map picD)) ≤ 2 := by
    simp only [PyData.depth]
    have := depth_pics ps
    omega
  rw [e1, decide_eq_true (by omega)]
  rfl
theorem eqv_nil_pics {ps : List Pic} : PyData.eqv (.list (ps.map picD)) (.list []) = decide (ps = []) := by
  cases ps with
  | nil => rfl
  | cons u us => rfl
theorem eq_noPics {K : PySem.W.Frag} {H : Hp} {t q : Addr} {vs : List V} {ps : List Pic} {Q : VK} (e : H t = some (.lst vs)) (pv : PicsAt H vs ps) (f : H q = some (.lst [])) (h : ∀ p ∈ ps, Asc p.t) (k : Q (.bl (decide (ps = []))) H) : rEqD K (.ref t) (.ref q) H Q := by
  refine eq_data' (.lst (sq_of e) (dp_pics pv)) (.lst (sq_of f) .nil) (shaped_pics h) (by decide +kernel) ?_
  rw [eqv_nil_pics]
  exact k
theorem ne_noPics {K : PySem.W.Frag} {H : Hp} {t q : Addr} {vs : List V} {ps : List Pic} {Q : VK} (e : H t = some (.lst vs)) (pv : PicsAt H vs ps) (f : H q = some (.lst [])) (h : ∀ p ∈ ps, Asc p.t) (k : Q (.bl (decide (ps ≠ []))) H) : rNeD K (.ref t) (.ref q) H Q := by
  refine ne_data (.lst (sq_of e) (dp_pics pv)) (.lst (sq_of f) .nil) (shaped_pics h) (by decide +kernel) ?_
  rw [eqv_nil_pics]
  have e2 : (!decide (ps = [])) = decide (ps ≠ []) := by
    by_cases z : ps = [] <;> simp [z]
  rw [e2]
  exact k
end LH
/-! ## Lines that are in order -/
namespace LH
open PySem PySem.Spec PyProof.Rows L2
/-- a picture in order: not too long, caret and mark in it -/
structure PicOk (B : Nat) (p : Pic) : Prop where
  len : p.t.length ≤ B
  asc : Asc p.t
  c : inT p.t p.c
  m : inT p.t p.m
structure LnOk (B : Nat) (M : Ln) : Prop where
  p : PicOk B M.p
  b : ∀ p ∈ M.b, PicOk B p
  l : ∀ p ∈ M.l, PicOk B p
theorem PicOk.mono {B C : Nat} {p : Pic} (h : PicOk B p) (le : B ≤ C) : PicOk C p := ⟨Nat.le_trans h.len le, h.asc, h.c, h.m⟩
theorem LnOk.mono {B C : Nat} {M : Ln} (h : LnOk B M) (le : B ≤ C) : LnOk C M := ⟨h.p.mono le, fun p q => (h.b p q).mono le, fun p q => (h.l p q).mono le⟩
theorem LnOk.ascL {B : Nat} {M : Ln} (h : LnOk B M) : M.asc := ⟨h.p.asc, fun p q => (h.b p q).asc, fun p q => (h.l p q).asc⟩
theorem put_len {p : Pic} {i j c : Int} {new : List Nat} (hij : inTs p.t i j) (ij : i ≤ j) : ((p.put i j new c).t.length : Int) = p.t.length - (j - i) + new.length := by
  have h1 : 0 ≤ i ∧ i ≤ (p.t.length : Int) := hij.1
  have h2 : 0 ≤ j ∧ j ≤ (p.t.length : Int) := hij.2
  show (((p.t.take i.toNat ++ new ++ p.t.drop j.toNat).length : Nat) : Int) = _
  rw [List.length_append, List.length_append, List.length_take, List.length_drop]
  omega
theorem put_m {p : Pic} {i j c : Int} {new : List Nat} : (p.put i j new c).m = if p.m ≥ j ∧ p.m > i then p.m - (j - i) + new.length else if p.m > i then i + new.length else p.m := rfl
theorem PicOk.put {B C : Nat} {p : Pic} {i j c : Int} {new : List Nat} (h : PicOk B p) (hij : inTs p.t i j) (ij : i ≤ j) (hn : Asc new) (hc : 0 ≤ c ∧ c ≤ (p.t.length : Int) - (j - i) + new.length) (hl : (p.t.length : Int) - (j - i) + new.length ≤ C) : PicOk C (p.put i j new c) := by
  have e := put_len (c := c) (new := new) hij ij
  have h1 : 0 ≤ i ∧ i ≤ (p.t.length : Int) := hij.1
  have h2 : 0 ≤ j ∧ j ≤ (p.t.length : Int) := hij.2
  have hm : 0 ≤ p.m ∧ p.m ≤ (p.t.length : Int) := h.m
  refine ⟨by omega, ?_, ?_, ?_⟩
  · intro x hx
    rcases List.mem_append.mp hx with q | q
    · rcases List.mem_append.mp q with q | q
      · exact h.asc x (List.mem_of_mem_take q)
      · exact hn x q
    · exact h.asc x (List.mem_of_mem_drop q)
  · show 0 ≤ c ∧ c ≤ ((p.put i j new c).t.length : Int)
    omega
  · show 0 ≤ (p.put i j new c).m ∧ (p.put i j new c).m ≤ ((p.put i j new c).t.length : Int)
    rw [e, put_m]
    split
    · omega
    · split
      · omega
      · omega
section
variable {B : Nat} {M : Ln}
theorem LnOk.go {i : Int} (h : LnOk B M) (hi : inT M.p.t i) : LnOk B (M.go i) := ⟨⟨h.p.len, h.p.asc, hi, h.p.m⟩, h.b, h.l⟩
theorem LnOk.markAt {i : Int} (h : LnOk B M) (hi : inT M.p.t i) : LnOk B (M.markAt i) := ⟨⟨h.p.len, h.p.asc, h.p.c, hi⟩, h.b, h.l⟩
theorem LnOk.change {C : Nat} {i j c : Int} {new : List Nat} (h : LnOk B M) (hij : inTs M.p.t i j) (ij : i ≤ j) (hn : Asc new) (hc : 0 ≤ c ∧ c ≤ (M.p.t.length : Int) - (j - i) + new.length) (hl : (M.p.t.length : Int) - (j - i) + new.length ≤ C) (le : B ≤ C) :
    LnOk C (M.change i j new c) := by
  refine ⟨h.p.put hij ij hn hc hl, fun p q => ?_, fun p q => absurd q List.not_mem_nil⟩
  rcases List.mem_append.mp q with q | q
  · exact (h.b p q).mono le
  · rw [List.mem_singleton.mp q]
    exact h.p.mono le
theorem LnOk.write {C : Nat} {s : List Nat} (h : LnOk B M) (hn : Asc s) (hl : M.p.t.length + s.length ≤ C) (le : B ≤ C) : LnOk C (M.write s) := by
  have hc : 0 ≤ M.p.c ∧ M.p.c ≤ (M.p.t.length : Int) := h.p.c
  refine ⟨h.p.put ⟨hc, hc⟩ (Int.le_refl _) hn (by omega) (by omega), fun p q => ?_, fun p q => absurd q List.not_mem_nil⟩
  have q2 : p ∈ (if M.r = 0 ∨ M.r = 20 then M.b ++ [M.p] else M.b) := q
  split at q2
  · rcases List.mem_append.mp q2 with q | q
    · exact (h.b p q).mono le
    · rw [List.mem_singleton.mp q]
      exact h.p.mono le
  · exact (h.b p q2).mono le
theorem LnOk.undo (h : LnOk B M) : LnOk B M.undo := by
  unfold Ln.undo
  cases e : M.b.getLast? with
  | none => exact ⟨h.p, h.b, h.l⟩
  | some p =>
    refine ⟨h.b p (List.mem_of_getLast? e), fun x q => h.b x (List.mem_of_mem_take (by rw [← List.dropLast_eq_take]; exact q)), fun x q => ?_⟩
    rcases List.mem_append.mp q with q | q
    · exact h.l x q
    · rw [List.mem_singleton.mp q]
      exact h.p
theorem LnOk.redo (h : LnOk B M) : LnOk B M.redo := by
  unfold Ln.redo
  cases e : M.l.getLast? with
  | none => exact ⟨h.p, h.b, h.l⟩
  | some p =>
    refine ⟨h.l p (List.mem_of_getLast? e), fun x q => ?_, fun x q => h.l x (List.mem_of_mem_take (by rw [← List.dropLast_eq_take]; exact q))⟩
    rcases List.mem_append.mp q with q | q
    · exact h.b x q
    · rw [List.mem_singleton.mp q]
      exact h.p
theorem LnOk.zero : LnOk B .zero := by
  refine ⟨⟨Nat.zero_le _, fun _ h => absurd h List.not_mem_nil, ?_, ?_⟩, fun _ h => absurd h List.not_mem_nil, fun _ h => absurd h List.not_mem_nil⟩
  · exact ⟨Int.le_refl _, Int.le_refl _⟩
  · exact ⟨Int.le_refl _, Int.le_refl _⟩
theorem LnOk.new {t : List Nat} (h : t.length ≤ B) (a : Asc t) : LnOk B (.new t) := by
  refine ⟨⟨h, a, ?_, ?_⟩, fun _ h => absurd h List.not_mem_nil, fun _ h => absurd h List.not_mem_nil⟩
  · show 0 ≤ (t.length : Int) ∧ (t.length : Int) ≤ t.length
    omega
  · show (0 : Int) ≤ 0 ∧ (0 : Int) ≤ t.length
    omega
/-- how many pictures are kept -/
def Ln.many (M : Ln) : Nat := M.b.length + M.l.length
theorem many_undo : M.undo.many ≤ M.many + 1 := by
  unfold Ln.undo
  cases e : M.b.getLast? with
  | none => exact Nat.le_succ _
  | some p =>
    show M.b.dropLast.length + (M.l ++ [M.p]).length ≤ M.b.length + M.l.length + 1
    rw [List.length_dropLast, List.length_append, List.length_singleton]
    omega
theorem many_redo : M.redo.many ≤ M.many + 1 := by
  unfold Ln.redo
  cases e : M.l.getLast? with
  | none => exact Nat.le_succ _
  | some p =>
    show (M.b ++ [M.p]).length + M.l.dropLast.length ≤ M.b.length + M.l.length + 1
    rw [List.length_dropLast, List.length_append, List.length_singleton]
    omega
theorem many_change {i j c : Int} {new : List Nat} : (M.change i j new c).many ≤ M.many + 1 := by
  show (M.b ++ [M.p]).length + 0 ≤ M.b.length + M.l.length + 1
  rw [List.length_append, List.length_singleton]
  omega
theorem many_write {s : List Nat} : (M.write s).many ≤ M.many + 1 := by
  show (if M.r = 0 ∨ M.r = 20 then M.b ++ [M.p] else M.b).length + 0 ≤ M.b.length + M.l.length + 1
  split
  · rw [List.length_append, List.length_singleton]
    omega
  · omega
end
end LH
/-! ## L20: the law of lines -/
namespace LH
open PySem PySem.Spec PyProof.Rows L2
/-- what is called -/
inductive Op where
  | write (s : List Nat)
  | change (i j : Int) (new : List Nat) (c : Int)
  | go (i : Int)
  | mark (i : Int)
  | undo
  | redo
  | clear
def Op.word : Op → Str
  | .write _ => "write"
  | .change .. => "change"
  | .go _ => "go"
  | .mark _ => "mark"
  | .undo => "undo"
  | .redo => "redo"
  | .clear => "clear"
def Op.vals : Op → List V
  | .write s => [tv s]
  | .change i j new c => [.int i, .int j, tv new, .int c]
  | .go i => [.int i]
  | .mark i => [.int i]
  | _ => []
def Op.to (M : Ln) : Op → Ln
  | .write s => M.write s
  | .change i j new c => M.change i j new c
  | .go i => M.go i
  | .mark i => M.markAt i
  | .undo => M.undo
  | .redo => M.redo
  | .clear => .zero
def Op.val (M : Ln) : Op → V
  | .undo => .bl (decide (M.b ≠ []))
  | .redo => .bl (decide (M.l ≠ []))
  | _ => .non
def Op.bad (M : Ln) : Op → Option Str
  | .write s => if fitsT M.p.t M.p.c M.p.c s then none else some "text"
  | .change i j new _ => if inTs M.p.t i j then (if fitsT M.p.t i j new then none else some "text") else some "place"
  | .go i => if inT M.p.t i then none else some "place"
  | .mark i => if inT M.p.t i then none else some "place"
  | _ => none
def Op.sz (M : Ln) : Op → Prop
  | .write s => s.length ≤ 100000 ∧ inT M.p.t M.p.c
  | .change _ _ new _ => new.length ≤ 100000
  | _ => True
def Ln.sz (M : Ln) : Prop := M.p.t.length ≤ 100000 ∧ M.b.length ≤ 10000000 ∧ M.l.length ≤ 10000000
theorem bad_go {M : Ln} {i : Int} (h : ¬ inT M.p.t i) : Op.bad M (.go i) = some ("place" : Str) := if_neg h
theorem bad_mark {M : Ln} {i : Int} (h : ¬ inT M.p.t i) : Op.bad M (.mark i) = some ("place" : Str) := if_neg h
theorem bad_ch {M : Ln} {i j c : Int} {new : List Nat} (h : ¬ inTs M.p.t i j) : Op.bad M (.change i j new c) = some ("place" : Str) := if_neg h
theorem bad_chT {M : Ln} {i j c : Int} {new : List Nat} (h : inTs M.p.t i j) (f : ¬ fitsT M.p.t i j new) : Op.bad M (.change i j new c) = some ("text" : Str) := by
  show (if _ then (if _ then _ else _) else _) = _
  rw [if_pos h, if_neg f]
theorem bad_write {M : Ln} {s : List Nat} (f : ¬ fitsT M.p.t M.p.c M.p.c s) : Op.bad M (.write s) = some ("text" : Str) := if_neg f
def spTold (K : PySem.W.Frag) : Sp := fun vs H Q _ => ∃ (x ab al q : Addr) (M : Ln) (op : Op), vs = [.ref x, .str op.word, .ref q] ∧ H q = some (.tup op.vals) ∧ LineAt K H x ab al M ∧ M.sz ∧ op.sz M ∧
  match op.bad M with
  | none => LineTo K H x ab al (op.to M) (Q (op.val M))
  | some d => ∀ v H', Same H H' → IsRef H' d v → Q v H'
def spPut : Sp := fun vs H Q _ => ∃ (d ab al : Addr) (kvs : List (Key × V)) (L : Ln) (i j : Int) (new : List Nat) (c : Int), vs = [.ref d, .int i, .int j, tv new, .int c] ∧ StAt H d kvs ab al L ∧ L.p.t.length ≤ 100000 ∧ new.length ≤ 100000 ∧ inTs L.p.t i j ∧ i ≤ j ∧
  StTo H d kvs ab al ⟨L.p.put i j new c, L.b, [], L.r⟩ (Q .non)
def spBack : Sp := fun vs H Q _ => ∃ (d ab al : Addr) (kvs : List (Key × V)) (L : Ln) (word : Str), vs = [.ref d, .str word] ∧ StAt H d kvs ab al L ∧ L.sz ∧ L.asc ∧
  ((word = ("undo" : Str) ∧ L.r = 0 ∧ StTo H d kvs ab al L.undo (Q (.bl (decide (L.b ≠ []))))) ∨ (word = ("redo" : Str) ∧ L.r = 0 ∧ StTo H d kvs ab al L.redo (Q (.bl (decide (L.l ≠ []))))))
section
variable {P : Program} {w : World} {K : PySem.W.Frag} {mg : Str → Option Value} {base : Heap}
theorem d_l_told (T : TX K mg) : Dn P w K mg base 5 "_law_told" p_l_told (spTold K) := by
  refine dn_of (fn_l_told T) (g__law_told T) sc_l_told bd_l_told (fun vs H Q E h => ?_) (fun cdv A outer s H vs Q E hr h => ?_)
  · obtain ⟨x, ab, al, q, M, op, rfl, _⟩ := h
    rfl
  · obtain ⟨x, ab, al, q, M, op, rfl, hq, R, sz, osz, k⟩ := h
    obtain ⟨⟨dx, hp⟩, _⟩ := id R
    have lt : 5 < 6 := by decide
    refine ⟨_, (pss_cons (ps_set (i := 3) sc_l_told.nd rfl (Or.inl rfl) pe_non) (pss_cons (ps_set (i := 4) sc_l_told.nd rfl (Or.inl rfl) pe_non) (pss_cons (ps_try_keep (i := 5) rfl rfl rfl sc_l_told.nd rfl rfl ⟨rfl, by decide, .inl (g_HandError T)⟩ (fun W pn xe tk _ => (pss_one (ps_if (pt_cmpR op_eq (pv 1) pe_str (nomark _)) (pss_one (ps_set (i := 4) sc_l_told.nd rfl (Or.inl rfl) (pmS (d_Line_write T) (hr.mono (by decide)) (fun σ => passAt tk σ) (pv 0) (pa_cons (pe_ix (show IxR _ (rIxT K) from ix_tup) (pv 2) pe_int (fun _ _ => rfl)) pa_nil)))) (pss_one (ps_if (pt_cmpR op_eq (pv 1) pe_str (nomark _)) (pss_one (ps_set (i := 4) sc_l_told.nd rfl (Or.inl rfl) (pmS (d_Line_change T) (hr.mono (by decide)) (fun σ => passAt tk σ) (pv 0) (pa_cons (pe_ix (show IxR _ (rIxT K) from ix_tup) (pv 2) pe_int (fun _ _ => rfl)) (pa_cons (pe_ix (show IxR _ (rIxT K) from ix_tup) (pv 2) pe_int (fun _ _ => rfl)) (pa_cons (pe_ix (show IxR _ (rIxT K) from ix_tup) (pv 2) pe_int (fun _ _ => rfl)) (pa_cons (pe_ix (show IxR _ (rIxT K) from ix_tup) (pv 2) pe_int (fun _ _ => rfl)) pa_nil))))))) (pss_one (ps_if (pt_cmpR (show OpR _ _ (rIn K false) from op_in_seq) (pv 1) (pe_tup (pa_cons pe_str (pa_cons pe_str pa_nil))) (by rfl)) (pss_one (ps_set (i := 4) sc_l_told.nd rfl (Or.inl rfl) (pe_ifExp (pt_cmpR op_eq (pv 1) pe_str (nomark _)) (pmS (d_Line_go T) (hr.mono (by decide)) (fun σ => passAt tk σ) (pv 0) (pa_cons (pe_ix (show IxR _ (rIxT K) from ix_tup) (pv 2) pe_int (fun _ _ => rfl)) pa_nil)) (pmS (d_Line_put_mark T) (hr.mono (by decide)) (fun σ => passAt tk σ) (pv 0) (pa_cons (pe_ix (show IxR _ (rIxT K) from ix_tup) (pv 2) pe_int (fun _ _ => rfl)) pa_nil))))) (pss_one (ps_if (pt_cmpR (show OpR _ _ (rIn K false) from op_in_seq) (pv 1) (pe_tup (pa_cons pe_str (pa_cons pe_str pa_nil))) (by rfl)) (pss_one (ps_set (i := 4) sc_l_told.nd rfl (Or.inl rfl) (pe_ifExp (pt_cmpR op_eq (pv 1) pe_str (nomark _)) (pmS0 (d_Line_undo T) (hr.mono (by decide)) (fun σ => passAt tk σ) (pv 0)) (pmS0 (d_Line_redo T) (hr.mono (by decide)) (fun σ => passAt tk σ) (pv 0))))) (pss_one (ps_set (i := 4) sc_l_told.nd rfl (Or.inl rfl) (pmS0 (d_Line_clear T) (hr.mono (by decide)) (fun σ => passAt tk σ) (pv 0))))))))))))) (fun a oe cls d pn hz hf => (pss_one (ps_set (i := 3) sc_l_told.nd rfl (Or.inl rfl) (pv 5))))) (pss_one (ps_ret (pe_ifExp (pt_cmpR op_isN (pv 3) pe_non (nomark _)) (pv 4) (pc (d_l_refusal T) (hr.mono (by decide)) px (pa_cons (pv 3) pa_nil)))))))), ?_⟩
    walk_at "rd"
    simp only [List.getElem?_cons_zero, List.getElem?_cons_succ, List.set_cons_zero, List.set_cons_succ, List.cons_append, List.nil_append, List.append_nil, Option.some.injEq, V.int.injEq, V.str.injEq, V.bl.injEq, V.ref.injEq, List.cons.injEq, HO.ins.injEq, HO.lst.injEq, HO.tup.injEq, S_inj, ofS_inj, String.reduceEq, ex_eq, ex_eq', ex_eq0, tLc_eq, tFor_eq, iStr, iRng1, iRng2, iList, iTup, tVar, tC, tOp, tCons, tNil, tCB, tFld, tCallS, tMethW, tMakeS, WE, wKeep, tLits, tLst, tTup, wipe, rI, rI0, rU, rEq, rNe, scII, scSS, scBB, scNN, scNI, scNS, scNB, scIN, scSN, scBN, scIS, scSI, if_tt, if_ff, and_true, true_and, and_assoc, exists_and_left, exists_and_right, exists_const, cxK, decide_true, decide_false, Bool.not_true, Bool.not_false, eq_self_iff_true, Bool.true_eq_false, Bool.false_eq_true, if_true, if_false, reduceCtorEq, S_len, S_one, S_tl, decide_eq_true_eq, tUn, tAndV, tOrV, tNotV, tIf, tAnd, tOr, tNot, tB, tTest, tChain, tCall, tMeth, tMake, sFld, tSeq, tNext, tAsg, gName, tIfS, tRet, tRetN, tDrop, tM0, tM1, tBM, tBM0, rAppend, rPop, tSl, tPart, tNoPart, rIxL, rIxT, rIxS, rSlS, rSlL, rCat, tDisp, tPairs, tDGet, sDPut, gTup, gCons, gNil, gSub, gAttr, rSetL, tv, upd_same, upd_upd, List.length_cons, List.length_nil, Nat.reduceAdd, Nat.zero_add, lines, fk_Line T, lk_Line, inj_Line, hp]
    cases op with
    | write s =>
      dsimp only [Op.word, Op.vals, Op.to, Op.val, Op.bad, Op.sz] at hq osz k ⊢
      walk_at "rd"
      refine ⟨_, st_of hq, tv s, rfl, x, ab, al, M, s, rfl, R, sz.1, osz.1, sz.2.1, osz.2, ?_⟩
      by_cases fit : fitsT M.p.t M.p.c M.p.c s
      · rw [if_pos fit] at k ⊢
        exact k
      · rw [if_neg fit] at k ⊢
        refine rf_keep (xm_BadText T) lt fun a H' s na => ?_
        walk_at "rd"
        exact ref_end k_text s na k
    | change i j new c =>
      dsimp only [Op.word, Op.vals, Op.to, Op.val, Op.bad, Op.sz] at hq osz k ⊢
      walk_at "rd"
      refine ⟨_, st_of hq, .int i, rfl, _, st_of hq, .int j, rfl, _, st_of hq, tv new, rfl, _, st_of hq, .int c, rfl, x, ab, al, M, i, j, new, c, rfl, R, sz.1, osz, sz.2.1, ?_⟩
      unfold Chk
      by_cases hij : inTs M.p.t i j
      · rw [if_pos hij] at k ⊢
        by_cases fit : fitsT M.p.t i j new
        · rw [if_pos fit] at k ⊢
          exact k
        · rw [if_neg fit] at k ⊢
          refine rf_keep (xm_BadText T) lt fun a H' s na => ?_
          walk_at "rd"
          exact ref_end k_text s na k
      · rw [if_neg hij] at k ⊢
        refine rf_keep (xm_BadPlace T) lt fun a H' s na => ?_
        walk_at "rd"
        exact ref_end k_place s na k
    | go i =>
      dsimp only [Op.word, Op.vals, Op.to, Op.val, Op.bad, Op.sz] at hq osz k ⊢
      walk_at "rd"
      intro q1 hq1
      have hp1 := same_new (o := .tup [.str "go", .str "mark"]) hq1 _ _ hp
      refine in_strs ["go", "mark"] (st_of upd_same) ⟨_, rfl, ?_⟩
      rw [if_pos (by decide +kernel)]
      simp only [List.getElem?_cons_zero, List.getElem?_cons_succ, List.set_cons_zero, List.set_cons_succ, List.cons_append, List.nil_append, List.append_nil, Option.some.injEq, V.int.injEq, V.str.injEq, V.bl.injEq, V.ref.injEq, List.cons.injEq, HO.ins.injEq, HO.lst.injEq, HO.tup.injEq, S_inj, ofS_inj, String.reduceEq, ex_eq, ex_eq', ex_eq0, tLc_eq, tFor_eq, iStr, iRng1, iRng2, iList, iTup, tVar, tC, tOp, tCons, tNil, tCB, tFld, tCallS, tMethW, tMakeS, WE, wKeep, tLits, tLst, tTup, wipe, rI, rI0, rU, rEq, rNe, scII, scSS, scBB, scNN, scNI, scNS, scNB, scIN, scSN, scBN, scIS, scSI, if_tt, if_ff, and_true, true_and, and_assoc, exists_and_left, exists_and_right, exists_const, cxK, decide_true, decide_false, Bool.not_true, Bool.not_false, eq_self_iff_true, Bool.true_eq_false, Bool.false_eq_true, if_true, if_false, reduceCtorEq, S_len, S_one, S_tl, decide_eq_true_eq, tUn, tAndV, tOrV, tNotV, tIf, tAnd, tOr, tNot, tB, tTest, tChain, tCall, tMeth, tMake, sFld, tSeq, tNext, tAsg, gName, tIfS, tRet, tRetN, tDrop, tM0, tM1, tBM, tBM0, rAppend, rPop, tSl, tPart, tNoPart, rIxL, rIxT, rIxS, rSlS, rSlL, rCat, tDisp, tPairs, tDGet, sDPut, gTup, gCons, gNil, gSub, gAttr, rSetL, tv, upd_same, upd_upd, List.length_cons, List.length_nil, Nat.reduceAdd, Nat.zero_add, lines, fk_Line T, lk_Line, inj_Line, hp1]
      refine ⟨_, st_of (same_new hq1 _ _ hq), .int i, rfl, x, ab, al, M, i, rfl, R.same (same_new hq1), sz.1, ?_⟩
      by_cases hi : inT M.p.t i
      · rw [if_pos hi] at k ⊢
        exact k.same (same_new hq1)
      · rw [if_neg hi] at k ⊢
        refine rf_keep (xm_BadPlace T) lt fun a H' s na => ?_
        walk_at "rd"
        exact ref_end k_place ((same_new hq1).trans s) na k
    | mark i =>
      dsimp only [Op.word, Op.vals, Op.to, Op.val, Op.bad, Op.sz] at hq osz k ⊢
      walk_at "rd"
      intro q1 hq1
      have hp1 := same_new (o := .tup [.str "go", .str "mark"]) hq1 _ _ hp
      refine in_strs ["go", "mark"] (st_of upd_same) ⟨_, rfl, ?_⟩
      rw [if_pos (by decide +kernel)]
      simp only [List.getElem?_cons_zero, List.getElem?_cons_succ, List.set_cons_zero, List.set_cons_succ, List.cons_append, List.nil_append, List.append_nil, Option.some.injEq, V.int.injEq, V.str.injEq, V.bl.injEq, V.ref.injEq, List.cons.injEq, HO.ins.injEq, HO.lst.injEq, HO.tup.injEq, S_inj, ofS_inj, String.reduceEq, ex_eq, ex_eq', ex_eq0, tLc_eq, tFor_eq, iStr, iRng1, iRng2, iList, iTup, tVar, tC, tOp, tCons, tNil, tCB, tFld, tCallS, tMethW, tMakeS, WE, wKeep, tLits, tLst, tTup, wipe, rI, rI0, rU, rEq, rNe, scII, scSS, scBB, scNN, scNI, scNS, scNB, scIN, scSN, scBN, scIS, scSI, if_tt, if_ff, and_true, true_and, and_assoc, exists_and_left, exists_and_right, exists_const, cxK, decide_true, decide_false, Bool.not_true, Bool.not_false, eq_self_iff_true, Bool.true_eq_false, Bool.false_eq_true, if_true, if_false, reduceCtorEq, S_len, S_one, S_tl, decide_eq_true_eq, tUn, tAndV, tOrV, tNotV, tIf, tAnd, tOr, tNot, tB, tTest, tChain, tCall, tMeth, tMake, sFld, tSeq, tNext, tAsg, gName, tIfS, tRet, tRetN, tDrop, tM0, tM1, tBM, tBM0, rAppend, rPop, tSl, tPart, tNoPart, rIxL, rIxT, rIxS, rSlS, rSlL, rCat, tDisp, tPairs, tDGet, sDPut, gTup, gCons, gNil, gSub, gAttr, rSetL, tv, upd_same, upd_upd, List.length_cons, List.length_nil, Nat.reduceAdd, Nat.zero_add, lines, fk_Line T, lk_Line, inj_Line, hp1]
      refine ⟨_, st_of (same_new hq1 _ _ hq), .int i, rfl, x, ab, al, M, i, rfl, R.same (same_new hq1), sz.1, ?_⟩
      by_cases hi : inT M.p.t i
      · rw [if_pos hi] at k ⊢
        exact k.same (same_new hq1)
      · rw [if_neg hi] at k ⊢
        refine rf_keep (xm_BadPlace T) lt fun a H' s na => ?_
        walk_at "rd"
        exact ref_end k_place ((same_new hq1).trans s) na k
    | undo =>
      dsimp only [Op.word, Op.vals, Op.to, Op.val, Op.bad, Op.sz] at hq osz k ⊢
      walk_at "rd"
      intro q1 hq1
      have s1 := same_new (o := .tup [.str "go", .str "mark"]) hq1
      refine in_strs ["go", "mark"] (st_of upd_same) ⟨_, rfl, ?_⟩
      rw [if_neg (by decide +kernel)]
      intro q2 hq2
      have s2 := same_new (o := .tup [.str "undo", .str "redo"]) hq2
      have hp1 := s2 _ _ (s1 _ _ hp)
      refine in_strs ["undo", "redo"] (st_of upd_same) ⟨_, rfl, ?_⟩
      rw [if_pos (by decide +kernel)]
      simp only [List.getElem?_cons_zero, List.getElem?_cons_succ, List.set_cons_zero, List.set_cons_succ, List.cons_append, List.nil_append, List.append_nil, Option.some.injEq, V.int.injEq, V.str.injEq, V.bl.injEq, V.ref.injEq, List.cons.injEq, HO.ins.injEq, HO.lst.injEq, HO.tup.injEq, S_inj, ofS_inj, String.reduceEq, ex_eq, ex_eq', ex_eq0, tLc_eq, tFor_eq, iStr, iRng1, iRng2, iList, iTup, tVar, tC, tOp, tCons, tNil, tCB, tFld, tCallS, tMethW, tMakeS, WE, wKeep, tLits, tLst, tTup, wipe, rI, rI0, rU, rEq, rNe, scII, scSS, scBB, scNN, scNI, scNS, scNB, scIN, scSN, scBN, scIS, scSI, if_tt, if_ff, and_true, true_and, and_assoc, exists_and_left, exists_and_right, exists_const, cxK, decide_true, decide_false, Bool.not_true, Bool.not_false, eq_self_iff_true, Bool.true_eq_false, Bool.false_eq_true, if_true, if_false, reduceCtorEq, S_len, S_one, S_tl, decide_eq_true_eq, tUn, tAndV, tOrV, tNotV, tIf, tAnd, tOr, tNot, tB, tTest, tChain, tCall, tMeth, tMake, sFld, tSeq, tNext, tAsg, gName, tIfS, tRet, tRetN, tDrop, tM0, tM1, tBM, tBM0, rAppend, rPop, tSl, tPart, tNoPart, rIxL, rIxT, rIxS, rSlS, rSlL, rCat, tDisp, tPairs, tDGet, sDPut, gTup, gCons, gNil, gSub, gAttr, rSetL, tv, upd_same, upd_upd, List.length_cons, List.length_nil, Nat.reduceAdd, Nat.zero_add, lines, fk_Line T, lk_Line, inj_Line, hp1]
      exact ⟨x, ab, al, M, rfl, R.same (s1.trans s2), sz.2.2, k.same (s1.trans s2)⟩
    | redo =>
      dsimp only [Op.word, Op.vals, Op.to, Op.val, Op.bad, Op.sz] at hq osz k ⊢
      walk_at "rd"
      intro q1 hq1
      have s1 := same_new (o := .tup [.str "go", .str "mark"]) hq1
      refine in_strs ["go", "mark"] (st_of upd_same) ⟨_, rfl, ?_⟩
      rw [if_neg (by decide +kernel)]
      intro q2 hq2
      have s2 := same_new (o := .tup [.str "undo", .str "redo"]) hq2
      have hp1 := s2 _ _ (s1 _ _ hp)
      refine in_strs ["undo", "redo"] (st_of upd_same) ⟨_, rfl, ?_⟩
      rw [if_pos (by decide +kernel)]
      simp only [List.getElem?_cons_zero, List.getElem?_cons_succ, List.set_cons_zero, List.set_cons_succ, List.cons_append, List.nil_append, List.append_nil, Option.some.injEq, V.int.injEq, V.str.injEq, V.bl.injEq, V.ref.injEq, List.cons.injEq, HO.ins.injEq, HO.lst.injEq, HO.tup.injEq, S_inj, ofS_inj, String.reduceEq, ex_eq, ex_eq', ex_eq0, tLc_eq, tFor_eq, iStr, iRng1, iRng2, iList, iTup, tVar, tC, tOp, tCons, tNil, tCB, tFld, tCallS, tMethW, tMakeS, WE, wKeep, tLits, tLst, tTup, wipe, rI, rI0, rU, rEq, rNe, scII, scSS, scBB, scNN, scNI, scNS, scNB, scIN, scSN, scBN, scIS, scSI, if_tt, if_ff, and_true, true_and, and_assoc, exists_and_left, exists_and_right, exists_const, cxK, decide_true, decide_false, Bool.not_true, Bool.not_false, eq_self_iff_true, Bool.true_eq_false, Bool.false_eq_true, if_true, if_false, reduceCtorEq, S_len, S_one, S_tl, decide_eq_true_eq, tUn, tAndV, tOrV, tNotV, tIf, tAnd, tOr, tNot, tB, tTest, tChain, tCall, tMeth, tMake, sFld, tSeq, tNext, tAsg, gName, tIfS, tRet, tRetN, tDrop, tM0, tM1, tBM, tBM0, rAppend, rPop, tSl, tPart, tNoPart, rIxL, rIxT, rIxS, rSlS, rSlL, rCat, tDisp, tPairs, tDGet, sDPut, gTup, gCons, gNil, gSub, gAttr, rSetL, tv, upd_same, upd_upd, List.length_cons, List.length_nil, Nat.reduceAdd, Nat.zero_add, lines, fk_Line T, lk_Line, inj_Line, hp1]
      exact ⟨x, ab, al, M, rfl, R.same (s1.trans s2), sz.2.1, k.same (s1.trans s2)⟩
    | clear =>
      dsimp only [Op.word, Op.vals, Op.to, Op.val, Op.bad, Op.sz] at hq osz k ⊢
      walk_at "rd"
      intro q1 hq1
      have s1 := same_new (o := .tup [.str "go", .str "mark"]) hq1
      refine in_strs ["go", "mark"] (st_of upd_same) ⟨_, rfl, ?_⟩
      rw [if_neg (by decide +kernel)]
      intro q2 hq2
      have s2 := same_new (o := .tup [.str "undo", .str "redo"]) hq2
      have hp1 := s2 _ _ (s1 _ _ hp)
      refine in_strs ["undo", "redo"] (st_of upd_same) ⟨_, rfl, ?_⟩
      rw [if_neg (by decide +kernel)]
      simp only [List.getElem?_cons_zero, List.getElem?_cons_succ, List.set_cons_zero, List.set_cons_succ, List.cons_append, List.nil_append, List.append_nil, Option.some.injEq, V.int.injEq, V.str.injEq, V.bl.injEq, V.ref.injEq, List.cons.injEq, HO.ins.injEq, HO.lst.injEq, HO.tup.injEq, S_inj, ofS_inj, String.reduceEq, ex_eq, ex_eq', ex_eq0, tLc_eq, tFor_eq, iStr, iRng1, iRng2, iList, iTup, tVar, tC, tOp, tCons, tNil, tCB, tFld, tCallS, tMethW, tMakeS, WE, wKeep, tLits, tLst, tTup, wipe, rI, rI0, rU, rEq, rNe, scII, scSS, scBB, scNN, scNI, scNS, scNB, scIN, scSN, scBN, scIS, scSI, if_tt, if_ff, and_true, true_and, and_assoc, exists_and_left, exists_and_right, exists_const, cxK, decide_true, decide_false, Bool.not_true, Bool.not_false, eq_self_iff_true, Bool.true_eq_false, Bool.false_eq_true, if_true, if_false, reduceCtorEq, S_len, S_one, S_tl, decide_eq_true_eq, tUn, tAndV, tOrV, tNotV, tIf, tAnd, tOr, tNot, tB, tTest, tChain, tCall, tMeth, tMake, sFld, tSeq, tNext, tAsg, gName, tIfS, tRet, tRetN, tDrop, tM0, tM1, tBM, tBM0, rAppend, rPop, tSl, tPart, tNoPart, rIxL, rIxT, rIxS, rSlS, rSlL, rCat, tDisp, tPairs, tDGet, sDPut, gTup, gCons, gNil, gSub, gAttr, rSetL, tv, upd_same, upd_upd, List.length_cons, List.length_nil, Nat.reduceAdd, Nat.zero_add, lines, fk_Line T, lk_Line, inj_Line, hp1]
      exact ⟨x, ab, al, M, rfl, R.same (s1.trans s2), k.same (s1.trans s2)⟩
theorem d_l_put (T : TX K mg) : Dn P w K mg base 1 "_law_put" p_l_put spPut := by
  refine dn_of (fn_l_put T) (g__law_put T) sc_l_put bd_l_put (fun vs H Q E h => ?_) (fun cdv A outer s H vs Q E hr h => ?_)
  · obtain ⟨d, ab, al, kvs, L, i, j, new, c, rfl, _⟩ := h
    rfl
  · obtain ⟨d, ab, al, kvs, L, i, j, new, c, rfl, S0, ht, hn, hij, ij, k⟩ := h
    obtain ⟨qn, gn, hqn⟩ := S0.getN
    refine ⟨_, (pss_cons (ps_asg (pe_dget (hu_of hr) (pv 0) pe_str (fun _ _ => rfl)) (pg_tup (n := 3) rfl (pgs_cons (pg_name (i := 5) sc_l_put.nd rfl (Or.inl rfl)) (pgs_cons (pg_name (i := 6) sc_l_put.nd rfl (Or.inl rfl)) (pgs_cons (pg_name (i := 7) sc_l_put.nd rfl (Or.inl rfl)) pgs_nil))))) (pss_cons (ps_if (pt_chain op_lt op_lt (pv 1) (pv 7) (pv 2)) (pss_one (ps_set (i := 7) sc_l_put.nd rfl (Or.inl rfl) (pe_op op_add (pv 1) (pe_callB call_len_str (by rfl) (b_len T) boot_len (pa_cons (pv 3) pa_nil))))) (pss_one (ps_if (pt_cmpR op_gt (pv 7) (pv 1) (nomark _)) (pss_one (ps_set (i := 7) sc_l_put.nd rfl (Or.inl rfl) (pe_op op_sub (pe_op op_add (pv 7) (pe_callB call_len_str (by rfl) (b_len T) boot_len (pa_cons (pv 3) pa_nil))) (pe_op op_sub (pv 2) (pv 1))))) pss_nil))) (pss_cons (ps_dput (hu_of hr) (pv 0) pe_str (pe_tup (pa_cons (pe_op op_add_str (pe_op op_add_str (pe_slice sl_str (pv 5) po_none (po_some (pv 1))) (pv 3)) (pe_slice sl_str (pv 5) (po_some (pv 2)) po_none)) (pa_cons (pv 4) (pa_cons (pv 7) pa_nil)))) rfl) (pss_one (ps_dput (hu_of hr) (pv 0) pe_str (pe_lst pa_nil) rfl))))), ?_⟩
    walk_at "rd"
    refine ⟨_, gn, qn, rfl, _, st_of hqn, rfl, _, _, rfl, _, _, rfl, _, _, rfl, rfl, ?_⟩
    have c1 := cut_to L.p.t i hij.1.1
    have c2 := cut_from L.p.t j hij.2.1
    simp only [List.getElem?_cons_zero, List.getElem?_cons_succ, List.set_cons_zero, List.set_cons_succ, List.cons_append, List.nil_append, List.append_nil, Option.some.injEq, V.int.injEq, V.str.injEq, V.bl.injEq, V.ref.injEq, List.cons.injEq, HO.ins.injEq, HO.lst.injEq, HO.tup.injEq, S_inj, ofS_inj, String.reduceEq, ex_eq, ex_eq', ex_eq0, tLc_eq, tFor_eq, iStr, iRng1, iRng2, iList, iTup, tVar, tC, tOp, tCons, tNil, tCB, tFld, tCallS, tMethW, tMakeS, WE, wKeep, tLits, tLst, tTup, wipe, rI, rI0, rU, rEq, rNe, scII, scSS, scBB, scNN, scNI, scNS, scNB, scIN, scSN, scBN, scIS, scSI, if_tt, if_ff, and_true, true_and, and_assoc, exists_and_left, exists_and_right, exists_const, cxK, decide_true, decide_false, Bool.not_true, Bool.not_false, eq_self_iff_true, Bool.true_eq_false, Bool.false_eq_true, if_true, if_false, reduceCtorEq, S_len, S_one, S_tl, decide_eq_true_eq, tUn, tAndV, tOrV, tNotV, tIf, tAnd, tOr, tNot, tB, tTest, tChain, tCall, tMeth, tMake, sFld, tSeq, tNext, tAsg, gName, tIfS, tRet, tRetN, tDrop, tM0, tM1, tBM, tBM0, rAppend, rPop, tSl, tPart, tNoPart, rIxL, rIxT, rIxS, rSlS, rSlL, rCat, tDisp, tPairs, tDGet, sDPut, gTup, gCons, gNil, gSub, gAttr, rSetL, tv, upd_same, upd_upd, List.length_cons, List.length_nil, Nat.reduceAdd, Nat.zero_add, lines, c1, c2, S_app]
    have l1 : (L.p.t.take i.toNat).length ≤ 100000 := by
      rw [List.length_take]
      omega
    have l2 : (L.p.t.drop j.toNat).length ≤ 100000 := by
      rw [List.length_drop]
      omega
    have big : ∀ n : Nat, n ≤ 1000000 → n ≤ sizeLine := fun n h => Nat.le_trans h (by decide)
    have tail : ∀ mk : Int, (L.p.put i j new c).m = mk → (L.p.t.length ≤ sizeLine ∧ (L.p.t.take i.toNat).length + new.length ≤ sizeLine ∧ L.p.t.length ≤ sizeLine ∧
        (L.p.t.take i.toNat ++ new).length + (L.p.t.drop j.toNat).length ≤ sizeLine ∧ ∀ p, H p = none → ∃ x, DPut (upd H p (.tup [tv (L.p.t.take i.toNat ++ new ++ L.p.t.drop j.toNat), .int c, .int mk])) d (.str "now") (.ref p) x ∧
          ∀ p, x p = none → ∃ x1, DPut (upd x p (.lst [])) d (.str "later") (.ref p) x1 ∧ Q .non x1) := fun mk em => by
      refine ⟨big _ (by omega), big _ (by omega), big _ (by omega), big _ (by rw [List.length_append]; omega), fun p hp => ?_⟩
      have S1 := S0.same (same_new (o := .tup [tv (L.p.t.take i.toNat ++ new ++ L.p.t.drop j.toNat), .int c, .int mk]) hp)
      have k1 := k.same (same_new (o := .tup [tv (L.p.t.take i.toNat ++ new ++ L.p.t.drop j.toNat), .int c, .int mk]) hp)
      obtain ⟨S2, f2, g2⟩ := S1.setN (q := p) (p := L.p.put i j new c) (by rw [← em]; exact upd_same)
      refine ⟨_, S1.dput _ _, fun p2 hp2 => ?_⟩
      have s3 := same_new (o := .lst []) hp2
      have S3 := S2.same s3
      obtain ⟨xs, hb, _⟩ := S2.b
      obtain ⟨S4, f4, g4⟩ := S3.setLater (q := p2) upd_same (ne_new hb hp2)
      exact ⟨_, S3.dput _ _, k1 _ _ _ _ (g2.trans g4) (.inl rfl) (.inr (f2.free hp2)) ((f2.trans (Fx.of s3)).trans f4) S4⟩
    have em : (L.p.put i j new c).m = if L.p.m ≥ j ∧ L.p.m > i then L.p.m - (j - i) + new.length else if L.p.m > i then i + new.length else L.p.m := rfl
    by_cases h1 : i < L.p.m
    · rw [if_pos h1]
      by_cases h2 : L.p.m < j
      · rw [if_pos h2]
        exact ⟨sline hn, tail _ (by rw [em, if_neg (by omega), if_pos h1])⟩
      · rw [if_neg h2, if_pos h1]
        exact ⟨sline hn, tail _ (by rw [em, if_pos (by omega)]; omega)⟩
    · rw [if_neg h1, if_neg h1]
      exact tail _ (by rw [em, if_neg (by omega), if_neg h1])
theorem d_l_back (T : TX K mg) : Dn P w K mg base 1 "_law_back" p_l_back spBack := by
  refine dn_of (fn_l_back T) (g__law_back T) sc_l_back bd_l_back (fun vs H Q E h => ?_) (fun cdv A outer s H vs Q E hr h => ?_)
  · obtain ⟨d, ab, al, kvs, L, word, rfl, _⟩ := h
    rfl
  · obtain ⟨d, ab, al, kvs, L, word, rfl, S0, sz, asc, k⟩ := h
    obtain ⟨qn, gn, hqn⟩ := S0.getN
    refine ⟨_, (pss_cons (ps_asg (pe_ifExp (pt_cmpR op_eq (pv 1) pe_str (nomark _)) (pe_tup (pa_cons pe_str (pa_cons pe_str pa_nil))) (pe_tup (pa_cons pe_str (pa_cons pe_str pa_nil)))) (pg_tup (n := 2) rfl (pgs_cons (pg_name (i := 2) sc_l_back.nd rfl (Or.inl rfl)) (pgs_cons (pg_name (i := 3) sc_l_back.nd rfl (Or.inl rfl)) pgs_nil)))) (pss_cons (ps_if (pt_cmpR (op_eqD hr.units) (pe_dget (hu_of hr) (pv 0) (pv 2) (fun _ _ => rfl)) (pe_lst pa_nil) (nomark _)) (pss_one (ps_ret pe_bl)) pss_nil) (pss_cons (ps_expr (pe_bm PySem.F.plainAttrs_list PySem.F.slot_list_append PySem.F.type_list_append mt_append (pe_dget (hu_of hr) (pv 0) (pv 3) (fun _ _ => rfl)) (pa_cons (pe_dget (hu_of hr) (pv 0) pe_str (fun _ _ => rfl)) pa_nil))) (pss_cons (ps_dput (hu_of hr) (pv 0) pe_str (pe_bm0 PySem.F.plainAttrs_list PySem.F.slot_list_pop PySem.F.type_list_pop mt_pop (pe_dget (hu_of hr) (pv 0) (pv 2) (fun _ _ => rfl))) rfl) (pss_one (ps_ret pe_bl)))))), ?_⟩
    walk_at "rd"
    rcases k with ⟨rfl, r0, k⟩ | ⟨rfl, r0, k⟩
    · walk_at "rd"
      refine ⟨by decide, fun q hq => ?_⟩
      have s1 := same_new (o := .tup [.str "before", .str "later"]) hq
      have S1 := S0.same s1
      obtain ⟨vb, hb, pb⟩ := S1.b
      refine ⟨_, st_of upd_same, rfl, _, _, rfl, _, _, rfl, rfl, _, S1.getB, by decide, fun q2 hq2 => ?_⟩
      have s2 := same_new (o := .lst []) hq2
      have S2 := S1.same s2
      refine eq_noPics (s2 _ _ hb) (pb.fx (Fx.of (F := []) s2)) upd_same asc.2.1 ⟨_, rfl, ?_⟩
      have k2 := k.same (s1.trans s2)
      by_cases e : L.b = []
      · rw [if_pos (decide_eq_true e)]
        have e1 : L.undo = L := by
          unfold Ln.undo
          rw [e, List.getLast?_nil]
          show (⟨L.p, [], L.l, 0⟩ : Ln) = L
          rw [← e, ← r0]
        rw [e1, e] at k2
        exact k2.now S2 (Fx.refl _ _) .refl
      · rw [if_neg (by rw [decide_eq_false e]; decide)]
        obtain ⟨us, p, eb⟩ : ∃ us p, L.b = us ++ [p] := ⟨L.b.dropLast, L.b.getLast e, (List.dropLast_concat_getLast e).symm⟩
        obtain ⟨vl, hl, pl⟩ := S2.l
        obtain ⟨qn2, gn2, hqn2⟩ := S2.getN
        refine ⟨_, S2.getL, .inl ⟨rfl, _, sq_of hl⟩, _, gn2, _, rfl, _, hl, Nat.lt_of_le_of_lt (by rw [pl.len]; exact sz.2.2) (by decide), ?_⟩
        obtain ⟨S3, f3⟩ := S2.addL hl hqn2
        obtain ⟨vb3, hb3, pb3⟩ := S3.b
        refine ⟨_, S3.getB, .inl ⟨rfl, _, sq_of hb3⟩, _, rfl, _, hb3, ?_⟩
        obtain ⟨q4, e4, hq4, S4, f4⟩ := S3.popB hb3 eb
        obtain ⟨S5, f5, g5⟩ := S4.setN (q := q4) (f4.tup hq4)
        refine ⟨_, e4, _, S4.dput _ _, ?_⟩
        have e5 : L.undo = ⟨p, us, L.l ++ [L.p], L.r⟩ := by
          unfold Ln.undo
          rw [eb, List.getLast?_concat, List.dropLast_concat, r0]
        rw [e5, decide_eq_true e] at k2
        exact k2.now S5 ((f3.trans f4).trans f5) g5
    · walk_at "rd"
      refine ⟨by decide, fun q hq => ?_⟩
      have s1 := same_new (o := .tup [.str "later", .str "before"]) hq
      have S1 := S0.same s1
      obtain ⟨vb, hb, pb⟩ := S1.l
      refine ⟨_, st_of upd_same, rfl, _, _, rfl, _, _, rfl, rfl, _, S1.getL, by decide, fun q2 hq2 => ?_⟩
      have s2 := same_new (o := .lst []) hq2
      have S2 := S1.same s2
      refine eq_noPics (s2 _ _ hb) (pb.fx (Fx.of (F := []) s2)) upd_same asc.2.2 ⟨_, rfl, ?_⟩
      have k2 := k.same (s1.trans s2)
      by_cases e : L.l = []
      · rw [if_pos (decide_eq_true e)]
        have e1 : L.redo = L := by
          unfold Ln.redo
          rw [e, List.getLast?_nil]
          show (⟨L.p, L.b, [], 0⟩ : Ln) = L
          rw [← e, ← r0]
        rw [e1, e] at k2
        exact k2.now S2 (Fx.refl _ _) .refl
      · rw [if_neg (by rw [decide_eq_false e]; decide)]
        obtain ⟨us, p, eb⟩ : ∃ us p, L.l = us ++ [p] := ⟨L.l.dropLast, L.l.getLast e, (List.dropLast_concat_getLast e).symm⟩
        obtain ⟨vl, hl, pl⟩ := S2.b
        obtain ⟨qn2, gn2, hqn2⟩ := S2.getN
        refine ⟨_, S2.getB, .inl ⟨rfl, _, sq_of hl⟩, _, gn2, _, rfl, _, hl, Nat.lt_of_le_of_lt (by rw [pl.len]; exact sz.2.1) (by decide), ?_⟩
        obtain ⟨S3, f3⟩ := S2.addB hl hqn2
        obtain ⟨vb3, hb3, pb3⟩ := S3.l
        refine ⟨_, S3.getL, .inl ⟨rfl, _, sq_of hb3⟩, _, rfl, _, hb3, ?_⟩
        obtain ⟨q4, e4, hq4, S4, f4⟩ := S3.popL hb3 eb
        obtain ⟨S5, f5, g5⟩ := S4.setN (q := q4) (f4.tup hq4)
        refine ⟨_, e4, _, S4.dput _ _, ?_⟩
        have e5 : L.redo = ⟨p, L.b ++ [L.p], us, L.r⟩ := by
          unfold Ln.redo
          rw [eb, List.getLast?_concat, List.dropLast_concat, r0]
        rw [e5, decide_eq_true e] at k2
        exact k2.now S5 ((f3.trans f4).trans f5) g5
end
/-- the line, the law's own beside it -/
structure J20 (K : PySem.W.Frag) (H : Hp) (a p x ab al d sb sl : Addr) (ns : List Int) (z : Nat) (kvs : List (Key × V)) (M L : Ln) : Prop where
  D : Dr K H a p ns z
  R : LineAt K H x ab al M
  S : StAt H d kvs sb sl L
  ap : Ap K a ns [x, ab, al, d, sb, sl]
  pn : p ∉ [x, ab, al, d, sb, sl]
  dj : ∀ c ∈ [x, ab, al], c ∉ [d, sb, sl]
section
variable {K : PySem.W.Frag} {H H' : Hp} {a p x ab al d sb sl ab' al' sb' sl' : Addr} {ns : List Int} {z z' : Nat} {kvs kvs' : List (Key × V)} {M M' L L' : Ln}
theorem J20.draw (J : J20 K H a p x ab al d sb sl ns z kvs M L) (f : Fx [p] H H') (D : Dr K H' a p ns z') : J20 K H' a p x ab al d sb sl ns z' kvs M L := by
  have n : ∀ c ∈ [x, ab, al, d, sb, sl], c ∉ [p] := fun c hc h => J.pn (by rw [← List.mem_singleton.mp h]; exact hc)
  exact ⟨D, J.R.fx f (n _ (by simp)) (n _ (by simp)) (n _ (by simp)), J.S.fx f (n _ (by simp)) (n _ (by simp)) (n _ (by simp)), J.ap, J.pn, J.dj⟩
theorem J20.same (J : J20 K H a p x ab al d sb sl ns z kvs M L) (s : Same H H') : J20 K H' a p x ab al d sb sl ns z kvs M L := J.draw (Fx.of s) (J.D.same s)
theorem J20.mono (J : J20 K H a p x ab al d sb sl ns z kvs M L) (h : z ≤ z') : J20 K H a p x ab al d sb sl ns z' kvs M L := ⟨J.D.mono h, J.R, J.S, J.ap, J.pn, J.dj⟩
theorem J20.old (J : J20 K H a p x ab al d sb sl ns z kvs M L) : (∀ c ∈ [x, ab, al], H c ≠ none) ∧ ∀ c ∈ [d, sb, sl], H c ≠ none := by
  obtain ⟨⟨dx, h1⟩, ⟨_, h2, _⟩, ⟨_, h3, _⟩, _⟩ := J.R
  obtain ⟨_, g2, _⟩ := J.S.b
  obtain ⟨_, g3, _⟩ := J.S.l
  refine ⟨fun c hc e => ?_, fun c hc e => ?_⟩
  · simp only [List.mem_cons, List.not_mem_nil, or_false] at hc
    rcases hc with rfl | rfl | rfl
    · rw [h1] at e
      cases e
    · rw [h2] at e
      cases e
    · rw [h3] at e
      cases e
  · simp only [List.mem_cons, List.not_mem_nil, or_false] at hc
    rcases hc with rfl | rfl | rfl
    · rw [J.S.e] at e
      cases e
    · rw [g2] at e
      cases e
    · rw [g3] at e
      cases e
theorem Ap.app {F G : List Addr} (h : Ap K a ns F) (g : Ap K a ns G) : Ap K a ns (F ++ G) := by
  rcases h with h | h
  · exact .inl h
  · rcases g with g | g
    · exact .inl g
    · exact .inr fun m => (List.mem_append.mp m).elim h g
theorem Ap.new {l l' : Addr} (D : Dr K H a p ns z) (n : New H l l') (h : Ap K a ns [l]) : Ap K a ns [l'] := by
  rcases n with rfl | n
  · exact h
  · exact D.new n
theorem J20.line (J : J20 K H a p x ab al d sb sl ns z kvs M L) (n1 : New H ab ab') (n2 : New H al al') (f : Fx [x, ab, al] H H') (R : LineAt K H' x ab' al' M') : J20 K H' a p x ab' al' d sb sl ns z kvs M' L := by
  have pn := J.pn
  have dj := J.dj
  have old := J.old
  have hd : ∀ c ∈ [d, sb, sl], c ∉ [x, ab, al] := fun c hc h => dj c h hc
  have D := J.D.fy f (J.ap.mono (by simp +contextual)) (fun h => pn (by simp only [List.mem_cons, List.not_mem_nil, or_false] at h ⊢; rcases h with h | h | h <;> simp [h]))
  refine ⟨D, R, J.S.fx f (hd _ (by simp)) (hd _ (by simp)) (hd _ (by simp)), ?_, ?_, ?_⟩
  · have h1 := Ap.new J.D n1 (J.ap.mono (F := [ab]) (by simp))
    have h2 := Ap.new J.D n2 (J.ap.mono (F := [al]) (by simp))
    exact ((J.ap.mono (F := [x]) (by simp)).app (h1.app (h2.app (J.ap.mono (F := [d, sb, sl]) (by simp +contextual)))))
  · have e1 : p ≠ ab' := by
      rcases n1 with rfl | n
      · exact fun e => pn (by simp [e])
      · exact J.D.ne n
    have e2 : p ≠ al' := by
      rcases n2 with rfl | n
      · exact fun e => pn (by simp [e])
      · exact J.D.ne n
    simp only [List.mem_cons, List.not_mem_nil, or_false, not_or] at pn ⊢
    exact ⟨pn.1, e1, e2, pn.2.2.2⟩
  · intro c hc
    simp only [List.mem_cons, List.not_mem_nil, or_false] at hc
    rcases hc with rfl | rfl | rfl
    · exact dj _ (by simp)
    · rcases n1 with rfl | n
      · exact dj _ (by simp)
      · exact fun h => old.2 _ h n
    · rcases n2 with rfl | n
      · exact dj _ (by simp)
      · exact fun h => old.2 _ h n
theorem J20.st (J : J20 K H a p x ab al d sb sl ns z kvs M L) (n1 : New H sb sb') (n2 : New H sl sl') (f : Fx [d, sb, sl] H H') (S : StAt H' d kvs' sb' sl' L') : J20 K H' a p x ab al d sb' sl' ns z kvs' M L' := by
  have pn := J.pn
  have dj := J.dj
  have old := J.old
  have D := J.D.fy f (J.ap.mono (by simp +contextual)) (fun h => pn (by simp only [List.mem_cons, List.not_mem_nil, or_false] at h ⊢; rcases h with h | h | h <;> simp [h]))
  refine ⟨D, J.R.fx f (dj _ (by simp)) (dj _ (by simp)) (dj _ (by simp)), S, ?_, ?_, ?_⟩
  · have h1 := Ap.new J.D n1 (J.ap.mono (F := [sb]) (by simp))
    have h2 := Ap.new J.D n2 (J.ap.mono (F := [sl]) (by simp))
    exact (J.ap.mono (F := [x, ab, al, d]) (by simp +contextual)).app (h1.app h2)
  · have e1 : p ≠ sb' := by
      rcases n1 with rfl | n
      · exact fun e => pn (by simp [e])
      · exact J.D.ne n
    have e2 : p ≠ sl' := by
      rcases n2 with rfl | n
      · exact fun e => pn (by simp [e])
      · exact J.D.ne n
    simp only [List.mem_cons, List.not_mem_nil, or_false, not_or] at pn ⊢
    exact ⟨pn.1, pn.2.1, pn.2.2.1, pn.2.2.2.1, e1, e2⟩
  · intro c hc h
    simp only [List.mem_cons, List.not_mem_nil, or_false] at h
    have d1 := dj c hc
    simp only [List.mem_cons, List.not_mem_nil, or_false, not_or] at d1
    rcases h with rfl | rfl | rfl
    · exact d1.1 rfl
    · rcases n1 with rfl | n
      · exact d1.2.1 rfl
      · exact old.1 _ hc n
    · rcases n2 with rfl | n
      · exact d1.2.2 rfl
      · exact old.1 _ hc n
end
theorem J20.newB {K : PySem.W.Frag} {H : Hp} {a p x ab al d sb sl q : Addr} {ns : List Int} {z : Nat} {kvs : List (Key × V)} {M L : Ln} (J : J20 K H a p x ab al d sb sl ns z kvs M L) (hq : H q = none) :
    J20 K (upd (upd H q (.lst [])) d (.dK (putK kvs (.inr "before") (.ref q)))) a p x ab al d q sl ns z (putK kvs (.inr "before") (.ref q)) M ⟨L.p, [], L.l, L.r⟩ := by
  obtain ⟨xl, hl, _⟩ := J.S.l
  have S1 := J.S.same (same_new (o := .lst []) hq)
  obtain ⟨S2, f2, _⟩ := S1.setBefore (q := q) upd_same (ne_new hl hq).symm
  have f : Fx [d, sb, sl] H (upd (upd H q (.lst [])) d (.dK (putK kvs (.inr "before") (.ref q)))) := (Fx.of (same_new hq)).trans f2
  exact J.st (.inr hq) (.inl rfl) f S2
theorem J20.newL {K : PySem.W.Frag} {H : Hp} {a p x ab al d sb sl q : Addr} {ns : List Int} {z : Nat} {kvs : List (Key × V)} {M L : Ln} (J : J20 K H a p x ab al d sb sl ns z kvs M L) (hq : H q = none) :
    J20 K (upd (upd H q (.lst [])) d (.dK (putK kvs (.inr "later") (.ref q)))) a p x ab al d sb q ns z (putK kvs (.inr "later") (.ref q)) M ⟨L.p, L.b, [], L.r⟩ := by
  obtain ⟨xl, hl, _⟩ := J.S.b
  have S1 := J.S.same (same_new (o := .lst []) hq)
  obtain ⟨S2, f2, _⟩ := S1.setLater (q := q) upd_same (ne_new hl hq)
  have f : Fx [d, sb, sl] H (upd (upd H q (.lst [])) d (.dK (putK kvs (.inr "later") (.ref q)))) := (Fx.of (same_new hq)).trans f2
  exact J.st (.inl rfl) (.inr hq) f S2
def spTurn (K : PySem.W.Frag) : Sp := fun vs H Q _ => ∃ (a p x ab al d sb sl : Addr) (ns : List Int) (z : Nat) (kvs : List (Key × V)) (M : Ln) (B : Nat), vs = [.ref a, .ref p, .ref x, .ref d] ∧ J20 K H a p x ab al d sb sl ns z kvs M M ∧ z ≤ 10000 ∧ LnOk B M ∧ B ≤ 300 ∧ M.many ≤ 1000 ∧
  ∀ ab' al' sb' sl' kvs' M' H', J20 K H' a p x ab' al' d sb' sl' ns (z + 5) kvs' M' M' → LnOk (B + 4) M' → M'.many ≤ M.many + 1 → Q (.bl true) H'
section
variable {P : Program} {w : World} {K : PySem.W.Frag} {mg : Str → Option Value} {base : Heap}
theorem d_l_turn (T : TX K mg) : Dn P w K mg base 6 "_law_turn" p_l_turn (spTurn K) := by
  refine dn_of (fn_l_turn T) (g__law_turn T) sc_l_turn bd_l_turn (fun vs H Q E h => ?_) (fun cdv A outer s H vs Q E hr h => ?_)
  · obtain ⟨a, p, x, ab, al, d, sb, sl, ns, z, kvs, M, B, rfl, _⟩ := h
    rfl
  · obtain ⟨a, p, x, ab, al, d, sb, sl, ns, z, kvs, M, B, rfl, J, hz, ok, hB, hm, k⟩ := h
    obtain ⟨qn, gn, hqn⟩ := J.S.getN
    refine ⟨_, (pss_cons (ps_asg (pe_dget (hu_of hr) (pv 3) pe_str (fun _ _ => rfl)) (pg_tup (n := 3) rfl (pgs_cons (pg_name (i := 4) sc_l_turn.nd rfl (Or.inl rfl)) (pgs_cons (pg_name (i := 5) sc_l_turn.nd rfl (Or.inl rfl)) (pgs_cons (pg_name (i := 6) sc_l_turn.nd rfl (Or.inl rfl)) pgs_nil))))) (pss_cons (ps_set (i := 7) sc_l_turn.nd rfl (Or.inl rfl) (pc (d_l_pick T) (hr.mono (by decide)) px (pa_cons (pv 0) (pa_cons (pv 1) (pa_cons (pe_lst (pa_lits rfl)) pa_nil))))) (Evl.pss_cut (ps_if (pt_cmpR op_eq (pc (d_l_draw T) (hr.mono (by decide)) px (pa_cons (pv 0) (pa_cons (pv 1) (pa_cons pe_int pa_nil)))) pe_int (nomark _)) (pss_one (ps_set (i := 7) sc_l_turn.nd rfl (Or.inl rfl) pe_str)) pss_nil) (pss_cons (ps_set (i := 8) sc_l_turn.nd rfl (Or.inl rfl) (pe_dget (hu_of hr) (pv 3) pe_str (fun _ _ => rfl))) (pss_cons (ps_dput (hu_of hr) (pv 3) pe_str pe_int rfl) (pss_cons (ps_if (pt_cmpR op_eq (pv 7) pe_str (nomark _)) (pss_cons (ps_if (PW.pt (pw_or (pt_cmpR op_eq (pv 8) pe_int (nomark _)) (pw_or1 (pt_cmpR op_eq (pv 8) pe_int (nomark _))))) (pss_cons (ps_expr (pe_bm PySem.F.plainAttrs_list PySem.F.slot_list_append PySem.F.type_list_append mt_append (pe_dget (hu_of hr) (pv 3) pe_str (fun _ _ => rfl)) (pa_cons (pe_dget (hu_of hr) (pv 3) pe_str (fun _ _ => rfl)) pa_nil))) (pss_one (ps_set (i := 8) sc_l_turn.nd rfl (Or.inl rfl) pe_int))) pss_nil) (pss_cons (ps_dput (hu_of hr) (pv 3) pe_str (pe_op op_add (pv 8) pe_int) rfl) (pss_cons (ps_expr (pc (d_l_put T) (hr.mono (by decide)) px (pa_cons (pv 3) (pa_cons (pv 5) (pa_cons (pv 5) (pa_cons pe_str (pa_cons (pe_op op_add (pv 5) pe_int) pa_nil))))))) (pss_one (ps_ret (pe_cmpR op_isN (pc (d_l_told T) (hr.mono (by decide)) px (pa_cons (pv 2) (pa_cons pe_str (pa_cons (pe_tup (pa_cons pe_str pa_nil)) pa_nil)))) pe_non (nomark _))))))) pss_nil) (pss_cons (ps_if (pt_cmpR op_eq (pv 7) pe_str (nomark _)) (pss_cons (ps_set (i := 9) sc_l_turn.nd rfl (Or.inl rfl) (pc (d_l_draw T) (hr.mono (by decide)) px (pa_cons (pv 0) (pa_cons (pv 1) (pa_cons (pe_op op_add (pe_callB call_len_str (by rfl) (b_len T) boot_len (pa_cons (pv 4) pa_nil)) pe_int) pa_nil))))) (pss_cons (ps_set (i := 10) sc_l_turn.nd rfl (Or.inl rfl) (pe_callB (call_min2 rfl) (by rfl) (b_min T) (by decide +kernel) (pa_cons (pe_callB call_len_str (by rfl) (b_len T) boot_len (pa_cons (pv 4) pa_nil)) (pa_cons (pe_op op_add (pv 9) (pc (d_l_draw T) (hr.mono (by decide)) px (pa_cons (pv 0) (pa_cons (pv 1) (pa_cons pe_int pa_nil))))) pa_nil)))) (pss_cons (ps_set (i := 11) sc_l_turn.nd rfl (Or.inl rfl) (pc (d_l_pick T) (hr.mono (by decide)) px (pa_cons (pv 0) (pa_cons (pv 1) (pa_cons (pe_lst (pa_cons pe_str (pa_cons pe_str (pa_cons pe_str pa_nil)))) pa_nil))))) (pss_cons (ps_expr (pe_bm PySem.F.plainAttrs_list PySem.F.slot_list_append PySem.F.type_list_append mt_append (pe_dget (hu_of hr) (pv 3) pe_str (fun _ _ => rfl)) (pa_cons (pe_dget (hu_of hr) (pv 3) pe_str (fun _ _ => rfl)) pa_nil))) (pss_cons (ps_expr (pc (d_l_put T) (hr.mono (by decide)) px (pa_cons (pv 3) (pa_cons (pv 9) (pa_cons (pv 10) (pa_cons (pv 11) (pa_cons (pv 9) pa_nil))))))) (pss_one (ps_ret (pe_cmpR op_isN (pc (d_l_told T) (hr.mono (by decide)) px (pa_cons (pv 2) (pa_cons pe_str (pa_cons (pe_tup (pa_cons (pv 9) (pa_cons (pv 10) (pa_cons (pv 11) (pa_cons (pv 9) pa_nil))))) pa_nil)))) pe_non (nomark _))))))))) pss_nil) (pss_cons (ps_if (pt_cmpR op_in_seq (pv 7) (pe_tup (pa_cons pe_str (pa_cons pe_str pa_nil))) (by rfl)) (pss_cons (ps_set (i := 12) sc_l_turn.nd rfl (Or.inl rfl) (pc (d_l_draw T) (hr.mono (by decide)) px (pa_cons (pv 0) (pa_cons (pv 1) (pa_cons (pe_op op_add (pe_callB call_len_str (by rfl) (b_len T) boot_len (pa_cons (pv 4) pa_nil)) pe_int) pa_nil))))) (pss_cons (ps_dput (hu_of hr) (pv 3) pe_str (pe_ifExp (pt_cmpR op_eq (pv 7) pe_str (nomark _)) (pe_tup (pa_cons (pv 4) (pa_cons (pv 12) (pa_cons (pv 6) pa_nil)))) (pe_tup (pa_cons (pv 4) (pa_cons (pv 5) (pa_cons (pv 12) pa_nil))))) rfl) (pss_one (ps_ret (pe_cmpR op_isN (pc (d_l_told T) (hr.mono (by decide)) px (pa_cons (pv 2) (pa_cons (pv 7) (pa_cons (pe_tup (pa_cons (pv 12) pa_nil)) pa_nil)))) pe_non (nomark _)))))) pss_nil) (pss_cons (ps_if (pt_cmpR op_eq (pv 7) pe_str (nomark _)) (pss_cons (ps_dput (hu_of hr) (pv 3) pe_str (pe_tup (pa_cons pe_str (pa_cons pe_int (pa_cons pe_int pa_nil)))) rfl) (pss_cons (ps_dput (hu_of hr) (pv 3) pe_str (pe_lst pa_nil) rfl) (pss_cons (ps_dput (hu_of hr) (pv 3) pe_str (pe_lst pa_nil) rfl) (pss_one (ps_ret (pe_cmpR op_isN (pc (d_l_told T) (hr.mono (by decide)) px (pa_cons (pv 2) (pa_cons (pv 7) (pa_cons (pe_tup pa_nil) pa_nil)))) pe_non (nomark _))))))) pss_nil) (pss_one (ps_ret (pe_cmpR (op_eqD hr.units) (pc (d_l_told T) (hr.mono (by decide)) px (pa_cons (pv 2) (pa_cons (pv 7) (pa_cons (pe_tup pa_nil) pa_nil)))) (pc (d_l_back T) (hr.mono (by decide)) px (pa_cons (pv 3) (pa_cons (pv 7) pa_nil))) (nomark _))))))))))))), ?_⟩
    walk_at "rd"
    refine ⟨_, gn, qn, rfl, _, st_of hqn, rfl, _, _, rfl, _, _, rfl, _, _, rfl, rfl, ?_⟩
    refine pick_new J.D (by omega) (by simp) (by simp) fun j v H1 hj F1 D1 => ?_
    obtain ⟨word, hw, rfl⟩ := pick_str hj
    have J1 := J.draw F1 D1
    let Mid : L2.St → Hp → Prop := fun σ' H' => ∃ word : Str, σ' = [some (.ref a), some (.ref p), some (.ref x), some (.ref d), some (tv M.p.t), some (.int M.p.c), some (.int M.p.m), some (.str word), none, none, none, none, none] ∧
      (word = ("write" : Str) ∨ word = ("change" : Str) ∨ word = ("go" : Str) ∨ word = ("mark" : Str) ∨ word = ("undo" : Str) ∨ word = ("redo" : Str) ∨ word = ("clear" : Str)) ∧ J20 K H' a p x ab al d sb sl ns (z + 2) kvs M M
    refine ⟨Mid, ?_, ?_⟩
    · walk_at "rd"
      refine ⟨a, p, 30, ns, _, rfl, D1, by omega, by omega, by omega, fun n H2 n0 n1 F2 D2 => ⟨rfl, ?_⟩⟩
      have J2 := J1.draw F2 D2
      by_cases e : n = 0
      · rw [if_pos (by rw [e])]
        exact ⟨"clear", rfl, by simp, J2⟩
      · rw [if_neg (by intro q; cases q; exact e rfl)]
        refine ⟨word, rfl, ?_, J2⟩
        simp only [List.mem_cons, List.not_mem_nil, or_false] at hw
        rcases hw with h | h | h | h | h | h | h | h | h | h <;> simp [h]
    · rintro σ' H2 ⟨word, rfl, hw, J2⟩
      walk_at "rd"
      refine ⟨_, J2.S.getR, _, J2.S.dput _ _, ?_⟩
      obtain ⟨S3, f3, g3⟩ := J2.S.setR 0
      have J3 := J2.st (.inl rfl) (.inl rfl) f3 S3
      have sz : M.sz := by
        unfold Ln.many at hm
        exact ⟨by have := ok.p.len; omega, by omega, by omega⟩
      have tl := ok.p.len
      have hc : 0 ≤ M.p.c ∧ M.p.c ≤ (M.p.t.length : Int) := ok.p.c
      have tell : ∀ (op : Op) (H1 : Hp) (sb' sl' q : Addr) (z' : Nat) (kvs' : List (Key × V)), J20 K H1 a p x ab al d sb' sl' ns z' kvs' M (op.to M) → H1 q = none → op.bad M = none → op.sz M → op.val M = .non → LnOk (B + 4) (op.to M) → (op.to M).many ≤ M.many + 1 → z' ≤ z + 5 →
          spTold K [.ref x, .str op.word, .ref q] (upd H1 q (.tup op.vals)) (fun x H1 => Q (.bl (decide (x = .non))) H1) E := fun op H1 sb' sl' q z' kvs' J hq hb osz hv ok' hm' hz' => by
        refine ⟨x, ab, al, q, M, op, rfl, upd_same, J.R.same (same_new hq), sz, osz, ?_⟩
        rw [hb]
        intro ab' al' H' n1 n2 f R
        have J' := (J.same (same_new hq)).line n1 n2 f R
        show Q (.bl (decide (op.val M = .non))) H'
        rw [hv]
        exact k _ _ _ _ _ _ _ (J'.mono hz') ok' hm'
      by_cases w0 : word = ("write" : Str)
      · rw [if_pos w0]
        refine ⟨rfl, ?_⟩
        have ls : ("s" : Str).cps.toList.length = 1 := by decide +kernel
        have oks : okText ("s" : Str).cps.toList = true := by decide +kernel
        have fit : fitsT M.p.t M.p.c M.p.c ("s" : Str).cps.toList := ⟨oks, by rw [ls]; omega⟩
        have fin : ∀ (L1 : Ln) (H4 : Hp) (sb4 sl4 : Addr) (kvs4 : List (Key × V)), J20 K H4 a p x ab al d sb4 sl4 ns (z + 2) kvs4 M L1 → L1.p = M.p → M.write ("s" : Str).cps.toList = ⟨M.p.put M.p.c M.p.c ("s" : Str).cps.toList (M.p.c + 1), L1.b, [], L1.r⟩ →
            spPut [.ref d, .int M.p.c, .int M.p.c, .str "s", .int (M.p.c + 1)] H4 (fun x_5 H1 => [V.str "s"].length ≤ sizeLine ∧ ∀ p : Addr, H1 p = none → spTold K [.ref x, .str "write", .ref p] (upd H1 p (.tup [.str "s"])) (fun x H1 => Q (.bl (decide (x = .non))) H1) E) E := fun L1 H4 sb4 sl4 kvs4 J4 e1 e2 => by
          refine ⟨d, sb4, sl4, kvs4, L1, M.p.c, M.p.c, ("s" : Str).cps.toList, M.p.c + 1, rfl, J4.S, by rw [e1]; omega, by rw [ls]; decide, by rw [e1]; exact ⟨hc, hc⟩, Int.le_refl _, fun kvs5 sb5 sl5 H5 g5 n1 n2 f5 S5 => ⟨by decide, fun q hq => ?_⟩⟩
          have J5 := J4.st n1 n2 f5 S5
          rw [e1, ← e2] at J5
          exact tell (.write ("s" : Str).cps.toList) H5 _ _ q _ _ J5 hq (if_pos fit) ⟨by rw [ls]; decide, hc⟩ rfl (ok.write (okText_lt oks) (by rw [ls]; omega) (by omega)) many_write (by omega)
        by_cases gr : M.r = 0 ∨ M.r = 20
        · obtain ⟨vb, hb, pb⟩ := S3.b
          obtain ⟨qn3, gn3, hqn3⟩ := S3.getN
          obtain ⟨S4, f4⟩ := S3.addB hb hqn3
          obtain ⟨S5, f5, g5⟩ := S4.setR (0 + 1)
          have J5 := J3.st (.inl rfl) (.inl rfl) (f4.trans f5) S5
          have e : M.write ("s" : Str).cps.toList = ⟨M.p.put M.p.c M.p.c ("s" : Str).cps.toList (M.p.c + 1), M.b ++ [M.p], [], 0 + 1⟩ := by
            show (⟨M.p.put M.p.c M.p.c _ (M.p.c + _), if M.r = 0 ∨ M.r = 20 then M.b ++ [M.p] else M.b, [], if M.r = 0 ∨ M.r = 20 then 1 else M.r + 1⟩ : Ln) = _
            rw [if_pos gr, if_pos gr, ls]
            rfl
          have go := fin _ _ _ _ _ J5 rfl e
          have lb : vb.length < sizeLine := Nat.lt_of_le_of_lt (by rw [pb.len]; exact sz.2.1) (by decide)
          have st : ∃ x_1, DGet (upd H2 d (.dK (putK kvs (.inr "run") (.int 0)))) d (.str "before") (some x_1) ∧ tyV K "list" x_1 (upd H2 d (.dK (putK kvs (.inr "run") (.int 0)))) ∧ ∃ x_2, DGet (upd H2 d (.dK (putK kvs (.inr "run") (.int 0)))) d (.str "now") (some x_2) ∧
              ∃ l, x_1 = .ref l ∧ ∃ x_3, upd H2 d (.dK (putK kvs (.inr "run") (.int 0))) l = some (.lst x_3) ∧ x_3.length < sizeLine ∧ ∃ x_4, DPut (upd (upd H2 d (.dK (putK kvs (.inr "run") (.int 0)))) l (.lst (x_3 ++ [x_2]))) d (.str "run") (.int (0 + 1)) x_4 ∧
              spPut [.ref d, .int M.p.c, .int M.p.c, .str "s", .int (M.p.c + 1)] x_4 (fun x_5 H1 => [V.str "s"].length ≤ sizeLine ∧ ∀ p : Addr, H1 p = none → spTold K [.ref x, .str "write", .ref p] (upd H1 p (.tup [.str "s"])) (fun x H1 => Q (.bl (decide (x = .non))) H1) E) E :=
            ⟨_, S3.getB, .inl ⟨rfl, _, sq_of hb⟩, _, gn3, _, rfl, vb, hb, lb, _, S4.dput _ _, go⟩
          by_cases r0 : M.r = 0
          · rw [if_pos (by rw [r0])]
            exact st
          · rw [if_neg (by intro q; injection q with q; exact r0 q)]
            refine ⟨rfl, ?_⟩
            rw [if_pos (by rw [gr.resolve_left r0])]
            exact st
        · rw [if_neg (by intro q; injection q with q; exact gr (.inl q))]
          refine ⟨rfl, ?_⟩
          rw [if_neg (by intro q; injection q with q; exact gr (.inr q))]
          obtain ⟨S5, f5, g5⟩ := S3.setR (M.r + 1)
          have J5 := J3.st (.inl rfl) (.inl rfl) f5 S5
          have e : M.write ("s" : Str).cps.toList = ⟨M.p.put M.p.c M.p.c ("s" : Str).cps.toList (M.p.c + 1), M.b, [], M.r + 1⟩ := by
            show (⟨M.p.put M.p.c M.p.c _ (M.p.c + _), if M.r = 0 ∨ M.r = 20 then M.b ++ [M.p] else M.b, [], if M.r = 0 ∨ M.r = 20 then 1 else M.r + 1⟩ : Ln) = _
            rw [if_neg gr, if_neg gr, ls]
            rfl
          exact ⟨_, rfl, _, S3.dput _ _, fin _ _ _ _ _ J5 rfl e⟩
      · rw [if_neg w0]
        by_cases w1 : word = ("change" : Str)
        · rw [if_pos w1]
          refine ⟨sline (by omega), a, p, _, ns, _, rfl, J3.D, by omega, by omega, by omega, fun i H4 i0 i1 F4 D4 => ⟨sline (by omega), a, p, 4, ns, _, rfl, D4, by omega, by omega, by omega, fun n H5 n0 n1 F5 D5 => ⟨i, rfl, n, rfl, ?_⟩⟩⟩
          refine pick_new D5 (by omega) (by simp) (by simp) fun j2 v2 H6 hj2 F6 D6 => ?_
          have J6 := J3.draw ((F4.trans F5).trans F6) D6
          obtain ⟨new, rfl, okn, ln⟩ : ∃ new : List Nat, v2 = tv new ∧ okText new = true ∧ new.length ≤ 4 := by
            match j2, hj2 with
            | 0, hj => exact ⟨[], (Option.some.inj hj).symm, by decide +kernel, by decide⟩
            | 1, hj => exact ⟨("x" : Str).cps.toList, (Option.some.inj hj).symm, by decide +kernel, by decide +kernel⟩
            | 2, hj => exact ⟨("new " : Str).cps.toList, (Option.some.inj hj).symm, by decide +kernel, by decide +kernel⟩
            | j + 3, hj => simp at hj
          obtain ⟨j, ej, hij, ij⟩ : ∃ j : Int, (if i + n < (M.p.t.length : Int) then i + n else (M.p.t.length : Int)) = j ∧ inTs M.p.t i j ∧ i ≤ j := by
            refine ⟨_, rfl, ⟨⟨i0, by omega⟩, ?_⟩, ?_⟩
            · show 0 ≤ _ ∧ _ ≤ (M.p.t.length : Int)
              split <;> omega
            · split <;> omega
          rw [ej]
          obtain ⟨vb, hb, pb⟩ := J6.S.b
          obtain ⟨qn6, gn6, hqn6⟩ := J6.S.getN
          obtain ⟨S7, f7⟩ := J6.S.addB hb hqn6
          have J7 := J6.st (.inl rfl) (.inl rfl) f7 S7
          refine ⟨_, J6.S.getB, .inl ⟨rfl, _, sq_of hb⟩, _, gn6, _, rfl, vb, hb, Nat.lt_of_le_of_lt (by rw [pb.len]; exact sz.2.1) (by decide), ?_⟩
          refine ⟨d, sb, sl, _, _, i, j, new, i, rfl, S7, sz.1, by omega, hij, ij, fun kvs5 sb5 sl5 H8 g5 m1 m2 f5 S8 => ⟨by show 4 ≤ sizeLine; decide, fun q hq => ?_⟩⟩
          have J8 := J7.st m1 m2 f5 S8
          have h2 : 0 ≤ j ∧ j ≤ (M.p.t.length : Int) := hij.2
          have fit : fitsT M.p.t i j new := ⟨okn, by omega⟩
          exact tell (.change i j new i) H8 _ _ q _ _ J8 hq (by show (if _ then (if _ then _ else _) else _) = _; rw [if_pos hij, if_pos fit]) (by show new.length ≤ 100000; omega) rfl (ok.change hij ij (okText_lt okn) (by omega) (by omega) (by omega)) many_change (by omega)
        · rw [if_neg w1]
          refine ⟨by decide, fun q1 hq1 => in_strs ["go", "mark"] (st_of upd_same) ⟨_, rfl, ?_⟩⟩
          have J4 := J3.same (same_new (o := .tup [.str "go", .str "mark"]) hq1)
          by_cases w2 : word ∈ [("go" : Str), "mark"]
          · rw [if_pos (decide_eq_true w2)]
            refine ⟨sline (by omega), a, p, _, ns, _, rfl, J4.D, by omega, by omega, by omega, fun i H5 i0 i1 F5 D5 => ?_⟩
            have J5 := J4.draw F5 D5
            have hi : inT M.p.t i := ⟨i0, by omega⟩
            by_cases w3 : word = ("go" : Str)
            · simp only [if_pos w3]
              refine ⟨by show 3 ≤ sizeLine; decide, fun q hq => ?_⟩
              have J6 := J5.same (same_new (o := .tup (picV ⟨M.p.t, i, M.p.m⟩)) hq)
              obtain ⟨S7, f7, g7⟩ := J6.S.setN (q := q) (p := ⟨M.p.t, i, M.p.m⟩) upd_same
              have J7 := J6.st (.inl rfl) (.inl rfl) f7 S7
              refine ⟨_, J6.S.dput _ _, by show 1 ≤ sizeLine; decide, fun q2 hq2 => ?_⟩
              rw [w3]
              exact tell (.go i) _ _ _ q2 _ _ J7 hq2 (if_pos hi) trivial rfl ((ok.go hi).mono (by omega)) (Nat.le_succ _) (by omega)
            · simp only [if_neg w3]
              have w4 : word = ("mark" : Str) := by
                simp only [List.mem_cons, List.not_mem_nil, or_false] at w2
                exact w2.resolve_left w3
              refine ⟨by show 3 ≤ sizeLine; decide, fun q hq => ?_⟩
              have J6 := J5.same (same_new (o := .tup (picV ⟨M.p.t, M.p.c, i⟩)) hq)
              obtain ⟨S7, f7, g7⟩ := J6.S.setN (q := q) (p := ⟨M.p.t, M.p.c, i⟩) upd_same
              have J7 := J6.st (.inl rfl) (.inl rfl) f7 S7
              refine ⟨_, J6.S.dput _ _, by show 1 ≤ sizeLine; decide, fun q2 hq2 => ?_⟩
              rw [w4]
              exact tell (.mark i) _ _ _ q2 _ _ J7 hq2 (if_pos hi) trivial rfl ((ok.markAt hi).mono (by omega)) (Nat.le_succ _) (by omega)
          · rw [if_neg (by rw [decide_eq_false w2]; decide)]
            by_cases w3 : word = ("clear" : Str)
            · rw [if_pos w3]
              refine ⟨by decide, fun q hq => ?_⟩
              have J5 := J4.same (same_new (o := .tup (picV ⟨[], 0, 0⟩)) hq)
              obtain ⟨S6, f6, g6⟩ := J5.S.setN (q := q) (p := ⟨[], 0, 0⟩) upd_same
              have J6 := J5.st (.inl rfl) (.inl rfl) f6 S6
              refine ⟨_, J5.S.dput _ _, by decide, fun q2 hq2 => ?_⟩
              have J8 := J6.newB hq2
              refine ⟨_, (J6.S.same (same_new hq2)).dput _ _, by decide, fun q3 hq3 => ?_⟩
              have J9 := J8.newL hq3
              refine ⟨_, (J8.S.same (same_new hq3)).dput _ _, by decide, fun q4 hq4 => ?_⟩
              rw [w3]
              exact tell .clear _ _ _ q4 _ _ J9 hq4 rfl trivial rfl LnOk.zero (Nat.zero_le _) (by omega)
            · rw [if_neg w3]
              have w4 : word = ("undo" : Str) ∨ word = ("redo" : Str) := by
                simp only [List.mem_cons, List.not_mem_nil, or_false] at w2
                rcases hw with h | h | h | h | h | h | h
                · exact absurd h w0
                · exact absurd h w1
                · exact absurd (.inl h) w2
                · exact absurd (.inr h) w2
                · exact .inl h
                · exact .inr h
                · exact absurd h w3
              refine ⟨by decide, fun q hq => ?_⟩
              have J5 := J4.same (same_new (o := .tup []) hq)
              have sz0 : Ln.sz ⟨M.p, M.b, M.l, 0⟩ := sz
              have asc0 : Ln.asc ⟨M.p, M.b, M.l, 0⟩ := ok.ascL
              rcases w4 with rfl | rfl
              · refine ⟨x, ab, al, q, M, .undo, rfl, upd_same, J5.R, sz, trivial, ?_⟩
                intro ab' al' H6 n1 n2 f6 R6
                have J6 := J5.line n1 n2 f6 R6
                refine ⟨d, sb, sl, _, _, "undo", rfl, J6.S, sz0, asc0, .inl ⟨rfl, rfl, fun kvs7 sb7 sl7 H7 g7 m1 m2 f7 S7 => ?_⟩⟩
                have J7 := J6.st m1 m2 f7 S7
                exact eq_same (.bl _) (.bl _) rfl (k _ _ _ _ _ _ _ (J7.mono (by omega)) (ok.undo.mono (by omega)) many_undo)
              · refine ⟨x, ab, al, q, M, .redo, rfl, upd_same, J5.R, sz, trivial, ?_⟩
                intro ab' al' H6 n1 n2 f6 R6
                have J6 := J5.line n1 n2 f6 R6
                refine ⟨d, sb, sl, _, _, "redo", rfl, J6.S, sz0, asc0, .inr ⟨rfl, rfl, fun kvs7 sb7 sl7 H7 g7 m1 m2 f7 S7 => ?_⟩⟩
                have J7 := J6.st m1 m2 f7 S7
                exact eq_same (.bl _) (.bl _) rfl (k _ _ _ _ _ _ _ (J7.mono (by omega)) (ok.redo.mono (by omega)) many_redo)
def spLaw (K : PySem.W.Frag) : Sp := fun vs H Q _ => ∃ (a : Addr) (ns : List Int), vs = [.ref a] ∧ SqL K H a (ns.map V.int) ∧ ns.length ≤ 63 ∧ ∀ H', Q (.bl true) H'
theorem len_law (vs : List V) (H : Hp) (Q : VK) (E : XK) (h : spLaw K vs H Q E) : vs.length = p_law.length := by
  obtain ⟨a, ns, rfl, _⟩ := h
  rfl
theorem d_law (T : TX K mg) : BodyOk P w K mg base n_law "law" s_law (He.fAd K ("law", none)) 6 (spLaw K) := by
  intro cdv A outer s H vs Q E hr h
  · obtain ⟨a, ns, rfl, hS, hl, K0⟩ := h
    refine ⟨_, (pss_cons (ps_set (i := 1) sc_law.nd rfl (Or.inl rfl) (pe_lst pa_nil)) (pss_cons (ps_set (i := 2) sc_law.nd rfl (Or.inl rfl) (pc (d_l_text T) (hr.mono (by decide)) px (pa_cons (pv 0) (pa_cons (pv 1) (pa_cons pe_int pa_nil))))) (pss_cons (ps_set (i := 3) sc_law.nd rfl (Or.inr rfl) (pn (d_Line_init T) (hr.mono (by decide)) px (pa_cons (pv 2) pa_nil))) (pss_cons (ps_set (i := 4) sc_law.nd rfl (Or.inl rfl) (pe_disp (pps_cons pe_str (pe_tup (pa_cons (pv 2) (pa_cons (pe_callB call_len_str (by rfl) (b_len T) boot_len (pa_cons (pv 2) pa_nil)) (pa_cons pe_int pa_nil)))) (pps_cons pe_str (pe_lst pa_nil) (pps_cons pe_str (pe_lst pa_nil) (pps_cons pe_str pe_int pps_nil)))) (by rfl) (by rfl) (fun z => by cases z) (by decide))) (Evl.pss_cut (ps_for (passes_of rfl) rfl (pi_range1 rfl (b_range T) (pa_cons (pc (d_l_draw T) (hr.mono (by decide)) px (pa_cons (pv 0) (pa_cons (pv 1) (pa_cons pe_int pa_nil)))) pa_nil)) (pg_name (i := 5) sc_law.nd rfl (Or.inl rfl)) (pss_cons (ps_if (pt_not (pt_val (pc (d_l_turn T) (hr.mono (by decide)) px (pa_cons (pv 0) (pa_cons (pv 1) (pa_cons (pv 3) (pa_cons (pv 4) pa_nil))))))) (pss_one (ps_ret pe_bl)) pss_nil) (pss_cons (ps_if (pt_cmpR (op_neD hr.units) (pe_tup (pa_cons (pm0 (d_Line_text T) (hr.mono (by decide)) px (pv 3)) (pa_cons (pm0 (d_Line_at T) (hr.mono (by decide)) px (pv 3)) (pa_cons (pm0 (d_Line_marked T) (hr.mono (by decide)) px (pv 3)) pa_nil)))) (pe_dget (hu_of hr) (pv 4) pe_str (fun _ _ => rfl)) (nomark _)) (pss_one (ps_ret pe_bl)) pss_nil) (pss_one (ps_if (pt_cmpR (op_neD hr.units) (pm0 (d_Line_groups T) (hr.mono (by decide)) px (pv 3)) (pe_tup (pa_cons (pe_callB call_len_seq (by rfl) (b_len T) boot_len (pa_cons (pe_dget (hu_of hr) (pv 4) pe_str (fun _ _ => rfl)) pa_nil)) (pa_cons (pe_callB call_len_seq (by rfl) (b_len T) boot_len (pa_cons (pe_dget (hu_of hr) (pv 4) pe_str (fun _ _ => rfl)) pa_nil)) pa_nil))) (nomark _)) (pss_one (ps_ret pe_bl)) pss_nil))))) (pss_cons (ps_set (i := 6) sc_law.nd rfl (Or.inl rfl) (pe_callB call_len (by rfl) (b_len T) boot_len (pa_cons (pe_ix ix_tup (pe_dget (hu_of hr) (pv 4) pe_str (fun _ _ => rfl)) pe_int (fun _ _ => rfl)) pa_nil))) (pss_cons (ps_set (i := 7) sc_law.nd rfl (Or.inl rfl) (pe_lst (pa_cons (pe_tup (pa_cons pe_str (pa_cons (pe_tup (pa_cons (pe_un un_neg pe_int) pa_nil)) pa_nil))) (pa_cons (pe_tup (pa_cons pe_str (pa_cons (pe_tup (pa_cons (pe_op op_add (pv 6) pe_int) pa_nil)) pa_nil))) (pa_cons (pe_tup (pa_cons pe_str (pa_cons (pe_tup (pa_cons (pe_op op_add (pv 6) pe_int) (pa_cons (pe_op op_add (pv 6) pe_int) (pa_cons pe_str (pa_cons pe_int pa_nil))))) pa_nil))) pa_nil))))) (Evl.pss_cut (ps_expr (pe_bm PySem.F.plainAttrs_list PySem.F.slot_list_append PySem.F.type_list_append mt_append (pv 7) (pa_cons (pe_tup (pa_cons pe_str (pa_cons (pe_tup (pa_cons pe_int (pa_cons (pe_op op_add (pv 6) pe_int) (pa_cons pe_str (pa_cons pe_int pa_nil))))) pa_nil))) pa_nil))) (pss_cons (ps_if (pt_cmpR (op_neD hr.units) (pe_lc (own := [("_law_word", 8), ("_law_some", 9)]) rfl sc_law.nd (pi_list (pv 7)) (blkOk_by (own := [("_law_word", 8), ("_law_some", 9)]) (N := n_law) (sc := defScope s_law) (by decide +kernel)) (fun _ _ _ _ _ => (show PG _ _ (gTup K 2 (gCons (gName 8) (gCons (gName 9) gNil))) from pg_tup rfl (pgs_cons (pg_name (i := 8) sc_law.nd rfl (Or.inl rfl) (.inr rfl)) (pgs_cons (pg_name (i := 9) sc_law.nd rfl (Or.inl rfl) (.inr rfl)) pgs_nil)))) (fun _ _ _ _ _ => pts_nil) (fun _ _ _ _ _ => (pc (d_l_told T) (hr.mono (by decide)) px0 (pa_cons (pv 3) (pa_cons (pv 8) (pa_cons (pv 9) pa_nil)))))) (pe_op op_rep (pe_lst (pa_cons (pe_tup (pa_cons pe_str (pa_cons pe_str pa_nil))) pa_nil)) pe_int) (nomark _)) (pss_one (ps_ret pe_bl)) pss_nil) (Evl.pss_cut (ps_set (i := 10) sc_law.nd rfl (Or.inl rfl) (pe_lst (pa_cons (pe_tup (pa_cons pe_str (pa_cons (pe_tup (pa_cons pe_int (pa_cons pe_int (pa_cons pe_str (pa_cons pe_int pa_nil))))) pa_nil))) (pa_cons (pe_tup (pa_cons pe_str (pa_cons (pe_tup (pa_cons pe_int (pa_cons pe_int (pa_cons (pe_op op_repS pe_str (pe_op op_sub pe_int (pv 6))) (pa_cons pe_int pa_nil))))) pa_nil))) (pa_cons (pe_tup (pa_cons pe_str (pa_cons (pe_tup (pa_cons pe_str pa_nil)) pa_nil))) pa_nil))))) (pss_cons (ps_if (pt_cmpR (op_neD hr.units) (pe_lc (own := [("_law_word", 8), ("_law_some", 9)]) rfl sc_law.nd (pi_list (pv 10)) (blkOk_by (own := [("_law_word", 8), ("_law_some", 9)]) (N := n_law) (sc := defScope s_law) (by decide +kernel)) (fun _ _ _ _ _ => (show PG _ _ (gTup K 2 (gCons (gName 8) (gCons (gName 9) gNil))) from pg_tup rfl (pgs_cons (pg_name (i := 8) sc_law.nd rfl (Or.inl rfl) (.inr rfl)) (pgs_cons (pg_name (i := 9) sc_law.nd rfl (Or.inl rfl) (.inr rfl)) pgs_nil)))) (fun _ _ _ _ _ => pts_nil) (fun _ _ _ _ _ => (pc (d_l_told T) (hr.mono (by decide)) px0 (pa_cons (pv 3) (pa_cons (pv 8) (pa_cons (pv 9) pa_nil)))))) (pe_op op_rep (pe_lst (pa_cons (pe_tup (pa_cons pe_str (pa_cons pe_str pa_nil))) pa_nil)) pe_int) (nomark _)) (pss_one (ps_ret pe_bl)) pss_nil) (pss_one (ps_ret (pe_cmpR (op_eqD hr.units) (pe_tup (pa_cons (pm0 (d_Line_text T) (hr.mono (by decide)) px (pv 3)) (pa_cons (pm0 (d_Line_at T) (hr.mono (by decide)) px (pv 3)) (pa_cons (pm0 (d_Line_marked T) (hr.mono (by decide)) px (pv 3)) pa_nil)))) (pe_dget (hu_of hr) (pv 4) pe_str (fun _ _ => rfl)) (nomark _))))))))))))))), ?_⟩
    walk_at "rd"
    refine ⟨by decide, fun p hp => ?_⟩
    have D0 : Dr K (upd H p (.lst [])) a p ns 0 := Dr.start hS hl hp
    refine ⟨a, p, 5, ns, 0, rfl, D0, by omega, by omega, fun t H1 st lt F1 D1 => ?_⟩
    have okt : okText t = true := by
      unfold okText
      rw [st, decide_eq_true (show t.length ≤ 400 by omega)]
      rfl
    walk_at "rd"
    intro x xd hx hxd nxd
    refine ⟨x, xd, t, rfl, upd_same, by omega, ?_⟩
    rw [if_pos okt]
    intro ab al H2 hab hal F2 R2
    refine ⟨rfl, fun d hd => ⟨sline (by omega), by decide, fun q hq => ⟨by decide, fun sb hsb => ⟨by decide, fun sl hsl => ?_⟩⟩⟩⟩
    have sm : Same H1 (upd (upd H1 xd (.own x)) x (.ins (He.ga K "Line") xd [])) := (same_new hxd).trans (same_new (by rw [upd_ne nxd.symm]; exact hx))
    have hab1 := sm.free hab
    have hal1 := sm.free hal
    have D2 : Dr K H2 a p ns (0 + 2 + 2 * 5) := (D1.same sm).fy F2 (D1.new hx) (by simp [D1.ne hx])
    have s1 := same_new (o := .dK []) hd
    have s2 := same_new (o := .tup (picV ⟨t, t.length, 0⟩)) hq
    have s3 := same_new (o := .lst []) hsb
    have s4 := same_new (o := .lst []) hsl
    have hq2 := s1.free hq
    have hsb2 := s1.free (s2.free hsb)
    have hsl2 := s1.free (s2.free (s3.free hsl))
    have e1 := s4 _ _ (s3 _ _ (s2 _ _ (upd_same (H := H2) (a := d) (o := .dK []))))
    refine ⟨e1, [(.inr "now", .ref q), (.inr "before", .ref sb), (.inr "later", .ref sl), (.inr "run", .int 0)], rfl, by show 4 ≤ 15; decide, ?_⟩
    have S0 := StAt.make (p := ⟨t, t.length, 0⟩) e1 (s4 _ _ (s3 _ _ upd_same)) (s4 _ _ upd_same) upd_same (ne_of_none upd_same hsl)
    have sAll := s1.trans (s2.trans (s3.trans s4))
    have f5 : Fx [d] H2 _ := (Fx.of sAll).trans (Fx.upd (o := .dK (newKvs q sb sl)) List.mem_cons_self (nt_dK e1))
    have nR : ∀ c ∈ [x, ab, al], c ∉ [d, sb, sl] := fun c hc h => by
      obtain ⟨⟨dx, g1⟩, ⟨_, g2, _⟩, ⟨_, g3, _⟩, _⟩ := R2
      have hn : H2 c = none := by
        simp only [List.mem_cons, List.not_mem_nil, or_false] at h
        rcases h with rfl | rfl | rfl
        · exact hd
        · exact hsb2
        · exact hsl2
      simp only [List.mem_cons, List.not_mem_nil, or_false] at hc
      rcases hc with rfl | rfl | rfl
      · rw [hn] at g1
        cases g1
      · rw [hn] at g2
        cases g2
      · rw [hn] at g3
        cases g3
    have nd : ∀ c ∈ [x, ab, al], c ∉ [d] := fun c hc h => nR c hc (by simp [List.mem_singleton.mp h])
    have J0 : J20 K _ a p x ab al d sb sl ns 12 (newKvs q sb sl) (.new t) (.new t) :=
      ⟨D2.fy f5 (D2.new hd) (by simp [D2.ne hd]), R2.fx f5 (nd _ (by simp)) (nd _ (by simp)) (nd _ (by simp)), S0,
        (D1.new hx).cons ((D1.new hab1).cons ((D1.new hal1).cons ((D2.new hd).cons ((D2.new hsb2).cons (D2.new hsl2))))), by simp [D1.ne hx, D1.ne hab1, D1.ne hal1, D2.ne hd, D2.ne hsb2, D2.ne hsl2], nR⟩
    let Inv : Nat → L2.St → Hp → Prop := fun i σ' H' => ∃ (ab al sb sl : Addr) (kvs : List (Key × V)) (M : Ln) (v5 : Option V), σ' = [some (.ref a), some (.ref p), some (tv t), some (.ref x), some (.ref d), v5, none, none, none, none, none] ∧
      J20 K H' a p x ab al d sb sl ns (13 + 5 * i) kvs M M ∧ LnOk (32 + 4 * i) M ∧ M.many ≤ i
    refine ⟨Inv 41, ?_, ?_⟩
    · walk_at "rd"
      refine ⟨a, p, 41, ns, 12, rfl, J0.D, by omega, by omega, by omega, fun n H3 n0 n1 F3 D3 => ?_⟩
      have J1 := J0.draw F3 D3
      obtain ⟨n, rfl⟩ : ∃ j : Nat, n = (j : Int) := ⟨n.toNat, by omega⟩
      refine ⟨_, rfl, by omega, by omega, ?_⟩
      rw [Int.toNat_natCast]
      refine forb_rng Inv ⟨ab, al, sb, sl, _, _, _, rfl, J1, (LnOk.new (by omega) (okText_lt okt)), Nat.zero_le _⟩ ?_ ?_
      · rintro i σ' H' hi ⟨ab, al, sb, sl, kvs, M, v5, rfl, J, ok, hm⟩
        rw [Int.zero_add]
        walk_at "rd"
        refine ⟨a, p, x, ab, al, d, sb, sl, ns, _, kvs, M, _, rfl, J, by omega, ok, by omega, by omega, fun ab' al' sb' sl' kvs' M' H4 J4 ok4 hm4 => ?_⟩
        obtain ⟨⟨dx4, hp4⟩, _⟩ := id J4.R
        obtain ⟨qn4, gn4, hqn4⟩ := J4.S.getN
        simp only [List.getElem?_cons_zero, List.getElem?_cons_succ, List.set_cons_zero, List.set_cons_succ, List.cons_append, List.nil_append, List.append_nil, Option.some.injEq, V.int.injEq, V.str.injEq, V.bl.injEq, V.ref.injEq, List.cons.injEq, HO.ins.injEq, HO.lst.injEq, HO.tup.injEq, S_inj, ofS_inj, String.reduceEq, ex_eq, ex_eq', ex_eq0, tLc_eq, tFor_eq, iStr, iRng1, iRng2, iList, iTup, tVar, tC, tOp, tCons, tNil, tCB, tFld, tCallS, tMethW, tMakeS, WE, wKeep, tLits, tLst, tTup, wipe, rI, rI0, rU, rEq, rNe, scII, scSS, scBB, scNN, scNI, scNS, scNB, scIN, scSN, scBN, scIS, scSI, if_tt, if_ff, and_true, true_and, and_assoc, exists_and_left, exists_and_right, exists_const, cxK, decide_true, decide_false, Bool.not_true, Bool.not_false, eq_self_iff_true, Bool.true_eq_false, Bool.false_eq_true, if_true, if_false, reduceCtorEq, S_len, S_one, S_tl, decide_eq_true_eq, tUn, tAndV, tOrV, tNotV, tIf, tAnd, tOr, tNot, tB, tTest, tChain, tCall, tMeth, tMake, sFld, tSeq, tNext, tAsg, gName, tIfS, tRet, tRetN, tDrop, tM0, tM1, tBM, tBM0, rAppend, rPop, tSl, tPart, tNoPart, rIxL, rIxT, rIxS, rSlS, rSlL, rCat, tDisp, tPairs, tDGet, sDPut, gTup, gCons, gNil, gSub, gAttr, rSetL, tv, upd_same, upd_upd, List.length_cons, List.length_nil, Nat.reduceAdd, Nat.zero_add, lines, fk_Line T, lk_Line, inj_Line, hp4, spGet]
        intro q1 h1
        have J5 := J4.same (same_new (o := .tup (picV M'.p)) h1)
        obtain ⟨qn5, gn5, hqn5⟩ := J5.S.getN
        refine ⟨_, gn5, ne_same (dp_pic upd_same) (dp_pic hqn5) (shaped_pic ok4.p.asc) ⟨_, rfl, ?_⟩⟩
        rw [if_neg (by decide)]
        obtain ⟨⟨dx5, hp5⟩, _⟩ := id J5.R
        simp only [List.getElem?_cons_zero, List.getElem?_cons_succ, List.set_cons_zero, List.set_cons_succ, List.cons_append, List.nil_append, List.append_nil, Option.some.injEq, V.int.injEq, V.str.injEq, V.bl.injEq, V.ref.injEq, List.cons.injEq, HO.ins.injEq, HO.lst.injEq, HO.tup.injEq, S_inj, ofS_inj, String.reduceEq, ex_eq, ex_eq', ex_eq0, tLc_eq, tFor_eq, iStr, iRng1, iRng2, iList, iTup, tVar, tC, tOp, tCons, tNil, tCB, tFld, tCallS, tMethW, tMakeS, WE, wKeep, tLits, tLst, tTup, wipe, rI, rI0, rU, rEq, rNe, scII, scSS, scBB, scNN, scNI, scNS, scNB, scIN, scSN, scBN, scIS, scSI, if_tt, if_ff, and_true, true_and, and_assoc, exists_and_left, exists_and_right, exists_const, cxK, decide_true, decide_false, Bool.not_true, Bool.not_false, eq_self_iff_true, Bool.true_eq_false, Bool.false_eq_true, if_true, if_false, reduceCtorEq, S_len, S_one, S_tl, decide_eq_true_eq, tUn, tAndV, tOrV, tNotV, tIf, tAnd, tOr, tNot, tB, tTest, tChain, tCall, tMeth, tMake, sFld, tSeq, tNext, tAsg, gName, tIfS, tRet, tRetN, tDrop, tM0, tM1, tBM, tBM0, rAppend, rPop, tSl, tPart, tNoPart, rIxL, rIxT, rIxS, rSlS, rSlL, rCat, tDisp, tPairs, tDGet, sDPut, gTup, gCons, gNil, gSub, gAttr, rSetL, tv, upd_same, upd_upd, List.length_cons, List.length_nil, Nat.reduceAdd, Nat.zero_add, lines, fk_Line T, lk_Line, inj_Line, hp5]
        refine ⟨x, ab', al', M', rfl, J5.R, fun q2 h2 => ?_⟩
        have J6 := J5.same (same_new (o := .tup [.int (M'.b.length : Nat), .int (M'.l.length : Nat)]) h2)
        obtain ⟨vb6, hb6, pb6⟩ := J6.S.b
        obtain ⟨vl6, hl6, pl6⟩ := J6.S.l
        refine ⟨_, J6.S.getB, _, rfl, _, .inl (sq_of hb6), _, J6.S.getL, _, rfl, _, .inl (sq_of hl6), ?_⟩
        simp only [List.getElem?_cons_zero, List.getElem?_cons_succ, List.set_cons_zero, List.set_cons_succ, List.cons_append, List.nil_append, List.append_nil, Option.some.injEq, V.int.injEq, V.str.injEq, V.bl.injEq, V.ref.injEq, List.cons.injEq, HO.ins.injEq, HO.lst.injEq, HO.tup.injEq, S_inj, ofS_inj, String.reduceEq, ex_eq, ex_eq', ex_eq0, tLc_eq, tFor_eq, iStr, iRng1, iRng2, iList, iTup, tVar, tC, tOp, tCons, tNil, tCB, tFld, tCallS, tMethW, tMakeS, WE, wKeep, tLits, tLst, tTup, wipe, rI, rI0, rU, rEq, rNe, scII, scSS, scBB, scNN, scNI, scNS, scNB, scIN, scSN, scBN, scIS, scSI, if_tt, if_ff, and_true, true_and, and_assoc, exists_and_left, exists_and_right, exists_const, cxK, decide_true, decide_false, Bool.not_true, Bool.not_false, eq_self_iff_true, Bool.true_eq_false, Bool.false_eq_true, if_true, if_false, reduceCtorEq, S_len, S_one, S_tl, decide_eq_true_eq, tUn, tAndV, tOrV, tNotV, tIf, tAnd, tOr, tNot, tB, tTest, tChain, tCall, tMeth, tMake, sFld, tSeq, tNext, tAsg, gName, tIfS, tRet, tRetN, tDrop, tM0, tM1, tBM, tBM0, rAppend, rPop, tSl, tPart, tNoPart, rIxL, rIxT, rIxS, rSlS, rSlL, rCat, tDisp, tPairs, tDGet, sDPut, gTup, gCons, gNil, gSub, gAttr, rSetL, tv, upd_same, upd_upd, List.length_cons, List.length_nil, Nat.reduceAdd, Nat.zero_add, lines, pb6.len, pl6.len]
        intro q3 h3
        have J7 := J6.same (same_new (o := .tup [.int (M'.b.length : Nat), .int (M'.l.length : Nat)]) h3)
        refine ne_same (.tup (st_of (same_new h3 _ _ upd_same)) (.cons (.int _) (.cons (.int _) .nil))) (.tup (st_of upd_same) (.cons (.int _) (.cons (.int _) .nil))) rfl ⟨_, rfl, ?_⟩
        rw [if_neg (by decide)]
        exact ⟨ab', al', sb', sl', kvs', M', _, rfl, J7.mono (by omega), ok4.mono (by omega), by omega⟩
      · rintro σ' H' ⟨ab, al, sb, sl, kvs, M, v5, rfl, J, ok, hm⟩
        exact ⟨ab, al, sb, sl, kvs, M, v5, rfl, J.mono (by omega), ok.mono (by omega), by omega⟩
    · rintro σ' H' ⟨ab, al, sb, sl, kvs, M, v5, rfl, J, ok, hm⟩
      have hn : M.p.t.length ≤ 196 := by
        have := ok.p.len
        omega
      have sz : M.sz := by
        unfold Ln.many at hm
        exact ⟨by omega, by omega, by omega⟩
      have hc : inT M.p.t M.p.c := ok.p.c
      let Bads : Hp → Str → List (Addr × Op) → Prop := fun H k ys => ∀ y ∈ ys, y.2.bad M = some k ∧ y.2.sz M ∧ ∃ q, H y.1 = some (.tup [.str y.2.word, .ref q]) ∧ H q = some (.tup y.2.vals)
      let M1 : Str → Nat → Nat → L2.St → Hp → Prop := fun k m j σ' H' => ∃ (l : Addr) (ys : List (Addr × Op)) (v7 v10 : Option V), σ' = [some (.ref a), some (.ref p), some (tv t), some (.ref x), some (.ref d), v5, some (.int (M.p.t.length : Nat)), v7, none, none, v10] ∧ σ'[j]? = some (some (.ref l)) ∧
        J20 K H' a p x ab al d sb sl ns (13 + 5 * 41) kvs M M ∧ H' l = some (.lst (ys.map fun y => V.ref y.1)) ∧ ys.length = m ∧ Bads H' k ys
      have told : ∀ {k : Str} {H2 H3 : Hp} {ys : List (Addr × Op)} {y : Addr × Op} {Y : V → Hp → Prop} {E1 : XK}, J20 K H2 a p x ab al d sb sl ns (13 + 5 * 41) kvs M M → Bads H2 k ys → y ∈ ys → Same H2 H3 → (∀ v H4, Same H3 H4 → IsRef H4 k v → Y v H4) →
          ∃ q, H3 y.1 = some (.tup [.str y.2.word, .ref q]) ∧ spTold K [.ref x, .str y.2.word, .ref q] H3 Y E1 := fun J B hy s hY => by
        obtain ⟨b1, b2, q, b3, b4⟩ := B _ hy
        refine ⟨q, s _ _ b3, x, ab, al, q, M, _, rfl, s _ _ b4, J.R.same s, sz, b2, ?_⟩
        rw [b1]
        exact hY
      walk_at "rd"
      obtain ⟨qn, gn, hqn⟩ := J.S.getN
      refine ⟨_, gn, _, rfl, _, st_of hqn, tv M.p.t, rfl, M.p.t.length, ⟨by rw [S_len]; exact sline (by omega), (S_len _).symm⟩, by show 1 ≤ sizeLine; decide, fun q1 h1 => ⟨by show 2 ≤ sizeLine; decide, fun r1 k1 => ⟨by show 1 ≤ sizeLine; decide, fun q2 h2 => ⟨by show 2 ≤ sizeLine; decide, fun r2 k2 =>
        ⟨by show 4 ≤ sizeLine; decide, fun q3 h3 => ⟨by show 2 ≤ sizeLine; decide, fun r3 k3 => ⟨by show 3 ≤ sizeLine; decide, fun l hl => ?_⟩⟩⟩⟩⟩⟩⟩
      refine ⟨M1 "place" 4 7, ?_, ?_⟩
      · walk_at "rd"
        have s1 := same_new (o := .tup [.int (-1)]) h1
        have s2 := same_new (o := .tup [.str "go", .ref q1]) k1
        have s3 := same_new (o := .tup [.int ((M.p.t.length : Int) + 1)]) h2
        have s4 := same_new (o := .tup [.str "mark", .ref q2]) k2
        have s5 := same_new (o := .tup [.int ((M.p.t.length : Int) + 1), .int ((M.p.t.length : Int) + 1), .str "", .int 0]) h3
        have s6 := same_new (o := .tup [.str "change", .ref q3]) k3
        have s7 := same_new (o := .lst [.ref r1, .ref r2, .ref r3]) hl
        refine ⟨.inl ⟨rfl, _, sq_of upd_same⟩, by show 4 ≤ sizeLine; decide, fun q4 h4 => ⟨by show 2 ≤ sizeLine; decide, fun r4 k4 => ?_⟩⟩
        have s8 := same_new (o := .tup [.int 0, .int ((M.p.t.length : Int) + 1), .str "", .int 0]) h4
        have s9 := same_new (o := .tup [.str "change", .ref q4]) k4
        have e9 := s9 _ _ (s8 _ _ (upd_same (a := l) (o := .lst [.ref r1, .ref r2, .ref r3])))
        have sA := s1.trans (s2.trans (s3.trans (s4.trans (s5.trans s6))))
        have f := Fx.upd (F := [l]) (o := .lst ([.ref r1, .ref r2, .ref r3] ++ [.ref r4])) List.mem_cons_self (nt_lst e9)
        have far : ¬ inT M.p.t ((M.p.t.length : Int) + 1) := fun h => by
          have : (M.p.t.length : Int) + 1 ≤ M.p.t.length := h.2
          omega
        refine ⟨_, e9, by show 3 < sizeLine; decide, l, [(r1, .go (-1)), (r2, .mark (M.p.t.length + 1)), (r3, .change (M.p.t.length + 1) (M.p.t.length + 1) [] 0), (r4, .change 0 (M.p.t.length + 1) [] 0)], _, _, rfl, rfl, J.same (same_upd (sA.trans (s7.trans (s8.trans s9))) (sA.free hl)), upd_same, rfl, ?_⟩
        intro y hy
        simp only [List.mem_cons, List.not_mem_nil, or_false] at hy
        rcases hy with rfl | rfl | rfl | rfl
        · refine ⟨bad_go fun h => ?_, trivial, q1, f.tup (s9 _ _ (s8 _ _ (s7 _ _ (s6 _ _ (s5 _ _ (s4 _ _ (s3 _ _ upd_same))))))), f.tup (s9 _ _ (s8 _ _ (s7 _ _ (s6 _ _ (s5 _ _ (s4 _ _ (s3 _ _ (s2 _ _ upd_same))))))))⟩
          have : (0 : Int) ≤ -1 := h.1
          omega
        · exact ⟨bad_mark far, trivial, q2, f.tup (s9 _ _ (s8 _ _ (s7 _ _ (s6 _ _ (s5 _ _ upd_same))))), f.tup (s9 _ _ (s8 _ _ (s7 _ _ (s6 _ _ (s5 _ _ (s4 _ _ upd_same))))))⟩
        · exact ⟨bad_ch fun h => far h.1, Nat.zero_le _, q3, f.tup (s9 _ _ (s8 _ _ (s7 _ _ upd_same))), f.tup (s9 _ _ (s8 _ _ (s7 _ _ (s6 _ _ upd_same))))⟩
        · exact ⟨bad_ch fun h => far h.2, Nat.zero_le _, q4, f.tup upd_same, f.tup (s9 _ _ upd_same)⟩
      · rintro σ' H2 ⟨l, ys, v7, v10, rfl, e7, J2, hl2, ly, B2⟩
        have e7' : v7 = some (.ref l) := Option.some.inj e7
        subst e7'
        walk_at "rd"
        refine ⟨⟨_, sq_of hl2⟩, ?_⟩
        refine lcb_ref ys (fun y => V.ref y.1) walk_list (by rw [List.length_map]) (fun H' s => sq_of (s _ _ hl2)) (by omega) "place" (fun y H3 hy s3 Y hY => ?_) (fun L acc H3 s3 eL la ra => ?_)
        · obtain ⟨q, hq, tq⟩ := told (Y := Y) (E1 := E0) J2 B2 hy s3 hY
          walk_at "rd"
          refine ⟨_, st_of hq, rfl, _, _, rfl, _, _, rfl, rfl, ?_⟩
          exact tq
        · refine mk_refs (n := 4) (by omega) fun p1 q1 H4 s4 ep eq => ?_
          refine ne_refs (n := 4) (s4 _ _ eL) (by rw [la, List.length_map, ly]) (fun v hv => (ra v hv).same s4) eq ep rfl (by decide +kernel) ?_
          walk_at "rd"
          refine ⟨M1 "text" 3 10, ?_, ?_⟩
          · walk_at "rd"
            have J4 := (J2.same s3).same s4
            refine ⟨by show 4 ≤ sizeLine; decide, fun q2 h2 => ⟨by show 2 ≤ sizeLine; decide, fun r2 k2 => ?_⟩⟩
            have s5 := same_new (o := .tup [.int 0, .int 0, .str "\n", .int 0]) h2
            have s6 := same_new (o := .tup [.str "change", .ref q2]) k2
            have ek : Txt.mul ("x" : Str) (401 - (M.p.t.length : Int)) = S (List.replicate (401 - M.p.t.length) 120) := by
              have e1 : ("x" : Str) = ⟨#[120]⟩ := by decide +kernel
              have e2 := mul_one_list 120 (401 - (M.p.t.length : Int))
              rw [show (401 - (M.p.t.length : Int)).toNat = 401 - M.p.t.length by omega] at e2
              rw [e1, ← e2]
              rfl
            have l1 : ("x" : Str).length = 1 := by decide +kernel
            refine ⟨_, _, rfl, rfl, ⟨?_, fun _ _ => ?_, fun _ _ => ?_⟩, ?_⟩
            · rw [decide_eq_false (by omega), decide_eq_false (by omega)]
              rfl
            · rw [l1]
              have : (1 : Int) ≤ (2 ^ 63 - 1) / (401 - (M.p.t.length : Int)) := by
                rw [Int.le_ediv_iff_mul_le (by omega)]
                omega
              show ¬ ((1 : Nat) : Int) > _
              omega
            · rw [l1]
              unfold Builtin.Str.tooLong
              have : 1 * (401 - (M.p.t.length : Int)).toNat ≤ sizeLine := sline (by omega)
              exact decide_eq_false (by omega)
            rw [ek]
            refine ⟨by show 4 ≤ sizeLine; decide, fun q3 h3 => ⟨by show 2 ≤ sizeLine; decide, fun r3 k3 => ⟨by show 1 ≤ sizeLine; decide, fun q4 h4 => ⟨by show 2 ≤ sizeLine; decide, fun r4 k4 => ⟨by show 3 ≤ sizeLine; decide, fun l6 hl6 => ?_⟩⟩⟩⟩⟩
            have s7 := same_new (o := .tup [.int 0, .int 0, tv (List.replicate (401 - M.p.t.length) 120), .int 0]) h3
            have s8 := same_new (o := .tup [.str "change", .ref q3]) k3
            have s9 := same_new (o := .tup [.str "\n"]) h4
            have s10 := same_new (o := .tup [.str "write", .ref q4]) k4
            have s11 := same_new (o := .lst [.ref r2, .ref r3, .ref r4]) hl6
            have sA := s5.trans (s6.trans (s7.trans (s8.trans (s9.trans (s10.trans s11)))))
            have hz : inTs M.p.t 0 0 := by
              refine ⟨⟨Int.le_refl _, ?_⟩, ⟨Int.le_refl _, ?_⟩⟩ <;> omega
            have nl : okText ("\n" : Str).cps.toList = false := by decide +kernel
            refine ⟨l6, [(r2, .change 0 0 ("\n" : Str).cps.toList 0), (r3, .change 0 0 (List.replicate (401 - M.p.t.length) 120) 0), (r4, .write ("\n" : Str).cps.toList)], _, _, rfl, rfl, J4.same sA, upd_same, rfl, ?_⟩
            intro y hy
            simp only [List.mem_cons, List.not_mem_nil, or_false] at hy
            rcases hy with rfl | rfl | rfl
            · exact ⟨bad_chT hz (fun h => by have h1 := h.1; rw [nl] at h1; cases h1), by show ("\n" : Str).cps.toList.length ≤ 100000; decide +kernel, q2, s11 _ _ (s10 _ _ (s9 _ _ (s8 _ _ (s7 _ _ upd_same)))), s11 _ _ (s10 _ _ (s9 _ _ (s8 _ _ (s7 _ _ (s6 _ _ upd_same)))))⟩
            · refine ⟨bad_chT hz fun h => ?_, ?_, q3, s11 _ _ (s10 _ _ (s9 _ _ upd_same)), s11 _ _ (s10 _ _ (s9 _ _ (s8 _ _ upd_same)))⟩
              · have := h.2
                rw [List.length_replicate] at this
                omega
              · show (List.replicate (401 - M.p.t.length) 120).length ≤ 100000
                rw [List.length_replicate]
                omega
            · exact ⟨bad_write (fun h => by have h1 := h.1; rw [nl] at h1; cases h1), ⟨by show ("\n" : Str).cps.toList.length ≤ 100000; decide +kernel, hc⟩, q4, s11 _ _ upd_same, s11 _ _ (s10 _ _ upd_same)⟩
          · rintro σ' H5 ⟨l5, ys5, v7, v10, rfl, e10, J5, hl5, ly5, B5⟩
            have e10' : v10 = some (.ref l5) := Option.some.inj e10
            subst e10'
            walk_at "rd"
            refine ⟨⟨_, sq_of hl5⟩, ?_⟩
            refine lcb_ref ys5 (fun y => V.ref y.1) walk_list (by rw [List.length_map]) (fun H' s => sq_of (s _ _ hl5)) (by omega) "text" (fun y H6 hy s6 Y hY => ?_) (fun L6 acc6 H6 s6 eL6 la6 ra6 => ?_)
            · obtain ⟨q, hq, tq⟩ := told (Y := Y) (E1 := E0) J5 B5 hy s6 hY
              walk_at "rd"
              refine ⟨_, st_of hq, rfl, _, _, rfl, _, _, rfl, rfl, ?_⟩
              exact tq
            · refine mk_refs (n := 3) (by omega) fun p1 q1 H7 s7 ep7 eq7 => ?_
              refine ne_refs (n := 3) (s7 _ _ eL6) (by rw [la6, List.length_map, ly5]) (fun v hv => (ra6 v hv).same s7) eq7 ep7 rfl (by decide +kernel) ?_
              walk_at "rd"
              have J7 := (J5.same s6).same s7
              obtain ⟨⟨dx7, hp7⟩, _⟩ := id J7.R
              simp only [List.getElem?_cons_zero, List.getElem?_cons_succ, List.set_cons_zero, List.set_cons_succ, List.cons_append, List.nil_append, List.append_nil, Option.some.injEq, V.int.injEq, V.str.injEq, V.bl.injEq, V.ref.injEq, List.cons.injEq, HO.ins.injEq, HO.lst.injEq, HO.tup.injEq, S_inj, ofS_inj, String.reduceEq, ex_eq, ex_eq', ex_eq0, tLc_eq, tFor_eq, iStr, iRng1, iRng2, iList, iTup, tVar, tC, tOp, tCons, tNil, tCB, tFld, tCallS, tMethW, tMakeS, WE, wKeep, tLits, tLst, tTup, wipe, rI, rI0, rU, rEq, rNe, scII, scSS, scBB, scNN, scNI, scNS, scNB, scIN, scSN, scBN, scIS, scSI, if_tt, if_ff, and_true, true_and, and_assoc, exists_and_left, exists_and_right, exists_const, cxK, decide_true, decide_false, Bool.not_true, Bool.not_false, eq_self_iff_true, Bool.true_eq_false, Bool.false_eq_true, if_true, if_false, reduceCtorEq, S_len, S_one, S_tl, decide_eq_true_eq, tUn, tAndV, tOrV, tNotV, tIf, tAnd, tOr, tNot, tB, tTest, tChain, tCall, tMeth, tMake, sFld, tSeq, tNext, tAsg, gName, tIfS, tRet, tRetN, tDrop, tM0, tM1, tBM, tBM0, rAppend, rPop, tSl, tPart, tNoPart, rIxL, rIxT, rIxS, rSlS, rSlL, rCat, tDisp, tPairs, tDGet, sDPut, gTup, gCons, gNil, gSub, gAttr, rSetL, tv, upd_same, upd_upd, List.length_cons, List.length_nil, Nat.reduceAdd, Nat.zero_add, lines, fk_Line T, lk_Line, inj_Line, hp7, spGet]
              intro q8 h8
              have J8 := J7.same (same_new (o := .tup (picV M.p)) h8)
              obtain ⟨qn8, gn8, hqn8⟩ := J8.S.getN
              exact ⟨_, gn8, eq_same (dp_pic upd_same) (dp_pic hqn8) (shaped_pic ok.p.asc) (K0 _)⟩
end
end LH
/-! ## End: the head, the theorem -/
namespace LH
open PySem PySem.Spec PyProof.Rows L2
/-- what a law lets out, whatever the world -/
def CXw (P : Program) (outer : List Env) (H : Hp) (s : Shared) (E : XK) (u : Value) (s' : Shared) : Prop := ∃ w : World, L2.CX P w outer H s E u s'
theorem fn_cx {P : Program} {w : World} {K : PySem.W.Frag} {mg : Str → Option Value} {base : Heap} {k : Nat} {f : Addr} {fd : FuncData} {ps : List Str} {sp : Sp} (F : FnOk P w K mg base (L2.CX P w) k f fd ps sp) :
    FnOk P w K mg base (CXw P) k f fd ps sp :=
  ⟨F.len, fun A outer s H args us vs Q E hr he hb hv hs => codeAny_mono (F.run A outer s H args us vs Q E hr he hb hv hs) fun r s' h => by
    match r, h with
    | .ok (.ret u), h => exact h
    | .error e, h => exact ⟨w, h⟩⟩
abbrev R : PySem.W.OpenRow := PySem.W.OpenLaw.row PySem.Challenge.rw_linehand_k20_whole_lines
abbrev hk : PySem.W.Hook := hookM 4 fa fn exs
def ob (s : PySem.W.SharedT) : He.AlD × Bool := obsM fa fn exs (He.frG (HandSHeadRun.getT s) (He.asD (HandSHeadRun.getT s) 4))
theorem ob_eq (s : PySem.W.SharedT) : ob s = hk.obs s.abs := by
  have e : HandSHeadRun.getT s = s.abs.heap.get? := funext (HandSHeadRun.getT_eq s)
  show obsM fa fn exs _ = obsM fa fn exs _
  rw [e]
theorem run (w : World) : HandSHeadRun.RunEq R (PySem.W.view R.prog [26]) hk ob 6000 loose w := by
  intro os
  kernel_rfl
theorem fin {P : Program} {w : World} {K : PySem.W.Frag} {h : Heap} {mg : Str → Option Value} {f : Addr} (X : K.In h) (G : h.Ns mainGlobals mg) (hfa : mg ("law" : Str) = some (.ref f)) (c : He.SaysD fa fn K) (x : (exs.all fun f => f K) = true) :
    ∃ fd : FuncData, (∀ (s : Shared) (v : Value), BindsTo s fd ⟨[v], []⟩ [("_law_script", v)]) ∧ ∀ base : Heap, FnOk P w K mg base (CXw P) 7 f fd ["_law_script"] (spLaw K) := by
  have T : TX K mg := ⟨⟨h, X, G⟩, c, x⟩
  obtain ⟨fd, F⟩ := fn_law T
  have e := hfa.symm.trans (g_law T)
  cases e
  exact ⟨fd, fun s v => FunD.bindsA F bd_law s [v] rfl, fun base => fn_cx (F.ok sc_law len_law fun cdv A outer s H vs Q E hr h => d_law T cdv A outer s H vs Q E hr h)⟩
end LH
open PySem PySem.W PySem.Calls PyProof.Rows
theorem PySem.Challenge.cw_linehand_k20_whole_lines_holds : PySem.Challenge.rw_linehand_k20_whole_lines.Holds := by
  w_on; o_law
  refine HandSHeadRun.head_any (r := OpenLaw.row PySem.Challenge.rw_linehand_k20_whole_lines) (q := view (OpenLaw.row PySem.Challenge.rw_linehand_k20_whole_lines).prog [26]) (H := LH.hk) (ob := LH.ob) (M := 6000) (loose := LH.loose) (d := HandSHeadRun.topDef (OpenLaw.row PySem.Challenge.rw_linehand_k20_whole_lines).prog 26) (kwd := []) LH.ob_eq
    (by kernel_rfl) (fun s => by kernel_rfl) LH.run (by kernel_rfl) (by kernel_rfl) (by kernel_rfl) (by rfl) (by first | assumption | decide +kernel) (by decide +kernel) ⟨rfl, rfl, rfl, rfl, rfl, by decide +kernel⟩ ?hw ?hc
  case hw => w_witness2
  case hc =>
    refine L2.walk_ofE (l := PySem.Challenge.rw_linehand_k20_whole_lines) (n := 63) (k := 7) (x := "_law_script") (CX := LH.CXw PySem.Challenge.rw_linehand_k20_whole_lines.prog) rfl (by decide) (by kernel_rfl) ⟨rfl, by decide, by decide⟩ ?F ?X
    case X =>
      intro H s e s' ⟨_, _, _, _, _, _, _, _, _, _, _, _, _, z⟩
      exact z
    intro w mg fa h Y G hmg0
    obtain ⟨K, KX, c, x⟩ := Y
    have hmg : mg ("law" : PySem.Str) = some (.ref fa) := by
      have e : (HandSHeadRun.topDef (OpenLaw.row PySem.Challenge.rw_linehand_k20_whole_lines).prog 26).name = ("law" : PySem.Str) := by kernel_rfl
      rw [← e]
      exact hmg0
    obtain ⟨fd, hb, hF⟩ := LH.fin (P := (PySem.Challenge.rw_linehand_k20_whole_lines).prog) (w := w) KX G hmg c x
    exact ⟨K, fd, LH.spLaw K, KX, hb, fun H a ns hl _ hS => ⟨a, ns, rfl, hS, hl, fun _ => rfl⟩, fun base _ _ => hF base⟩
