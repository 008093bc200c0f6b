import PyProof.Rows.All
import Wide.All
import OpenK.AllK
import Wide.FinOn
import KE.KStateDown
import Lean
import HandS.Base
import HandS.Call
import HandS.List
import HandS.Comp
import HandS.Ends
import HandS.Dict
import HandS.Iter
import HandS.Text
import HandS.Walk
import HandS.Exc
import HandS.TryOnly
import HandS.ExcOwn
import HandS.ExcIs
import HandS.ExcValue
import HandS.More
import HandS.Words
import HandS.WordsList
import HandS.WordsDict
import HandS.WordsExc
import HandS.Defaults
import HandS.Flow
import HandS.Style
import HandS.StrMore
import HandS.Deep
import HandS.Small
import HandS.Head0
import HandS.Head1
import HandS.Head2
import HandS.HeadEnd
import HandS.HeadHook1
import HandS.HeadHook2
import HandS.Evl
import HandS.SetFor
import HandS.SetTxt0
import PyProof.StrLawsLast
import PySem.Challenge.RW_linehand_k31_whole_fills
set_option Elab.async false
set_option linter.all false
set_option maxRecDepth 100000
set_option maxHeartbeats 4000000
/-! ## Base: texts as lists of signs, how defs are kept and called -/
namespace LH
open PySem PySem.Spec PyProof.Rows L2

/-- a text of these signs -/
def S (l : List Nat) : Str := ⟨l.toArray⟩
theorem S_len (l : List Nat) : (S l).length = l.length := by
  unfold S Str.length
  exact List.size_toArray
theorem S_tl (l : List Nat) : (S l).cps.toList = l := by
  unfold S
  rfl
/-- an item within -/
theorem atI_in {α : Type} {l : List α} {i : Int} (h0 : 0 ≤ i) (h1 : i < l.length) : atI l i = l[i.toNat]? := by
  unfold atI ixN
  rw [if_pos h0, if_pos h1]
  rfl
theorem S_of (z : Str) : S z.cps.toList = z := rfl
theorem S_app (a b : List Nat) : S a ++ S b = S (a ++ b) := TL.ext_tl (by rw [TL.tl_append]; rfl)
theorem S_inj {a b : List Nat} : (S a = S b) = (a = b) := by
  refine propext ⟨fun h => ?_, fun h => by rw [h]⟩
  have e : (S a).cps.toList = (S b).cps.toList := by rw [h]
  exact e
theorem ofS_inj {a b : String} : (Str.ofString a = Str.ofString b) = (a = b) := by
  refine propext ⟨fun h => ?_, fun h => by rw [h]⟩
  rw [Str.ofString_eq_toList, Str.ofString_eq_toList] at h
  have h1 : (a.toList.map Char.toNat).toArray = (b.toList.map Char.toNat).toArray := by
    injection h
  have h2 : a.toList.map Char.toNat = b.toList.map Char.toNat := by
    have := congrArg Array.toList h1
    simpa using this
  have h3 : a.toList = b.toList := List.map_inj_right (fun x y e => Char.toNat_inj.mp e) |>.mp h2
  exact String.toList_inj.mp h3
theorem S_one (c : Nat) : (⟨#[c]⟩ : Str) = S [c] := rfl
theorem sline {n : Nat} (h : n ≤ 100000) : n ≤ sizeLine := Nat.le_trans h (by decide)
theorem slt {n : Nat} (h : n < 100000) : n < sizeLine := Nat.lt_of_lt_of_le h (by decide)

theorem lines : ((0 ≤ sizeLine) = True) ∧ ((1 ≤ sizeLine) = True) ∧ ((2 ≤ sizeLine) = True) ∧ ((3 ≤ sizeLine) = True) ∧ ((4 ≤ sizeLine) = True) ∧ ((5 ≤ sizeLine) = True) ∧ ((6 ≤ sizeLine) = True) ∧ ((8 ≤ sizeLine) = True) := by
  refine ⟨?_, ?_, ?_, ?_, ?_, ?_, ?_, ?_⟩ <;> exact eq_true (by decide)
/-- a slice, its ends within the text -/
theorem cut_S (l : List Nat) (i j : Int) (h0 : 0 ≤ i) (h1 : i ≤ l.length) (h2 : 0 ≤ j) (h3 : j ≤ l.length) : cutS (S l) (some i) (some j) = S ((l.drop i.toNat).take (j.toNat - i.toNat)) := by
  have e1 : HT.sIx l.length 0 (some i) = i.toNat := by
    show (if i < 0 then _ else min i.toNat l.length) = _
    rw [if_neg (by omega)]
    omega
  have e2 : HT.sIx l.length l.length (some j) = j.toNat := by
    show (if j < 0 then _ else min j.toNat l.length) = _
    rw [if_neg (by omega)]
    omega
  unfold cutS
  show (⟨((l.drop (HT.sIx l.length 0 (some i))).take (HT.sIx l.length l.length (some j) - HT.sIx l.length 0 (some i))).toArray⟩ : Str) = _
  rw [e1, e2]
  rfl

theorem cut_to (l : List Nat) (j : Int) (h : 0 ≤ j) : cutS (S l) none (some j) = S (l.take j.toNat) := by
  have e2 : HT.sIx l.length l.length (some j) = min j.toNat l.length := by
    show (if j < 0 then _ else min j.toNat l.length) = _
    rw [if_neg (by omega)]
  unfold cutS
  show (⟨((l.drop 0).take (HT.sIx l.length l.length (some j) - 0)).toArray⟩ : Str) = _
  rw [e2, List.drop_zero, Nat.sub_zero, ← List.take_eq_take_min]
  rfl
theorem cut_from (l : List Nat) (i : Int) (h : 0 ≤ i) : cutS (S l) (some i) none = S (l.drop i.toNat) := by
  have e1 : HT.sIx l.length 0 (some i) = min i.toNat l.length := by
    show (if i < 0 then _ else min i.toNat l.length) = _
    rw [if_neg (by omega)]
  unfold cutS
  show (⟨((l.drop (HT.sIx l.length 0 (some i))).take (l.length - HT.sIx l.length 0 (some i))).toArray⟩ : Str) = _
  rw [e1, List.take_of_length_le (by rw [List.length_drop]; exact Nat.le_refl _)]
  by_cases q : i.toNat ≤ l.length
  · rw [Nat.min_eq_left q]
    rfl
  · rw [Nat.min_eq_right (by omega), List.drop_eq_nil_of_le (Nat.le_refl _), List.drop_eq_nil_of_le (by omega)]
    rfl
theorem cutV_to (xs : List V) (j : Int) (h : 0 ≤ j) : cutV xs none (some j) = xs.take j.toNat := by
  have e2 : HT.sIx xs.length xs.length (some j) = min j.toNat xs.length := by
    show (if j < 0 then _ else min j.toNat xs.length) = _
    rw [if_neg (by omega)]
  unfold cutV
  show (xs.drop 0).take (HT.sIx xs.length xs.length (some j) - 0) = _
  rw [e2, List.drop_zero, Nat.sub_zero, ← List.take_eq_take_min]
theorem cutV_from (xs : List V) (i : Int) (h : 0 ≤ i) : cutV xs (some i) none = xs.drop i.toNat := by
  have e1 : HT.sIx xs.length 0 (some i) = min i.toNat xs.length := by
    show (if i < 0 then _ else min i.toNat xs.length) = _
    rw [if_neg (by omega)]
  unfold cutV
  show (xs.drop (HT.sIx xs.length 0 (some i))).take (xs.length - HT.sIx xs.length 0 (some i)) = _
  rw [e1, List.take_of_length_le (by rw [List.length_drop]; exact Nat.le_refl _)]
  by_cases q : i.toNat ≤ xs.length
  · rw [Nat.min_eq_left q]
  · rw [Nat.min_eq_right (by omega), List.drop_eq_nil_of_le (Nat.le_refl _), List.drop_eq_nil_of_le (by omega)]
/-- the last m of them -/
theorem cutV_neg (xs : List V) (i : Int) (h : i < 0) : cutV xs (some i) none = xs.drop ((xs.length : Int) + i).toNat := by
  have e1 : HT.sIx xs.length 0 (some i) = ((xs.length : Int) + i).toNat := by
    show (if i < 0 then (i + (xs.length : Int)).toNat else min i.toNat xs.length) = _
    rw [if_pos h, Int.add_comm]
  unfold cutV
  show (xs.drop (HT.sIx xs.length 0 (some i))).take (xs.length - HT.sIx xs.length 0 (some i)) = _
  rw [e1, List.take_of_length_le (by rw [List.length_drop]; exact Nat.le_refl _)]
/-- all but the last sign -/
theorem cut_last (l : List Nat) : cutS (S l) none (some (-1)) = S l.dropLast := by
  have e2 : HT.sIx l.length l.length (some (-1)) = l.length - 1 := by
    show (if (-1 : Int) < 0 then ((-1 : Int) + (l.length : Int)).toNat else min (-1 : Int).toNat l.length) = _
    rw [if_pos (by omega)]
    omega
  unfold cutS
  show (⟨((l.drop 0).take (HT.sIx l.length l.length (some (-1)) - 0)).toArray⟩ : Str) = _
  rw [e2, List.drop_zero, Nat.sub_zero, List.dropLast_eq_take]
  rfl
section
variable (P : Program) (w : World) (K : PySem.W.Frag) (mg : Str → Option Value) (base : Heap)
/-- the def x keeps its promise, and is called by its name -/
structure Dn (k : Nat) (x : Str) (ps : List Str) (sp : Sp) : Prop where
  ex : ∃ f fd, FnOk P w K mg base (L2.CX P w) k f fd ps sp ∧ Binds K fd ps [] ∧ mg x = some (.ref f) ∧ PySem.W.keepIn K (.ref f) = true
/-- the method m of the class at C -/
structure Mt (k : Nat) (C : Addr) (m : Str) (ps : List Str) (sp : Sp) : Prop where
  ex : ∃ f fd, FnOk P w K mg base (L2.CX P w) k f fd ps sp ∧ Binds K fd ps [] ∧ Meth K C m f
  cl : Cls K C
/-- a new one of the class x at C -/
structure Mn (k : Nat) (x : Str) (C : Addr) (ps : List Str) (sp : Sp) : Prop where
  ex : ∃ f fd, FnOk P w K mg base (L2.CX P w) k f fd ps sp ∧ Binds K fd ps [] ∧ Mk K C f
  gl : mg x = some (.ref C)
end
section
variable {X : Cx} {k : Nat} {C : Addr} {x m : Str} {ps : List Str} {sp : Sp} {E : XK} {p pos apos : Pos} {e o : Expr} {es : List Expr} {ta : TE} {t : TA}
theorem pc (D : Dn X.prog X.w X.K X.mg X.base k x ps sp) (hr : Room k X.A) (hx : Passes (L2.CX X.prog X.w) X E) (ha : PA X (e :: es) t) (hg : Gl X x := by rfl) (hdb : (x == ("__debug__" : Str)) = false := by decide)
    (he : starEach (e :: es) X.env = (false, eval e X.env) :: starEach es X.env := by rfl) (hpl : (backTo pos (starEach es X.env)).any (·.1) = false := by rfl) : PE X (.Call (.Name x p) (e :: es) [] pos) (tCall sp [] E t) := by
  obtain ⟨f, fd, F, b, hm, kp⟩ := D.ex
  exact pe_call F hr hg hm kp b .nil hx ha hdb he hpl
theorem pc0 (D : Dn X.prog X.w X.K X.mg X.base k x ps sp) (hr : Room k X.A) (hx : Passes (L2.CX X.prog X.w) X E) (hg : Gl X x := by rfl) (hdb : (x == ("__debug__" : Str)) = false := by decide) : PE X (.Call (.Name x p) [] [] pos) (tCall sp [] E tNil) := by
  obtain ⟨f, fd, F, b, hm, kp⟩ := D.ex
  exact pe_call0 F hr hg hm kp b .nil hx hdb
theorem pm {pl : Sem Bool} (M : Mt X.prog X.w X.K X.mg X.base k C m ps sp) (hr : Room k X.A) (hx : Passes (L2.CX X.prog X.w) X E) (ho : PE X o ta) (ha : PA X (e :: es) t)
    (hst : starEach (e :: es) X.env = (false, eval e X.env) :: starEach es X.env := by rfl) (hpl : (backTo pos (starEach es X.env)).any (·.1) = false := by rfl)
    (ht : eval (.Call (.Attribute o m apos) (e :: es) [] pos) X.env = (do
      let ov ← eval o X.env
      standAt apos.atName
      let (f, first) ← holding [ov] (getMethod ov m pl)
      callWith pos f first (backTo pos (starEach (e :: es) X.env)) (backToKw pos (keywordEach [] X.env))) := by rfl) : PE X (.Call (.Attribute o m apos) (e :: es) [] pos) (tMeth C m sp [] E ta t) := by
  obtain ⟨f, fd, F, b, hm⟩ := M.ex
  exact pe_meth ho M.cl hm F hr b .nil hx ha hst hpl ht
theorem pm0 {pl : Sem Bool} (M : Mt X.prog X.w X.K X.mg X.base k C m ps sp) (hr : Room k X.A) (hx : Passes (L2.CX X.prog X.w) X E) (ho : PE X o ta)
    (ht : eval (.Call (.Attribute o m apos) [] [] pos) X.env = (do
      let ov ← eval o X.env
      standAt apos.atName
      let (f, first) ← holding [ov] (getMethod ov m pl)
      callWith pos f first (backTo pos (starEach [] X.env)) (backToKw pos (keywordEach [] X.env))) := by rfl) : PE X (.Call (.Attribute o m apos) [] [] pos) (tMeth C m sp [] E ta tNil) := by
  obtain ⟨f, fd, F, b, hm⟩ := M.ex
  exact pe_meth0 ho M.cl hm F hr b .nil hx ht
theorem pn (D : Mn X.prog X.w X.K X.mg X.base k x C ps sp) (hr : Room (k + 1) X.A) (hx : Passes (L2.CX X.prog X.w) X E) (ha : PA X (e :: es) t) (hg : Gl X x := by rfl) (hdb : (x == ("__debug__" : Str)) = false := by decide)
    (he : starEach (e :: es) X.env = (false, eval e X.env) :: starEach es X.env := by rfl) (hpl : (backTo pos (starEach es X.env)).any (·.1) = false := by rfl) : PE X (.Call (.Name x p) (e :: es) [] pos) (tMake C sp [] E t) := by
  obtain ⟨f, fd, F, b, M⟩ := D.ex
  exact pe_make M F hr hg D.gl b .nil hx ha hdb he hpl
end
/-- in a def's own body: what a callee lets out is let out -/
theorem px {P : Program} {w : World} {K : PySem.W.Frag} {mg : Str → Option Value} {base : Heap} {N : List Str} {qual : Str} {scope : Scope} {f : Addr} {cd : Value} {A : Around} {outer : List Env} {s : Shared} {H : Hp} {E : XK} :
    Passes (L2.CX P w) (cxOf (L2.CX P w) P w K mg base N qual scope f cd A outer s H E) E :=
  passes_call (takes_of rfl rfl rfl rfl) fun _ _ _ _ h => h
end LH
namespace LH
open PySem PySem.Spec PyProof.Rows L2
section
variable {P : Program} {w : World} {K : PySem.W.Frag} {mg : Str → Option Value} {base : Heap} {x : Str} {st : Stmt} {N ps : List Str} {k : Nat} {sp : Sp}
/-- how the arguments bind, whatever the def's other fields are -/
def Bnd (x qual : Str) (st : Stmt) (ps : List Str) : Prop :=
  ∀ (kV doc pm : Value) (an : Option Addr) (cdv ct : Value) (us : List Value), us.length = ps.length → bindArgs (PySem.W.fnOf x qual (defArgs st) (defBody st) (defScope st) .none kV doc pm an cdv ct) ⟨us, []⟩ = pure (ps.zip us)
/-- what a def's body is to show -/
abbrev BodyOk (P : Program) (w : World) (K : PySem.W.Frag) (mg : Str → Option Value) (base : Heap) (N : List Str) (qual : Str) (st : Stmt) (f : Addr) (k : Nat) (sp : Sp) : Prop :=
  ∀ (cdv : Value) (A : Around) (outer : List Env) (s : Shared) (H : Hp) (vs : List V) (Q : VK) (E : XK), Room k (A.deeper (envOfC qual (defScope st) s.heap.objs.size f cdv)) → sp vs H Q E →
      ∃ t, PSs (cxOf (L2.CX P w) P w K mg base N qual (defScope st) f cdv A outer s H E) (defBody st) t ∧ t { nx := fun _ H' => Q .non H', rt := Q } (start N vs) H
theorem dn_of (F : ∃ fd, FunD K x x (defArgs st) (defBody st) (defScope st) [] [] (He.fAd K (x, none)) fd) (g : mg x = some (.ref (He.ga K x))) (S : FnScope N ps (defScope st)) (b : Bnd x x st ps) (len : ∀ vs H Q E, sp vs H Q E → vs.length = ps.length)
    (h : BodyOk P w K mg base N x st (He.fAd K (x, none)) k sp) : Dn P w K mg base (k + 1) x ps sp := by
  obtain ⟨fd, F⟩ := F
  exact ⟨_, fd, F.ok S len h, F.bindsN b, g, F.kp⟩
theorem mt_of {c m q : Str} (F : ∃ fd, FunD K m q (defArgs st) (defBody st) (defScope st) [] [] (He.fAd K (c, some m)) fd) (cl : Cls K (He.ga K c)) (me : Meth K (He.ga K c) m (He.ma K (He.ga K c) m)) (S : FnScope N ps (defScope st)) (b : Bnd m q st ps) (len : ∀ vs H Q E, sp vs H Q E → vs.length = ps.length)
    (h : BodyOk P w K mg base N q st (He.fAd K (c, some m)) k sp) : Mt P w K mg base (k + 1) (He.ga K c) m ps sp := by
  obtain ⟨fd, F⟩ := F
  exact ⟨⟨_, fd, F.ok S len h, F.bindsN b, me⟩, cl⟩
theorem mn_of {c q : Str} (F : ∃ fd, FunD K "__init__" q (defArgs st) (defBody st) (defScope st) [] [] (He.fAd K (c, some "__init__")) fd) (M : Mk K (He.ga K c) (He.ma K (He.ga K c) "__init__")) (g : mg c = some (.ref (He.ga K c))) (S : FnScope N ps (defScope st)) (b : Bnd "__init__" q st ps) (len : ∀ vs H Q E, sp vs H Q E → vs.length = ps.length)
    (h : BodyOk P w K mg base N q st (He.fAd K (c, some "__init__")) k sp) : Mn P w K mg base (k + 1) c (He.ga K c) ps sp := by
  obtain ⟨fd, F⟩ := F
  exact ⟨⟨_, fd, F.ok S len h, F.bindsN b, M⟩, g⟩
end
end LH
namespace LH
open PySem PySem.Spec PyProof.Rows L2
section
variable {X : Cx} {x : Str} {pos : Pos}
/-- a module's constant: a number, a text, an object -/
theorem pgi {i : Int} (hm : ∃ t, X.mg x = some (.int i t)) (hg : Gl X x := by rfl) (hd : (x == ("__debug__" : Str)) = false := by decide) : PE X (.Name x pos) (tC (.int i)) := by
  obtain ⟨t, hm⟩ := hm
  exact pe_glob hg hm ⟨t, rfl⟩ hd
theorem pgs {z : Str} (hm : ∃ t, X.mg x = some (.str z t)) (hg : Gl X x := by rfl) (hd : (x == ("__debug__" : Str)) = false := by decide) : PE X (.Name x pos) (tC (.str z)) := by
  obtain ⟨t, hm⟩ := hm
  exact pe_glob hg hm ⟨t, rfl⟩ hd
theorem pgr {a : Addr} (hm : X.mg x = some (.ref a)) (hg : Gl X x := by rfl) (hd : (x == ("__debug__" : Str)) = false := by decide) : PE X (.Name x pos) (tC (.ref a)) := pe_glob hg hm rfl hd
/-- in a comprehension's block nothing is let out -/
theorem px0 : Passes (L2.CX X.prog X.w) X E0 := passL
/-- written texts, one behind the other -/
def lits : List Expr → Option (List Str)
  | [] => some []
  | .Constant (.str x) _ _ :: r => (lits r).map (x :: ·)
  | _ => none
def tLits (xs : List Str) : TA := fun _ H Q => Q (xs.map V.str) H
theorem pa_lits : ∀ {es : List Expr} {xs : List Str}, lits es = some xs → PA X es (tLits xs)
  | [], xs, h => by
    have e : ([] : List Str) = xs := Option.some.inj h
    subst e
    exact ⟨fun pos pins s σ H Q I q => (pa_nil (X := X)).run pos pins s σ H Q I q⟩
  | e :: r, xs, h => by
    match e, h with
    | .Constant (.str x) j p, h =>
      have h1 : (lits r).map (x :: ·) = some xs := h
      cases e : lits r with
      | none =>
        rw [e] at h1
        cases h1
      | some ys =>
        rw [e] at h1
        have e2 : x :: ys = xs := Option.some.inj h1
        subst e2
        have p1 := pa_cons (X := X) (pe_str (x := x) (j := j) (pos := p)) (pa_lits e) rfl
        exact ⟨fun pos pins s σ H Q I q => p1.run pos pins s σ H Q I q⟩
end
end LH
namespace LH
open PySem PySem.Spec PyProof.Rows L2
/-! ### the Hook: He's facts, and more by Bools of one's own -/
def excB (K : PySem.W.Frag) (C : Addr) : Bool :=
  decide (PySem.W.findIn K (.ref C) "__getattribute__" = some (some (.builtin "BaseException.__getattribute__"))) && (decide (PySem.W.findIn K (.ref C) "__getattr__" = some none) &&
  (decide (PySem.W.subIn K (.ref C) (.type "BaseException") = some true) && (PySem.W.hasDictIn K C && (decide (PySem.W.findIn K (.ref C) "__class__" = some (some (.builtin "object.__class__"))) &&
  (decide (PySem.W.specialIn K (.builtin "object.__class__") "__get__" = some (some (.builtin "getset_descriptor.__get__"))) && (decide (PySem.W.takesIn K (.builtin "object.__class__") = some true) && decide (PySem.W.mroIn K C (.type "object") = some true)))))))
theorem excB_ok {K : PySem.W.Frag} {C : Addr} (h : excB K C = true) : ExcC K C := by
  unfold excB at h
  simp only [Bool.and_eq_true, decide_eq_true_eq] at h
  obtain ⟨h1, h2, h3, h4, h5, h6, h7, h8⟩ := h
  exact ⟨h1, h2, h3, h4, h5, h6, h7, h8⟩
def kitB (K : PySem.W.Frag) (C : Addr) (v : Value) (b : Bool) : Bool := decide (PySem.W.kitOne K (.ref C) v = some b)
theorem kitB_ok {K : PySem.W.Frag} {C : Addr} {v : Value} {b : Bool} (h : kitB K C v b = true) : PySem.W.kitOne K (.ref C) v = some b := of_decide_eq_true h
def obsM (fa : List He.Fa) (fn : List He.DefD) (ex : List (PySem.W.Frag → Bool)) (K : PySem.W.Frag) : He.AlD × Bool := (He.obsD fa fn K, ex.all fun f => f K)
def hookM (n : Nat) (fa : List He.Fa) (fn : List He.DefD) (ex : List (PySem.W.Frag → Bool)) : PySem.W.Hook where
  α := He.AlD × Bool
  obs := fun s => obsM fa fn ex (He.frG s.heap.get? (He.asD s.heap.get? n))
  val := fun _ => (He.valD fn, true)
  says := fun _ h => ∃ K : PySem.W.Frag, K.In h ∧ He.SaysD fa fn K ∧ (ex.all fun f => f K) = true
  of := fun _ _ e => ⟨_, He.frG_in, congrArg Prod.fst e, congrArg Prod.snd e⟩
  keeps := fun _ _ _ ⟨K, hK, c⟩ k => ⟨K, PySem.W.Frag.In.keeps hK k, c⟩
theorem ex_at {ex : List (PySem.W.Frag → Bool)} {K : PySem.W.Frag} (h : (ex.all fun f => f K) = true) (i : Nat) {f : PySem.W.Frag → Bool} (e : ex[i]? = some f := by rfl) : f K = true := List.all_eq_true.mp h f (List.mem_of_getElem? e)
end LH
/-! ## Top: the text by places, what the top leaves -/
namespace LH
open PySem PySem.Spec PyProof.Rows L2
abbrev pw : Program := PySem.Challenge.pw_linehand_k31_whole_fills
def top (i : Nat) : Stmt := pw.main.body.getD i (.Pass ⟨0, 0, 0, 0⟩)
abbrev s_is_sign : Stmt := top 8
abbrev s_look_text : Stmt := top 9
abbrev s_look_place : Stmt := top 10
abbrev s_Filler_init : Stmt := inClass (top 13) 0
abbrev s_Filler_start : Stmt := inClass (top 13) 1
abbrev s_Filler_fitting : Stmt := inClass (top 13) 2
abbrev s_Filler_common : Stmt := inClass (top 13) 3
abbrev s_l_cell : Stmt := top 15
abbrev s_l_mix : Stmt := top 16
abbrev s_l_draw : Stmt := top 17
abbrev s_l_pick : Stmt := top 18
abbrev s_l_refusal : Stmt := top 19
abbrev s_l_told : Stmt := top 20
abbrev s_law : Stmt := top 21
def fn0 : List He.DefD := [
  ⟨("is_sign", none), "is_sign", "is_sign", defArgs s_is_sign, defBody s_is_sign, defScope s_is_sign, [], []⟩,
  ⟨("look_text", none), "look_text", "look_text", defArgs s_look_text, defBody s_look_text, defScope s_look_text, [], []⟩,
  ⟨("look_place", none), "look_place", "look_place", defArgs s_look_place, defBody s_look_place, defScope s_look_place, [], []⟩,
  ⟨("Filler", some "__init__"), "__init__", "Filler.__init__", defArgs s_Filler_init, defBody s_Filler_init, defScope s_Filler_init, [], []⟩,
  ⟨("Filler", some "start"), "start", "Filler.start", defArgs s_Filler_start, defBody s_Filler_start, defScope s_Filler_start, [], []⟩,
  ⟨("Filler", some "fitting"), "fitting", "Filler.fitting", defArgs s_Filler_fitting, defBody s_Filler_fitting, defScope s_Filler_fitting, [], []⟩,
  ⟨("Filler", some "common"), "common", "Filler.common", defArgs s_Filler_common, defBody s_Filler_common, defScope s_Filler_common, [], []⟩,
  ⟨("_law_cell", none), "_law_cell", "_law_cell", defArgs s_l_cell, defBody s_l_cell, defScope s_l_cell, [], []⟩,
  ⟨("_law_mix", none), "_law_mix", "_law_mix", defArgs s_l_mix, defBody s_l_mix, defScope s_l_mix, [], []⟩,
  ⟨("_law_draw", none), "_law_draw", "_law_draw", defArgs s_l_draw, defBody s_l_draw, defScope s_l_draw, [], []⟩,
  ⟨("_law_pick", none), "_law_pick", "_law_pick", defArgs s_l_pick, defBody s_l_pick, defScope s_l_pick, [], []⟩,
  ⟨("_law_refusal", none), "_law_refusal", "_law_refusal", defArgs s_l_refusal, defBody s_l_refusal, defScope s_l_refusal, [], []⟩,
  ⟨("_law_told", none), "_law_told", "_law_told", defArgs s_l_told, defBody s_l_told, defScope s_l_told, [], []⟩,
  ⟨("law", none), "law", "law", defArgs s_law, defBody s_law, defScope s_law, [], []⟩]
def fn : List He.DefD := fn0
def fa0 : List He.Fa := [
  .glo "HandError",
  .glo "BadKey",
  .glo "BadText",
  .glo "BadSize",
  .glo "BadPlace",
  .int "MOST_TEXT" 400,
  .glo "is_sign",
  .glo "look_text",
  .glo "look_place",
  .int "MOST_WORDS" 200,
  .glo "Filler",
  .glo "_law_cell",
  .glo "_law_mix",
  .glo "_law_draw",
  .glo "_law_pick",
  .glo "_law_refusal",
  .glo "_law_told",
  .glo "law",
  .free "ValueError",
  .free "all",
  .free "isinstance",
  .free "len",
  .free "list",
  .free "max",
  .free "ord",
  .free "range",
  .free "set",
  .free "sorted",
  .cls "Filler",
  .noat "Filler" "words"]
def fa1 : List He.Fa := [
  .meth "Filler" "start",
  .meth "Filler" "fitting",
  .meth "Filler" "common",
  .mkr "Filler",
  .exc "BadKey",
  .exc "BadText",
  .exc "BadSize",
  .exc "BadPlace",
  .keep "HandError",
  .keep "BadKey",
  .keep "BadText",
  .keep "BadSize",
  .keep "BadPlace",
  .exm "BadKey" "HandError" true,
  .exm "BadText" "HandError" true,
  .exm "BadSize" "HandError" true,
  .exm "BadPlace" "HandError" true]
def fa : List He.Fa := fa0 ++ fa1
def loose0 : List Str := [
  "HandError",
  "BadKey",
  "BadText",
  "BadSize",
  "BadPlace",
  "MOST_TEXT",
  "is_sign",
  "look_text",
  "look_place",
  "MOST_WORDS",
  "Filler",
  "_law_cell",
  "_law_mix",
  "_law_draw",
  "_law_pick",
  "_law_refusal",
  "_law_told"]
def loose : List Str := loose0
def exs0 : List (PySem.W.Frag → Bool) := [
  fun K => excB K (He.ga K "BadKey"),
  fun K => kitB K (He.ga K "BadKey") (.ref (He.ga K "BadKey")) true,
  fun K => kitB K (He.ga K "BadKey") (.ref (He.ga K "BadText")) false,
  fun K => kitB K (He.ga K "BadKey") (.ref (He.ga K "BadSize")) false,
  fun K => kitB K (He.ga K "BadKey") (.ref (He.ga K "BadPlace")) false,
  fun K => kitB K (He.ga K "BadKey") (.type "ValueError") true,
  fun K => excB K (He.ga K "BadText"),
  fun K => kitB K (He.ga K "BadText") (.ref (He.ga K "BadKey")) false,
  fun K => kitB K (He.ga K "BadText") (.ref (He.ga K "BadText")) true,
  fun K => kitB K (He.ga K "BadText") (.ref (He.ga K "BadSize")) false,
  fun K => kitB K (He.ga K "BadText") (.ref (He.ga K "BadPlace")) false,
  fun K => kitB K (He.ga K "BadText") (.type "ValueError") true,
  fun K => excB K (He.ga K "BadSize"),
  fun K => kitB K (He.ga K "BadSize") (.ref (He.ga K "BadKey")) false,
  fun K => kitB K (He.ga K "BadSize") (.ref (He.ga K "BadText")) false,
  fun K => kitB K (He.ga K "BadSize") (.ref (He.ga K "BadSize")) true,
  fun K => kitB K (He.ga K "BadSize") (.ref (He.ga K "BadPlace")) false,
  fun K => kitB K (He.ga K "BadSize") (.type "ValueError") true,
  fun K => excB K (He.ga K "BadPlace"),
  fun K => kitB K (He.ga K "BadPlace") (.ref (He.ga K "BadKey")) false,
  fun K => kitB K (He.ga K "BadPlace") (.ref (He.ga K "BadText")) false,
  fun K => kitB K (He.ga K "BadPlace") (.ref (He.ga K "BadSize")) false,
  fun K => kitB K (He.ga K "BadPlace") (.ref (He.ga K "BadPlace")) true,
  fun K => kitB K (He.ga K "BadPlace") (.type "ValueError") true]
def exs : List (PySem.W.Frag → Bool) := exs0
/-- what the top has left -/
structure TX (K : PySem.W.Frag) (mg : Str → Option Value) : Prop where
  ex : ∃ h : Heap, K.In h ∧ h.Ns mainGlobals mg
  c : He.SaysD fa fn K
  x : (exs.all fun f => f K) = true
section
variable {K : PySem.W.Frag} {mg : Str → Option Value}
theorem g_HandError (T : TX K mg) : mg "HandError" = some (.ref (He.ga K "HandError")) := by obtain ⟨h, X, G⟩ := T.ex; exact He.glo_ok X G (T.c.fact 0)
theorem g_BadKey (T : TX K mg) : mg "BadKey" = some (.ref (He.ga K "BadKey")) := by obtain ⟨h, X, G⟩ := T.ex; exact He.glo_ok X G (T.c.fact 1)
theorem g_BadText (T : TX K mg) : mg "BadText" = some (.ref (He.ga K "BadText")) := by obtain ⟨h, X, G⟩ := T.ex; exact He.glo_ok X G (T.c.fact 2)
theorem g_BadSize (T : TX K mg) : mg "BadSize" = some (.ref (He.ga K "BadSize")) := by obtain ⟨h, X, G⟩ := T.ex; exact He.glo_ok X G (T.c.fact 3)
theorem g_BadPlace (T : TX K mg) : mg "BadPlace" = some (.ref (He.ga K "BadPlace")) := by obtain ⟨h, X, G⟩ := T.ex; exact He.glo_ok X G (T.c.fact 4)
theorem i_MOST_TEXT (T : TX K mg) : ∃ t, mg "MOST_TEXT" = some (.int 400 t) := by obtain ⟨h, X, G⟩ := T.ex; exact He.int_ok X G (T.c.fact 5)
theorem g_is_sign (T : TX K mg) : mg "is_sign" = some (.ref (He.ga K "is_sign")) := by obtain ⟨h, X, G⟩ := T.ex; exact He.glo_ok X G (T.c.fact 6)
theorem g_look_text (T : TX K mg) : mg "look_text" = some (.ref (He.ga K "look_text")) := by obtain ⟨h, X, G⟩ := T.ex; exact He.glo_ok X G (T.c.fact 7)
theorem g_look_place (T : TX K mg) : mg "look_place" = some (.ref (He.ga K "look_place")) := by obtain ⟨h, X, G⟩ := T.ex; exact He.glo_ok X G (T.c.fact 8)
theorem i_MOST_WORDS (T : TX K mg) : ∃ t, mg "MOST_WORDS" = some (.int 200 t) := by obtain ⟨h, X, G⟩ := T.ex; exact He.int_ok X G (T.c.fact 9)
theorem g_Filler (T : TX K mg) : mg "Filler" = some (.ref (He.ga K "Filler")) := by obtain ⟨h, X, G⟩ := T.ex; exact He.glo_ok X G (T.c.fact 10)
theorem g__law_cell (T : TX K mg) : mg "_law_cell" = some (.ref (He.ga K "_law_cell")) := by obtain ⟨h, X, G⟩ := T.ex; exact He.glo_ok X G (T.c.fact 11)
theorem g__law_mix (T : TX K mg) : mg "_law_mix" = some (.ref (He.ga K "_law_mix")) := by obtain ⟨h, X, G⟩ := T.ex; exact He.glo_ok X G (T.c.fact 12)
theorem g__law_draw (T : TX K mg) : mg "_law_draw" = some (.ref (He.ga K "_law_draw")) := by obtain ⟨h, X, G⟩ := T.ex; exact He.glo_ok X G (T.c.fact 13)
theorem g__law_pick (T : TX K mg) : mg "_law_pick" = some (.ref (He.ga K "_law_pick")) := by obtain ⟨h, X, G⟩ := T.ex; exact He.glo_ok X G (T.c.fact 14)
theorem g__law_refusal (T : TX K mg) : mg "_law_refusal" = some (.ref (He.ga K "_law_refusal")) := by obtain ⟨h, X, G⟩ := T.ex; exact He.glo_ok X G (T.c.fact 15)
theorem g__law_told (T : TX K mg) : mg "_law_told" = some (.ref (He.ga K "_law_told")) := by obtain ⟨h, X, G⟩ := T.ex; exact He.glo_ok X G (T.c.fact 16)
theorem g_law (T : TX K mg) : mg "law" = some (.ref (He.ga K "law")) := by obtain ⟨h, X, G⟩ := T.ex; exact He.glo_ok X G (T.c.fact 17)
theorem b_ValueError (T : TX K mg) : mg "ValueError" = none := by obtain ⟨h, X, G⟩ := T.ex; exact He.free_ok X G (T.c.fact 18)
theorem b_all (T : TX K mg) : mg "all" = none := by obtain ⟨h, X, G⟩ := T.ex; exact He.free_ok X G (T.c.fact 19)
theorem b_isinstance (T : TX K mg) : mg "isinstance" = none := by obtain ⟨h, X, G⟩ := T.ex; exact He.free_ok X G (T.c.fact 20)
theorem b_len (T : TX K mg) : mg "len" = none := by obtain ⟨h, X, G⟩ := T.ex; exact He.free_ok X G (T.c.fact 21)
theorem b_list (T : TX K mg) : mg "list" = none := by obtain ⟨h, X, G⟩ := T.ex; exact He.free_ok X G (T.c.fact 22)
theorem b_max (T : TX K mg) : mg "max" = none := by obtain ⟨h, X, G⟩ := T.ex; exact He.free_ok X G (T.c.fact 23)
theorem b_ord (T : TX K mg) : mg "ord" = none := by obtain ⟨h, X, G⟩ := T.ex; exact He.free_ok X G (T.c.fact 24)
theorem b_range (T : TX K mg) : mg "range" = none := by obtain ⟨h, X, G⟩ := T.ex; exact He.free_ok X G (T.c.fact 25)
theorem b_set (T : TX K mg) : mg "set" = none := by obtain ⟨h, X, G⟩ := T.ex; exact He.free_ok X G (T.c.fact 26)
theorem b_sorted (T : TX K mg) : mg "sorted" = none := by obtain ⟨h, X, G⟩ := T.ex; exact He.free_ok X G (T.c.fact 27)
theorem cl_Filler (T : TX K mg) : Cls K (He.ga K "Filler") := He.cls_ok (T.c.fact 28)
theorem na_Filler_words (T : TX K mg) : NoAttr K (He.ga K "Filler") "words" := He.noat_ok (T.c.fact 29)
theorem me_Filler_start (T : TX K mg) : Meth K (He.ga K "Filler") "start" (He.ma K (He.ga K "Filler") "start") := He.meth_ok (T.c.fact 30)
theorem me_Filler_fitting (T : TX K mg) : Meth K (He.ga K "Filler") "fitting" (He.ma K (He.ga K "Filler") "fitting") := He.meth_ok (T.c.fact 31)
theorem me_Filler_common (T : TX K mg) : Meth K (He.ga K "Filler") "common" (He.ma K (He.ga K "Filler") "common") := He.meth_ok (T.c.fact 32)
theorem mk_Filler (T : TX K mg) : Mk K (He.ga K "Filler") (He.ma K (He.ga K "Filler") "__init__") := He.mkr_ok (T.c.fact 33)
theorem xc_BadKey (T : TX K mg) : PySem.W.excIn K (He.ga K "BadKey") He.veBase "ValueError.__new__" = true ∧ PySem.W.keepIn K (.ref (He.ga K "BadKey")) = true ∧ PySem.W.subIn K (.ref (He.ga K "BadKey")) (.type "BaseException") = some true ∧ PySem.W.typeIn K (.ref (He.ga K "BadKey")) = some (.type "type") := He.exc_ok (T.c.fact 34)
theorem xc_BadText (T : TX K mg) : PySem.W.excIn K (He.ga K "BadText") He.veBase "ValueError.__new__" = true ∧ PySem.W.keepIn K (.ref (He.ga K "BadText")) = true ∧ PySem.W.subIn K (.ref (He.ga K "BadText")) (.type "BaseException") = some true ∧ PySem.W.typeIn K (.ref (He.ga K "BadText")) = some (.type "type") := He.exc_ok (T.c.fact 35)
theorem xc_BadSize (T : TX K mg) : PySem.W.excIn K (He.ga K "BadSize") He.veBase "ValueError.__new__" = true ∧ PySem.W.keepIn K (.ref (He.ga K "BadSize")) = true ∧ PySem.W.subIn K (.ref (He.ga K "BadSize")) (.type "BaseException") = some true ∧ PySem.W.typeIn K (.ref (He.ga K "BadSize")) = some (.type "type") := He.exc_ok (T.c.fact 36)
theorem xc_BadPlace (T : TX K mg) : PySem.W.excIn K (He.ga K "BadPlace") He.veBase "ValueError.__new__" = true ∧ PySem.W.keepIn K (.ref (He.ga K "BadPlace")) = true ∧ PySem.W.subIn K (.ref (He.ga K "BadPlace")) (.type "BaseException") = some true ∧ PySem.W.typeIn K (.ref (He.ga K "BadPlace")) = some (.type "type") := He.exc_ok (T.c.fact 37)
theorem xm_BadKey (T : TX K mg) : PySem.W.exmOne K (.ref (He.ga K "BadKey")) (.ref (He.ga K "HandError")) = some true := He.exm_ok (T.c.fact 43)
theorem xm_BadText (T : TX K mg) : PySem.W.exmOne K (.ref (He.ga K "BadText")) (.ref (He.ga K "HandError")) = some true := He.exm_ok (T.c.fact 44)
theorem xm_BadSize (T : TX K mg) : PySem.W.exmOne K (.ref (He.ga K "BadSize")) (.ref (He.ga K "HandError")) = some true := He.exm_ok (T.c.fact 45)
theorem xm_BadPlace (T : TX K mg) : PySem.W.exmOne K (.ref (He.ga K "BadPlace")) (.ref (He.ga K "HandError")) = some true := He.exm_ok (T.c.fact 46)
theorem ex_BadKey (T : TX K mg) : ExcC K (He.ga K "BadKey") := excB_ok (ex_at T.x 0 (f := fun K => excB K (He.ga K "BadKey")))
theorem ki_BadKey_BadKey (T : TX K mg) : PySem.W.kitOne K (.ref (He.ga K "BadKey")) (.ref (He.ga K "BadKey")) = some true := kitB_ok (ex_at T.x 1 (f := fun K => kitB K (He.ga K "BadKey") (.ref (He.ga K "BadKey")) true))
theorem ki_BadKey_BadText (T : TX K mg) : PySem.W.kitOne K (.ref (He.ga K "BadKey")) (.ref (He.ga K "BadText")) = some false := kitB_ok (ex_at T.x 2 (f := fun K => kitB K (He.ga K "BadKey") (.ref (He.ga K "BadText")) false))
theorem ki_BadKey_BadSize (T : TX K mg) : PySem.W.kitOne K (.ref (He.ga K "BadKey")) (.ref (He.ga K "BadSize")) = some false := kitB_ok (ex_at T.x 3 (f := fun K => kitB K (He.ga K "BadKey") (.ref (He.ga K "BadSize")) false))
theorem ki_BadKey_BadPlace (T : TX K mg) : PySem.W.kitOne K (.ref (He.ga K "BadKey")) (.ref (He.ga K "BadPlace")) = some false := kitB_ok (ex_at T.x 4 (f := fun K => kitB K (He.ga K "BadKey") (.ref (He.ga K "BadPlace")) false))
theorem ki_BadKey_ValueError (T : TX K mg) : PySem.W.kitOne K (.ref (He.ga K "BadKey")) (.type "ValueError") = some true := kitB_ok (ex_at T.x 5 (f := fun K => kitB K (He.ga K "BadKey") (.type "ValueError") true))
theorem ex_BadText (T : TX K mg) : ExcC K (He.ga K "BadText") := excB_ok (ex_at T.x 6 (f := fun K => excB K (He.ga K "BadText")))
theorem ki_BadText_BadKey (T : TX K mg) : PySem.W.kitOne K (.ref (He.ga K "BadText")) (.ref (He.ga K "BadKey")) = some false := kitB_ok (ex_at T.x 7 (f := fun K => kitB K (He.ga K "BadText") (.ref (He.ga K "BadKey")) false))
theorem ki_BadText_BadText (T : TX K mg) : PySem.W.kitOne K (.ref (He.ga K "BadText")) (.ref (He.ga K "BadText")) = some true := kitB_ok (ex_at T.x 8 (f := fun K => kitB K (He.ga K "BadText") (.ref (He.ga K "BadText")) true))
theorem ki_BadText_BadSize (T : TX K mg) : PySem.W.kitOne K (.ref (He.ga K "BadText")) (.ref (He.ga K "BadSize")) = some false := kitB_ok (ex_at T.x 9 (f := fun K => kitB K (He.ga K "BadText") (.ref (He.ga K "BadSize")) false))
theorem ki_BadText_BadPlace (T : TX K mg) : PySem.W.kitOne K (.ref (He.ga K "BadText")) (.ref (He.ga K "BadPlace")) = some false := kitB_ok (ex_at T.x 10 (f := fun K => kitB K (He.ga K "BadText") (.ref (He.ga K "BadPlace")) false))
theorem ki_BadText_ValueError (T : TX K mg) : PySem.W.kitOne K (.ref (He.ga K "BadText")) (.type "ValueError") = some true := kitB_ok (ex_at T.x 11 (f := fun K => kitB K (He.ga K "BadText") (.type "ValueError") true))
theorem ex_BadSize (T : TX K mg) : ExcC K (He.ga K "BadSize") := excB_ok (ex_at T.x 12 (f := fun K => excB K (He.ga K "BadSize")))
theorem ki_BadSize_BadKey (T : TX K mg) : PySem.W.kitOne K (.ref (He.ga K "BadSize")) (.ref (He.ga K "BadKey")) = some false := kitB_ok (ex_at T.x 13 (f := fun K => kitB K (He.ga K "BadSize") (.ref (He.ga K "BadKey")) false))
theorem ki_BadSize_BadText (T : TX K mg) : PySem.W.kitOne K (.ref (He.ga K "BadSize")) (.ref (He.ga K "BadText")) = some false := kitB_ok (ex_at T.x 14 (f := fun K => kitB K (He.ga K "BadSize") (.ref (He.ga K "BadText")) false))
theorem ki_BadSize_BadSize (T : TX K mg) : PySem.W.kitOne K (.ref (He.ga K "BadSize")) (.ref (He.ga K "BadSize")) = some true := kitB_ok (ex_at T.x 15 (f := fun K => kitB K (He.ga K "BadSize") (.ref (He.ga K "BadSize")) true))
theorem ki_BadSize_BadPlace (T : TX K mg) : PySem.W.kitOne K (.ref (He.ga K "BadSize")) (.ref (He.ga K "BadPlace")) = some false := kitB_ok (ex_at T.x 16 (f := fun K => kitB K (He.ga K "BadSize") (.ref (He.ga K "BadPlace")) false))
theorem ki_BadSize_ValueError (T : TX K mg) : PySem.W.kitOne K (.ref (He.ga K "BadSize")) (.type "ValueError") = some true := kitB_ok (ex_at T.x 17 (f := fun K => kitB K (He.ga K "BadSize") (.type "ValueError") true))
theorem ex_BadPlace (T : TX K mg) : ExcC K (He.ga K "BadPlace") := excB_ok (ex_at T.x 18 (f := fun K => excB K (He.ga K "BadPlace")))
theorem ki_BadPlace_BadKey (T : TX K mg) : PySem.W.kitOne K (.ref (He.ga K "BadPlace")) (.ref (He.ga K "BadKey")) = some false := kitB_ok (ex_at T.x 19 (f := fun K => kitB K (He.ga K "BadPlace") (.ref (He.ga K "BadKey")) false))
theorem ki_BadPlace_BadText (T : TX K mg) : PySem.W.kitOne K (.ref (He.ga K "BadPlace")) (.ref (He.ga K "BadText")) = some false := kitB_ok (ex_at T.x 20 (f := fun K => kitB K (He.ga K "BadPlace") (.ref (He.ga K "BadText")) false))
theorem ki_BadPlace_BadSize (T : TX K mg) : PySem.W.kitOne K (.ref (He.ga K "BadPlace")) (.ref (He.ga K "BadSize")) = some false := kitB_ok (ex_at T.x 21 (f := fun K => kitB K (He.ga K "BadPlace") (.ref (He.ga K "BadSize")) false))
theorem ki_BadPlace_BadPlace (T : TX K mg) : PySem.W.kitOne K (.ref (He.ga K "BadPlace")) (.ref (He.ga K "BadPlace")) = some true := kitB_ok (ex_at T.x 22 (f := fun K => kitB K (He.ga K "BadPlace") (.ref (He.ga K "BadPlace")) true))
theorem ki_BadPlace_ValueError (T : TX K mg) : PySem.W.kitOne K (.ref (He.ga K "BadPlace")) (.type "ValueError") = some true := kitB_ok (ex_at T.x 23 (f := fun K => kitB K (He.ga K "BadPlace") (.type "ValueError") true))
theorem fn_is_sign (T : TX K mg) : ∃ fd, FunD K "is_sign" "is_sign" (defArgs s_is_sign) (defBody s_is_sign) (defScope s_is_sign) [] [] (He.fAd K ("is_sign", none)) fd := T.c.def_ 0 (d := ⟨("is_sign", none), "is_sign", "is_sign", defArgs s_is_sign, defBody s_is_sign, defScope s_is_sign, [], []⟩)
theorem fn_look_text (T : TX K mg) : ∃ fd, FunD K "look_text" "look_text" (defArgs s_look_text) (defBody s_look_text) (defScope s_look_text) [] [] (He.fAd K ("look_text", none)) fd := T.c.def_ 1 (d := ⟨("look_text", none), "look_text", "look_text", defArgs s_look_text, defBody s_look_text, defScope s_look_text, [], []⟩)
theorem fn_look_place (T : TX K mg) : ∃ fd, FunD K "look_place" "look_place" (defArgs s_look_place) (defBody s_look_place) (defScope s_look_place) [] [] (He.fAd K ("look_place", none)) fd := T.c.def_ 2 (d := ⟨("look_place", none), "look_place", "look_place", defArgs s_look_place, defBody s_look_place, defScope s_look_place, [], []⟩)
theorem fn_Filler_init (T : TX K mg) : ∃ fd, FunD K "__init__" "Filler.__init__" (defArgs s_Filler_init) (defBody s_Filler_init) (defScope s_Filler_init) [] [] (He.fAd K ("Filler", some "__init__")) fd := T.c.def_ 3 (d := ⟨("Filler", some "__init__"), "__init__", "Filler.__init__", defArgs s_Filler_init, defBody s_Filler_init, defScope s_Filler_init, [], []⟩)
theorem fn_Filler_start (T : TX K mg) : ∃ fd, FunD K "start" "Filler.start" (defArgs s_Filler_start) (defBody s_Filler_start) (defScope s_Filler_start) [] [] (He.fAd K ("Filler", some "start")) fd := T.c.def_ 4 (d := ⟨("Filler", some "start"), "start", "Filler.start", defArgs s_Filler_start, defBody s_Filler_start, defScope s_Filler_start, [], []⟩)
theorem fn_Filler_fitting (T : TX K mg) : ∃ fd, FunD K "fitting" "Filler.fitting" (defArgs s_Filler_fitting) (defBody s_Filler_fitting) (defScope s_Filler_fitting) [] [] (He.fAd K ("Filler", some "fitting")) fd := T.c.def_ 5 (d := ⟨("Filler", some "fitting"), "fitting", "Filler.fitting", defArgs s_Filler_fitting, defBody s_Filler_fitting, defScope s_Filler_fitting, [], []⟩)
theorem fn_Filler_common (T : TX K mg) : ∃ fd, FunD K "common" "Filler.common" (defArgs s_Filler_common) (defBody s_Filler_common) (defScope s_Filler_common) [] [] (He.fAd K ("Filler", some "common")) fd := T.c.def_ 6 (d := ⟨("Filler", some "common"), "common", "Filler.common", defArgs s_Filler_common, defBody s_Filler_common, defScope s_Filler_common, [], []⟩)
theorem fn_l_cell (T : TX K mg) : ∃ fd, FunD K "_law_cell" "_law_cell" (defArgs s_l_cell) (defBody s_l_cell) (defScope s_l_cell) [] [] (He.fAd K ("_law_cell", none)) fd := T.c.def_ 7 (d := ⟨("_law_cell", none), "_law_cell", "_law_cell", defArgs s_l_cell, defBody s_l_cell, defScope s_l_cell, [], []⟩)
theorem fn_l_mix (T : TX K mg) : ∃ fd, FunD K "_law_mix" "_law_mix" (defArgs s_l_mix) (defBody s_l_mix) (defScope s_l_mix) [] [] (He.fAd K ("_law_mix", none)) fd := T.c.def_ 8 (d := ⟨("_law_mix", none), "_law_mix", "_law_mix", defArgs s_l_mix, defBody s_l_mix, defScope s_l_mix, [], []⟩)
theorem fn_l_draw (T : TX K mg) : ∃ fd, FunD K "_law_draw" "_law_draw" (defArgs s_l_draw) (defBody s_l_draw) (defScope s_l_draw) [] [] (He.fAd K ("_law_draw", none)) fd := T.c.def_ 9 (d := ⟨("_law_draw", none), "_law_draw", "_law_draw", defArgs s_l_draw, defBody s_l_draw, defScope s_l_draw, [], []⟩)
theorem fn_l_pick (T : TX K mg) : ∃ fd, FunD K "_law_pick" "_law_pick" (defArgs s_l_pick) (defBody s_l_pick) (defScope s_l_pick) [] [] (He.fAd K ("_law_pick", none)) fd := T.c.def_ 10 (d := ⟨("_law_pick", none), "_law_pick", "_law_pick", defArgs s_l_pick, defBody s_l_pick, defScope s_l_pick, [], []⟩)
theorem fn_l_refusal (T : TX K mg) : ∃ fd, FunD K "_law_refusal" "_law_refusal" (defArgs s_l_refusal) (defBody s_l_refusal) (defScope s_l_refusal) [] [] (He.fAd K ("_law_refusal", none)) fd := T.c.def_ 11 (d := ⟨("_law_refusal", none), "_law_refusal", "_law_refusal", defArgs s_l_refusal, defBody s_l_refusal, defScope s_l_refusal, [], []⟩)
theorem fn_l_told (T : TX K mg) : ∃ fd, FunD K "_law_told" "_law_told" (defArgs s_l_told) (defBody s_l_told) (defScope s_l_told) [] [] (He.fAd K ("_law_told", none)) fd := T.c.def_ 12 (d := ⟨("_law_told", none), "_law_told", "_law_told", defArgs s_l_told, defBody s_l_told, defScope s_l_told, [], []⟩)
theorem fn_law (T : TX K mg) : ∃ fd, FunD K "law" "law" (defArgs s_law) (defBody s_law) (defScope s_law) [] [] (He.fAd K ("law", none)) fd := T.c.def_ 13 (d := ⟨("law", none), "law", "law", defArgs s_law, defBody s_law, defScope s_law, [], []⟩)
end
abbrev n_is_sign : List Str := ["sign"]
abbrev p_is_sign : List Str := ["sign"]
theorem sc_is_sign : FnScope n_is_sign p_is_sign (defScope s_is_sign) := ⟨rfl, rfl, rfl, by decide +kernel, rfl, by decide +kernel, by decide +kernel⟩
theorem bd_is_sign : Bnd "is_sign" "is_sign" s_is_sign p_is_sign := fun _ _ _ _ _ _ us hl => match us, hl with | [_], _ => rfl
abbrev n_look_text : List Str := ["text", "sign"]
abbrev p_look_text : List Str := ["text"]
theorem sc_look_text : FnScope n_look_text p_look_text (defScope s_look_text) := ⟨rfl, rfl, rfl, by decide +kernel, rfl, by decide +kernel, by decide +kernel⟩
theorem bd_look_text : Bnd "look_text" "look_text" s_look_text p_look_text := fun _ _ _ _ _ _ us hl => match us, hl with | [_], _ => rfl
abbrev n_look_place : List Str := ["text", "at"]
abbrev p_look_place : List Str := ["text", "at"]
theorem sc_look_place : FnScope n_look_place p_look_place (defScope s_look_place) := ⟨rfl, rfl, rfl, by decide +kernel, rfl, by decide +kernel, by decide +kernel⟩
theorem bd_look_place : Bnd "look_place" "look_place" s_look_place p_look_place := fun _ _ _ _ _ _ us hl => match us, hl with | [_, _], _ => rfl
abbrev n_Filler_init : List Str := ["self", "words", "word"]
abbrev p_Filler_init : List Str := ["self", "words"]
theorem sc_Filler_init : FnScope n_Filler_init p_Filler_init (defScope s_Filler_init) := ⟨rfl, rfl, rfl, by decide +kernel, rfl, by decide +kernel, by decide +kernel⟩
theorem bd_Filler_init : Bnd "__init__" "Filler.__init__" s_Filler_init p_Filler_init := fun _ _ _ _ _ _ us hl => match us, hl with | [_, _], _ => rfl
abbrev n_Filler_start : List Str := ["self", "text", "at"]
abbrev p_Filler_start : List Str := ["self", "text", "at"]
theorem sc_Filler_start : FnScope n_Filler_start p_Filler_start (defScope s_Filler_start) := ⟨rfl, rfl, rfl, by decide +kernel, rfl, by decide +kernel, by decide +kernel⟩
theorem bd_Filler_start : Bnd "start" "Filler.start" s_Filler_start p_Filler_start := fun _ _ _ _ _ _ us hl => match us, hl with | [_, _, _], _ => rfl
abbrev n_Filler_fitting : List Str := ["self", "text", "at", "part", "word"]
abbrev p_Filler_fitting : List Str := ["self", "text", "at"]
theorem sc_Filler_fitting : FnScope n_Filler_fitting p_Filler_fitting (defScope s_Filler_fitting) := ⟨rfl, rfl, rfl, by decide +kernel, rfl, by decide +kernel, by decide +kernel⟩
theorem bd_Filler_fitting : Bnd "fitting" "Filler.fitting" s_Filler_fitting p_Filler_fitting := fun _ _ _ _ _ _ us hl => match us, hl with | [_, _, _], _ => rfl
abbrev n_Filler_common : List Str := ["self", "text", "at", "some", "found", "word"]
abbrev p_Filler_common : List Str := ["self", "text", "at"]
theorem sc_Filler_common : FnScope n_Filler_common p_Filler_common (defScope s_Filler_common) := ⟨rfl, rfl, rfl, by decide +kernel, rfl, by decide +kernel, by decide +kernel⟩
theorem bd_Filler_common : Bnd "common" "Filler.common" s_Filler_common p_Filler_common := fun _ _ _ _ _ _ us hl => match us, hl with | [_, _, _], _ => rfl
abbrev n_l_cell : List Str := ["_law_script", "_law_k"]
abbrev p_l_cell : List Str := ["_law_script", "_law_k"]
theorem sc_l_cell : FnScope n_l_cell p_l_cell (defScope s_l_cell) := ⟨rfl, rfl, rfl, by decide +kernel, rfl, by decide +kernel, by decide +kernel⟩
theorem bd_l_cell : Bnd "_law_cell" "_law_cell" s_l_cell p_l_cell := fun _ _ _ _ _ _ us hl => match us, hl with | [_, _], _ => rfl
abbrev n_l_mix : List Str := ["_law_script", "_law_k", "_law_number"]
abbrev p_l_mix : List Str := ["_law_script", "_law_k"]
theorem sc_l_mix : FnScope n_l_mix p_l_mix (defScope s_l_mix) := ⟨rfl, rfl, rfl, by decide +kernel, rfl, by decide +kernel, by decide +kernel⟩
theorem bd_l_mix : Bnd "_law_mix" "_law_mix" s_l_mix p_l_mix := fun _ _ _ _ _ _ us hl => match us, hl with | [_, _], _ => rfl
abbrev n_l_draw : List Str := ["_law_script", "_law_town", "_law_many"]
abbrev p_l_draw : List Str := ["_law_script", "_law_town", "_law_many"]
theorem sc_l_draw : FnScope n_l_draw p_l_draw (defScope s_l_draw) := ⟨rfl, rfl, rfl, by decide +kernel, rfl, by decide +kernel, by decide +kernel⟩
theorem bd_l_draw : Bnd "_law_draw" "_law_draw" s_l_draw p_l_draw := fun _ _ _ _ _ _ us hl => match us, hl with | [_, _, _], _ => rfl
abbrev n_l_pick : List Str := ["_law_script", "_law_town", "_law_some"]
abbrev p_l_pick : List Str := ["_law_script", "_law_town", "_law_some"]
theorem sc_l_pick : FnScope n_l_pick p_l_pick (defScope s_l_pick) := ⟨rfl, rfl, rfl, by decide +kernel, rfl, by decide +kernel, by decide +kernel⟩
theorem bd_l_pick : Bnd "_law_pick" "_law_pick" s_l_pick p_l_pick := fun _ _ _ _ _ _ us hl => match us, hl with | [_, _, _], _ => rfl
abbrev n_l_refusal : List Str := ["_law_held", "_law_kinds"]
abbrev p_l_refusal : List Str := ["_law_held"]
theorem sc_l_refusal : FnScope n_l_refusal p_l_refusal (defScope s_l_refusal) := ⟨rfl, rfl, rfl, by decide +kernel, rfl, by decide +kernel, by decide +kernel⟩
theorem bd_l_refusal : Bnd "_law_refusal" "_law_refusal" s_l_refusal p_l_refusal := fun _ _ _ _ _ _ us hl => match us, hl with | [_], _ => rfl
abbrev n_l_told : List Str := ["_law_filler", "_law_way", "_law_text", "_law_at", "_law_held", "_law_found", "e"]
abbrev p_l_told : List Str := ["_law_filler", "_law_way", "_law_text", "_law_at"]
theorem sc_l_told : FnScope n_l_told p_l_told (defScope s_l_told) := ⟨rfl, rfl, rfl, by decide +kernel, rfl, by decide +kernel, by decide +kernel⟩
theorem bd_l_told : Bnd "_law_told" "_law_told" s_l_told p_l_told := fun _ _ _ _ _ _ us hl => match us, hl with | [_, _, _, _], _ => rfl
abbrev n_law : List Str := ["_law_script", "_law_town", "_law_menu", "_law_words", "_law_k", "_law_given", "_law_filler", "_law_text", "_law_at", "_law_start", "_law_part", "_law_some", "_law_word", "_law_common", "_law_way", "_law_bad"]
abbrev p_law : List Str := ["_law_script"]
theorem sc_law : FnScope n_law p_law (defScope s_law) := ⟨rfl, rfl, rfl, by decide +kernel, rfl, by decide +kernel, by decide +kernel⟩
theorem bd_law : Bnd "law" "law" s_law p_law := fun _ _ _ _ _ _ us hl => match us, hl with | [_], _ => rfl
def fs_Filler (a0 : V) : List (Str × V) := [("words", a0)]
theorem lk_Filler : (∀ a0 : V, (fs_Filler a0).lookup ("words" : Str) = some a0) ∧ (∀ a0 : V, (fs_Filler a0).lookup ("start" : Str) = none) ∧ (∀ a0 : V, (fs_Filler a0).lookup ("fitting" : Str) = none) ∧ (∀ a0 : V, (fs_Filler a0).lookup ("common" : Str) = none) ∧ (∀ a0 x : V, putF "words" x (fs_Filler a0) = fs_Filler x) ∧ (∀ a0 : V, ((fs_Filler a0).length < 1000) = True) := by
  refine ⟨?_, ?_, ?_, ?_, ?_, ?_⟩ <;> intros <;> first | rfl | exact eq_true (by show _ < _; simp [fs_Filler])
theorem mk_fs_Filler : (∀ a0 : V, putF "words" a0 [] = fs_Filler a0) ∧ ((([] : List (Str × V)).length < 1000) = True) := by
  refine ⟨?_, ?_⟩ <;> intros <;> first | rfl | exact eq_true (by show _ < _; simp)
theorem inj_Filler {a0 b0 : V} : (fs_Filler a0 = fs_Filler b0) = (a0 = b0) := by
  unfold fs_Filler
  simp only [List.cons.injEq, Prod.mk.injEq, true_and, and_true]
theorem fk_Filler {K : PySem.W.Frag} {mg : Str → Option Value} (T : TX K mg) : (Cls K (He.ga K "Filler") = True) ∧ (NoAttr K (He.ga K "Filler") "words" = True) := ⟨eq_true (cl_Filler T), eq_true (na_Filler_words T)⟩
end LH
/-! ## Rd: readings by simp; loops, comprehensions -/
namespace LH
open PySem PySem.Spec PyProof.Rows L2
/-- texts as values -/
abbrev tv (t : List Nat) : V := .str (S t)
abbrev tvs (ts : List (List Nat)) : List V := ts.map tv
theorem tvs_add (us : List (List Nat)) (u : List Nat) : tvs (us ++ [u]) = tvs us ++ [tv u] := List.map_append
theorem ex_eq {α : Sort u} {a : α} {p : α → Prop} : (∃ x, a = x ∧ p x) = p a := propext ⟨fun ⟨_, e, h⟩ => e ▸ h, fun h => ⟨a, rfl, h⟩⟩
theorem ex_eq' {α : Sort u} {a : α} {p : α → Prop} : (∃ x, x = a ∧ p x) = p a := propext ⟨fun ⟨_, e, h⟩ => e ▸ h, fun h => ⟨a, rfl, h⟩⟩
theorem ex_eq0 {α : Sort u} {a : α} : (∃ x, a = x) = True := propext ⟨fun _ => trivial, fun _ => ⟨a, rfl⟩⟩
theorem cxK {CX : CXT} {P : Program} {w : World} {K : PySem.W.Frag} {mg : Str → Option Value} {base : Heap} {N : List Str} {qual : Str} {scope : Scope} {f : Addr} {cd : Value} {A : Around} {outer : List Env} {s : Shared} {H : Hp} {E : XK} :
    (cxOf CX P w K mg base N qual scope f cd A outer s H E).K = K := rfl
theorem if_tt {A B : Prop} : (if true = true then A else B) = A := if_pos rfl
theorem if_ff {A B : Prop} : (if false = true then A else B) = B := if_neg Bool.false_ne_true
theorem scII {i j : Int} : scal (.int i) (.int j) = true := rfl
theorem scSS {i j : Str} : scal (.str i) (.str j) = true := rfl
theorem scBB {i j : Bool} : scal (.bl i) (.bl j) = true := rfl
theorem scNN : scal .non .non = true := rfl
theorem scNI {j : Int} : scal .non (.int j) = true := rfl
theorem scNS {j : Str} : scal .non (.str j) = true := rfl
theorem scNB {j : Bool} : scal .non (.bl j) = true := rfl
theorem scIN {j : Int} : scal (.int j) .non = true := rfl
theorem scSN {j : Str} : scal (.str j) .non = true := rfl
theorem scBN {j : Bool} : scal (.bl j) .non = true := rfl
theorem scIS {i : Int} {j : Str} : scal (.int i) (.str j) = true := rfl
theorem scSI {i : Str} {j : Int} : scal (.str i) (.int j) = true := rfl
/-- the list comprehension behind its walk's making -/
def LcB (J : It) (g : TG) (tt : TT) (te : TE) (vs : List Nat) (σ : L2.St) (H1 : Hp) (Q : VK) : Prop := ∀ D, H1 D = none → ∃ W : Nat → Nat → Hp → Prop, (∃ m, W 0 m (upd H1 D (.lst []))) ∧ ∀ i m H, W i m H →
  (J.stop i H ∧ Q (.ref D) H) ∨ (J.go i H ∧ ∃ Nx : Hp → Prop, (∀ H', Nx H' → ∃ m', m' < m ∧ W (i + 1) m' H') ∧ ∀ x H', J.yld i H x H' → g x (wipe σ vs) H' fun σ2 H2 => wipe σ2 vs = wipe σ vs ∧ tt σ2 H2 fun b H3 =>
    if b = true then te σ2 H3 fun y H4 => ∃ acc, H4 D = some (.lst acc) ∧ acc.length < sizeLine ∧ Nx (upd H4 D (.lst (acc ++ [y]))) else Nx H3)
theorem tLc_eq {wi : TI} {g : TG} {tt : TT} {te : TE} {vs : List Nat} {σ : L2.St} {H : Hp} {Q : VK} : tLc wi g tt te vs σ H Q = wi σ H fun J H1 => LcB J g tt te vs σ H1 Q := rfl
/-- the for behind its walk's making -/
def ForB (J : It) (g : TG) (tb : TS) (D : Ends) (σ : L2.St) (H1 : Hp) : Prop := ∃ W : Nat → Nat → L2.St → Hp → Prop, (∃ m, W 0 m σ H1) ∧ ∀ i m σ H, W i m σ H →
  (J.stop i H ∧ D.nx σ H) ∨ (J.go i H ∧ ∃ N : L2.St → Hp → Prop, (∀ σ' H', N σ' H' → ∃ m', m' < m ∧ W (i + 1) m' σ' H') ∧ ∀ x H', J.yld i H x H' → g x σ H' fun σ2 H2 => tb { D with nx := N, ct := N, bk := D.nx } σ2 H2)
theorem tFor_eq {wi : TI} {g : TG} {tb : TS} {D : Ends} {σ : L2.St} {H : Hp} : tFor wi g tb D σ H = wi σ H fun J H1 => ForB J g tb D σ H1 := rfl

theorem same_upd {H H' : Hp} {p : Addr} {o : HO} (s : Same H H') (h : H p = none) : Same H (upd H' p o) := fun b u e => by
  rw [upd_ne (ne_of_none e h)]
  exact s b u e
theorem same_new {H : Hp} {p : Addr} {o : HO} (h : H p = none) : Same H (upd H p o) := same_upd (Same.refl H) h
theorem sq_of {K : PySem.W.Frag} {H : Hp} {a : Addr} {xs : List V} (h : H a = some (.lst xs)) : SqL K H a xs := .inl (.inl h)
theorem st_of {K : PySem.W.Frag} {H : Hp} {a : Addr} {xs : List V} (h : H a = some (.tup xs)) : SqT K H a xs := .inl (.inl h)
theorem rd_same {H H' : Hp} {a : Addr} {u : HO} (s : Same H H') (h : Rd H a u) : Rd H' a u := by
  rcases h with h | ⟨o, h⟩
  · exact .inl (s _ _ h)
  · exact .inr ⟨o, s _ _ h⟩
theorem seqT {K : PySem.W.Frag} {H H' : Hp} {a : Addr} {xs : List V} (s : Same H H') (h : SqT K H a xs) : SqT K H' a xs := by
  rcases h with h | h
  · exact .inl (rd_same s h)
  · exact .inr h

section
variable {g : TG} {tt : TT} {te : TE} {vs : List Nat} {σ : L2.St} {H : Hp} {Q : VK}
/-- a comprehension whose elements make nothing that matters: ys the items, f which are kept, v what is made of them -/
theorem lcb_gen {α : Type} {J : It} {n : Nat} {G : Hp → Prop} (ys : List α) (inj : α → V) (f : α → Bool) (v : α → V) (w : Walk J n G (YAt (ys.map inj))) (hn : n = ys.length) (hG : ∀ H', Same H H' → G H') (hz : ys.length ≤ 100000)
    (hs : ∀ y H', y ∈ ys → Same H H' → ∀ (Y : V → Hp → Prop) (N : Hp → Prop), (f y = true → ∀ H4, Same H' H4 → Y (v y) H4) → (f y = false → ∀ H3, Same H' H3 → N H3) →
      g (inj y) (wipe σ vs) H' fun σ2 H2 => wipe σ2 vs = wipe σ vs ∧ tt σ2 H2 fun b H3 => if b = true then te σ2 H3 Y else N H3)
    (hd : ∀ D H', H D = none → Same H H' → H' D = some (.lst ((ys.filter f).map v)) → Q (.ref D) H') : LcB J g tt te vs σ H Q := by
  intro D hD
  refine lc_it w (fun i H' => Same H H' ∧ H' D = some (.lst (((ys.take i).filter f).map v))) ⟨same_new hD, upd_same⟩ (fun i H' _ p => hG H' p.1) ?_ ?_
  · rintro i x H1 H2 hi ⟨s, e⟩ ⟨rfl, hx⟩
    rw [List.getElem?_map] at hx
    cases hy : ys[i]? with
    | none =>
      rw [hy] at hx
      cases hx
    | some y =>
      rw [hy] at hx
      have ex : inj y = x := Option.some.inj hx
      subst ex
      have et : ys.take (i + 1) = ys.take i ++ [y] := by rw [List.take_add_one, hy]; rfl
      refine hs y _ (List.mem_of_getElem? hy) s _ _ (fun hf H4 s4 => ?_) (fun hf H3 s3 => ?_)
      · refine ⟨_, s4 _ _ e, ?_, same_upd (s.trans s4) hD, ?_⟩
        · refine slt ?_
          have h1 := List.length_filter_le f (ys.take i)
          have h2 := List.length_take_le i ys
          have h3 : i < ys.length := by omega
          rw [List.length_map]
          have h4 : (ys.take i).length = i := by rw [List.length_take]; omega
          omega
        · rw [upd_same, et, List.filter_append, List.map_append, List.filter_cons, if_pos hf]
          rfl
      · refine ⟨s.trans s3, ?_⟩
        rw [s3 _ _ e, et, List.filter_append, List.map_append, List.filter_cons, if_neg (by rw [hf]; decide)]
        simp
  · rintro H' ⟨s, e⟩
    rw [hn, List.take_length] at e
    exact hd D H' hD s e
theorem walk_strS {t : List Nat} : Walk (Its (S t)) t.length (fun _ => True) (YAt (t.map fun c => V.str (S [c]))) := by
  have w := walk_str (z := S t)
  have e : (S t).cps.size = t.length := S_len t
  rw [e] at w
  refine w.mono (fun _ _ => trivial) fun i H x H' _ _ ⟨h1, c, h2, h3⟩ => ⟨h1, ?_⟩
  have h4 : t[i]? = some c := by
    rw [← h2]
    show t[i]? = (t.toArray)[i]?
    rw [List.getElem?_toArray]
  rw [List.getElem?_map, h4, h3]
  rfl
theorem walk_rng {lo : Int} {n : Nat} : Walk (Itr lo n) n (fun _ => True) (YAt ((List.range n).map fun i : Nat => V.int (lo + (i : Int)))) :=
  walk_range.mono (fun _ _ => trivial) fun i H x H' hi _ ⟨h1, h2⟩ => ⟨h1, by rw [List.getElem?_map, List.getElem?_range hi, h2]; rfl⟩
theorem lcb_str (t : List Nat) (f : Nat → Bool) (v : Nat → V) (hz : t.length ≤ 100000)
    (hs : ∀ c H', c ∈ t → Same H H' → ∀ (Y : V → Hp → Prop) (N : Hp → Prop), (f c = true → ∀ H4, Same H' H4 → Y (v c) H4) → (f c = false → ∀ H3, Same H' H3 → N H3) →
      g (.str (S [c])) (wipe σ vs) H' fun σ2 H2 => wipe σ2 vs = wipe σ vs ∧ tt σ2 H2 fun b H3 => if b = true then te σ2 H3 Y else N H3)
    (hd : ∀ D H', H D = none → Same H H' → H' D = some (.lst ((t.filter f).map v)) → Q (.ref D) H') : LcB (Its (S t)) g tt te vs σ H Q :=
  lcb_gen t (fun c => V.str (S [c])) f v walk_strS rfl (fun _ _ => trivial) hz hs hd
theorem lcb_rng (lo : Int) (n : Nat) (f : Int → Bool) (v : Int → V) (hz : n ≤ 100000)
    (hs : ∀ (k : Nat) H', k < n → Same H H' → ∀ (Y : V → Hp → Prop) (N : Hp → Prop), (f (lo + k) = true → ∀ H4, Same H' H4 → Y (v (lo + k)) H4) → (f (lo + k) = false → ∀ H3, Same H' H3 → N H3) →
      g (.int (lo + k)) (wipe σ vs) H' fun σ2 H2 => wipe σ2 vs = wipe σ vs ∧ tt σ2 H2 fun b H3 => if b = true then te σ2 H3 Y else N H3)
    (hd : ∀ D H', H D = none → Same H H' → H' D = some (.lst ((((List.range n).map fun k : Nat => lo + (k : Int)).filter f).map v)) → Q (.ref D) H') : LcB (Itr lo n) g tt te vs σ H Q := by
  refine lcb_gen ((List.range n).map fun k : Nat => lo + (k : Int)) V.int f v (by rw [List.map_map]; exact walk_rng) (by rw [List.length_map, List.length_range]) (fun _ _ => trivial) (by rw [List.length_map, List.length_range]; exact hz) (fun y H' hy => ?_) hd
  obtain ⟨k, hk, rfl⟩ := List.mem_map.mp hy
  exact hs k H' (List.mem_range.mp hk)
theorem lcb_list {α : Type} {K : PySem.W.Frag} {a : Addr} (ys : List α) (inj : α → V) (f : α → Bool) (v : α → V) (hl : SqL K H a (ys.map inj)) (hz : ys.length ≤ 100000)
    (hs : ∀ y H', y ∈ ys → Same H H' → ∀ (Y : V → Hp → Prop) (N : Hp → Prop), (f y = true → ∀ H4, Same H' H4 → Y (v y) H4) → (f y = false → ∀ H3, Same H' H3 → N H3) →
      g (inj y) (wipe σ vs) H' fun σ2 H2 => wipe σ2 vs = wipe σ vs ∧ tt σ2 H2 fun b H3 => if b = true then te σ2 H3 Y else N H3)
    (hd : ∀ D H', H D = none → Same H H' → H' D = some (.lst ((ys.filter f).map v)) → Q (.ref D) H') : LcB (Itl K a) g tt te vs σ H Q :=
  lcb_gen ys inj f v walk_list (by rw [List.length_map]) (fun _ s => s.seq hl) hz hs hd
theorem filter_tt {α : Type} : ∀ l : List α, l.filter (fun _ => true) = l
  | [] => rfl
  | a :: l => by rw [List.filter_cons, if_pos rfl, filter_tt l]
/-- the same where all are kept -/
theorem lcb_strM (t : List Nat) (v : Nat → V) (hz : t.length ≤ 100000)
    (hs : ∀ c H', c ∈ t → Same H H' → ∀ (Y : V → Hp → Prop), (∀ H4, Same H' H4 → Y (v c) H4) → g (.str (S [c])) (wipe σ vs) H' fun σ2 H2 => wipe σ2 vs = wipe σ vs ∧ te σ2 H2 Y)
    (hd : ∀ D H', H D = none → Same H H' → H' D = some (.lst (t.map v)) → Q (.ref D) H') : LcB (Its (S t)) g tYes te vs σ H Q := by
  refine lcb_str t (fun _ => true) v hz (fun c H' hc s Y N h1 _ => ?_) (by rw [filter_tt]; exact hd)
  have h := hs c H' hc s Y (h1 rfl)
  exact h
end
end LH
/-! ### loops, frames -/
namespace LH
open PySem PySem.Spec PyProof.Rows L2
section
variable {g : TG} {tb : TS} {D : Ends} {σ : L2.St} {H : Hp} {K : PySem.W.Frag}
theorem forb_rng {lo : Int} {n : Nat} (Pv : Nat → L2.St → Hp → Prop) (h0 : Pv 0 σ H) (hs : ∀ (i : Nat) σ' H', i < n → Pv i σ' H' → g (.int (lo + i)) σ' H' fun σ2 H2 => tb { D with nx := Pv (i + 1), ct := Pv (i + 1), bk := D.nx } σ2 H2)
    (hd : ∀ σ' H', Pv n σ' H' → D.nx σ' H') : ForB (Itr lo n) g tb D σ H := for_range Pv h0 hs hd
theorem forb_list {a : Addr} {xs : List V} (Pv : Nat → L2.St → Hp → Prop) (h0 : Pv 0 σ H) (hl : ∀ i σ' H', i ≤ xs.length → Pv i σ' H' → SqL K H' a xs)
    (hs : ∀ i x σ' H', xs[i]? = some x → Pv i σ' H' → g x σ' H' fun σ2 H2 => tb { D with nx := Pv (i + 1), ct := Pv (i + 1), bk := D.nx } σ2 H2) (hd : ∀ σ' H', Pv xs.length σ' H' → D.nx σ' H') : ForB (Itl K a) g tb D σ H := for_list Pv h0 hl hs hd
end
/-- what was tracked is as it was, but at F (tuples are at no time another); nothing goes -/
def Fx (F : List Addr) (H H' : Hp) : Prop := ∀ c o, H c = some o → (∃ o', H' c = some o') ∧ ((c ∉ F ∨ ∃ xs, o = .tup xs) → H' c = some o)
/-- no tuple is there -/
def NT (H : Hp) (p : Addr) : Prop := ∀ xs, H p ≠ some (.tup xs)
section
variable {F G : List Addr} {H H1 H2 H' : Hp} {a b c p : Addr} {o : HO} {xs : List V} {K : PySem.W.Frag}
theorem nt_lst {H : Hp} {p : Addr} {ys : List V} (e : H p = some (.lst ys)) : NT H p := fun xs h => by
  rw [e] at h
  cases h
theorem nt_ins {H : Hp} {p C dx : Addr} {fs : List (Str × V)} (e : H p = some (.ins C dx fs)) : NT H p := fun xs h => by
  rw [e] at h
  cases h
theorem nt_dK {H : Hp} {p : Addr} {kvs : List (Key × V)} (e : H p = some (.dK kvs)) : NT H p := fun xs h => by
  rw [e] at h
  cases h
theorem Fx.refl (F : List Addr) (H : Hp) : Fx F H H := fun _ _ e => ⟨⟨_, e⟩, fun _ => e⟩
theorem Fx.trans (x : Fx F H H1) (y : Fx F H1 H2) : Fx F H H2 := fun c o e => by
  obtain ⟨⟨o1, e1⟩, k⟩ := x c o e
  exact ⟨(y c o1 e1).1, fun n => (y c o (k n)).2 n⟩
theorem Fx.of (s : Same H H') : Fx F H H' := fun c o e => ⟨⟨_, s c o e⟩, fun _ => s c o e⟩
theorem Fx.mono (x : Fx F H H') (h : ∀ c ∈ F, c ∈ G) : Fx G H H' := fun c o e => ⟨(x c o e).1, fun n => (x c o e).2 (n.imp (fun q m => q (h c m)) id)⟩
theorem Fx.comp (x : Fx F H H1) (y : Fx G H1 H2) (h : ∀ c ∈ G, c ∈ F ∨ H c = none) : Fx F H H2 := fun c o e => by
  obtain ⟨⟨o1, e1⟩, k⟩ := x c o e
  refine ⟨(y c o1 e1).1, fun n => (y c o (k n)).2 (n.imp (fun n m => ?_) id)⟩
  rcases h c m with q | q
  · exact n q
  · rw [e] at q
    cases q
theorem Fx.upd (h : p ∈ F) (hp : NT H p) : Fx F H (L2.upd H p o) := fun c u e => by
  refine ⟨?_, fun n => ?_⟩
  · by_cases q : c = p
    · exact ⟨o, by rw [q, upd_same]⟩
    · exact ⟨u, by rw [upd_ne q]; exact e⟩
  · have ne : c ≠ p := fun z => by
      rcases n with n | ⟨xs, n⟩
      · exact n (by rw [z]; exact h)
      · rw [z, n] at e
        exact hp xs e
    rw [upd_ne ne]
    exact e
theorem Fx.new (h : H p = none) : Fx F H (L2.upd H p o) := Fx.of (same_new h)
theorem Fx.up (x : Fx F H H1) (h : p ∈ F) (hp : NT H1 p) : Fx F H (L2.upd H1 p o) := x.trans (Fx.upd h hp)
theorem Fx.nw (x : Fx F H H1) (h : H1 p = none) : Fx F H (L2.upd H1 p o) := x.trans (Fx.new h)
theorem Fx.at (x : Fx F H H') (e : H c = some o) (n : c ∉ F) : H' c = some o := (x c o e).2 (.inl n)
theorem Fx.tup (x : Fx F H H') (e : H c = some (.tup xs)) : H' c = some (.tup xs) := (x c _ e).2 (.inr ⟨_, rfl⟩)
theorem Fx.same (x : Fx [] H H') : Same H H' := fun c o e => (x c o e).2 (.inl List.not_mem_nil)
theorem Fx.rd {u : HO} (x : Fx F H H') (h : Rd H a u) (n : a ∉ F) : Rd H' a u := by
  rcases h with h | ⟨o, h⟩
  · exact .inl (x.at h n)
  · exact .inr ⟨o, x.at h n⟩
theorem Fx.sql (x : Fx F H H') (h : SqL K H a xs) (n : a ∉ F) : SqL K H' a xs := h.elim (fun q => .inl (x.rd q n)) .inr
theorem Fx.sqt (x : Fx F H H') (h : SqT K H a xs) (n : a ∉ F) : SqT K H' a xs := h.elim (fun q => .inl (x.rd q n)) .inr
/-- what is free was free -/
theorem Fx.free (x : Fx F H H') (n : H' p = none) : H p = none := by
  cases e : H p with
  | none => rfl
  | some o =>
    obtain ⟨⟨o', q⟩, _⟩ := x p o e
    rw [n] at q
    cases q
theorem tru_lst (h : H a = some (.lst xs)) : TruV K (.ref a) H (decide (xs ≠ [])) := by
  refine .inl ⟨xs, sq_of h, ?_⟩
  cases xs <;> rfl
theorem ne_of2 {p q : Addr} {o u : HO} (e : H p = some o) (f : H q = some u) (n : o ≠ u) : p ≠ q := fun z => n (by
  rw [z, f] at e
  exact (Option.some.inj e).symm)
theorem ne_il {p q C dx : Addr} {fs : List (Str × V)} {ys : List V} (e : H p = some (.ins C dx fs)) (f : H q = some (.lst ys)) : p ≠ q := ne_of2 e f (by intro z; cases z)
theorem ne_new {p q : Addr} {o : HO} (e : H p = some o) (f : H q = none) : p ≠ q := ne_of_none e f
/-- an address that a method leaves in the place of another one -/
abbrev New (H : Hp) (l l' : Addr) : Prop := l' = l ∨ H l' = none
/-- a free one is none of those put -/
theorem un {x : Addr} (h : upd H x o p = none) : x ≠ p ∧ H p = none := by
  by_cases e : p = x
  · rw [e, upd_same] at h
    cases h
  · rw [upd_ne e] at h
    exact ⟨fun q => e q.symm, h⟩
theorem Fx.nil (s : Same H H') : Fx [] H H' := Fx.of s
end
end LH
/-! ## X1: an error caught and kept, isinstance of it; further rules: o.f as a target, text * n, list.count -/
namespace LH
open PySem PySem.Spec PyProof.Rows L2

/-- an error of the class C that was caught, at a -/
def KX (C a : Addr) : HO := .ext fun h => ∃ (oe : Obj) (vs : Array Value), h.get? a = some oe ∧ Zc (.ref C) none oe ∧ oe.data = .fields vs
theorem kx_ok {P : Program} {w : World} {H : Hp} {h : Heap} {a C : Addr} {oe : Obj} {vs : Array Value} (e : h.get? a = some oe) (z : Zc (.ref C) none oe) (d : oe.data = .fields vs) : ObjOk P w H h a (KX C a) :=
  ⟨⟨oe, vs, e, z, d⟩, ⟨oe, e⟩, fun _ _ ⟨o, v, q, r⟩ k => ⟨o, v, k o q, r⟩⟩
section
variable {X : Cx} {pins : List (Addr × Obj)} {σ : L2.St} {H : Hp} {s : Shared}
/-- an object that is pinned, made behind the entry: from now on it is tracked -/
theorem track {a C : Addr} {oe : Obj} {vs : Array Value} (I : Inv X ((a, oe) :: pins) σ H s) (n0 : X.s_0.heap.get? a = none) (z : Zc (.ref C) none oe) (d : oe.data = .fields vs) (np : ∀ p ∈ X.pn ++ pins, p.1 ≠ a) : Inv X pins σ (upd H a (KX C a)) s := by
  obtain ⟨ea, na, nL, nF, _⟩ := I.pin (a, oe) (List.mem_append_right _ List.mem_cons_self)
  have old : ∀ b o, X.s_0.heap.get? b = some o → b ≠ a := fun b o e q => by
    rw [q, n0] at e
    cases e
  have ne : ∀ b o, H b = some o → b ≠ a := fun b o e => ne_of_none e na
  have B := I.base
  refine ⟨I.ok, I.os, I.bare, ⟨B.keep, B.slot, fun b o e n hx => ?_, B.there, fun b xs e => ?_, fun b o u e => ?_, fun b ps e => ?_⟩, I.loc, I.cell, ?_, fun x c e => ?_, fun p hp => ?_, fun b u e => ?_, I.len⟩
  · rw [upd_ne (old b o e)]
    exact B.free b o e n hx
  · have q := B.tups b xs e
    rw [upd_ne (ne b _ q)]
    exact q
  · have q := B.frzs b o u e
    rw [upd_ne (ne b _ q)]
    exact q
  · obtain ⟨m, q⟩ := B.tbls b ps e
    exact ⟨m, by rw [upd_ne (ne b _ q)]; exact q⟩
  · rw [upd_ne (Ne.symm nL)]
    exact I.free
  · have nc : c ≠ a := fun q => by
      obtain ⟨v, o, ho, hd⟩ := I.cell x c e
      rw [q, ea] at ho
      cases ho
      rw [d] at hd
      cases hd
    rw [upd_ne nc]
    exact I.freeC x c e
  · have hp2 : p ∈ X.pn ++ (a, oe) :: pins := by
      rcases List.mem_append.mp hp with q | q
      · exact List.mem_append_left _ q
      · exact List.mem_append_right _ (List.mem_cons_of_mem _ q)
    obtain ⟨e, n, r⟩ := I.pin p hp2
    exact ⟨e, by rw [upd_ne (np p hp)]; exact n, r⟩
  · by_cases hb : b = a
    · rw [hb, upd_same] at e
      cases e
      rw [hb]
      exact kx_ok ea z d
    · rw [upd_ne hb] at e
      exact (I.hok b u e).stay (fun _ _ _ q => q) (fun c q => by rw [upd_ne (ne c _ q)]; exact q) fun c xs q => by rw [upd_ne (ne c _ q)]; exact q
/-- what the clause 'except x as n' wishes, its one statement keeping the error: slot i is n's -/
def wKeep (K : PySem.W.Frag) (c : Value) (i : Nat) (ts : Addr → Value → Option Addr → TS) (D : Ends) : WX := fun cls d σ H =>
  ∃ C, cls = .ref C ∧ d = none ∧ PySem.W.exmOne K cls c = some true ∧ ∀ a, H a = none → ts a cls d { nx := fun σ' H' => D.nx (σ'.set i none) (upd H' a (KX C a)), rt := fun _ _ => False } (σ.set i (some (.ref a))) H
variable {x n : Str} {c : Value} {i : Nat} {body suite : List Stmt} {b₀ : Stmt} {np pos pos' : Pos} {tb : WX → TS} {ts : Addr → Value → Option Addr → TS}
/-- try: body / except x as n: suite, where the suite keeps the error: behind it the error is tracked -/
theorem ps_try_keep (hs : X.stack = X.env :: X.outer) (hf : X.env.frame = some X.env.locals) (hex : X.ex = []) (hN : X.N.Nodup) (hi : X.N[i]? = some n) (hln : X.env.kindOf n = some .local) (hc : Names X x c)
    (hb : ∀ (W : WX) (pn : List (Addr × Obj)) (xe : Value → Shared → Prop), Takes (X.tr pn xe) W → PassesOwn (model X.prog X.w) X.A X.env xe → PSs (X.tr pn xe) body (tb W))
    (hsu : ∀ (a : Addr) (oe : Obj) (cls : Value) (d : Option Addr) (pn : List (Addr × Obj)), Zc cls d oe → (∃ vs, oe.data = .fields vs) → PSs (X.suite a ((a, oe) :: pn)) (b₀ :: suite) (ts a cls d)) :
    PS X (.Try body [.ExceptHandler (some (.Name x np)) (some n) (b₀ :: suite) pos'] [] [] pos) (fun D σ H => tb (wKeep X.K c i ts D) D σ H) := by
  refine ⟨fun pins s σ H D I h => wpAny_Try_except ?_⟩
  have ok := I.ok
  let land : Value → Shared → Prop := fun e z1 => wpAny (model X.prog X.w) X.A (noteFrame e X.env) (fun _ z2 => wpAny (model X.prog X.w) X.A (setFlight e none) (fun _ z3 =>
    wpAny (model X.prog X.w) X.A (handleBy e X.env [.ExceptHandler (some (.Name x np)) (some n) (b₀ :: suite) pos']) (SP X pins D) X.xe z3) X.xe z2) X.xe z1
  have through := (hb (wKeep X.K c i ts D) (X.pn ++ pins) land (fun u z xx => ?_) PassesOwn.looking).run [] s σ H D (I.toTry _) h
  · refine wpAny_mono through (fun f z1 q => ?_) (fun e z1 he => he)
    cases f with
    | next =>
      obtain ⟨σ1, H1, J, q⟩ := q
      exact wpAny_execs_nil ⟨σ1, H1, J.ofTry ok, q⟩
    | brk =>
      obtain ⟨σ1, H1, J, q⟩ := q
      exact ⟨σ1, H1, J.ofTry ok, q⟩
    | cont =>
      obtain ⟨σ1, H1, J, q⟩ := q
      exact ⟨σ1, H1, J.ofTry ok, q⟩
    | ret u =>
      obtain ⟨v, σ1, H1, J, r, q⟩ := q
      exact ⟨v, σ1, H1, J.ofTry ok, r, q⟩
  · -- the error is here
    obtain ⟨a, B, sI, pins2, σ1, H1, cls, d, rfl, J0, nb, up, sky, na, os, ag, C, rfl, rfl, hm, hyes⟩ := xx
    have J : Inv X pins σ1 H1 sI := J0.ofTry ok
    have sky1 : Sky B (X.env :: X.outer) a (Zc (.ref C) none) X.env.locals z.heap := hs ▸ sky
    show land (.ref a) z
    refine Sky.land Zc.steady (by rw [ok.frames, hs]) hf sky1 fun h3 fly up3 => ?_
    have K3 : Inv X pins σ1 H1 { z with heap := h3 } := J.landed nb fly.1 (up.trans up3) os ag
    obtain ⟨o3, v3, g3, z3, d3⟩ := fly.there
    have noFr : a ∉ frs (X.env :: X.outer) := fun hm => by
      obtain ⟨_, o, e, bad⟩ := fly.2.2.1.mem hm
      rw [g3] at e
      cases e
      exact bad _ d3
    have nL : a ≠ X.env.locals := fun q => noFr (List.mem_filterMap.mpr ⟨X.env, List.mem_cons_self, by rw [hf, q]⟩)
    have nF : a ∉ X.fs := fun hm => by
      obtain ⟨e, he, q⟩ := List.mem_filterMap.mp hm
      exact noFr (List.mem_filterMap.mpr ⟨e, List.mem_cons_of_mem _ he, q⟩)
    -- it is younger than the entry, and no pinned object
    have gone : sI.heap.get? a = none := by
      cases e : sI.heap.get? a with
      | none => rfl
      | some o =>
        have q := nb a o e (by rw [show (X.tr (X.pn ++ pins) land).stack = X.env :: X.outer from hs]; exact noFr)
        rw [fly.2.1] at q
        cases q
    have n0 : X.s_0.heap.get? a = none := by
      cases e : X.s_0.heap.get? a with
      | none => rfl
      | some o =>
        obtain ⟨o2, q⟩ := J.base.there a o e (by rw [hex]; exact List.not_mem_nil)
        rw [gone] at q
        cases q
    have nP : ∀ p ∈ X.pn ++ pins, p.1 ≠ a := fun p hp q => by
      have e := (J.pin p hp).1
      rw [q, gone] at e
      cases e
    have S3 := K3.suite g3 d3 na nL nF
    refine wpAny_handleBy_cons (codeAny_handlers_test ?_) (by intro q; cases q)
    have ty : PySem.W.Looks (model X.prog X.w) h3 (typeOf (.ref a)) (.ref C) := fun A Q E s k q => wpAny_typeOf_ref (k _ _ g3) (by rw [z3.1]; exact q)
    have named : ∀ {Q : Value → Shared → Prop} {E : Value → Shared → Prop}, Q c { z with heap := h3 } → wpAny (model X.prog X.w) (X.A.mark (some (.ref a))) (eval (.Name x np) X.env) Q E { z with heap := h3 } := fun {Q E} q => by
      obtain ⟨hg, hdb, hx | ⟨hx, hv, hnn⟩⟩ := hc
      · exact ld_glob (X := X.suite a ((a, o3) :: (X.pn ++ pins))) S3 hg hx q hdb
      · exact ld_blt (X := X.suite a ((a, o3) :: (X.pn ++ pins))) S3 hg hx hv q hnn hdb
    refine named ((PySem.W.exm_one (M := model X.prog X.w) K3.kIn ty hm).here (codeAny_handlers_suite_as (HandSPX.lands_againZ fly fun h4 fl4 up4 => ?_)))
    obtain ⟨o4, v4, g4, z4, d4⟩ := fl4.there
    have K4 : Inv X pins σ1 H1 { z with heap := h4 } := J.landed nb fl4.1 ((up.trans up3).trans up4) os ag
    have S4 := K4.suite g4 d4 na nL nF
    refine store_ok (X := X.suite a ((a, o4) :: (X.pn ++ pins))) (v := .ref a) S4 hN hi (.inl hln) rfl (fun s5 S5 => ?_) (.inr hln)
    refine wpAny_mono ((hsu a o4 (.ref C) none (X.pn ++ pins) z4 ⟨_, d4⟩).run [] s5 _ H1 _ S5 (hyes a na)) (fun f s6 hsp => ?_) (fun _ _ q => False.elim q)
    cases f with
    | next =>
      obtain ⟨σ6, H6, S6, q6⟩ := hsp
      have S7 : Inv X ((a, o4) :: pins) σ6 H6 s6 := (S6.unsuite ok).pins_of fun p hp => by
        rcases List.mem_cons.mp hp with e | hp
        · exact S6.pin p (by rw [e]; exact List.mem_append_left _ List.mem_cons_self)
        · exact S6.pin p (List.mem_append_left _ (List.mem_cons_of_mem _ (List.mem_append_right _ hp)))
      exact gone_ok S7 hN hi hln fun s7 J7 => ⟨_, _, track J7 n0 z4 d4 nP, q6⟩
    | brk =>
      obtain ⟨_, _, _, q⟩ := hsp
      exact False.elim q
    | cont =>
      obtain ⟨_, _, _, q⟩ := hsp
      exact False.elim q
    | ret u =>
      obtain ⟨_, _, _, _, _, q⟩ := hsp
      exact False.elim q
/-- isinstance(e, c), e an error that was kept -/
def rIsX (K : PySem.W.Frag) : List V → Hp → VK → Prop := fun xs H Q => ∃ (a C : Addr) (c : V) (cv : Value) (b : Bool), xs = [.ref a, c] ∧ H a = some (KX C a) ∧ ExcC K C ∧ (∀ u, RelV c u → u = cv) ∧ PySem.W.kitOne K (.ref C) cv = some b ∧ Q (.bl b) H
theorem call_isX : CallR X (.builtin "isinstance") (rIsX X.K) := by
  intro pins s σ H xs us Q I r h
  obtain ⟨a, D, c, cv, b, rfl, ha, C, hcv, e, q⟩ := h
  cases r with
  | cons rx rr =>
    cases rr with
    | cons rt rr =>
      cases rr
      cases rx
      have ec := hcv _ rt
      subst ec
      obtain ⟨⟨⟨oc, od, oda, osl⟩, vs, hget, ⟨h1, h2⟩, hv⟩, _⟩ := I.hok a _ ha
      dsimp only at h1 h2 hv
      subst h1 h2 hv
      exact PySem.W.kia_one (PySem.W.handS_kitx_exc C.hg C.hk C.hs C.hd C.ha C.hn C.ht C.hm) I.kIn ⟨hget, rfl, rfl, trivial⟩ e (fun z => nomatch z) fun tk => ⟨.bl b, H, I.kept (t' := tk) fun _ _ z => z, rfl, q⟩
/-- list.count of flat items -/
def rCntF (K : PySem.W.Frag) : V → List V → Hp → VK → Prop := fun x xs H Q => ∃ (p : Addr) (ys : List V) (y : V), x = .ref p ∧ xs = [y] ∧ SqL K H p ys ∧ flatV y = true ∧ ys.all flatV = true ∧ Q (.int (ys.countP fun z => eqV z y : Nat)) H
theorem count_rel {y : V} : ∀ {ys : List V} {us : List Value}, Vals ys us → ys.all flatV = true → us.countP (eqU y) = ys.countP fun z => eqV z y
  | [], [], _, _ => rfl
  | z :: ys, u :: us, .cons r t, f => by
    rw [List.all_cons, Bool.and_eq_true] at f
    rw [List.countP_cons, List.countP_cons, count_rel t f.2, eqU_of r f.1]
theorem mt_countB : MtR X "list.count" (rCntF X.K) := by
  intro pins s σ H x xs v us Q I rx rxs h
  obtain ⟨p, ys, y, rfl, rfl, hl, fy, fys, q⟩ := h
  cases rx
  obtain ⟨u, rfl, ru⟩ := rxs.one
  obtain ⟨its, rv, ⟨⟨cls, dd, data, sl⟩, n, ho, hc, hdn, hd⟩, hlen⟩ := I.list hl
  simp only at hc hd
  subst hc hd
  refine call_meets PySem.F.slot_list_count ⟨_, ho, rfl⟩ PySem.F.entry_list_count (PySem.F.args_list_count_2 _ _) (SeqAt.list_countAt p its.toArray n dd sl u (eqU y)) ⟨ho, fun u2 hu2 => mem_eqAt ru fy rv fys u2 (by simpa using hu2), ?_⟩
  have e : its.toArray.toList.countP (eqU y) = ys.countP fun z => eqV z y := count_rel rv fys
  refine ⟨.int (ys.countP fun z => eqV z y : Nat), H, I.tok _, ⟨s.toks, ?_⟩, q⟩
  show Value.int ((its.toArray.toList.countP (eqU y) : Nat) : Int) s.toks = _
  rw [e]
/-- o.f as a target among others -/
def gAttr (K : PySem.W.Frag) (to : TE) (f : Str) : TG := fun v σ H Q => to σ H fun x H1 => ∃ a C dx fs, x = .ref a ∧ H1 a = some (.ins C dx fs) ∧ Cls K C ∧ NoAttr K C f ∧ fs.length < 1000 ∧ Q σ (upd H1 a (.ins C dx (putF f v fs)))
theorem pg_attr {o : Expr} {f : Str} {to : TE} {pos : Pos} (ho : PE X o to) : PG X (.Attribute o f pos) (gAttr X.K to f) := by
  refine ⟨fun pins s σ H v u Q I r h => PySem.W.kas_attr (thn (ho.run pins s σ H _ I h) fun ov s1 hq => ?_)⟩
  obtain ⟨y, H1, I1, rx, a, C, dx, fs, rfl, ea, c, n, l, q⟩ := hq
  cases rx
  exact setattr_ok I1 ea c n l r fun s2 I2 => ⟨σ, _, I2, q⟩
/-- text * n -/
def rRepS : R2 := fun x y H Q => ∃ z k, x = .str z ∧ y = .int k ∧ MulOk z k ∧ Q (.str (Txt.mul z k)) H
theorem op_repS : OpR X (binaryOp .Mult) rRepS := by
  intro pins s σ H x y v u Q I rx ry h
  obtain ⟨z, k, rfl, rfl, hk, q⟩ := h
  obtain ⟨t, rfl⟩ := rx
  obtain ⟨t2, rfl⟩ := ry
  exact SB.mul hk fun t' k' => ⟨.str _, H, I.tok _, ⟨_, rfl⟩, q⟩
end
section
variable {X : Cx} {k : Nat} {C : Addr} {x m : Str} {ps : List Str} {sp : Sp} {E : L2.St → XK} {p pos apos : Pos} {e o : Expr} {es : List Expr} {ta : TE} {t : TA}
/-- calls in a try's body: what is let out is wished for at the slots -/
theorem pcS (D : Dn X.prog X.w X.K X.mg X.base k x ps sp) (hr : Room k X.A) (hx : ∀ σ, PassesAt (L2.CX X.prog X.w) X σ (E σ)) (ha : PA X (e :: es) t) (hg : Gl X x := by rfl) (hdb : (x == ("__debug__" : Str)) = false := by decide)
    (he : starEach (e :: es) X.env = (false, eval e X.env) :: starEach es X.env := by rfl) (hpl : (backTo pos (starEach es X.env)).any (·.1) = false := by rfl) : PE X (.Call (.Name x p) (e :: es) [] pos) (tCallS sp E t) := by
  obtain ⟨f, fd, F, b, hm, kp⟩ := D.ex
  exact pe_callS F hr hg hm kp b hx ha hdb he hpl
def tMethW (C : Addr) (m : Str) (sp : Sp) (E : L2.St → XK) (ta : TE) (t : TA) : TE := fun σ H Q => ta σ H fun x H1 => ∃ a dx fs, x = .ref a ∧ H1 a = some (.ins C dx fs) ∧ fs.lookup m = none ∧ t σ H1 fun vs H2 => sp (x :: vs) H2 Q (E σ)
theorem pmS {pl : Sem Bool} (M : Mt X.prog X.w X.K X.mg X.base k C m ps sp) (hr : Room k X.A) (hx : ∀ σ, PassesAt (L2.CX X.prog X.w) X σ (E σ)) (ho : PE X o ta) (ha : PA X (e :: es) t)
    (hst : starEach (e :: es) X.env = (false, eval e X.env) :: starEach es X.env := by rfl) (hpl : (backTo pos (starEach es X.env)).any (·.1) = false := by rfl)
    (ht : eval (.Call (.Attribute o m apos) (e :: es) [] pos) X.env = (do
      let ov ← eval o X.env
      standAt apos.atName
      let (f, first) ← holding [ov] (getMethod ov m pl)
      callWith pos f first (backTo pos (starEach (e :: es) X.env)) (backToKw pos (keywordEach [] X.env))) := by rfl) : PE X (.Call (.Attribute o m apos) (e :: es) [] pos) (tMethW C m sp E ta t) := by
  obtain ⟨f, fd, F, b, hm⟩ := M.ex
  refine ⟨fun pins s σ H Q I h => PySem.W.methodCall_KW (pl := pl) (thn (ho.run pins s σ H _ I h) fun u s1 hq => ?_) ht⟩
  obtain ⟨y, H1, I1, rx, a, dx, fs, rfl, ea, l, q⟩ := hq
  cases rx
  refine getmeth_ok I1 ea M.cl hm l (PySem.W.callWith_K (first := [.ref a]) (h₀ := X.base) I.ok.mod.kin hm.kp (thn (ha.run pos pins s1 σ H1 _ I1 q) fun us s2 hv => ?_) hst hpl)
  obtain ⟨vs, H2, I2, r, q2⟩ := hv
  exact ⟨I2.kIn, run_fnS (us := .ref a :: us) (vs := .ref a :: vs) F hr b (hx σ) I2 (.cons rfl r) q2⟩
/-- a new one, made in a try's body -/
def tMakeS (C : Addr) (sp : Sp) (E : L2.St → XK) (t : TA) : TE := fun σ H Q => t σ H fun vs H1 => ∀ x dx, H1 x = none → H1 dx = none → dx ≠ x →
  sp (.ref x :: vs) (upd (upd H1 dx (.own x)) x (.ins C dx [])) (fun v H2 => v = .non ∧ Q (.ref x) H2) (E σ)
theorem pnS (D : Mn X.prog X.w X.K X.mg X.base k x C ps sp) (hr : Room (k + 1) X.A) (hx : ∀ σ, PassesAt (L2.CX X.prog X.w) X σ (E σ)) (ha : PA X (e :: es) t) (hg : Gl X x := by rfl) (hdb : (x == ("__debug__" : Str)) = false := by decide)
    (he : starEach (e :: es) X.env = (false, eval e X.env) :: starEach es X.env := by rfl) (hpl : (backTo pos (starEach es X.env)).any (·.1) = false := by rfl) : PE X (.Call (.Name x p) (e :: es) [] pos) (tMakeS C sp E t) := by
  obtain ⟨f, fd, F, b, M⟩ := D.ex
  refine ⟨fun pins s0 σ H0 Q0 I0 h0 => ?_⟩
  refine wpAny_Call_Name_kw (ld_glob I0 hg D.gl ?_ hdb)
  refine PySem.W.callWith_K (h₀ := X.base) I0.ok.mod.kin M.kp (thn (ha.run pos pins s0 σ H0 _ I0 h0) fun us s ⟨vs, H, I, r, h⟩ => ⟨I.kIn, ?_⟩) he hpl
  have hq := h (s.heap.objs.size + 1) s.heap.objs.size (I.hok.fresh (Nat.le_succ _)) (I.hok.fresh (Nat.le_refl _)) (Nat.ne_of_lt (Nat.lt_succ_self _))
  have I2 := Inv.made (C := C) I
  have r2 : Vals (V.ref (s.heap.objs.size + 1) :: vs) (Value.ref (s.heap.objs.size + 1) :: us) := .cons rfl r
  have hl : (Value.ref (s.heap.objs.size + 1) :: us).length = ps.length := by
    have e := r2.length
    rw [F.len _ _ _ _ hq] at e
    exact e.symm
  have bt := b _ (Value.ref (s.heap.objs.size + 1) :: us) I2.kIn (by rw [List.append_nil]; exact hl)
  rw [List.append_nil] at bt
  refine wpAny_call (make_map (f := f) I.kIn M.makes M.init (beq_iff_eq.mp M.fn) (codeAny_mono (F.run _ X.stack _ _ ⟨Value.ref (s.heap.objs.size + 1) :: us, []⟩ (Value.ref (s.heap.objs.size + 1) :: us) _ _ (E σ) (hr.make C us [])
    (I2.env0.make C us []) bt r2 hq) fun r s' hq' => ?_))
  cases r with
  | error e => exact hx σ pins _ _ e s' I2 hq'
  | ok fl =>
    cases fl with
    | ret u =>
      obtain ⟨v, H', I3, rv, ev, q3⟩ := I2.after hq'
      subst ev
      exact ⟨rv, ⟨V.ref (s.heap.objs.size + 1), H', I3, rfl, q3⟩⟩
    | next => exact False.elim hq'
    | brk => exact False.elim hq'
    | cont => exact False.elim hq'
theorem pmS0 {pl : Sem Bool} (M : Mt X.prog X.w X.K X.mg X.base k C m ps sp) (hr : Room k X.A) (hx : ∀ σ, PassesAt (L2.CX X.prog X.w) X σ (E σ)) (ho : PE X o ta)
    (ht : eval (.Call (.Attribute o m apos) [] [] pos) X.env = (do
      let ov ← eval o X.env
      standAt apos.atName
      let (f, first) ← holding [ov] (getMethod ov m pl)
      callWith pos f first (backTo pos (starEach [] X.env)) (backToKw pos (keywordEach [] X.env))) := by rfl) : PE X (.Call (.Attribute o m apos) [] [] pos) (tMethW C m sp E ta tNil) := by
  obtain ⟨f, fd, F, b, hm⟩ := M.ex
  refine ⟨fun pins s σ H Q I h => PySem.W.methodCall_KW (pl := pl) (thn (ho.run pins s σ H _ I h) fun u s1 hq => ?_) ht⟩
  obtain ⟨y, H1, I1, rx, a, dx, fs, rfl, ea, l, q⟩ := hq
  cases rx
  exact getmeth_ok I1 ea M.cl hm l (PySem.W.callWith_K0 (first := [.ref a]) I1.kIn hm.kp (run_fnS (us := [.ref a]) (vs := [.ref a]) F hr b (hx σ) I1 (.cons rfl .nil) q))
end
/-- an attribute is handed out -/
def spGet (K : PySem.W.Frag) (C f : Str) : Sp := fun vs H Q _ => ∃ (x dx : Addr) (fs : List (Str × V)) (v : V), vs = [.ref x] ∧ H x = some (.ins (He.ga K C) dx fs) ∧ fs.lookup f = some v ∧ Q v H
end LH
/-! ## X2: sets of texts, fewer than 64: set(list), sorted(set) -/
namespace LH
open PySem PySem.Spec PyProof.Rows L2
open Froz (SD sObj TxOk addTx tailTx add_x is_str add_ok get_upd)
theorem perm_of_in {α : Type} [DecidableEq α] : ∀ {l L : List α}, l.Nodup → (∀ x ∈ l, x ∈ L) → L.length = l.length → l.Perm L
  | [], L, _, _, e => by rw [List.length_eq_zero_iff.mp e]
  | x :: r, L, nd, h, e => by
    obtain ⟨nx, nr⟩ := List.nodup_cons.mp nd
    have hx := h x List.mem_cons_self
    have p1 := List.perm_cons_erase hx
    have p2 : r.Perm (L.erase x) := perm_of_in nr (fun y hy => (List.mem_erase_of_ne fun z => nx (by rw [← z]; exact hy)).mpr (h y (List.mem_cons_of_mem _ hy))) (by
      have := p1.length_eq
      rw [List.length_cons] at this e
      omega)
    exact (p2.cons x).trans p1.symm
/-- the set at a holds these texts, each once; its table can be walked -/
def TSet (P : Program) (w : World) (h : Heap) (a : Addr) (l : List Str) : Prop :=
  ∃ D : SD, h.get? a = some (sObj "set" D) ∧ TxOk P w D l ∧ l.Nodup ∧ Ris D.2.2.place.toList ∧ (w.params.followText "set-order" = true ∨ D.2.2.led = true)
theorem addTx_ris {v : Int} {x : Value} {D : SD} (r : Ris D.2.2.place.toList) : Ris (addTx v x D).2.2.place.toList ∧ (addTx v x D).2.2.led = D.2.2.led := by
  obtain ⟨es, ep, t⟩ := D
  have h1 := layNew_ris t es v x r
  have h2 := layNew_led t es v x
  unfold addTx tailTx
  dsimp only at h1 h2 ⊢
  generalize layNew t es v x = Z at h1 h2 ⊢
  obtain ⟨es1, t1, wd, gv⟩ := Z
  dsimp only at h1 h2 ⊢
  have key : ∀ t2 : SetTable, Ris t2.place.toList → t2.led = t.led → Ris (if (!wd && t2.tooFull) = true then ((relayAll t2 es1 (SetTable.grown es1.size)).1, ep + 2, (relayAll t2 es1 (SetTable.grown es1.size)).2.1) else (es1, ep + 1, t2) : SD).2.2.place.toList ∧
      (if (!wd && t2.tooFull) = true then ((relayAll t2 es1 (SetTable.grown es1.size)).1, ep + 2, (relayAll t2 es1 (SetTable.grown es1.size)).2.1) else (es1, ep + 1, t2) : SD).2.2.led = t.led := fun t2 k1 k2 => by
    split
    · exact ⟨relayAll_ris t2 es1 _, (relayAll_led t2 es1 _).trans k2⟩
    · exact ⟨k1, k2⟩
  refine key _ ?_ ?_
  · split <;> exact h1
  · split <;> exact h2
section
variable {P : Program} {w : World} {A : Around} {E : Value → Shared → Prop} {s : Shared}
theorem TSet.at {h h' : Heap} {a : Addr} {l : List Str} (R : TSet P w h a l) (k : ∀ o, h.get? a = some o → h'.get? a = some o) : TSet P w h' a l := by
  obtain ⟨D, e, r⟩ := R
  exact ⟨D, k _ e, r⟩
/-- a text more, or the same one again -/
theorem tset_add {a : Addr} {l : List Str} {k : Str} {u : Tok} {Q : Bool → Shared → Prop} (R : TSet P w s.heap a l) (room : l.length + 1 < scanBound)
    (hQ : ∀ (b : Bool) (h' : Heap), (∀ c o, c ≠ a → s.heap.get? c = some o → h'.get? c = some o) → TSet P w h' a (if k ∈ l then l else k :: l) → Q b { s with heap := h' }) :
    wpAny (model P w) A (setAddHashed a (.str k u) (hashStr w k)) Q E s := by
  obtain ⟨D, e, F, nd, r, ld⟩ := id R
  by_cases hk : k ∈ l
  · rw [if_pos hk] at hQ
    obtain ⟨es, ep, t⟩ := D
    obtain ⟨x, hx, px⟩ := (F.mem k).mp hk
    have hn : ¬ List.findIdx? (fun y => (PySem.strKind P w).is k y.2) es.toList = none := fun z => by
      rw [List.findIdx?_eq_none_iff] at z
      rw [z x hx] at px
      cases px
    have bnd : es.size < scanBound := by
      have q : es.size = l.length := F.sz
      omega
    unfold setAddHashed setAddHashedIn
    refine wpAny_holding (wpAny_bind (wpAny_setState_of e (by rfl) F.fit ?_)); dsimp only
    rw [byScan_of (by rfl) bnd F.el]; simp only [↓reduceIte]
    unfold setAddByScan
    refine wpAny_bind (wpAny_bind (wpAny_rule (wpAny_bind (wpAny_setScan_of (knd := PySem.strKind P w) (k := k) (is_str k u) e (by rfl) F.fit F.el ?_))))
    cases q : List.findIdx? (fun y => (PySem.strKind P w).is k y.2) es.toList with
    | none => exact absurd q hn
    | some j =>
      dsimp only
      exact wpAny_pure (wpAny_pure (hQ _ s.heap (fun _ _ _ z => z) R))
  · rw [if_neg hk] at hQ
    obtain ⟨r2, ld2⟩ := addTx_ris (v := hashStr w k) (x := .str k u) r
    refine add_x e F hk room (hQ _ _ (fun c o nc z => ?_) ⟨_, get_upd _ e rfl, add_ok u F, List.nodup_cons.mpr ⟨hk, nd⟩, r2, ld.imp id fun z => by rw [ld2]; exact z⟩)
    rw [Heap.get?_update_other _ _ (Ne.symm nc)]
    exact z
/-- what the set has got of the first i -/
def GotS (xs : List Str) (i : Nat) (l : List Str) : Prop := l.length ≤ i ∧ ∀ x, x ∈ l ↔ x ∈ xs.take i
theorem GotS.next {xs l : List Str} {i : Nat} {x : Str} (g : GotS xs i l) (h : xs[i]? = some x) : GotS xs (i + 1) (if x ∈ l then l else x :: l) := by
  have et : xs.take (i + 1) = xs.take i ++ [x] := by rw [List.take_add_one, h]; rfl
  by_cases m : x ∈ l
  · rw [if_pos m]
    refine ⟨Nat.le_succ_of_le g.1, fun y => ?_⟩
    rw [et, List.mem_append, List.mem_singleton, g.2]
    exact ⟨.inl, fun z => z.elim id fun z => by rw [z]; exact (g.2 x).mp m⟩
  · rw [if_neg m]
    refine ⟨Nat.succ_le_succ g.1, fun y => ?_⟩
    rw [et, List.mem_append, List.mem_singleton, List.mem_cons, g.2]
    exact Or.comm
theorem tset_loop {I : Addr} {fp wr : List Addr} {G : Array GenState → Array GenState → Prop} {n : Nat} {Pv : Nat → Value → Prop} {St : Nat → Shared → Prop} {R : Result → Shared → Prop} (W : WalksS P w A.in1 I fp wr G n Pv St)
    (a : Addr) (na : a ∉ fp) (xs : List Str) (hn : xs.length = n) (few : n < 64) (val : ∀ i v, Pv i v → ∃ x t, xs[i]? = some x ∧ v = .str x t) :
    ∀ (k i : Nat) (s : Shared) (l : List Str), n - i = k → i ≤ n → St i s → TSet P w s.heap a l → GotS xs i l → (∀ s' l', Moved (a :: wr) G s s' → TSet P w s'.heap a l' → GotS xs n l' → R (.ok (.ret .none)) s') →
      codeAny (model P w) A (.builtin "set.update.loop" ⟨[.ref a, .ref I], []⟩) R s := by
  have nw : a ∉ wr := fun z => na (W.sub _ z)
  have up : ∀ b ∈ wr, b ∈ a :: wr := fun b hb => List.mem_cons_of_mem _ hb
  intro k
  induction k with
  | zero =>
    intro i s l ek hi st T g end_
    obtain rfl : i = n := by omega
    refine codeAny_builtin F.entry_set_update_loop ?_; rw [Around.under_plainId F.plain_set_update_loop _]
    show wpAny _ A.in1 (pyNext (.ref I) >>= _) _ _ s
    exact wpAny_bind (W.done s _ _ st fun s' m => wpAny_pure (end_ s' l (m.mono up) (T.at fun o e => m.heap a o nw e) g))
  | succ k ih =>
    intro i s l ek hi st T g end_
    refine codeAny_builtin F.entry_set_update_loop ?_; rw [Around.under_plainId F.plain_set_update_loop _]
    show wpAny _ A.in1 (pyNext (.ref I) >>= _) _ _ s
    refine wpAny_bind (W.item i s _ _ (by omega) st fun v s' pv st' m => ?_)
    obtain ⟨x, t, hx, rfl⟩ := val i v pv
    show wpAny _ A.in1 (holding [Value.str x t] (setAdd a (.str x t)) >>= _) _ _ s'
    refine wpAny_bind (wpAny_holding ?_); unfold setAdd
    refine wpAny_holding (wpAny_bind ((PySem.strKind P w).pyHash (k := x) (is_str x t) ?_))
    have T' : TSet P w s'.heap a l := T.at fun o e => m.heap a o nw e
    refine tset_add (s := { s' with toks := s'.toks + 1 }) T' (by have := g.1; unfold scanBound; omega) fun b h' kp T2 => ?_
    refine wpAny_pure ⟨plainId_quiet F.plain_set_update_loop _, ih (i + 1) _ _ (by omega) (by omega) (W.frame _ s' _ _ st' (Nat.le_succ _) fun b hb o e => kp b o (fun z => na (by rw [← z]; exact hb)) e) T2 (g.next hx) fun s'' l' m2 T3 g3 => ?_⟩
    exact end_ s'' l' (Moved.trans W.gtrans ((m.mono up).then_heap (Nat.le_succ _) fun b o hb e => kp b o (fun z => hb (by rw [z]; exact List.mem_cons_self)) e) m2) T3 g3
/-- a new, empty set -/
abbrev newSetO (w : World) : Obj := { cls := .type "set", dict := none, data := .set #[] 0 (.fresh 0 0 (!w.params.followText "set-order")) }
theorem tset_new {h : Heap} {a : Addr} (e : h.get? a = some (newSetO w)) : TSet P w h a [] := by
  refine ⟨(#[], 0, .fresh 0 0 (!w.params.followText "set-order")), e, TxOk.nil (by rfl), List.nodup_nil, List.Pairwise.nil, ?_⟩
  show _ ∨ (!w.params.followText "set-order") = true
  cases w.params.followText "set-order" <;> simp
theorem strs_get : ∀ {us : List Value} {xs : List Str}, StrsAre us xs → ∀ (i : Nat) (v : Value), us[i]? = some v → ∃ x t, xs[i]? = some x ∧ v = .str x t
  | _, _, .nil, i, v, h => by simp at h
  | _, _, .cons x t hr, 0, v, h => ⟨x, t, rfl, (Option.some.inj h).symm⟩
  | _, _, .cons x t hr, i + 1, v, h => strs_get hr i v h
set_option maxHeartbeats 3200000 in
theorem call_setS {l : Addr} {items : Array Value} {xs : List Str} {Q : Value → Shared → Prop} (hh : A.handled = none) (hl : s.heap.IsList l items) (hi : StrsAre items.toList xs) (few : xs.length < 64)
    (fin : ∀ (h' : Heap) (tk : Nat) (m : List Str), TSet P w h' s.heap.objs.size m → GotS xs xs.length m → (∀ b o, s.heap.get? b = some o → h'.get? b = some o) → Q (.ref s.heap.objs.size) { s with heap := h', toks := tk }) :
    wpAny (model P w) A (call (.type "set") [.ref l]) Q E s := by
  have isz : xs.length = items.size := by rw [← StrsAre.len_eq hi, Array.length_toList]
  obtain ⟨cc, cl, mro⟩ := F.called_set.mro; have md := F.called_set.made; have sb := F.called_set.sub
  refine wpAny_call (codeAny_of_tree ?_); show wpAny _ _ (callAny (.type "set") _) _ _ _
  refine wpAny_pure ⟨Code.quiet_builtin _ (by decide +kernel), codeAny_builtin F.entry_type_call ?_⟩; rw [Around.under_plain (weight_type_call_type "set" [.ref l] []) rfl]
  have n1 := F.called_set.notType; have n2 := F.called_set.canCreate; have n3 := F.typeCall_set_1 (.ref l)
  repeat (any_goals (first | assumption | wp_step))
  let N : Heap := s.heap.push (newSetO w)
  refine codeAny_mono (code_set_led1 (.ref l) (E := E) (Q₁ := fun obj z => obj = .ref s.heap.objs.size ∧ z = { s with heap := N }) ⟨rfl, rfl⟩) fun r z hr => ?_
  match r, hr with
  | .error e, hr => exact hr
  | .ok (.ret obj), hr =>
    obtain ⟨rfl, rfl⟩ := hr
    have hS : N.get? s.heap.objs.size = some (newSetO w) := Heap.get?_push_size _ rfl
    have hT : Shared.TypeIs { s with heap := N } (.ref s.heap.objs.size) "set" := ⟨_, hS, rfl⟩
    have i1 := F.called_set.init.lookup; have i2 := F.called_set.init.bind (.ref s.heap.objs.size)
    repeat (any_goals (first | assumption | wp_step))
    refine codeAny_mono (codeAny_call_builtin (R := wants (fun r y => r = .none ∧ ∃ h' tk m, y = { s with heap := h', toks := tk } ∧ TSet P w h' s.heap.objs.size m ∧ GotS xs xs.length m ∧ (∀ b o, s.heap.get? b = some o → h'.get? b = some o)) E)
      F.called_set.init.plain F.entry_set_init (check_set_init_1 hT ?_)) fun r₂ y hr₂ => ?_
    · obtain ⟨ol, hol, hcl, nl, hdl⟩ := hl
      obtain ⟨ocls, odict, odata, oslots⟩ := ol
      simp only at hcl hdl
      subst hcl hdl
      have hol' : N.get? l = some { cls := .type "list", dict := odict, data := .seq items nl, slots := oslots } := Heap.get?_push_of_some _ hol
      have s1 := F.sub_list_set; have s2 := F.sub_list_frozenset
      have s3 : (Value.type "list" == Value.type "dict") = false := by decide
      have hl1 : N.IsList l items := ⟨_, hol', rfl, nl, rfl⟩
      unfold Builtin.«set.__init__» noKeywords Builtin.Frozenset.updateFrom
      generalize hPI : pyIter = PI
      wp_walk
      subst hPI
      refine wpAny_pyIter_list hl1 (wpAny_bind (wpAny_runValue ?_))
      have lS : l < s.heap.objs.size := Heap.lt_size hol
      have zN : N.objs.size = s.heap.objs.size + 1 := Heap.size_push ..
      have nI : l ≠ N.objs.size := by rw [zN]; exact Nat.ne_of_lt (Nat.lt_succ_of_lt lS)
      have nf : s.heap.objs.size ∉ [N.objs.size, l] := by
        rw [zN]; simp only [List.mem_cons, List.not_mem_nil, or_false, not_or]
        exact ⟨Nat.ne_of_lt (Nat.lt_succ_self _), Nat.ne_of_gt lS⟩
      have h3 : A.in1.in1.in1.handled = none := by simp [hh]
      refine tset_loop ((Walks.list h3 _ l nI items).toS) s.heap.objs.size nf xs isz (by omega) (fun i v e => strs_get hi i v (by rw [Array.getElem?_toList]; exact e)) (items.size - 0) 0 _ [] (by omega) (Nat.zero_le _)
        ⟨⟨_, Heap.get?_push_size _ rfl, rfl, rfl⟩, hl1.push _⟩ (tset_new (Heap.get?_push_of_some _ hS)) ⟨Nat.le_refl _, fun x => by simp⟩ fun s' m mv T g => ?_
      obtain ⟨h', g', d', tk', os'⟩ := s'
      obtain rfl : g' = s.gens := mv.gens
      obtain rfl : d' = s.drawn := mv.drawn
      obtain rfl : os' = s.os := mv.os
      show wpAny _ _ _ _ _ _
      refine wpAny_pure ?_; show wpAny _ _ (ret Value.none) _ _ _
      rw [← isz] at g
      refine wpAny_pure ⟨rfl, h', tk', m, rfl, T, g, fun b o e => mv.heap b o ?_ (Heap.get?_push_of_some _ (Heap.get?_push_of_some _ e))⟩
      have bl := Heap.lt_size e
      rw [List.mem_cons, List.mem_singleton, show (s.heap.push (newSetO w)).objs.size = s.heap.objs.size + 1 from zN]
      exact fun z => z.elim (Nat.ne_of_lt bl) (Nat.ne_of_lt (Nat.lt_succ_of_lt bl))
    · match r₂, hr₂ with
      | .error e, hr₂ => exact hr₂
      | .ok (.ret r), hr₂ =>
        obtain ⟨rfl, h', tk, m, rfl, T, g, kp⟩ := hr₂
        repeat (any_goals (first | assumption | wp_step))
        exact fin _ _ _ T g kp
theorem sorted_setS {a : Addr} {l : List Str} {Q : Value → Shared → Prop} (R : TSet P w s.heap a l) (hh : A.handled = none) (few : l.length < 64)
    (fin : ∀ s' p (out : Array Value) (c : Nat) (ys : List Str), (∀ b o, s.heap.get? b = some o → s'.heap.get? b = some o) → s'.gens = s.gens → s'.os = s.os → s.heap.objs.size ≤ p → s'.heap.get? p = some (seqObj "list" out c) → StrsAre out.toList ys → ys.Perm l → sortedS ys = true → Q (.ref p) s') :
    wpAny (model P w) A (call (.builtin "sorted") [.ref a]) Q E s := by
  obtain ⟨⟨es, ep, t⟩, ho, F', nd, r, ld⟩ := R
  have fz : es.size = l.length := F'.sz
  refine Calls.call_function_entry kind_sorted plain_sorted entry_sorted (args_sorted1 _) ?_; unfold Builtin.«sorted»
  refine wpAny_bind (m := checkCount "sorted" 1 1 _) (wpAny_pure (wpAny_bind (collect_set (A := A.in1) hh ⟨_, ho, rfl, rfl⟩ F'.fit (by show es.size < scanBound; unfold scanBound; omega) r ld fun s1 vs k1 hz g1 o1 pm => ?_)))
  have vl : vs.length = l.length := by rw [pm.length_eq, List.length_map, Array.length_toList]; exact fz
  -- each value is one of the texts
  have ofv : ∀ v ∈ vs, ∃ x u, v = Value.str x u := fun v hv => by
    obtain ⟨e, he, q⟩ := List.mem_map.mp (pm.mem_iff.mp hv)
    obtain ⟨⟨k, ik, _⟩, _⟩ := F'.el e he
    rw [← q]
    obtain ⟨u, hu⟩ := Value.isStrOf_shape ik
    exact ⟨k, u, hu⟩
  have all : ∀ vs : List Value, (∀ v ∈ vs, ∃ x u, v = Value.str x u) → StrsAre vs (vs.map strOf) := fun vs => by
    induction vs with
    | nil => intro _; exact .nil
    | cons v vs ih =>
      intro h
      obtain ⟨x, u, rfl⟩ := h v List.mem_cons_self
      exact .cons x u (ih fun y hy => h y (List.mem_cons_of_mem _ hy))
  have hS := all vs ofv
  refine wpAny_bind (wpAny_newList ?_ (by rw [vl, sizeLine_eq]; omega))
  have hL : (s1.heap.push (seqObj "list" vs.toArray 0)).get? s1.heap.objs.size = some (seqObj "list" vs.toArray 0) := Heap.get?_push_size _ rfl
  refine wpAny_bind (wpAny_holding (wpAny_call_entry slot_list_sort ⟨_, hL, rfl⟩ entry_list_sort (list_sort_treeK strKind_oneLt hL hS.keysOf (fun v₁ v₂ rest e => keyKind_strs (by rw [← e]; exact hS)) (by omega) fun st' hp hs => ⟨_, rfl, ?_⟩) (args_list_sort _)))
  obtain ⟨ys, a1, a2, a3⟩ := sorted_out_str hS hp hs
  obtain ⟨c, hc⟩ := sortedHeap_at (vs := vs) (out := (arrOf st').map (·.2)) hL
  refine wpAny_pure ⟨_, rfl, fin _ s1.heap.objs.size _ c ys (fun b u e => ?_) g1 o1 hz hc a1 (a2.trans ?_) a3⟩
  · have e1 := k1 b u e
    have lt := Heap.lt_size e1
    show (sortedHeap (s1.heap.push (seqObj "list" vs.toArray 0)) s1.heap.objs.size vs _).get? b = some u
    rw [sortedHeap_old (Nat.ne_of_lt lt) (by rw [size_push']; exact Nat.lt_succ_of_lt lt)]
    exact Heap.get?_push_of_some _ e1
  · have mem : ∀ x ∈ l, x ∈ vs.map strOf := fun x hx => by
      obtain ⟨e, he, q⟩ := (F'.mem x).mp hx
      obtain ⟨u, hu⟩ := Value.isStrOf_shape q
      exact List.mem_map.mpr ⟨e.2, pm.mem_iff.mpr (List.mem_map.mpr ⟨e, he, rfl⟩), by rw [hu]; rfl⟩
    exact (perm_of_in nd mem (by rw [List.length_map]; exact vl)).symm
/-- the set of texts at a -/
def TSetO (P : Program) (w : World) (a : Addr) (l : List Str) : HO := .ext fun h => TSet P w h a l
theorem tsetO_ok {H : Hp} {h : Heap} {a : Addr} {l : List Str} (R : TSet P w h a l) : ObjOk P w H h a (TSetO P w a l) := by
  have ⟨D, ho, _⟩ := R
  exact ⟨R, ⟨_, ho⟩, fun h1 h2 p k => TSet.at p k⟩
end
section
variable {X : Cx}
/-- set(xs), xs a list of texts -/
def rSetS (K : PySem.W.Frag) (P : Program) (w : World) : List V → Hp → VK → Prop := fun vs H Q => ∃ (l : Addr) (xs : List Str), vs = [.ref l] ∧ SqL K H l (xs.map V.str) ∧ xs.length < 64 ∧
  ∀ a m, H a = none → m.length < 64 → (∀ x, x ∈ m ↔ x ∈ xs) → m.Nodup → Q (.ref a) (upd H a (TSetO P w a m))
theorem cr_setS (hc : X.calm = true) : CallR X (.type "set") (rSetS X.K X.prog X.w) := by
  intro pins s σ H vs us Q I r h
  obtain ⟨l, xs, rfl, hl, few, q⟩ := h
  rw [Vals.ref1 r]
  obtain ⟨its, rv, pl, _⟩ := I.list hl
  refine call_setS (P := X.prog) (w := X.w) (xs := xs) (I.ok.hd hc) pl.isList (by simpa using rv.strs) few fun h' tk m T g kp => ?_
  have nd : m.Nodup := let ⟨_, _, _, z, _⟩ := T; z
  exact ⟨.ref s.heap.objs.size, _, I.laid (t' := tk) kp (Nat.le_refl _) (tsetO_ok T), rfl, q _ m (I.hok.fresh (Nat.le_refl _)) (Nat.lt_of_le_of_lt g.1 few) (fun x => by rw [g.2, List.take_length]) nd⟩
/-- sorted(set) -/
def rSortSetS (P : Program) (w : World) : List V → Hp → VK → Prop := fun vs H Q => ∃ (a : Addr) (m : List Str), vs = [.ref a] ∧ H a = some (TSetO P w a m) ∧ m.length < 64 ∧
  ∀ (ys : List Str) (p : Addr), ys.Perm m → sortedS ys = true → H p = none → Q (.ref p) (upd H p (.lst (ys.map V.str)))
theorem cr_sortSetS (hc : X.calm = true) : CallR X (.builtin "sorted") (rSortSetS X.prog X.w) := by
  intro pins s σ H vs us Q I r h
  obtain ⟨a, m, rfl, ha, few, q⟩ := h
  have T : TSet X.prog X.w s.heap a m := (I.hok a _ ha).1
  rw [Vals.ref1 r]
  refine sorted_setS T (I.ok.hd hc) few fun s' p out c ys k g o hp hg hi pm so => ?_
  have hz : (ys.map V.str).length ≤ sizeLine := by rw [List.length_map, pm.length_eq, sizeLine_eq]; omega
  have hn : H p = none := I.hok.fresh hp
  have J : Inv X pins σ (upd H p (.lst (ys.map V.str))) { s with heap := s'.heap, gens := s'.gens, drawn := s'.drawn, toks := s'.toks } :=
    I.call (ch := []) (Un.laid k hp hn) (I.hok.laid k hp ⟨hz, out.toList, c, vals_of_strs hi, hg⟩) (by rw [g]; exact I.bare) (fun _ z => nomatch z)
  have e : s' = { s with heap := s'.heap, gens := s'.gens, drawn := s'.drawn, toks := s'.toks } := by cases s'; cases s; cases o; rfl
  rw [e]
  exact ⟨.ref p, _, J, rfl, q ys p pm so hn⟩
end
end LH
/-! ## F0: plain facts for fills: blanks, beginnings, texts in order -/
namespace LH
open PySem PySem.Spec PyProof.Rows L2
/-- where what is to be filled in begins: behind the last blank ahead of i -/
def blankStart (t : List Nat) : Nat → Nat
  | 0 => 0
  | k + 1 => if t[k]? = some 32 then k + 1 else blankStart t k
theorem blankStart_le (t : List Nat) : ∀ i, blankStart t i ≤ i
  | 0 => Nat.le_refl _
  | k + 1 => by
    unfold blankStart
    split
    · exact Nat.le_refl _
    · exact Nat.le_succ_of_le (blankStart_le t k)
theorem blankStart_at {t : List Nat} : ∀ {i j : Nat}, blankStart t i = j + 1 → t[j]? = some 32
  | 0, j, h => nomatch h
  | k + 1, j, h => by
    unfold blankStart at h
    split at h
    · obtain rfl : k = j := by omega
      assumption
    · exact blankStart_at h
theorem blankStart_no {t : List Nat} : ∀ {i k : Nat}, blankStart t i ≤ k → k < i → ¬ t[k]? = some 32
  | 0, k, _, h => absurd h (Nat.not_lt_zero _)
  | i + 1, k, h1, h2 => by
    unfold blankStart at h1
    by_cases c : t[i]? = some 32
    · rw [if_pos c] at h1
      omega
    · rw [if_neg c] at h1
      by_cases e : k = i
      · rw [e]
        exact c
      · exact blankStart_no h1 (by omega)
/-- it is the only one like this -/
theorem blankStart_is {t : List Nat} {i j : Nat} (h0 : j ≤ i) (h1 : j = 0 ∨ t[j - 1]? = some 32) (h2 : ∀ k, j ≤ k → k < i → ¬ t[k]? = some 32) : blankStart t i = j := by
  have l := blankStart_le t i
  by_cases lt : blankStart t i < j
  · rcases h1 with h1 | h1
    · omega
    · exact absurd h1 (blankStart_no (i := i) (k := j - 1) (by omega) (by omega))
  · by_cases gt : j < blankStart t i
    · obtain ⟨m, hm⟩ : ∃ m, blankStart t i = m + 1 := ⟨blankStart t i - 1, by omega⟩
      exact absurd (blankStart_at hm) (h2 m (by omega) (by omega))
    · omega
theorem rfind_blank {t : List Nat} {i : Nat} (hi : i ≤ t.length) : Txt.rfindIn (S t) (" " : Str) 0 (i : Int) + 1 = (blankStart t i : Nat) := by
  have hb : (" " : Str) = ⟨#[32]⟩ := by decide +kernel
  have e0 : fromIndex (S t).length 0 = 0 := by
    unfold fromIndex
    rw [if_neg (by omega)]
    rfl
  have e1 : toIndexW (S t).length (i : Int) = i := by
    unfold toIndexW
    rw [if_neg (by omega), S_len]
    omega
  have at1 : ∀ k, StrLaws.At (S t) ⟨#[32]⟩ i k ↔ k < i ∧ t[k]? = some 32 := fun k => by
    have q := StrLaws.subAt_one (S t) 32 k
    have l1 : (⟨#[32]⟩ : Str).length = 1 := rfl
    rw [l1, S_len] at q
    have e : (S t).cps.toList = t := S_tl t
    rw [e] at q
    show (k + (⟨#[32]⟩ : Str).length ≤ i ∧ _) ↔ _
    rw [l1]
    constructor
    · rintro ⟨a, b⟩
      exact ⟨by omega, q.mp ⟨by omega, b⟩⟩
    · rintro ⟨a, b⟩
      exact ⟨by omega, (q.mpr b).2⟩
  have key := StrLaws.last_run (S t) ⟨#[32]⟩ i (List.range' 0 (i + 1 - 0)) [] none (fun _ h => nomatch h) (fun _ h => nomatch h) (by simpa using List.pairwise_lt_range' (s := 0) (n := i + 1 - 0))
  show (match Builtin.Str.lastOccurrence (S t) (" " : Str) (fromIndex (S t).length 0) (toIndexW (S t).length (i : Int)) with | some k => (k : Int) | none => -1) + 1 = _
  rw [e0, e1, hb, StrLaws.last_eq]
  have mem : ∀ k, k < i → k ∈ ([] : List Nat) ++ List.range' 0 (i + 1 - 0) := fun k hk => by
    simp [List.mem_range']
    omega
  cases hr : (forIn (List.range' 0 (i + 1 - 0)) none (StrLaws.lastBody (S t) ⟨#[32]⟩ i)).run with
  | none =>
    rw [hr] at key
    have : blankStart t i = 0 := blankStart_is (Nat.zero_le _) (.inl rfl) fun k _ hk e => key k (mem k hk) ((at1 k).mpr ⟨hk, e⟩)
    rw [this]
    rfl
  | some k =>
    rw [hr] at key
    have ka := (at1 k).mp key.1
    have : blankStart t i = k + 1 := blankStart_is (by omega) (.inr ka.2) fun m hm hmi e => key.2 m (mem m hmi) (by omega) ((at1 m).mpr ⟨hmi, e⟩)
    rw [this]
    rfl
/-- whether a text begins so -/
def pre (b a : List Nat) : Bool := decide (a.take b.length = b)
theorem startswith_S (a b : List Nat) : Txt.startswith (S a) (S b) = pre b a := by
  show (decide (0 + (S b).length ≤ (S a).length) && Builtin.Str.subAt (S a) (S b) 0) = _
  rw [StrLaws.subAt_eq, S_len, S_len, S_tl, S_tl, List.drop_zero]
  unfold pre
  by_cases h : a.take b.length = b
  · have hl : b.length ≤ a.length := by
      have := congrArg List.length h
      rw [List.length_take] at this
      omega
    rw [decide_eq_true (by omega), h]
    simp
  · rw [decide_eq_false h]
    have : (a.take b.length == b) = false := by simpa using h
    rw [this, Bool.and_false]
theorem pre_iff {a b : List Nat} : pre b a = true ↔ a.take b.length = b := by
  unfold pre
  rw [decide_eq_true_iff]
theorem pre_take {a b : List Nat} {n : Nat} (h : pre b a = true) : pre (b.take n) a = true := by
  rw [pre_iff] at h ⊢
  have hb : b.take n = a.take (min n b.length) := by
    rw [← List.take_take, h]
  rw [List.length_take]
  exact hb.symm
/-- all of some begin with the first n signs of the first one -/
def okN (some : List (List Nat)) (n : Nat) : Bool := some.all fun w => pre ((some.headD []).take n) w
theorem okN_mono {some : List (List Nat)} {m n : Nat} (h : okN some n = true) (le : m ≤ n) : okN some m = true := by
  refine List.all_eq_true.mpr fun w hw => ?_
  have q := pre_take (n := m) (List.all_eq_true.mp h w hw)
  rw [List.take_take, Nat.min_eq_left le] at q
  exact q
def lcpN (some : List (List Nat)) : Nat → Nat
  | 0 => 0
  | n + 1 => if okN some (n + 1) = true then n + 1 else lcpN some n
theorem lcpN_le {some : List (List Nat)} : ∀ n, lcpN some n ≤ n
  | 0 => Nat.le_refl _
  | n + 1 => by
    unfold lcpN
    split
    · exact Nat.le_refl _
    · exact Nat.le_succ_of_le (lcpN_le n)
theorem lcpN_ok {some : List (List Nat)} (h0 : okN some 0 = true) : ∀ n, okN some (lcpN some n) = true
  | 0 => h0
  | n + 1 => by
    unfold lcpN
    split
    · assumption
    · exact lcpN_ok h0 n
theorem lcpN_no {some : List (List Nat)} : ∀ {n k : Nat}, lcpN some n < k → k ≤ n → ¬ okN some k = true
  | 0, k, h1, h2 => by omega
  | n + 1, k, h1, h2 => by
    unfold lcpN at h1
    by_cases c : okN some (n + 1) = true
    · rw [if_pos c] at h1
      omega
    · rw [if_neg c] at h1
      by_cases e : k = n + 1
      · rw [e]
        exact c
      · exact lcpN_no h1 (by omega)
/-- found from below: n is good, the next is not, or there is none -/
theorem lcpN_is {some : List (List Nat)} {m n : Nat} (h0 : n ≤ m) (h1 : okN some n = true) (h2 : n = m ∨ ¬ okN some (n + 1) = true) : lcpN some m = n := by
  have l := lcpN_le (some := some) m
  by_cases lt : lcpN some m < n
  · exact absurd h1 (lcpN_no lt h0)
  · by_cases gt : n < lcpN some m
    · rcases h2 with h2 | h2
      · omega
      · exact absurd (okN_mono (lcpN_ok (okN_mono h1 (Nat.zero_le _)) m) gt) h2
    · omega
theorem okN_zero (some : List (List Nat)) : okN some 0 = true := List.all_eq_true.mpr fun w _ => by
  rw [List.take_zero, pre_iff]
  rfl
/-- what all of some have in common; part, if there are none -/
def commonT (part : List Nat) (some : List (List Nat)) : List Nat := match some with
  | [] => part
  | w :: ws => w.take (lcpN (w :: ws) w.length)
/-! ### texts in order -/
def insW (x : List Nat) : List (List Nat) → List (List Nat)
  | [] => [x]
  | y :: r => if x < y then x :: y :: r else if x = y then y :: r else y :: insW x r
/-- sorted(set(ws)) -/
def srtW (ws : List (List Nat)) : List (List Nat) := ws.foldr insW []
theorem insW_mem {x z : List Nat} : ∀ {l : List (List Nat)}, z ∈ insW x l ↔ z = x ∨ z ∈ l
  | [] => by simp [insW]
  | y :: r => by
    unfold insW
    split
    · exact List.mem_cons
    · split
      · rename_i h
        rw [h]
        exact ⟨.inr, fun q => q.elim (fun q => by rw [q]; exact List.mem_cons_self) id⟩
      · rw [List.mem_cons, insW_mem, List.mem_cons]
        constructor
        · rintro (h | h | h)
          · exact .inr (.inl h)
          · exact .inl h
          · exact .inr (.inr h)
        · rintro (h | h | h)
          · exact .inr (.inl h)
          · exact .inl h
          · exact .inr (.inr h)
theorem srtW_mem {z : List Nat} : ∀ {ws : List (List Nat)}, z ∈ srtW ws ↔ z ∈ ws
  | [] => Iff.rfl
  | x :: ws => by
    show z ∈ insW x (srtW ws) ↔ _
    rw [insW_mem, srtW_mem, List.mem_cons]
theorem lt_or {x y : List Nat} (h : ¬ x < y) (n : x ≠ y) : y < x := by
  by_cases q : y < x
  · exact q
  · exact absurd (List.le_antisymm (List.not_lt.mp q) (List.not_lt.mp h)) n
theorem insW_srt {x : List Nat} : ∀ {l : List (List Nat)}, l.Pairwise (· < ·) → (insW x l).Pairwise (· < ·)
  | [], _ => List.pairwise_singleton _ _
  | y :: r, h => by
    obtain ⟨h1, h2⟩ := List.pairwise_cons.mp h
    unfold insW
    split
    · rename_i lt
      refine List.pairwise_cons.mpr ⟨fun z hz => ?_, h⟩
      rcases List.mem_cons.mp hz with q | q
      · rw [q]
        exact lt
      · exact List.lt_trans lt (h1 z q)
    · split
      · exact h
      · rename_i h3 h4
        refine List.pairwise_cons.mpr ⟨fun z hz => ?_, insW_srt h2⟩
        rcases insW_mem.mp hz with q | q
        · rw [q]
          exact lt_or h3 h4
        · exact h1 z q
theorem srtW_srt : ∀ (ws : List (List Nat)), (srtW ws).Pairwise (· < ·)
  | [] => List.Pairwise.nil
  | x :: ws => insW_srt (srtW_srt ws)
theorem srt_ext : ∀ {l m : List (List Nat)}, l.Pairwise (· < ·) → m.Pairwise (· < ·) → (∀ x, x ∈ l ↔ x ∈ m) → l = m
  | [], [], _, _, _ => rfl
  | [], b :: m, _, _, h => absurd ((h b).mpr List.mem_cons_self) List.not_mem_nil
  | a :: l, [], _, _, h => absurd ((h a).mp List.mem_cons_self) List.not_mem_nil
  | a :: l, b :: m, hl, hm, h => by
    obtain ⟨l1, l2⟩ := List.pairwise_cons.mp hl
    obtain ⟨m1, m2⟩ := List.pairwise_cons.mp hm
    have ab : a = b := by
      rcases List.mem_cons.mp ((h a).mp List.mem_cons_self) with q | q
      · exact q
      · rcases List.mem_cons.mp ((h b).mpr List.mem_cons_self) with q2 | q2
        · exact q2.symm
        · exact absurd (List.lt_trans (m1 a q) (l1 b q2)) (List.lt_irrefl _)
    subst ab
    have e : l = m := srt_ext l2 m2 fun x => by
      constructor
      · intro hx
        rcases List.mem_cons.mp ((h x).mp (List.mem_cons_of_mem _ hx)) with q | q
        · rw [q] at hx
          exact absurd (l1 a hx) (List.lt_irrefl _)
        · exact q
      · intro hx
        rcases List.mem_cons.mp ((h x).mpr (List.mem_cons_of_mem _ hx)) with q | q
        · rw [q] at hx
          exact absurd (m1 a hx) (List.lt_irrefl _)
        · exact q
    rw [e]
theorem ris_pw : ∀ {p : Str} {l : List Str}, risingS p l = true → (p :: l).Pairwise fun a b => ¬ b.cps.toList < a.cps.toList
  | p, [], _ => List.pairwise_singleton _ _
  | p, x :: r, h => by
    have h' : (!ltCps x.cps.toList p.cps.toList && risingS x r) = true := h
    rw [Bool.and_eq_true, Bool.not_eq_true', ltCps_eq, decide_eq_false_iff_not] at h'
    have ih := ris_pw h'.2
    obtain ⟨i1, _⟩ := List.pairwise_cons.mp ih
    refine List.pairwise_cons.mpr ⟨fun z hz => ?_, ih⟩
    rcases List.mem_cons.mp hz with q | q
    · rw [q]
      exact h'.1
    · intro lt
      have a := i1 z q
      by_cases e : x.cps.toList = z.cps.toList
      · exact h'.1 (by rw [e]; exact lt)
      · exact h'.1 (List.lt_trans (lt_or a fun w => e w.symm) lt)
theorem sortedS_pw {l : List Str} (h : sortedS l = true) : l.Pairwise fun a b => ¬ b.cps.toList < a.cps.toList := by
  cases l with
  | nil => exact List.Pairwise.nil
  | cons x r => exact ris_pw h
/-- what sorted(set(..)) gives is srtW -/
theorem sorted_is {ys m : List Str} {ws : List (List Nat)} (pm : ys.Perm m) (so : sortedS ys = true) (nd : m.Nodup) (h : ∀ x : Str, x ∈ m ↔ x ∈ ws.map S) : ys.map V.str = tvs (srtW ws) := by
  have e : ys.map (fun y => y.cps.toList) = srtW ws := by
    refine srt_ext ?_ (srtW_srt ws) fun x => ?_
    · rw [List.pairwise_map]
      have n2 : ys.Nodup := pm.nodup_iff.mpr nd
      refine (List.Pairwise.and (sortedS_pw so) n2).imp fun {a b} ⟨h1, h2⟩ => ?_
      by_cases lt : a.cps.toList < b.cps.toList
      · exact lt
      · exact absurd (lt_or lt fun q => h2 (TL.ext_tl q)) h1
    · rw [srtW_mem, List.mem_map]
      constructor
      · rintro ⟨y, hy, rfl⟩
        obtain ⟨z, hz, e⟩ := List.mem_map.mp ((h y).mp (pm.mem_iff.mp hy))
        rw [← e, S_tl]
        exact hz
      · intro hx
        exact ⟨S x, pm.mem_iff.mpr ((h _).mpr (List.mem_map.mpr ⟨x, hx, rfl⟩)), S_tl x⟩
  rw [← e, tvs, List.map_map]
  rfl
theorem srtW_len (ws : List (List Nat)) : (srtW ws).length ≤ ws.length := by
  have ins : ∀ (x : List Nat) (l : List (List Nat)), (insW x l).length ≤ l.length + 1 := fun x l => by
    induction l with
    | nil => exact Nat.le_refl _
    | cons y r ih =>
      unfold insW
      split
      · exact Nat.le_refl _
      · split
        · exact Nat.le_succ _
        · exact Nat.succ_le_succ ih
  induction ws with
  | nil => exact Nat.le_refl _
  | cons x ws ih =>
    show (insW x (srtW ws)).length ≤ _
    have := ins x (srtW ws)
    rw [List.length_cons]
    omega
end LH
open L2 LH PySem in
local macro_rules | `(tactic| walk_at "rd0") => `(tactic| simp only [L2.start, List.map_cons, List.map_nil, List.length_cons, List.length_nil, Nat.reduceAdd, Nat.reduceSub, List.replicate_succ, List.replicate_zero, List.cons_append, List.nil_append, List.append_nil])
open L2 LH PySem in
local macro_rules | `(tactic| walk_at "rd1") => `(tactic| dsimp only [tVar, tC, tOp, tUn, tAndV, tOrV, tNotV, tIf, tAnd, tOr, tNot, tB, tTest, tChain, tCons, tNil, tTup, tLst, tCB, tCall, tMeth, tMake, tFld, sFld, tSeq, tNext, tAsg, gName, tIfS, tRet, tRetN, tDrop, tM0, tM1, tBM, tBM0, rAppend, rPop, tLits, tCallS, tMethW, tMakeS, WE, wKeep, iStr, iRng1, iRng2, iList, iTup, tSl, tPart, tNoPart,
  rI, rI0, rU, rEq, rNe, rIxL, rIxT, rIxS, rSlS, rSlL])
open L2 LH PySem in
local macro_rules | `(tactic| walk_at "rd2") => `(tactic| simp only [List.getElem?_cons_zero, List.getElem?_cons_succ, List.set_cons_zero, List.set_cons_succ, List.cons_append, List.nil_append, List.append_nil, Option.some.injEq, V.int.injEq, V.str.injEq, V.bl.injEq, V.ref.injEq, List.cons.injEq, HO.ins.injEq, HO.lst.injEq, HO.tup.injEq, S_inj, ofS_inj, String.reduceEq, ex_eq, ex_eq', ex_eq0, tLc_eq, tFor_eq, iStr, iRng1, iRng2, iList, iTup, tVar, tC, tOp, tCons, tNil, tCB, tFld, tCallS, tMethW, tMakeS, WE, wKeep, tLits, tLst, tTup, wipe, rI, rI0, rU, rEq, rNe, scII, scSS, scBB, scNN, scNI, scNS, scNB, scIN, scSN, scBN, scIS, scSI, if_tt, if_ff, and_true, true_and, and_assoc, exists_and_left, exists_and_right, exists_const, cxK, decide_true, decide_false, Bool.not_true, Bool.not_false, eq_self_iff_true, Bool.true_eq_false, Bool.false_eq_true, if_true, if_false, reduceCtorEq, S_len, S_one, S_tl, decide_eq_true_eq, tUn, tAndV, tOrV, tNotV, tIf, tAnd, tOr, tNot, tB, tTest, tChain, tCall, tMeth, tMake, sFld, tSeq, tNext, tAsg, gName, tIfS, tRet, tRetN, tDrop, tM0, tM1, tBM, tBM0, rAppend, rPop, tSl, tPart, tNoPart, rIxL, rIxT, rIxS, rSlS, rSlL, rCat, iRng3, tRevL, tDisp, tPairs, tDGet, sDPut, gTup, gCons, gNil, gSub, gAttr, rSetL, tv])
local macro_rules | `(tactic| walk_at "rd") => `(tactic| ((try walk_at "rd0"); (try walk_at "rd1"); (try walk_at "rd2")))
/-! ## Words: signs, texts, places -/
namespace LH
open PySem PySem.Spec PyProof.Rows L2

def isSign (t : List Nat) : Bool := match t with
  | [c] => decide (32 ≤ c) && decide (c < 127) && decide (c ≠ 37)
  | _ => false
def okText (t : List Nat) : Bool := decide (t.length ≤ 400) && t.all fun c => isSign [c]
def letters : List Nat := ("abcdefghijklmnopqrstuvwxyzABCDEFGHIJKLMNOPQRSTUVWXYZ0123456789" : Str).cps.toList
def isLetC (c : Nat) : Bool := decide (c ∈ letters)
def isLet (t : List Nat) (i : Int) : Bool := decide (0 ≤ i) && (match t[i.toNat]? with
  | some c => isLetC c
  | none => false)
def spIsSign : Sp := fun vs H Q _ => ∃ t : List Nat, vs = [.str (S t)] ∧ t.length ≤ 100000 ∧ Q (.bl (isSign t)) H
/-- refused: an exception of that class -/
abbrev Rf (K : PySem.W.Frag) (c : Str) (E : XK) (H : Hp) : Prop := ∀ H', Same H H' → E (.ref (He.ga K c)) none H'
def spLookText (K : PySem.W.Frag) : Sp := fun vs H Q E => ∃ t : List Nat, vs = [.str (S t)] ∧ t.length ≤ 100000 ∧ if okText t = true then ∀ H', Same H H' → Q .non H' else Rf K "BadText" E H
def spLookPlace (K : PySem.W.Frag) : Sp := fun vs H Q E => ∃ (t : List Nat) (i : Int), vs = [.str (S t), .int i] ∧ t.length ≤ 100000 ∧ if 0 ≤ i ∧ i ≤ t.length then Q .non H else Rf K "BadPlace" E H
def spIsLetter : Sp := fun vs H Q _ => ∃ (t : List Nat) (i : Int), vs = [.str (S t), .int i] ∧ t.length ≤ 100000 ∧ Q (.bl (isLet t i)) H
theorem S_get0 (t : List Nat) : (S t).cps.getD 0 0 = t.getD 0 0 := by
  unfold S
  cases t <;> rfl
theorem isSign_lt {c : Nat} (h : isSign [c] = true) : c < 128 := by
  have e : (decide (32 ≤ c) && decide (c < 127) && decide (c ≠ 37)) = true := h
  simp only [Bool.and_eq_true, decide_eq_true_eq] at e
  omega
theorem okText_lt {t : List Nat} (h : okText t = true) : ∀ c ∈ t, c < 128 := fun c hc => by
  unfold okText at h
  exact isSign_lt (List.all_eq_true.mp (Bool.and_eq_true_iff.mp h).2 c hc)
theorem okText_len {t : List Nat} (h : okText t = true) : t.length ≤ 400 := by
  unfold okText at h
  exact of_decide_eq_true (Bool.and_eq_true_iff.mp h).1
section
variable {P : Program} {w : World} {K : PySem.W.Frag} {mg : Str → Option Value} {base : Heap}
theorem d_is_sign (T : TX K mg) : Dn P w K mg base 1 "is_sign" p_is_sign spIsSign := by
  refine dn_of (fn_is_sign T) (g_is_sign T) sc_is_sign bd_is_sign (fun vs H Q E h => ?_) (fun cdv A outer s H vs Q E hr h => ?_)
  · obtain ⟨t, rfl, _⟩ := h
    rfl
  · obtain ⟨t, rfl, ht, k⟩ := h
    refine ⟨_, (pss_one (ps_ret (pe_and (pe_cmpR op_eq (pe_callB call_len_str (by rfl) (b_len T) boot_len (pa_cons (pv 0) pa_nil)) pe_int (nomark _)) (pe_and (pe_chain op_le op_lt pe_int (pe_callB call_ord (by rfl) (b_ord T) (by decide +kernel) (pa_cons (pv 0) pa_nil)) pe_int) (pe_one (pe_cmpR op_ne (pe_callB call_ord (by rfl) (b_ord T) (by decide +kernel) (pa_cons (pv 0) pa_nil)) pe_int (nomark _))))))), ?_⟩
    walk_at "rd"
    refine ⟨sline ht, ?_⟩
    match t, k with
    | [], k => exact k
    | [c], k =>
      rw [S_get0, if_pos (show (([c].length : Nat) : Int) = 1 from rfl)]
      refine ⟨rfl, ?_⟩
      have e : isSign [c] = (decide (32 ≤ c) && decide (c < 127) && decide (c ≠ 37)) := rfl
      rw [e] at k
      have ec : [c].getD 0 0 = c := rfl
      rw [ec]
      by_cases h1 : 32 ≤ c
      · rw [if_pos (show (32 : Int) ≤ (c : Int) by omega)]
        by_cases h2 : c < 127
        · rw [if_pos (show (c : Int) < 127 by omega)]
          refine ⟨rfl, ?_⟩
          have e2 : (decide (32 ≤ c) && decide (c < 127) && decide (c ≠ 37)) = !decide ((c : Int) = 37) := by
            rw [decide_eq_true h1, decide_eq_true h2]
            by_cases h3 : c = 37
            · subst h3; rfl
            · rw [decide_eq_true h3, decide_eq_false (show ¬ (c : Int) = 37 by omega)]; rfl
          rw [e2] at k
          exact k
        · rw [if_neg (show ¬ (c : Int) < 127 by omega)]
          rw [decide_eq_false h2, Bool.and_false, Bool.false_and] at k
          exact k
      · rw [if_neg (show ¬ (32 : Int) ≤ (c : Int) by omega)]
        rw [decide_eq_false h1, Bool.false_and, Bool.false_and] at k
        exact k
    | a :: b :: r, k =>
      rw [if_neg (show ¬ (((a :: b :: r).length : Nat) : Int) = 1 by rw [List.length_cons, List.length_cons]; omega)]
      exact k
theorem d_look_place (T : TX K mg) : Dn P w K mg base 1 "look_place" p_look_place (spLookPlace K) := by
  refine dn_of (fn_look_place T) (g_look_place T) sc_look_place bd_look_place (fun vs H Q E h => ?_) (fun cdv A outer s H vs Q E hr h => ?_)
  · obtain ⟨t, i, rfl, _⟩ := h
    rfl
  · obtain ⟨t, i, rfl, ht, k⟩ := h
    refine ⟨_, (pss_one (ps_if (pt_not (pt_chain op_le op_le pe_int (pv 1) (pe_callB call_len_str (by rfl) (b_len T) boot_len (pa_cons (pv 0) pa_nil)))) (pss_one (ps_raise rfl (takes_of rfl rfl rfl rfl) (pmk_own PySem.F.excBase_ValueError (xc_BadPlace T).1 (g_BadPlace T) (xc_BadPlace T).2.1 (raises_own (xc_BadPlace T).2.2.1 (xc_BadPlace T).2.2.2) rfl))) pss_nil)), ?_⟩
    walk_at "rd"
    by_cases h0 : 0 ≤ i
    · rw [if_pos h0]
      refine ⟨sline ht, ?_⟩
      by_cases h1 : i ≤ (t.length : Int)
      · rw [if_pos ⟨h0, h1⟩] at k
        rw [decide_eq_true h1]
        exact k
      · rw [if_neg fun z => h1 z.2] at k
        rw [decide_eq_false h1]
        exact k H (Same.refl H)
    · rw [if_neg h0]
      rw [if_neg fun z => h0 z.1] at k
      exact k H (Same.refl H)
theorem d_look_text (T : TX K mg) : Dn P w K mg base 2 "look_text" p_look_text (spLookText K) := by
  refine dn_of (fn_look_text T) (g_look_text T) sc_look_text bd_look_text (fun vs H Q E h => ?_) (fun cdv A outer s H vs Q E hr h => ?_)
  · obtain ⟨t, rfl, _⟩ := h
    rfl
  · obtain ⟨t, rfl, ht, k⟩ := h
    refine ⟨_, (pss_one (ps_if (PW.pt (pw_or (pt_cmpR op_gt (pe_callB call_len_str (by rfl) (b_len T) boot_len (pa_cons (pv 0) pa_nil)) (pgi (i_MOST_TEXT T)) (nomark _)) (pw_or1 (pt_not (pt_val (pe_callB (cr_all rfl) (by rfl) (b_all T) (by decide +kernel) (pa_cons (pe_lc (own := [("sign", 1)]) rfl sc_look_text.nd (pi_str (pv 0)) (blkOk_by (own := [("sign", 1)]) (N := n_look_text) (sc := defScope s_look_text) (by decide +kernel)) (fun _ _ _ _ _ => (pg_name (i := 1) sc_look_text.nd rfl (Or.inl rfl))) (fun _ _ _ _ _ => pts_nil) (fun _ _ _ _ _ => (pc (d_is_sign T) (hr.mono (by decide)) px0 (pa_cons (pv 1) pa_nil)))) pa_nil))))))) (pss_one (ps_raise rfl (takes_of rfl rfl rfl rfl) (pmk_own PySem.F.excBase_ValueError (xc_BadText T).1 (g_BadText T) (xc_BadText T).2.1 (raises_own (xc_BadText T).2.2.1 (xc_BadText T).2.2.2) rfl))) pss_nil)), ?_⟩
    walk_at "rd"
    refine ⟨sline ht, ?_⟩
    unfold okText at k
    by_cases h4 : (400 : Int) < (t.length : Int)
    · rw [if_pos h4]
      rw [decide_eq_false (by omega), Bool.false_and, if_neg Bool.false_ne_true] at k
      exact k H (Same.refl H)
    · rw [if_neg h4]
      rw [decide_eq_true (show t.length ≤ 400 by omega), Bool.true_and] at k
      refine lcb_strM t (fun c => .bl (isSign [c])) (by omega) (fun c H' hc s Y hY => ?_) (fun D H' hD s e => ?_)
      · walk_at "rd"
        exact ⟨[c], rfl, by simp, hY H' (Same.refl H')⟩
      · refine ⟨D, t.map fun c => isSign [c], rfl, sq_of (by rw [e, List.map_map]; rfl), _, rfl, ?_⟩
        have ea : (t.map fun c => isSign [c]).all id = t.all fun c => isSign [c] := by rw [List.all_map]; rfl
        rw [ea]
        cases ho : t.all fun c => isSign [c] with
        | true =>
          rw [ho] at k
          exact k H' s
        | false =>
          rw [ho] at k
          exact k H' s
end
/-- a text that may be, a place in it: what follows; else the refusals in turn -/
def Tried (K : PySem.W.Frag) (t : List Nat) (i : Int) (E : XK) (H : Hp) (A : Prop) : Prop :=
  if okText t = true then (if 0 ≤ i ∧ i ≤ t.length then A else Rf K "BadPlace" E H) else Rf K "BadText" E H
theorem Rf.at {K : PySem.W.Frag} {c : Str} {E : XK} {H H1 : Hp} (h : Rf K c E H) (s : Same H H1) : Rf K c E H1 := fun H' s' => h H' (s.trans s')
/-- both looks, in turn -/
theorem tried_looks {K : PySem.W.Frag} {t : List Nat} {i : Int} {E : XK} {H : Hp} {A : Prop} {R : V → Hp → Prop} (ht : t.length ≤ 100000) (k : Tried K t i E H A)
    (hA : okText t = true → 0 ≤ i → i ≤ t.length → A → ∀ H1, Same H H1 → R .non H1) : spLookText K [.str (S t)] H (fun _ H1 => spLookPlace K [.str (S t), .int i] H1 (fun x H2 => R x H2) E) E := by
  refine ⟨t, rfl, ht, ?_⟩
  unfold Tried at k
  by_cases ho : okText t = true
  · rw [if_pos ho] at k ⊢
    intro H1 s1
    refine ⟨t, i, rfl, ht, ?_⟩
    by_cases hp : 0 ≤ i ∧ i ≤ t.length
    · rw [if_pos hp] at k ⊢
      exact hA ho hp.1 hp.2 k H1 s1
    · rw [if_neg hp] at k ⊢
      exact k.at s1
  · rw [if_neg ho] at k ⊢
    exact k
theorem Tried.imp {K : PySem.W.Frag} {t : List Nat} {i : Int} {E : XK} {H : Hp} {A B : Prop} (k : Tried K t i E H A) (h : okText t = true → 0 ≤ i → i ≤ t.length → A → B) : Tried K t i E H B := by
  unfold Tried at k ⊢
  by_cases ho : okText t = true
  · rw [if_pos ho] at k ⊢
    by_cases hp : 0 ≤ i ∧ i ≤ t.length
    · rw [if_pos hp] at k ⊢
      exact h ho hp.1 hp.2 k
    · rw [if_neg hp] at k ⊢
      exact k
  · rw [if_neg ho] at k ⊢
    exact k
end LH
/-! ## D1: the law's draws; how a refusal is told -/
namespace LH
open PySem PySem.Spec PyProof.Rows L2
/-- the script at a (it is no town), the town at b: its length the draws so far, at most z -/
structure Dr (K : PySem.W.Frag) (H : Hp) (a b : Addr) (ns : List Int) (z : Nat) : Prop where
  scr : (Rd H a (.lst (ns.map V.int)) ∧ a ≠ b) ∨ ∀ H' : Hp, SqL K H' a (ns.map V.int)
  len : ns.length ≤ 63
  tow : ∃ zs, H b = some (.lst zs) ∧ zs.length ≤ z
theorem Dr.sql {K : PySem.W.Frag} {H : Hp} {a b : Addr} {ns : List Int} {z : Nat} (d : Dr K H a b ns z) : SqL K H a (ns.map V.int) := d.scr.elim (fun q => .inl q.1) fun q => q H
theorem Dr.mono {K : PySem.W.Frag} {H : Hp} {a b : Addr} {ns : List Int} {z z' : Nat} (d : Dr K H a b ns z) (h : z ≤ z') : Dr K H a b ns z' :=
  ⟨d.scr, d.len, let ⟨zs, e, l⟩ := d.tow; ⟨zs, e, Nat.le_trans l h⟩⟩
/-- carried over what leaves the town and the script -/
theorem Dr.fx {K : PySem.W.Frag} {F : List Addr} {H H' : Hp} {a b : Addr} {ns : List Int} {z : Nat} (d : Dr K H a b ns z) (x : Fx F H H') (na : (∃ u, Rd H a u) → a ∉ F) (nb : b ∉ F) : Dr K H' a b ns z :=
  ⟨d.scr.elim (fun q => .inl ⟨x.rd q.1 (na ⟨_, q.1⟩), q.2⟩) .inr, d.len, let ⟨zs, e, l⟩ := d.tow; ⟨zs, x.at e nb, l⟩⟩
theorem Dr.same {K : PySem.W.Frag} {H H' : Hp} {a b : Addr} {ns : List Int} {z : Nat} (d : Dr K H a b ns z) (s : Same H H') : Dr K H' a b ns z := d.fx (F := []) (Fx.of s) (fun _ => List.not_mem_nil) List.not_mem_nil
theorem Dr.there {K : PySem.W.Frag} {H : Hp} {a b : Addr} {ns : List Int} {z : Nat} (d : Dr K H a b ns z) : H b ≠ none := by
  obtain ⟨zs, e, _⟩ := d.tow
  rw [e]
  exact fun q => nomatch q
/-- the script is a constant of the module -/
abbrev Cst (K : PySem.W.Frag) (a : Addr) (ns : List Int) : Prop := ∀ H' : Hp, SqL K H' a (ns.map V.int)
/-- the script is none of these -/
def Ap (K : PySem.W.Frag) (a : Addr) (ns : List Int) (F : List Addr) : Prop := Cst K a ns ∨ a ∉ F
theorem Dr.new {K : PySem.W.Frag} {H : Hp} {a b c : Addr} {ns : List Int} {z : Nat} (d : Dr K H a b ns z) (h : H c = none) : Ap K a ns [c] := by
  rcases d.scr with ⟨q, _⟩ | q
  · refine .inr fun m => ?_
    rw [List.mem_singleton] at m
    rw [← m] at h
    rcases q with q | ⟨o, q⟩
    · rw [h] at q
      cases q
    · rw [h] at q
      cases q
  · exact .inl q
theorem Ap.cons {K : PySem.W.Frag} {a c : Addr} {ns : List Int} {F : List Addr} (h : Ap K a ns [c]) (g : Ap K a ns F) : Ap K a ns (c :: F) := by
  rcases h with h | h
  · exact .inl h
  · rcases g with g | g
    · exact .inl g
    · refine .inr fun m => ?_
      rcases List.mem_cons.mp m with m | m
      · exact h (by rw [m]; exact List.mem_cons_self)
      · exact g m
theorem Ap.mono {K : PySem.W.Frag} {a : Addr} {ns : List Int} {F G : List Addr} (h : Ap K a ns G) (s : ∀ c ∈ F, c ∈ G) : Ap K a ns F := h.imp id fun n m => n (s a m)
theorem Dr.fy {K : PySem.W.Frag} {F : List Addr} {H H' : Hp} {a b : Addr} {ns : List Int} {z : Nat} (d : Dr K H a b ns z) (x : Fx F H H') (na : Ap K a ns F) (nb : b ∉ F) : Dr K H' a b ns z := by
  refine ⟨?_, d.len, let ⟨zs, e, l⟩ := d.tow; ⟨zs, x.at e nb, l⟩⟩
  rcases na with na | na
  · exact .inr na
  · exact d.scr.elim (fun q => .inl ⟨x.rd q.1 na, q.2⟩) .inr
theorem Dr.ne {K : PySem.W.Frag} {H : Hp} {a b c : Addr} {ns : List Int} {z : Nat} (d : Dr K H a b ns z) (h : H c = none) : b ≠ c := fun e => by
  obtain ⟨zs, q, _⟩ := d.tow
  rw [e, h] at q
  cases q
/-- a script, a new town -/
theorem Dr.start {K : PySem.W.Frag} {H : Hp} {a p : Addr} {ns : List Int} (hS : SqL K H a (ns.map V.int)) (hl : ns.length ≤ 63) (hp : H p = none) : Dr K (upd H p (.lst [])) a p ns 0 := by
  refine ⟨?_, hl, [], upd_same, Nat.le_refl _⟩
  rcases hS with h | h
  · have ne : a ≠ p := by
      rcases h with h | ⟨o, h⟩
      · exact ne_of_none h hp
      · exact ne_of_none h hp
    exact .inl ⟨(Fx.of (F := []) (same_new hp)).rd h List.not_mem_nil, ne⟩
  · exact .inr fun _ => .inr h
def spCell (K : PySem.W.Frag) : Sp := fun vs H Q _ => ∃ (a : Addr) (ns : List Int) (k : Int), vs = [.ref a, .int k] ∧ SqL K H a (ns.map V.int) ∧ ns.length ≤ 63 ∧ 0 ≤ k ∧ ∀ i : Int, Q (.int i) H
def spMix (K : PySem.W.Frag) : Sp := fun vs H Q _ => ∃ (a : Addr) (ns : List Int) (k : Int), vs = [.ref a, .int k] ∧ SqL K H a (ns.map V.int) ∧ ns.length ≤ 63 ∧ 0 ≤ k ∧ k ≤ 100000 ∧ ∀ i : Int, 0 ≤ i → i < 4294967231 → Q (.int i) H
def spDraw (K : PySem.W.Frag) : Sp := fun vs H Q _ => ∃ (a b : Addr) (m : Int) (ns : List Int) (z : Nat), vs = [.ref a, .ref b, .int m] ∧ Dr K H a b ns z ∧ z < 90000 ∧ 0 < m ∧ m < 1000000 ∧
  ∀ (d : Int) (H' : Hp), 0 ≤ d → d < m → Fx [b] H H' → Dr K H' a b ns (z + 1) → Q (.int d) H'
def spPick (K : PySem.W.Frag) : Sp := fun vs H Q _ => ∃ (a b l : Addr) (xs : List V) (ns : List Int) (z : Nat), vs = [.ref a, .ref b, .ref l] ∧ Dr K H a b ns z ∧ z < 90000 ∧ SqL K H l xs ∧ l ≠ b ∧ xs ≠ [] ∧ xs.length ≤ 1000 ∧
  ∀ (j : Nat) (v : V) (H' : Hp), xs[j]? = some v → Fx [b] H H' → Dr K H' a b ns (z + 1) → Q v H'
section
variable {P : Program} {w : World} {K : PySem.W.Frag} {mg : Str → Option Value} {base : Heap}
theorem d_l_cell (T : TX K mg) : Dn P w K mg base 1 "_law_cell" p_l_cell (spCell K) := by
  refine dn_of (fn_l_cell T) (g__law_cell T) sc_l_cell bd_l_cell (fun vs H Q E h => ?_) (fun cdv A outer s H vs Q E hr h => ?_)
  · obtain ⟨a, ns, k, rfl, _⟩ := h
    rfl
  · obtain ⟨a, ns, k, rfl, hS, hl, hk, q⟩ := h
    refine ⟨_, (pss_cons (ps_if (pt_truth (pv 0) (by intro _; rfl)) (pss_one (ps_ret (pe_ix ix_list (pv 0) (pe_op op_modN (pv 1) (pe_callB call_len_seq (by rfl) (b_len T) boot_len (pa_cons (pv 0) pa_nil))) (fun _ _ => rfl)))) pss_nil) (pss_one (ps_ret pe_int))), ?_⟩
    walk_at "rd"
    cases ns with
    | nil => exact ⟨false, .inl ⟨_, hS, rfl⟩, q 0⟩
    | cons n r =>
      refine ⟨true, .inl ⟨_, hS, rfl⟩, ?_⟩
      rw [if_pos rfl]
      refine ⟨_, .inl hS, by rw [List.length_map, List.length_cons]; omega, _, hS, ?_⟩
      have hp : (0 : Int) < ((((n :: r).map V.int).length : Nat) : Int) := by rw [List.length_map, List.length_cons]; omega
      generalize hm : k.fmod (((n :: r).map V.int).length : Nat) = m
      rw [Int.fmod_eq_emod_of_nonneg _ (by omega)] at hm
      have h1 : 0 ≤ m := by rw [← hm]; exact Int.emod_nonneg _ (by omega)
      have h2 : m < (((n :: r).map V.int).length : Nat) := by rw [← hm]; exact Int.emod_lt_of_pos _ hp
      rw [atI_in h1 h2, List.getElem?_map]
      have h3 : m.toNat < (n :: r).length := by
        rw [List.length_map] at h2
        omega
      rw [List.getElem?_eq_getElem h3]
      exact ⟨_, rfl, q _⟩
theorem d_l_mix (T : TX K mg) : Dn P w K mg base 2 "_law_mix" p_l_mix (spMix K) := by
  refine dn_of (fn_l_mix T) (g__law_mix T) sc_l_mix bd_l_mix (fun vs H Q E h => ?_) (fun cdv A outer s H vs Q E hr h => ?_)
  · obtain ⟨a, ns, k, rfl, _⟩ := h
    rfl
  · obtain ⟨a, ns, k, rfl, hS, hl, hk, hk2, q⟩ := h
    refine ⟨_, (pss_cons (ps_set (i := 2) sc_l_mix.nd rfl (Or.inl rfl) (pe_op op_modN (pe_op op_add (pc (d_l_cell T) (hr.mono (by decide)) px (pa_cons (pv 0) (pa_cons (pv 1) pa_nil))) (pe_op op_mul pe_int (pe_op op_add (pv 1) pe_int))) pe_int)) (pss_cons (ps_set (i := 2) sc_l_mix.nd rfl (Or.inl rfl) (pe_op op_modN (pe_op op_pow (pv 2) pe_int) pe_int)) (pss_one (ps_ret (pe_op op_modN (pe_op op_add (pe_op op_mul (pe_op op_fdivN (pv 2) pe_int) pe_int) (pv 2)) pe_int))))), ?_⟩
    walk_at "rd"
    refine ⟨a, ns, k, rfl, hS, hl, hk, fun i => ?_⟩
    have pos : ∀ (x m : Int), 0 < m → 0 ≤ x.fmod m ∧ x.fmod m < m := fun x m hm => by
      rw [Int.fmod_eq_emod_of_nonneg _ (by omega)]
      exact ⟨Int.emod_nonneg _ (by omega), Int.emod_lt_of_pos _ hm⟩
    refine ⟨.inl (by omega), _, rfl, by omega, ?_⟩
    obtain ⟨a1, a2⟩ := pos (i + 104729 * (k + 1)) 4294967291 (by omega)
    generalize (i + 104729 * (k + 1)).fmod 4294967291 = u at a1 a2 ⊢
    refine ⟨⟨by omega, by omega, by omega⟩, by omega, ?_⟩
    obtain ⟨b1, b2⟩ := pos (u ^ Int.toNat 5) 4294967279 (by omega)
    generalize (u ^ Int.toNat 5).fmod 4294967279 = v at b1 b2 ⊢
    refine ⟨⟨by omega, by decide⟩, ?_⟩
    have e : v.fdiv 64 = v / 64 := Int.fdiv_eq_ediv_of_nonneg _ (by omega)
    rw [e]
    refine ⟨.inl (by omega), by omega, ?_⟩
    obtain ⟨c1, c2⟩ := pos (v / 64 * 69621 + v) 4294967231 (by omega)
    exact q _ c1 c2
theorem d_l_draw (T : TX K mg) : Dn P w K mg base 3 "_law_draw" p_l_draw (spDraw K) := by
  refine dn_of (fn_l_draw T) (g__law_draw T) sc_l_draw bd_l_draw (fun vs H Q E h => ?_) (fun cdv A outer s H vs Q E hr h => ?_)
  · obtain ⟨a, b, m, ns, z, rfl, _⟩ := h
    rfl
  · obtain ⟨a, b, m, ns, z, rfl, D, hz, hm, hm2, q⟩ := h
    refine ⟨_, (pss_cons (ps_expr (pe_bm PySem.F.plainAttrs_list PySem.F.slot_list_append PySem.F.type_list_append mt_append (pv 1) (pa_cons pe_int pa_nil))) (pss_one (ps_ret (pe_op op_modN (pe_op op_fdivN (pc (d_l_mix T) (hr.mono (by decide)) px (pa_cons (pv 0) (pa_cons (pe_callB call_len_seq (by rfl) (b_len T) boot_len (pa_cons (pv 1) pa_nil)) pa_nil))) pe_int) (pv 2))))), ?_⟩
    walk_at "rd"
    obtain ⟨zs, et, lt⟩ := D.tow
    refine ⟨.inl ⟨rfl, _, sq_of et⟩, zs, et, slt (by omega), _, .inl (sq_of upd_same), ?_⟩
    have nl : ((zs ++ [V.int 0]).length : Nat) ≤ z + 1 := by rw [List.length_append]; simp; omega
    have hf : Fx [b] H (upd H b (.lst (zs ++ [.int 0]))) := Fx.upd List.mem_cons_self (nt_lst et)
    have D' : Dr K (upd H b (.lst (zs ++ [.int 0]))) a b ns (z + 1) := ⟨D.scr.elim (fun q => .inl ⟨hf.rd q.1 (by simp [q.2]), q.2⟩) .inr, D.len, _, upd_same, nl⟩
    refine ⟨a, ns, _, rfl, D'.sql, D.len, by omega, by omega, fun i h0 h1 => ⟨_, rfl, ⟨by omega, by decide⟩, by omega, ?_⟩⟩
    rw [Int.fmod_eq_emod_of_nonneg _ (by omega)]
    exact q _ _ (Int.emod_nonneg _ (by omega)) (Int.emod_lt_of_pos _ hm) hf D'
theorem d_l_pick (T : TX K mg) : Dn P w K mg base 4 "_law_pick" p_l_pick (spPick K) := by
  refine dn_of (fn_l_pick T) (g__law_pick T) sc_l_pick bd_l_pick (fun vs H Q E h => ?_) (fun cdv A outer s H vs Q E hr h => ?_)
  · obtain ⟨a, b, l, xs, ns, z, rfl, _⟩ := h
    rfl
  · obtain ⟨a, b, l, xs, ns, z, rfl, D, hz, hL, nl, hx, hx2, q⟩ := h
    refine ⟨_, (pss_one (ps_ret (pe_ix ix_list (pv 2) (pc (d_l_draw T) (hr.mono (by decide)) px (pa_cons (pv 0) (pa_cons (pv 1) (pa_cons (pe_callB call_len_seq (by rfl) (b_len T) boot_len (pa_cons (pv 2) pa_nil)) pa_nil)))) (fun _ _ => rfl)))), ?_⟩
    walk_at "rd"
    have hp : 0 < xs.length := List.length_pos_iff.mpr hx
    refine ⟨_, .inl hL, a, b, _, ns, z, rfl, D, hz, by omega, by omega, fun d H' h0 h1 B D' => ⟨_, _, rfl, B.sql hL (by simp [nl]), ?_⟩⟩
    rw [atI_in h0 h1, List.getElem?_eq_getElem (by omega)]
    exact ⟨_, rfl, q d.toNat _ _ (List.getElem?_eq_getElem (by omega)) B D'⟩
/-- the errors and how they are told -/
def kinds : List (Str × Str) := [("BadKey", "key"), ("BadText", "text"), ("BadSize", "size"), ("BadPlace", "place")]
def spRefusal (K : PySem.W.Frag) : Sp := fun vs H Q _ => ∃ (x : Addr) (c d : Str), vs = [.ref x] ∧ (c, d) ∈ kinds ∧ H x = some (KX (He.ga K c) x) ∧
  ∀ p H', H p = none → Same H H' → H' p = some (.tup [.str "refused", .str d]) → Q (.ref p) H'
/-- the four answers, one of them true -/
structure Ans4 (bs : List Bool) (j : Nat) : Prop where
  len : bs.length = 4
  cnt : (bs.map V.bl).countP (fun z => eqV z (.bl true)) = 1
  at_ : bs[j]? = some true
  no : ∀ m, m < j → bs[m]? = some false
theorem d_l_refusal (T : TX K mg) : Dn P w K mg base 1 "_law_refusal" p_l_refusal (spRefusal K) := by
  refine dn_of (fn_l_refusal T) (g__law_refusal T) sc_l_refusal bd_l_refusal (fun vs H Q E h => ?_) (fun cdv A outer s H vs Q E hr h => ?_)
  · obtain ⟨x, c, d, rfl, _⟩ := h
    rfl
  · obtain ⟨x, c, d, rfl, hc, hx, k⟩ := h
    refine ⟨_, (pss_cons (ps_if (pt_cmpR op_isN (pv 0) pe_non (nomark _)) (pss_one (ps_ret (pe_tup (pa_cons pe_str pa_nil)))) pss_nil) (pss_cons (ps_set (i := 1) sc_l_refusal.nd rfl (Or.inl rfl) (pe_lst (pa_cons (pe_callB call_isX (by rfl) (b_isinstance T) (by decide +kernel) (pa_cons (pv 0) (pa_cons (pgr (g_BadKey T)) pa_nil))) (pa_cons (pe_callB call_isX (by rfl) (b_isinstance T) (by decide +kernel) (pa_cons (pv 0) (pa_cons (pgr (g_BadText T)) pa_nil))) (pa_cons (pe_callB call_isX (by rfl) (b_isinstance T) (by decide +kernel) (pa_cons (pv 0) (pa_cons (pgr (g_BadSize T)) pa_nil))) pa_nil))))) (pss_cons (ps_expr (pe_bm PySem.F.plainAttrs_list PySem.F.slot_list_append PySem.F.type_list_append mt_append (pv 1) (pa_cons (pe_callB call_isX (by rfl) (b_isinstance T) (by decide +kernel) (pa_cons (pv 0) (pa_cons (pgr (g_BadPlace T)) pa_nil))) pa_nil))) (pss_cons (ps_if (PW.pt (pw_or (pt_cmpR op_ne (pe_bm PySem.F.plainAttrs_list PySem.F.slot_list_count PySem.F.type_list_count mt_countB (pv 1) (pa_cons pe_bl pa_nil)) pe_int (nomark _)) (pw_or1 (pt_not (pt_val (pe_callB call_isX (by rfl) (b_isinstance T) (by decide +kernel) (pa_cons (pv 0) (pa_cons (pe_bltn (v := .ty "ValueError") rfl (b_ValueError T) (by decide +kernel) rfl) pa_nil)))))))) (pss_one (ps_ret (pe_tup (pa_cons pe_str pa_nil)))) pss_nil) (pss_one (ps_ret (pe_tup (pa_cons pe_str (pa_cons (pe_ix ix_list (pe_lst (pa_lits rfl)) (pe_bm PySem.F.plainAttrs_list PySem.F.slot_list_index PySem.F.type_list_index mt_index (pv 1) (pa_cons pe_bl pa_nil)) (fun _ _ => rfl)) pa_nil))))))))), ?_⟩
    walk_at "rd"
    have facts : ∃ (b0 b1 b2 b3 : Bool) (j : Nat), ExcC K (He.ga K c) ∧ PySem.W.kitOne K (.ref (He.ga K c)) (.ref (He.ga K "BadKey")) = some b0 ∧ PySem.W.kitOne K (.ref (He.ga K c)) (.ref (He.ga K "BadText")) = some b1 ∧
        PySem.W.kitOne K (.ref (He.ga K c)) (.ref (He.ga K "BadSize")) = some b2 ∧ PySem.W.kitOne K (.ref (He.ga K c)) (.ref (He.ga K "BadPlace")) = some b3 ∧ PySem.W.kitOne K (.ref (He.ga K c)) (.type "ValueError") = some true ∧
        Ans4 [b0, b1, b2, b3] j ∧ [V.str "key", .str "text", .str "size", .str "place"][j]? = some (.str d) := by
      have hc2 : (c, d) = (("BadKey", "key") : Str × Str) ∨ (c, d) = (("BadText", "text") : Str × Str) ∨ (c, d) = (("BadSize", "size") : Str × Str) ∨ (c, d) = (("BadPlace", "place") : Str × Str) := by
        simpa [kinds] using hc
      rcases hc2 with e | e | e | e
      · cases e
        exact ⟨_, _, _, _, 0, ex_BadKey T, ki_BadKey_BadKey T, ki_BadKey_BadText T, ki_BadKey_BadSize T, ki_BadKey_BadPlace T, ki_BadKey_ValueError T, ⟨rfl, rfl, rfl, fun m hm => by omega⟩, rfl⟩
      · cases e
        exact ⟨_, _, _, _, 1, ex_BadText T, ki_BadText_BadKey T, ki_BadText_BadText T, ki_BadText_BadSize T, ki_BadText_BadPlace T, ki_BadText_ValueError T, ⟨rfl, rfl, rfl, fun m hm => match m, hm with | 0, _ => rfl⟩, rfl⟩
      · cases e
        exact ⟨_, _, _, _, 2, ex_BadSize T, ki_BadSize_BadKey T, ki_BadSize_BadText T, ki_BadSize_BadSize T, ki_BadSize_BadPlace T, ki_BadSize_ValueError T, ⟨rfl, rfl, rfl, fun m hm => match m, hm with | 0, _ => rfl | 1, _ => rfl⟩, rfl⟩
      · cases e
        exact ⟨_, _, _, _, 3, ex_BadPlace T, ki_BadPlace_BadKey T, ki_BadPlace_BadText T, ki_BadPlace_BadSize T, ki_BadPlace_BadPlace T, ki_BadPlace_ValueError T, ⟨rfl, rfl, rfl, fun m hm => match m, hm with | 0, _ => rfl | 1, _ => rfl | 2, _ => rfl⟩, rfl⟩
    obtain ⟨b0, b1, b2, b3, j, hC, k0, k1, k2, k3, kV, A, hd⟩ := facts
    refine ⟨x, _, _, _, b0, rfl, hx, hC, fun _ r => r, k0, x, _, _, _, b1, rfl, hx, hC, fun _ r => r, k1, x, _, _, _, b2, rfl, hx, hC, fun _ r => r, k2, (by show 3 ≤ sizeLine; decide), fun p hp => ?_⟩
    have n1 : x ≠ p := ne_of_none hx hp
    have h1 : upd H p (.lst [.bl b0, .bl b1, .bl b2]) x = some (KX (He.ga K c) x) := by rw [upd_ne n1]; exact hx
    refine ⟨.inl ⟨rfl, _, sq_of upd_same⟩, x, _, _, _, b3, rfl, h1, hC, fun _ r => r, k3, _, upd_same, (by show 3 < sizeLine; decide), ?_⟩
    have h2 : upd (upd H p (.lst [.bl b0, .bl b1, .bl b2])) p (.lst ([.bl b0, .bl b1, .bl b2] ++ [.bl b3])) x = some (KX (He.ga K c) x) := by rw [upd_ne n1]; exact h1
    have flat : ([V.bl b0, .bl b1, .bl b2] ++ [V.bl b3]).all flatV = true := rfl
    refine ⟨.inl ⟨rfl, _, sq_of upd_same⟩, p, _, _, rfl, rfl, sq_of upd_same, rfl, flat, rfl, ?_⟩
    have ec : ([V.bl b0, .bl b1, .bl b2] ++ [V.bl b3]).countP (fun z => eqV z (.bl true)) = 1 := A.cnt
    rw [ec, if_neg (by decide)]
    refine ⟨x, _, _, _, true, rfl, h2, hC, fun _ r => r, kV, _, rfl, ?_⟩
    rw [if_neg (by decide)]
    refine ⟨by show 4 ≤ sizeLine; decide, fun p1 hp1 => ?_⟩
    have n2 : p ≠ p1 := ne_of_none upd_same hp1
    have hb : (upd (upd (upd H p (.lst [.bl b0, .bl b1, .bl b2])) p (.lst ([.bl b0, .bl b1, .bl b2] ++ [.bl b3]))) p1 (.lst ([("key" : Str), "text", "size", "place"].map V.str))) p = some (.lst ([.bl b0, .bl b1, .bl b2] ++ [.bl b3])) := by
      rw [upd_ne n2]
      exact upd_same
    have hz : ([V.bl b0, .bl b1, .bl b2] ++ [V.bl b3])[j]? = some (.bl true) := by
      have e := A.at_
      show ([b0, b1, b2, b3].map V.bl)[j]? = some (.bl true)
      rw [List.getElem?_map, e]
      rfl
    have hno : ∀ (m : Nat) (z : V), m < j → ([V.bl b0, .bl b1, .bl b2] ++ [V.bl b3])[m]? = some z → eqV z (.bl true) = false := fun m z hm e => by
      have e2 : ([b0, b1, b2, b3].map V.bl)[m]? = some z := e
      rw [List.getElem?_map, A.no m hm] at e2
      cases e2
      rfl
    have hj : j < 4 := by
      have := (List.getElem?_eq_some_iff.mp hz).1
      exact this
    refine ⟨.inl ⟨rfl, _, sq_of hb⟩, p, _, _, j, _, rfl, rfl, sq_of hb, rfl, flat, hz, rfl, hno, _, _, rfl, sq_of upd_same, .str d, ?_, (by show 2 ≤ sizeLine; decide), fun p2 hp2 => ?_⟩
    · rw [atI_in (by omega) (by show (j : Int) < 4; omega), Int.toNat_natCast]
      exact hd
    · have s1 : Same H (upd (upd (upd H p (.lst [.bl b0, .bl b1, .bl b2])) p (.lst ([.bl b0, .bl b1, .bl b2] ++ [.bl b3]))) p1 (.lst ([("key" : Str), "text", "size", "place"].map V.str))) := by
        refine same_upd (same_upd (same_new hp) hp) ?_
        have e := hp1
        rw [upd_ne n2.symm, upd_ne n2.symm] at e
        exact e
      exact k p2 _ (s1.free hp2) (same_upd s1 (s1.free hp2)) upd_same
end
/-- a refusal, told -/
def IsRef (H : Hp) (d : Str) (v : V) : Prop := ∃ p, v = .ref p ∧ H p = some (.tup [.str "refused", .str d])
/-- an error that a try's body lets out is kept in slot j -/
theorem rf_keep {K : PySem.W.Frag} {c : Str} {i j : Nat} {D : Ends} {σ : L2.St} {H : Hp} (xm : PySem.W.exmOne K (.ref (He.ga K c)) (.ref (He.ga K "HandError")) = some true) (hl : i < σ.length)
    (h : ∀ a H', Same H H' → H' a = none → D.nx (((σ.set i (some (.ref a))).set j (some (.ref a))).set i none) (upd H' a (KX (He.ga K c) a))) :
    ∀ H', Same H H' → WE (wKeep K (.ref (He.ga K "HandError")) i (fun _ _ _ => tAsg (tVar i) (gName j)) D) σ (.ref (He.ga K c)) none H' :=
  fun H' s => ⟨_, rfl, rfl, xm, fun a ha => ⟨.ref a, List.getElem?_set_self hl, h a H' s ha⟩⟩
/-- .. and told -/
theorem ref_end {K : PySem.W.Frag} {c d : Str} {a : Addr} {H H' : Hp} {Q : VK} {E : XK} (hk : (c, d) ∈ kinds) (s : Same H H') (na : H' a = none) (k : ∀ v H2, Same H H2 → IsRef H2 d v → Q v H2) : spRefusal K [.ref a] (upd H' a (KX (He.ga K c) a)) Q E := by
  refine ⟨a, c, d, rfl, hk, upd_same, fun p H2 hp s2 e => k _ H2 ((same_upd s (s.free na)).trans s2) ⟨p, rfl, e⟩⟩
theorem k_text : (("BadText", "text") : Str × Str) ∈ kinds := by simp [kinds]
theorem k_place : (("BadPlace", "place") : Str × Str) ∈ kinds := by simp [kinds]
theorem k_size : (("BadSize", "size") : Str × Str) ∈ kinds := by simp [kinds]
theorem k_key : (("BadKey", "key") : Str × Str) ∈ kinds := by simp [kinds]
/-! ### comparisons of data, lists of refusals -/
section
variable {K : PySem.W.Frag} {H : Hp} {x y : V} {d e : PyData} {Q : VK}
theorem ne_data (hx : Dp K H x d) (hy : Dp K H y e) (h1 : SeqAt.shaped d = true) (h2 : SeqAt.shaped e = true) (q : Q (.bl (!PyData.eqv d e)) H) : rNeD K x y H Q := ⟨d, e, hx, hy, h1, h2, q⟩
theorem eq_data' (hx : Dp K H x d) (hy : Dp K H y e) (h1 : SeqAt.shaped d = true) (h2 : SeqAt.shaped e = true) (q : Q (.bl (PyData.eqv d e)) H) : rEqD K x y H Q := ⟨d, e, hx, hy, h1, h2, q⟩
theorem ne_same (hx : Dp K H x d) (hy : Dp K H y d) (h1 : SeqAt.shaped d = true) (q : Q (.bl false) H) : rNeD K x y H Q := ne_data hx hy h1 h1 (by rw [SeqAt.eqv_refl _ (SeqAt.canLay_of_shaped h1)]; exact q)
theorem eq_same (hx : Dp K H x d) (hy : Dp K H y d) (h1 : SeqAt.shaped d = true) (q : Q (.bl true) H) : rEqD K x y H Q := eq_data' hx hy h1 h1 (by rw [SeqAt.eqv_refl _ (SeqAt.canLay_of_shaped h1)]; exact q)
theorem IsRef.same {H' : Hp} {d : Str} {v : V} (h : IsRef H d v) (s : Same H H') : IsRef H' d v := let ⟨p, e, q⟩ := h; ⟨p, e, s _ _ q⟩
abbrev refD (d : Str) : PyData := .tuple [.str "refused", .str d]
theorem IsRef.dp {d : Str} {v : V} (h : IsRef H d v) : Dp K H v (refD d) := by
  obtain ⟨p, rfl, q⟩ := h
  exact .tup (st_of q) (.cons (.str _) (.cons (.str _) .nil))
theorem dp_refs {d : Str} : ∀ {vs : List V}, (∀ v ∈ vs, IsRef H d v) → DpAll K H vs (List.replicate vs.length (refD d))
  | [], _ => .nil
  | v :: vs, h => .cons (h v List.mem_cons_self).dp (dp_refs fun u hu => h u (List.mem_cons_of_mem _ hu))
/-- a comprehension of refusals -/
theorem lcb_ref {g : TG} {te : TE} {vs : List Nat} {σ : L2.St} {α : Type} {J : It} {n : Nat} {G : Hp → Prop} (ys : List α) (inj : α → V) (w : Walk J n G (YAt (ys.map inj))) (hn : n = ys.length) (hG : ∀ H', Same H H' → G H') (hz : ys.length ≤ 1000) (d : Str)
    (hs : ∀ y H', y ∈ ys → Same H H' → ∀ Y : V → Hp → Prop, (∀ v H4, Same H' H4 → IsRef H4 d v → Y v H4) → g (inj y) (wipe σ vs) H' fun σ2 H2 => wipe σ2 vs = wipe σ vs ∧ te σ2 H2 Y)
    (hd : ∀ D acc H', Same H H' → H' D = some (.lst acc) → acc.length = n → (∀ v ∈ acc, IsRef H' d v) → Q (.ref D) H') : LcB J g tYes te vs σ H Q := by
  intro D hD
  refine lc_it w (fun i H' => Same H H' ∧ ∃ acc, H' D = some (.lst acc) ∧ acc.length = i ∧ ∀ v ∈ acc, IsRef H' d v) ⟨same_new hD, [], upd_same, rfl, fun v hv => absurd hv List.not_mem_nil⟩ (fun i H' _ p => hG H' p.1) ?_ ?_
  · rintro i x H1 H2 hi ⟨s, acc, e, la, ra⟩ ⟨rfl, hx⟩
    rw [List.getElem?_map] at hx
    cases hy : ys[i]? with
    | none =>
      rw [hy] at hx
      cases hx
    | some y =>
      rw [hy] at hx
      have ex : inj y = x := Option.some.inj hx
      subst ex
      refine hs y _ (List.mem_of_getElem? hy) s _ fun v H4 s4 rv => ⟨acc, s4 _ _ e, slt (by omega), same_upd (s.trans s4) hD, acc ++ [v], upd_same, by rw [List.length_append, la]; rfl, fun u hu => ?_⟩
      have key : ∀ u, IsRef H4 d u → IsRef (upd H4 D (.lst (acc ++ [v]))) d u := fun u hu => by
        obtain ⟨p, rfl, q⟩ := hu
        refine ⟨p, rfl, ?_⟩
        have ne : p ≠ D := ne_of q (s4 _ _ e) (by intro z; cases z)
        rw [upd_ne ne]
        exact q
      rcases List.mem_append.mp hu with h | h
      · exact key u ((ra u h).same s4)
      · rw [List.mem_singleton.mp h]
        exact key v rv
  · rintro H' ⟨s, acc, e, la, ra⟩
    exact hd D acc H' s e la ra
/-- compared with so many like one that is written -/
theorem ne_refs {d : Str} {n : Nat} {D q p : Addr} {acc ys : List V} {R : VK} (e : H D = some (.lst acc)) (la : acc.length = n) (ra : ∀ v ∈ acc, IsRef H d v) (eq : H q = some (.lst ys)) (hp : H p = some (.tup [.str "refused", .str d])) (hy : ys = List.replicate n (.ref p))
    (hs : SeqAt.shaped (.list (List.replicate n (refD d))) = true) (k : R (.bl false) H) : rNeD K (.ref D) (.ref q) H R := by
  have h1 : Dp K H (.ref D) (.list (List.replicate n (refD d))) := .lst (sq_of e) (by rw [← la]; exact dp_refs ra)
  have h2 : Dp K H (.ref q) (.list (List.replicate n (refD d))) := by
    refine .lst (sq_of eq) ?_
    rw [hy]
    have := dp_refs (K := K) (H := H) (d := d) (vs := List.replicate n (.ref p)) fun v hv => by
      rw [List.eq_of_mem_replicate hv]
      exact ⟨p, rfl, hp⟩
    rw [List.length_replicate] at this
    exact this
  exact ne_same h1 h2 hs k
theorem eq_refs {d : Str} {n : Nat} {D q p : Addr} {acc ys : List V} {R : VK} (e : H D = some (.lst acc)) (la : acc.length = n) (ra : ∀ v ∈ acc, IsRef H d v) (eq : H q = some (.lst ys)) (hp : H p = some (.tup [.str "refused", .str d])) (hy : ys = List.replicate n (.ref p))
    (hs : SeqAt.shaped (.list (List.replicate n (refD d))) = true) (k : R (.bl true) H) : rEqD K (.ref D) (.ref q) H R := by
  have h1 : Dp K H (.ref D) (.list (List.replicate n (refD d))) := .lst (sq_of e) (by rw [← la]; exact dp_refs ra)
  have h2 : Dp K H (.ref q) (.list (List.replicate n (refD d))) := by
    refine .lst (sq_of eq) ?_
    rw [hy]
    have := dp_refs (K := K) (H := H) (d := d) (vs := List.replicate n (.ref p)) fun v hv => by
      rw [List.eq_of_mem_replicate hv]
      exact ⟨p, rfl, hp⟩
    rw [List.length_replicate] at this
    exact this
  exact eq_same h1 h2 hs k
/-- [("refused", d)] * n -/
theorem mk_refs {d : Str} {n : Nat} {R : VK} (hn : n ≤ 1000) (k : ∀ p q H', Same H H' → H' p = some (.tup [.str "refused", .str d]) → H' q = some (.lst (List.replicate n (.ref p))) → R (.ref q) H') :
    [V.str "refused", V.str d].length ≤ sizeLine ∧ ∀ p, H p = none → [V.ref p].length ≤ sizeLine ∧ ∀ l, upd H p (.tup [.str "refused", .str d]) l = none → rRep (.ref l) (.int (n : Nat)) (upd (upd H p (.tup [.str "refused", .str d])) l (.lst [.ref p])) R := by
  refine ⟨by show 2 ≤ sizeLine; decide, fun p hp => ⟨by show 1 ≤ sizeLine; decide, fun l hl => ?_⟩⟩
  refine ⟨l, n, _, rfl, rfl, upd_same, by omega, by omega, sline (by rw [Int.toNat_natCast]; show 1 * n ≤ 100000; omega), fun q hq => ?_⟩
  have s1 : Same H (upd (upd H p (.tup [.str "refused", .str d])) l (.lst [.ref p])) := (same_new hp).trans (same_new hl)
  have e1 : upd (upd H p (.tup [.str "refused", .str d])) l (.lst [.ref p]) p = some (.tup [.str "refused", .str d]) := by
    rw [upd_ne (ne_of_none upd_same hl)]
    exact upd_same
  refine k p q _ (s1.trans (same_new hq)) (same_new hq _ _ e1) ?_
  rw [upd_same, Int.toNat_natCast]
  have e : (List.replicate n [V.ref p]).flatten = List.replicate n (V.ref p) := by
    clear k hn
    induction n with
    | zero => rfl
    | succ n ih => rw [List.replicate_succ, List.flatten_cons, ih, List.replicate_succ]; rfl
  rw [e]
end
/-- signs alone, at most n -/
def okPiece (n : Nat) (z : Str) : Bool := decide (z.cps.toList.length ≤ n) && z.cps.toList.all fun c => isSign [c]
theorem pick_str {zs : List Str} {j : Nat} {v : V} (h : (zs.map V.str)[j]? = some v) : ∃ z ∈ zs, v = .str z := by
  rw [List.getElem?_map] at h
  cases e : zs[j]? with
  | none =>
    rw [e] at h
    cases h
  | some z =>
    rw [e] at h
    exact ⟨z, List.mem_of_getElem? e, (Option.some.inj h).symm⟩
theorem pick_piece {zs : List Str} {n j : Nat} {v : V} (h : (zs.map V.str)[j]? = some v) (ok : zs.all (okPiece n) = true) : ∃ t : List Nat, v = .str (S t) ∧ t.length ≤ n ∧ t.all (fun c => isSign [c]) = true := by
  obtain ⟨z, hz, rfl⟩ := pick_str h
  have q := List.all_eq_true.mp ok z hz
  unfold okPiece at q
  rw [Bool.and_eq_true, decide_eq_true_iff] at q
  exact ⟨z.cps.toList, rfl, q.1, q.2⟩
/-- one of a list that is made for it -/
theorem pick_new {K : PySem.W.Frag} {H : Hp} {a b : Addr} {ns : List Int} {z : Nat} {xs : List V} {R : VK} {E : XK} (D : Dr K H a b ns z) (hz : z < 90000) (hx : xs ≠ []) (hl : xs.length ≤ 1000)
    (k : ∀ (j : Nat) (v : V) (H' : Hp), xs[j]? = some v → Fx [b] H H' → Dr K H' a b ns (z + 1) → R v H') : xs.length ≤ sizeLine ∧ ∀ p, H p = none → spPick K [.ref a, .ref b, .ref p] (upd H p (.lst xs)) R E := by
  refine ⟨sline (by omega), fun p hp => ?_⟩
  have D1 := D.same (same_new (o := .lst xs) hp)
  refine ⟨a, b, p, xs, ns, z, rfl, D1, hz, sq_of upd_same, ?_, hx, hl, fun j v H' hj F D' => k j v H' hj ((Fx.of (same_new hp)).trans F) D'⟩
  intro e
  exact D.there (by rw [← e]; exact hp)
/-! ### lists of texts, compared -/
/-- signs that are told as data -/
abbrev Asc (t : List Nat) : Prop := ∀ c ∈ t, c < 128
abbrev AscL (ts : List (List Nat)) : Prop := ∀ u ∈ ts, Asc u
theorem strOk_asc {t : List Nat} (h : Asc t) : PyData.strOk (S t) = true := by
  show (t.toArray.all fun c => decide (c < 0x110000)) = true
  rw [List.all_toArray]
  exact List.all_eq_true.mpr fun c hc => decide_eq_true (by have := h c hc; omega)
abbrev tds (ts : List (List Nat)) : List PyData := ts.map fun u => .str (S u)
theorem canLay_texts : ∀ {ts : List (List Nat)}, AscL ts → PyData.canLayAll0 (tds ts) = true
  | [], _ => by simp [PyData.canLayAll0]
  | u :: us, h => by
    have h1 := strOk_asc (h u List.mem_cons_self)
    have h2 := canLay_texts (ts := us) fun x hx => h x (List.mem_cons_of_mem _ hx)
    show PyData.canLayAll0 (.str (S u) :: tds us) = true
    simp only [PyData.canLayAll0, PyData.canLay0, h1, h2, Bool.and_self]
theorem depth_texts : ∀ (ts : List (List Nat)), PyData.depthAll (tds ts) = 0
  | [] => by simp [PyData.depthAll]
  | u :: us => by
    show PyData.depthAll (.str (S u) :: tds us) = 0
    simp only [PyData.depthAll, PyData.depth, depth_texts us, Nat.max_self]
theorem shaped_texts {ts : List (List Nat)} (h : AscL ts) : SeqAt.shaped (.list (tds ts)) = true := by
  show (PyData.canLay0 _ && decide (PyData.depth _ ≤ 64)) = true
  have e1 : PyData.canLay0 (.list (tds ts)) = true := by
    simp only [PyData.canLay0]
    exact canLay_texts h
  have e2 : PyData.depth (.list (tds ts)) = 1 := by
    simp only [PyData.depth, depth_texts]
  rw [e1, e2]
  rfl
theorem dp_all {K : PySem.W.Frag} {H : Hp} : ∀ (ts : List (List Nat)), DpAll K H (tvs ts) (tds ts)
  | [] => .nil
  | u :: us => .cons (.str _) (dp_all us)
theorem dp_texts {K : PySem.W.Frag} {H : Hp} {t : Addr} {ts : List (List Nat)} (e : H t = some (.lst (tvs ts))) : Dp K H (.ref t) (.list (tds ts)) := .lst (sq_of e) (dp_all ts)
theorem eqv_nil {ts : List (List Nat)} : PyData.eqv (.list (tds ts)) (.list []) = decide (ts = []) := by
  cases ts with
  | nil => rfl
  | cons u us => rfl
/-- texts != [] -/
theorem ne_empty {K : PySem.W.Frag} {H : Hp} {t q : Addr} {ts : List (List Nat)} {Q : VK} (e : H t = some (.lst (tvs ts))) (f : H q = some (.lst [])) (h : AscL ts) (k : Q (.bl (decide (ts ≠ []))) H) : rNeD K (.ref t) (.ref q) H Q := by
  refine ne_data (dp_texts e) (.lst (sq_of f) .nil) (shaped_texts h) (by decide +kernel) ?_
  rw [eqv_nil]
  have e2 : (!decide (ts = [])) = decide (ts ≠ []) := by
    by_cases z : ts = [] <;> simp [z]
  rw [e2]
  exact k
theorem ne_texts {K : PySem.W.Frag} {H : Hp} {t q : Addr} {ts : List (List Nat)} {Q : VK} (e : H t = some (.lst (tvs ts))) (f : H q = some (.lst (tvs ts))) (h : AscL ts) (k : Q (.bl false) H) : rNeD K (.ref t) (.ref q) H Q := ne_same (dp_texts e) (dp_texts f) (shaped_texts h) k
theorem eq_texts {K : PySem.W.Frag} {H : Hp} {t q : Addr} {ts : List (List Nat)} {Q : VK} (e : H t = some (.lst (tvs ts))) (f : H q = some (.lst (tvs ts))) (h : AscL ts) (k : Q (.bl true) H) : rEqD K (.ref t) (.ref q) H Q := eq_same (dp_texts e) (dp_texts f) (shaped_texts h) k
theorem inV_strs (z : Str) : ∀ zs : List Str, inV (.str z) (zs.map V.str) = decide (z ∈ zs)
  | [] => by
    show ([] : List V).any _ = _
    simp
  | y :: zs => by
    have ih := inV_strs z zs
    show ((V.str y :: zs.map V.str).any fun u => eqV u (.str z)) = _
    rw [List.any_cons]
    have e : ((zs.map V.str).any fun u => eqV u (.str z)) = decide (z ∈ zs) := ih
    rw [e]
    have e2 : eqV (.str y) (.str z) = (y == z) := rfl
    rw [e2]
    by_cases h : z = y
    · subst h
      simp
    · have h2 : ¬ y = z := fun q => h q.symm
      simp [h, h2]
theorem flat_strs (zs : List Str) : (zs.map V.str).all flatV = true := by
  rw [List.all_map]
  exact List.all_eq_true.mpr fun _ _ => rfl
theorem in_strs {K : PySem.W.Frag} {H : Hp} {z : Str} {p : Addr} (zs : List Str) {Q : VK} (e : SqT K H p (zs.map V.str)) (k : Q (.bl (decide (z ∈ zs))) H) : rIn K false (.str z) (.ref p) H Q := by
  refine ⟨p, _, rfl, .inr e, rfl, flat_strs zs, ?_⟩
  rw [if_neg (by decide), inV_strs]
  exact k
theorem notin_strs {K : PySem.W.Frag} {H : Hp} {z : Str} {p : Addr} (zs : List Str) {Q : VK} (e : SqT K H p (zs.map V.str)) (k : Q (.bl (decide (z ∉ zs))) H) : rIn K true (.str z) (.ref p) H Q := by
  refine ⟨p, _, rfl, .inr e, rfl, flat_strs zs, ?_⟩
  rw [if_pos rfl, inV_strs]
  have e2 : (!decide (z ∈ zs)) = decide (z ∉ zs) := by
    by_cases h : z ∈ zs <;> simp [h]
  rw [e2]
  exact k
/-! ### two things apart -/
/-- the town, the script, what stands at F, what stands at G: all apart -/
structure Sep (K : PySem.W.Frag) (H : Hp) (a p : Addr) (ns : List Int) (z : Nat) (F G : List Addr) : Prop where
  D : Dr K H a p ns z
  ap : Ap K a ns F
  aq : Ap K a ns G
  pn : p ∉ F
  qn : p ∉ G
  dj : ∀ c ∈ F, c ∉ G
  oF : ∀ c ∈ F, H c ≠ none
  oG : ∀ c ∈ G, H c ≠ none
section
variable {K : PySem.W.Frag} {H H' : Hp} {a p : Addr} {ns : List Int} {z z' : Nat} {F G F' G' : List Addr}
theorem Fx.old (f : Fx F H H') {c : Addr} (h : H c ≠ none) : H' c ≠ none := fun e => h (f.free e)
theorem Sep.symm (S : Sep K H a p ns z F G) : Sep K H a p ns z G F := ⟨S.D, S.aq, S.ap, S.qn, S.pn, fun c h g => S.dj c g h, S.oG, S.oF⟩
theorem Sep.draw (S : Sep K H a p ns z F G) (f : Fx [p] H H') (D : Dr K H' a p ns z') : Sep K H' a p ns z' F G := ⟨D, S.ap, S.aq, S.pn, S.qn, S.dj, fun c h => f.old (S.oF c h), fun c h => f.old (S.oG c h)⟩
theorem Sep.same (S : Sep K H a p ns z F G) (s : Same H H') : Sep K H' a p ns z F G := S.draw (Fx.of s) (S.D.same s)
theorem Sep.mono (S : Sep K H a p ns z F G) (h : z ≤ z') : Sep K H a p ns z' F G := ⟨S.D.mono h, S.ap, S.aq, S.pn, S.qn, S.dj, S.oF, S.oG⟩
theorem Ap.each (h : ∀ c ∈ F, Ap K a ns [c]) : Ap K a ns F := by
  induction F with
  | nil => exact .inr List.not_mem_nil
  | cons c F ih => exact (h c List.mem_cons_self).cons (ih fun d hd => h d (List.mem_cons_of_mem _ hd))
theorem Ap.of (h : Ap K a ns F) {c : Addr} (m : c ∈ F) : Ap K a ns [c] := h.mono fun d hd => by rw [List.mem_singleton.mp hd]; exact m
theorem Sep.left (S : Sep K H a p ns z F G) (f : Fx F H H') (n : ∀ c ∈ F', c ∈ F ∨ H c = none) (o : ∀ c ∈ F', H' c ≠ none) : Sep K H' a p ns z F' G := by
  refine ⟨S.D.fy f S.ap S.pn, Ap.each fun c hc => ?_, S.aq, fun h => ?_, S.qn, fun c hc g => ?_, o, fun c h => f.old (S.oG c h)⟩
  · rcases n c hc with q | q
    · exact S.ap.of q
    · exact S.D.new q
  · rcases n p h with q | q
    · exact S.pn q
    · exact S.D.ne q rfl
  · rcases n c hc with q | q
    · exact S.dj c q g
    · exact S.oG c g q
theorem Sep.right (S : Sep K H a p ns z F G) (f : Fx G H H') (n : ∀ c ∈ G', c ∈ G ∨ H c = none) (o : ∀ c ∈ G', H' c ≠ none) : Sep K H' a p ns z F G' := (S.symm.left f n o).symm
theorem Sep.nG (S : Sep K H a p ns z F G) {c : Addr} (h : c ∈ G) : c ∉ F := fun m => S.dj c m h
theorem Sep.nF (S : Sep K H a p ns z F G) {c : Addr} (h : c ∈ F) : c ∉ G := S.dj c h
theorem Sep.npF (S : Sep K H a p ns z F G) {c : Addr} (h : c ∈ F) : c ∉ [p] := fun m => S.pn (by rw [← List.mem_singleton.mp m]; exact h)
theorem Sep.npG (S : Sep K H a p ns z F G) {c : Addr} (h : c ∈ G) : c ∉ [p] := fun m => S.qn (by rw [← List.mem_singleton.mp m]; exact h)
end
/-- the texts that the law writes -/
def smallT (t : List Nat) : Bool := okText t && decide (t.length ≤ 10)
theorem small_len {i : Nat} (h : i < 31) : ("t" : Str).length + (Str.ofString (toString (i : Int))).length ≤ 100 := by
  have : ∀ i : Fin 31, ("t" : Str).length + (Str.ofString (toString ((i : Nat) : Int))).length ≤ 100 := by decide +kernel
  exact this ⟨i, h⟩
theorem small_num {i : Nat} (h : i < 31) : smallT (("t" : Str) ++ Str.ofString (toString (i : Int))).cps.toList = true := by
  have : ∀ i : Fin 31, smallT (("t" : Str) ++ Str.ofString (toString ((i : Nat) : Int))).cps.toList = true := by decide +kernel
  exact this ⟨i, h⟩
theorem shaped_str {t : List Nat} (h : Asc t) : SeqAt.shaped (.str (S t)) = true := by
  show (PyData.canLay0 (.str (S t)) && decide (PyData.depth (.str (S t)) ≤ 64)) = true
  simp only [PyData.canLay0, PyData.depth, strOk_asc h]
  rfl
theorem Fx.at_new {F : List Addr} {H H1 : Hp} {q : Addr} {o : HO} (x : Fx F H H1) (h : H q = none) : Fx F H (L2.upd H1 q o) := fun c u e => by
  have ne : c ≠ q := ne_of_none e h
  refine ⟨?_, fun n => ?_⟩
  · obtain ⟨o', e'⟩ := (x c u e).1
    exact ⟨o', by rw [upd_ne ne]; exact e'⟩
  · rw [upd_ne ne]
    exact (x c u e).2 n
/-- a comprehension whose elements are drawn -/
theorem lcb_town {K : PySem.W.Frag} {g : TG} {te : TE} {vs : List Nat} {σ : L2.St} {H : Hp} {Q : VK} {a p : Addr} {ns : List Int} {z n : Nat} (P : V → Prop) (D0 : Dr K H a p ns z) (hz : n ≤ 1000)
    (hs : ∀ (i : Nat) H', i < n → Fx [p] H H' → Dr K H' a p ns (z + i) → ∀ Y : V → Hp → Prop, (∀ v H4, P v → Fx [p] H' H4 → Dr K H4 a p ns (z + i + 1) → Y v H4) → g (.int (0 + (i : Nat))) (wipe σ vs) H' fun σ2 H2 => wipe σ2 vs = wipe σ vs ∧ te σ2 H2 Y)
    (hd : ∀ D acc H', H D = none → Fx [p] H H' → Dr K H' a p ns (z + n) → H' D = some (.lst acc) → acc.length = n → (∀ v ∈ acc, P v) → Q (.ref D) H') : LcB (Itr 0 n) g tYes te vs σ H Q := by
  intro D hD
  have pD := D0.ne hD
  have ap := D0.new hD
  refine lc_it (n := n) (walk_rng (lo := 0)) (fun i H' => Fx [p] H H' ∧ Dr K H' a p ns (z + i) ∧ ∃ acc, H' D = some (.lst acc) ∧ acc.length = i ∧ ∀ v ∈ acc, P v) ⟨Fx.new hD, D0.same (same_new hD), [], upd_same, rfl, fun v hv => absurd hv List.not_mem_nil⟩ (fun i H' _ _ => trivial) ?_ ?_
  · rintro i x H1 H2 hi ⟨f, Di, acc, e, la, ra⟩ ⟨rfl, hx⟩
    rw [List.getElem?_map, List.getElem?_range hi] at hx
    have ex : V.int (0 + (i : Int)) = x := Option.some.inj hx
    subst ex
    refine hs i _ hi f Di _ fun v H4 pv f4 D4 => ⟨acc, f4.at e (by simp [pD.symm]), slt (by omega), (f.trans f4).at_new hD, ?_, acc ++ [v], upd_same, by rw [List.length_append, la]; rfl, fun u hu => ?_⟩
    · have e4 := f4.at e (by simp [pD.symm])
      exact D4.fy (F := [D]) (Fx.upd List.mem_cons_self (nt_lst e4)) ap (by simp [pD])
    · rcases List.mem_append.mp hu with h | h
      · exact ra u h
      · rw [List.mem_singleton.mp h]
        exact pv
  · rintro H' ⟨f, Dn, acc, e, la, ra⟩
    exact hd D acc H' hD f Dn e la ra
end LH
/-! ## F1: the filler -/
namespace LH
open PySem PySem.Spec PyProof.Rows L2
/-- what is to be filled in at i -/
def partAt (t : List Nat) (i : Nat) : List Nat := (t.drop (blankStart t i)).take (i - blankStart t i)
def FillAt (K : PySem.W.Frag) (H : Hp) (x l : Addr) (ws : List (List Nat)) : Prop := (∃ dx, H x = some (.ins (He.ga K "Filler") dx (fs_Filler (.ref l)))) ∧ H l = some (.lst (tvs ws))
theorem FillAt.fx {K : PySem.W.Frag} {F : List Addr} {H H' : Hp} {x l : Addr} {ws : List (List Nat)} (R : FillAt K H x l ws) (f : Fx F H H') (h1 : x ∉ F) (h2 : l ∉ F) : FillAt K H' x l ws := by
  obtain ⟨⟨dx, hp⟩, hl⟩ := R
  exact ⟨⟨dx, f.at hp h1⟩, f.at hl h2⟩
theorem FillAt.same {K : PySem.W.Frag} {H H' : Hp} {x l : Addr} {ws : List (List Nat)} (R : FillAt K H x l ws) (s : Same H H') : FillAt K H' x l ws := R.fx (Fx.of (F := []) s) List.not_mem_nil List.not_mem_nil
def okWord (w : List Nat) : Bool := okText w && (decide (w ≠ []) && decide (32 ∉ w))
def okWords (ws : List (List Nat)) : Bool := decide (ws.length ≤ 200) && ws.all okWord
def fitT (ws : List (List Nat)) (t : List Nat) (i : Nat) : List (List Nat) := ws.filter (pre (partAt t i))
def spFill (K : PySem.W.Frag) : Sp := fun vs H Q E => ∃ (x dx l : Addr) (ws : List (List Nat)), vs = [.ref x, .ref l] ∧ H x = some (.ins (He.ga K "Filler") dx []) ∧ SqL K H l (tvs ws) ∧ l ≠ x ∧ ws.length ≤ 1000 ∧ (∀ w ∈ ws, w.length ≤ 100000) ∧
  if okWords ws = true then ws.length < 64 ∧ (∀ wl H', H wl = none → Fx [x] H H' → FillAt K H' x wl (srtW ws) → Q .non H') else Rf K "BadText" E H
def spFStart (K : PySem.W.Frag) : Sp := fun vs H Q E => ∃ (x : Addr) (t : List Nat) (i : Int), vs = [.ref x, tv t, .int i] ∧ t.length ≤ 100000 ∧ Tried K t i E H (∀ H', Same H H' → Q (.int (blankStart t i.toNat : Nat)) H')
def spFFit (K : PySem.W.Frag) : Sp := fun vs H Q E => ∃ (x l : Addr) (ws : List (List Nat)) (t : List Nat) (i : Int), vs = [.ref x, tv t, .int i] ∧ FillAt K H x l ws ∧ ws.length ≤ 1000 ∧ (∀ w ∈ ws, w.length ≤ 100000) ∧ t.length ≤ 100000 ∧
  Tried K t i E H (∀ p H', H p = none → Same H H' → H' p = some (.lst (tvs (fitT ws t i.toNat))) → Q (.ref p) H')
def spFCommon (K : PySem.W.Frag) : Sp := fun vs H Q E => ∃ (x l : Addr) (ws : List (List Nat)) (t : List Nat) (i : Int), vs = [.ref x, tv t, .int i] ∧ FillAt K H x l ws ∧ ws.length ≤ 1000 ∧ (∀ w ∈ ws, w.length ≤ 100000) ∧ t.length ≤ 100000 ∧
  Tried K t i E H (∀ H', Same H H' → Q (tv (commonT (partAt t i.toNat) (fitT ws t i.toNat))) H')
section
variable {P : Program} {w : World} {K : PySem.W.Frag} {mg : Str → Option Value} {base : Heap}
theorem d_Filler_init (T : TX K mg) : Mn P w K mg base 3 "Filler" (He.ga K "Filler") p_Filler_init (spFill K) := by
  refine mn_of (fn_Filler_init T) (mk_Filler T) (g_Filler T) sc_Filler_init bd_Filler_init (fun vs H Q E h => ?_) (fun cdv A outer s H vs Q E hr h => ?_)
  · obtain ⟨x, dx, l, ws, rfl, _⟩ := h
    rfl
  · obtain ⟨x, dx, l, ws, rfl, hp, hl, nx, lw, bw, k⟩ := h
    refine ⟨_, (pss_cons (ps_if (pt_cmpR op_gt (pe_callB call_len_seq (by rfl) (b_len T) boot_len (pa_cons (pv 1) pa_nil)) (pgi (i_MOST_WORDS T)) (nomark _)) (pss_one (ps_raise rfl (takes_of rfl rfl rfl rfl) (pmk_own PySem.F.excBase_ValueError (xc_BadText T).1 (g_BadText T) (xc_BadText T).2.1 (raises_own (xc_BadText T).2.2.1 (xc_BadText T).2.2.2) rfl))) pss_nil) (Evl.pss_cut (ps_for (passes_of rfl) rfl (pi_list (pv 1)) (pg_name (i := 2) sc_Filler_init.nd rfl (Or.inl rfl)) (pss_cons (ps_expr (pc (d_look_text T) (hr.mono (by decide)) px (pa_cons (pv 2) pa_nil))) (pss_one (ps_if (PW.pt (pw_or (pt_cmpR op_eq (pv 2) pe_str (nomark _)) (pw_or1 (pt_cmpR op_in_sign pe_str (pv 2) (by rfl))))) (pss_one (ps_raise rfl (takes_of rfl rfl rfl rfl) (pmk_own PySem.F.excBase_ValueError (xc_BadText T).1 (g_BadText T) (xc_BadText T).2.1 (raises_own (xc_BadText T).2.2.1 (xc_BadText T).2.2.2) rfl))) pss_nil)))) (pss_one (ps_fld (pv 0) (pe_callB (cr_sortSetS (by rfl)) (by rfl) (b_sorted T) (by decide +kernel) (pa_cons (pe_callTy (cr_setS (by rfl)) (by rfl) (b_set T) (by decide +kernel) (pa_cons (pv 1) pa_nil)) pa_nil)) rfl)))), ?_⟩
    walk_at "rd"
    have no : okWords ws = false → Rf K "BadText" E H := fun e => by
      rw [if_neg (by rw [e]; decide)] at k
      exact k
    refine ⟨_, .inl hl, ?_⟩
    rw [List.length_map]
    by_cases h2 : (200 : Int) < (ws.length : Nat)
    · rw [if_pos h2]
      exact no (by unfold okWords; rw [decide_eq_false (by omega)]; rfl) H (Same.refl H)
    · rw [if_neg h2]
      let Mid : L2.St → Hp → Prop := fun σ' H' => σ'.length = 3 ∧ σ'[0]? = some (some (.ref x)) ∧ σ'[1]? = some (some (.ref l)) ∧ Same H H' ∧ ws.all okWord = true
      refine ⟨Mid, ?_, ?_⟩
      · walk_at "rd"
        refine ⟨⟨_, hl⟩, ?_⟩
        refine forb_list (xs := tvs ws) (fun i σ' H' => ∃ v, σ' = [some (.ref x), some (.ref l), v] ∧ Same H H' ∧ (ws.take i).all okWord = true) ⟨_, rfl, Same.refl H, by rw [List.take_zero]; rfl⟩ ?_ ?_ ?_
        · rintro i σ' H' hi ⟨v, rfl, s, a⟩
          exact s.seq hl
        · rintro i y σ' H' hy ⟨v, rfl, s, a⟩
          rw [List.getElem?_map] at hy
          cases hz : ws[i]? with
          | none =>
            rw [hz] at hy
            cases hy
          | some u =>
            rw [hz] at hy
            obtain rfl : tv u = y := Option.some.inj hy
            have mu := List.mem_of_getElem? hz
            have et : ws.take (i + 1) = ws.take i ++ [u] := by rw [List.take_add_one, hz]; rfl
            have bad : okWord u = false → Rf K "BadText" E H' := fun e => (no (by
              unfold okWords
              rw [Bool.and_eq_false_iff]
              refine .inr (Bool.eq_false_iff.mpr fun q => ?_)
              have := List.all_eq_true.mp q u mu
              rw [e] at this
              cases this)).at s
            walk_at "rd"
            refine ⟨u, rfl, bw u mu, ?_⟩
            by_cases ok : okText u = true
            · rw [if_pos ok]
              intro H1 s1
              by_cases e : u = []
              · subst e
                rw [if_pos (by exact rfl)]
                exact bad (by decide +kernel) _ s1
              · have es : ¬ S u = ("" : Str) := fun h => e (by rw [show ("" : Str) = S [] from rfl, S_inj] at h; exact h)
                rw [if_neg es]
                refine ⟨32, by decide +kernel, ?_⟩
                by_cases m : 32 ∈ u
                · rw [if_pos m]
                  refine bad ?_ _ s1
                  unfold okWord
                  rw [decide_eq_false (fun q : 32 ∉ u => q m), Bool.and_false, Bool.and_false]
                · rw [if_neg m]
                  refine ⟨s.trans s1, ?_⟩
                  rw [et, List.all_append, a]
                  unfold okWord
                  rw [List.all_cons, ok, decide_eq_true e, decide_eq_true m]
                  rfl
            · rw [if_neg ok]
              refine bad ?_
              unfold okWord
              rw [Bool.eq_false_iff.mpr ok, Bool.false_and]
        · rintro σ' H' ⟨v, rfl, s, a⟩
          rw [List.length_map, List.take_length] at a
          exact ⟨rfl, rfl, rfl, s, a⟩
      · rintro σ' H1 ⟨l3, e0, e1, s, a⟩
        have ok : okWords ws = true := by
          unfold okWords
          rw [decide_eq_true (by omega), a]
          rfl
        rw [if_pos ok] at k
        obtain ⟨l64, k⟩ := k
        match σ', l3, e0, e1 with
        | [v0, v1, v2], _, e0, e1 =>
          obtain rfl : v0 = some (.ref x) := Option.some.inj e0
          obtain rfl : v1 = some (.ref l) := Option.some.inj e1
          walk_at "rd"
          refine ⟨l, ws.map S, rfl, by rw [List.map_map]; exact s.seq hl, by rw [List.length_map]; exact l64, fun q m hq lm mm nd => ?_⟩
          refine ⟨q, m, rfl, upd_same, lm, fun ys wl pm so hwl => ?_⟩
          generalize TSetO _ _ q m = o at hwl ⊢
          obtain ⟨nq, hwl1⟩ := un hwl
          have e := sorted_is pm so nd mm
          rw [e]
          have hp1 : upd (upd H1 q o) wl (.lst (tvs (srtW ws))) x = some (.ins (He.ga K "Filler") dx []) := by
            rw [upd_ne (ne_new (s _ _ hp) hwl1), upd_ne (ne_new (s _ _ hp) hq)]
            exact s _ _ hp
          simp only [List.getElem?_cons_zero, List.getElem?_cons_succ, List.set_cons_zero, List.set_cons_succ, List.cons_append, List.nil_append, List.append_nil, Option.some.injEq, V.int.injEq, V.str.injEq, V.bl.injEq, V.ref.injEq, List.cons.injEq, HO.ins.injEq, HO.lst.injEq, HO.tup.injEq, S_inj, ofS_inj, String.reduceEq, ex_eq, ex_eq', ex_eq0, tLc_eq, tFor_eq, iStr, iRng1, iRng2, iList, iTup, tVar, tC, tOp, tCons, tNil, tCB, tFld, tCallS, tMethW, tMakeS, WE, wKeep, tLits, tLst, tTup, wipe, rI, rI0, rU, rEq, rNe, scII, scSS, scBB, scNN, scNI, scNS, scNB, scIN, scSN, scBN, scIS, scSI, if_tt, if_ff, and_true, true_and, and_assoc, exists_and_left, exists_and_right, exists_const, cxK, decide_true, decide_false, Bool.not_true, Bool.not_false, eq_self_iff_true, Bool.true_eq_false, Bool.false_eq_true, if_true, if_false, reduceCtorEq, S_len, S_one, S_tl, decide_eq_true_eq, tUn, tAndV, tOrV, tNotV, tIf, tAnd, tOr, tNot, tB, tTest, tChain, tCall, tMeth, tMake, sFld, tSeq, tNext, tAsg, gName, tIfS, tRet, tRetN, tDrop, tM0, tM1, tBM, tBM0, rAppend, rPop, tSl, tPart, tNoPart, rIxL, rIxT, rIxS, rSlS, rSlL, rCat, iRng3, tRevL, tDisp, tPairs, tDGet, sDPut, gTup, gCons, gNil, gSub, gAttr, rSetL, tv, upd_same, upd_upd, List.length_cons, List.length_nil, Nat.reduceAdd, Nat.zero_add, lines, fk_Filler T, lk_Filler, inj_Filler, hp1, mk_fs_Filler]
          refine ⟨by decide, k wl _ (s.free hwl1) ((((Fx.of s).nw hq).nw hwl).trans (Fx.upd List.mem_cons_self (nt_ins hp1))) ⟨⟨dx, upd_same⟩, ?_⟩⟩
          rw [upd_ne (ne_new (s _ _ hp) hwl1).symm, upd_same]
theorem d_Filler_start (T : TX K mg) : Mt P w K mg base 3 (He.ga K "Filler") "start" p_Filler_start (spFStart K) := by
  refine mt_of (fn_Filler_start T) (cl_Filler T) (me_Filler_start T) sc_Filler_start bd_Filler_start (fun vs H Q E h => ?_) (fun cdv A outer s H vs Q E hr h => ?_)
  · obtain ⟨x, t, i, rfl, _⟩ := h
    rfl
  · obtain ⟨x, t, i, rfl, ht, k⟩ := h
    refine ⟨_, (pss_cons (ps_expr (pc (d_look_text T) (hr.mono (by decide)) px (pa_cons (pv 1) pa_nil))) (pss_cons (ps_expr (pc (d_look_place T) (hr.mono (by decide)) px (pa_cons (pv 1) (pa_cons (pv 2) pa_nil)))) (pss_one (ps_ret (pe_op op_add (pe_bm PySem.F.plainAttrs_str PySem.F.slot_str_rfind PySem.F.type_str_rfind mt_rfind4 (pv 1) (pa_cons pe_str (pa_cons pe_int (pa_cons (pv 2) pa_nil)))) pe_int))))), ?_⟩
    walk_at "rd"
    refine tried_looks (R := fun _ H1 => tyV K "str" (V.str (S t)) H1 ∧ Q (V.int (Txt.rfindIn (S t) (" " : Str) 0 i + 1)) H1) ht k fun ok i0 i1 k H1 s1 => ⟨rfl, ?_⟩
    have e := rfind_blank (t := t) (i := i.toNat) (by omega)
    rw [Int.toNat_of_nonneg i0] at e
    rw [e]
    exact k H1 s1
/-- the text that is to be filled in, as a slice -/
theorem part_cut {t : List Nat} {i : Int} (h0 : 0 ≤ i) (h1 : i ≤ t.length) : cutS (S t) (some ((blankStart t i.toNat : Nat) : Int)) (some i) = S (partAt t i.toNat) := by
  have := blankStart_le t i.toNat
  rw [cut_S t _ _ (by omega) (by omega) h0 h1]
  rfl
theorem d_Filler_fitting (T : TX K mg) : Mt P w K mg base 4 (He.ga K "Filler") "fitting" p_Filler_fitting (spFFit K) := by
  refine mt_of (fn_Filler_fitting T) (cl_Filler T) (me_Filler_fitting T) sc_Filler_fitting bd_Filler_fitting (fun vs H Q E h => ?_) (fun cdv A outer s H vs Q E hr h => ?_)
  · obtain ⟨x, l, ws, t, i, rfl, _⟩ := h
    rfl
  · obtain ⟨x, l, ws, t, i, rfl, R, lw, bw, ht, k⟩ := h
    refine ⟨_, (pss_cons (ps_set (i := 3) sc_Filler_fitting.nd rfl (Or.inr rfl) (pe_slice sl_str (pv 1) (po_some (pm (d_Filler_start T) (hr.mono (by decide)) px (pv 0) (pa_cons (pv 1) (pa_cons (pv 2) pa_nil)))) (po_some (pv 2)))) (pss_one (ps_ret (pe_lc (own := [("word", 4)]) rfl sc_Filler_fitting.nd (pi_list (pe_fld (pv 0) rfl)) (blkOk_by (own := [("word", 4)]) (N := n_Filler_fitting) (sc := defScope s_Filler_fitting) (by decide +kernel)) (fun _ _ _ _ _ => (pg_name (i := 4) sc_Filler_fitting.nd rfl (Or.inl rfl))) (fun _ _ _ _ _ => (pts_one (pt_val (show PE _ _ (tBM K "str" _ _ _) from (pe_bm PySem.F.plainAttrs_str PySem.F.slot_str_startswith PySem.F.type_str_startswith mt_startswith (pv 4) (pa_cons (pv 3) pa_nil)))))) (fun _ _ _ _ _ => (pv 4)))))), ?_⟩
    walk_at "rd"
    obtain ⟨⟨dx, hp⟩, hl⟩ := id R
    simp only [List.getElem?_cons_zero, List.getElem?_cons_succ, List.set_cons_zero, List.set_cons_succ, List.cons_append, List.nil_append, List.append_nil, Option.some.injEq, V.int.injEq, V.str.injEq, V.bl.injEq, V.ref.injEq, List.cons.injEq, HO.ins.injEq, HO.lst.injEq, HO.tup.injEq, S_inj, ofS_inj, String.reduceEq, ex_eq, ex_eq', ex_eq0, tLc_eq, tFor_eq, iStr, iRng1, iRng2, iList, iTup, tVar, tC, tOp, tCons, tNil, tCB, tFld, tCallS, tMethW, tMakeS, WE, wKeep, tLits, tLst, tTup, wipe, rI, rI0, rU, rEq, rNe, scII, scSS, scBB, scNN, scNI, scNS, scNB, scIN, scSN, scBN, scIS, scSI, if_tt, if_ff, and_true, true_and, and_assoc, exists_and_left, exists_and_right, exists_const, cxK, decide_true, decide_false, Bool.not_true, Bool.not_false, eq_self_iff_true, Bool.true_eq_false, Bool.false_eq_true, if_true, if_false, reduceCtorEq, S_len, S_one, S_tl, decide_eq_true_eq, tUn, tAndV, tOrV, tNotV, tIf, tAnd, tOr, tNot, tB, tTest, tChain, tCall, tMeth, tMake, sFld, tSeq, tNext, tAsg, gName, tIfS, tRet, tRetN, tDrop, tM0, tM1, tBM, tBM0, rAppend, rPop, tSl, tPart, tNoPart, rIxL, rIxT, rIxS, rSlS, rSlL, rCat, iRng3, tRevL, tDisp, tPairs, tDGet, sDPut, gTup, gCons, gNil, gSub, gAttr, rSetL, tv, upd_same, upd_upd, List.length_cons, List.length_nil, Nat.reduceAdd, Nat.zero_add, lines, fk_Filler T, lk_Filler, inj_Filler, hp]
    refine ⟨x, t, i, rfl, ht, k.imp fun ok i0 i1 k H1 s1 => ?_⟩
    have hp1 := s1 _ _ hp
    have hl1 := s1 _ _ hl
    refine ⟨_, rfl, sline ht, ?_⟩
    rw [part_cut i0 i1]
    simp only [List.getElem?_cons_zero, List.getElem?_cons_succ, List.set_cons_zero, List.set_cons_succ, List.cons_append, List.nil_append, List.append_nil, Option.some.injEq, V.int.injEq, V.str.injEq, V.bl.injEq, V.ref.injEq, List.cons.injEq, HO.ins.injEq, HO.lst.injEq, HO.tup.injEq, S_inj, ofS_inj, String.reduceEq, ex_eq, ex_eq', ex_eq0, tLc_eq, tFor_eq, iStr, iRng1, iRng2, iList, iTup, tVar, tC, tOp, tCons, tNil, tCB, tFld, tCallS, tMethW, tMakeS, WE, wKeep, tLits, tLst, tTup, wipe, rI, rI0, rU, rEq, rNe, scII, scSS, scBB, scNN, scNI, scNS, scNB, scIN, scSN, scBN, scIS, scSI, if_tt, if_ff, and_true, true_and, and_assoc, exists_and_left, exists_and_right, exists_const, cxK, decide_true, decide_false, Bool.not_true, Bool.not_false, eq_self_iff_true, Bool.true_eq_false, Bool.false_eq_true, if_true, if_false, reduceCtorEq, S_len, S_one, S_tl, decide_eq_true_eq, tUn, tAndV, tOrV, tNotV, tIf, tAnd, tOr, tNot, tB, tTest, tChain, tCall, tMeth, tMake, sFld, tSeq, tNext, tAsg, gName, tIfS, tRet, tRetN, tDrop, tM0, tM1, tBM, tBM0, rAppend, rPop, tSl, tPart, tNoPart, rIxL, rIxT, rIxS, rSlS, rSlL, rCat, iRng3, tRevL, tDisp, tPairs, tDGet, sDPut, gTup, gCons, gNil, gSub, gAttr, rSetL, tv, upd_same, upd_upd, List.length_cons, List.length_nil, Nat.reduceAdd, Nat.zero_add, lines, fk_Filler T, lk_Filler, inj_Filler, hp1]
    refine ⟨⟨_, sq_of hl1⟩, ?_⟩
    refine lcb_list ws tv (pre (partAt t i.toNat)) tv (sq_of hl1) (by omega) (fun y H2 hy s2 Y N hY hN => ?_) fun D H2 hD s2 eD => k D H2 (s1.free hD) (s1.trans s2) eD
    walk_at "rd"
    refine ⟨rfl, ?_⟩
    rw [startswith_S]
    by_cases b : pre (partAt t i.toNat) y = true
    · rw [if_pos b]
      exact hY b _ (Same.refl _)
    · rw [if_neg b]
      exact hN (Bool.eq_false_iff.mpr b) _ (Same.refl _)
theorem d_Filler_common (T : TX K mg) : Mt P w K mg base 5 (He.ga K "Filler") "common" p_Filler_common (spFCommon K) := by
  refine mt_of (fn_Filler_common T) (cl_Filler T) (me_Filler_common T) sc_Filler_common bd_Filler_common (fun vs H Q E h => ?_) (fun cdv A outer s H vs Q E hr h => ?_)
  · obtain ⟨x, l, ws, t, i, rfl, _⟩ := h
    rfl
  · obtain ⟨x, l, ws, t, i, rfl, R, lw, bw, ht, k⟩ := h
    refine ⟨_, (pss_cons (ps_set (i := 3) sc_Filler_common.nd rfl (Or.inr rfl) (pm (d_Filler_fitting T) (hr.mono (by decide)) px (pv 0) (pa_cons (pv 1) (pa_cons (pv 2) pa_nil)))) (pss_cons (ps_set (i := 4) sc_Filler_common.nd rfl (Or.inr rfl) (pe_slice sl_str (pv 1) (po_some (pm (d_Filler_start T) (hr.mono (by decide)) px (pv 0) (pa_cons (pv 1) (pa_cons (pv 2) pa_nil)))) (po_some (pv 2)))) (pss_cons (ps_if (pt_not (pt_truth (pv 3) (by intro _; rfl))) (pss_one (ps_ret (pv 4))) pss_nil) (Evl.pss_cut (ps_while (passes_of rfl) (PW.pt (pw_and (pt_cmpR op_lt (pe_callB call_len_str (by rfl) (b_len T) boot_len (pa_cons (pv 4) pa_nil)) (pe_callB call_len_str (by rfl) (b_len T) boot_len (pa_cons (pe_ix ix_list (pv 3) pe_int (fun _ _ => rfl)) pa_nil)) (nomark _)) (pw_and1 (pt_val (pe_callB (cr_all rfl) (by rfl) (b_all T) (by decide +kernel) (pa_cons (pe_lc (own := [("word", 5)]) rfl sc_Filler_common.nd (pi_list (pv 3)) (blkOk_by (own := [("word", 5)]) (N := n_Filler_common) (sc := defScope s_Filler_common) (by decide +kernel)) (fun _ _ _ _ _ => (pg_name (i := 5) sc_Filler_common.nd rfl (Or.inl rfl))) (fun _ _ _ _ _ => pts_nil) (fun _ _ _ _ _ => (show PE _ _ (tBM K "str" _ _ _) from (pe_bm PySem.F.plainAttrs_str PySem.F.slot_str_startswith PySem.F.type_str_startswith mt_startswith (pv 5) (pa_cons (pe_slice sl_str (pe_ix (show IxR _ (rIxL K) from ix_list) (pv 3) pe_int (fun _ _ => rfl)) po_none (po_some (pe_op op_add (pe_callB call_len_str (by rfl) (b_len T) boot_len (pa_cons (pv 4) pa_nil)) pe_int))) pa_nil))))) pa_nil)))))) (pss_one (ps_set (i := 4) sc_Filler_common.nd rfl (Or.inr rfl) (pe_slice sl_str (pe_ix ix_list (pv 3) pe_int (fun _ _ => rfl)) po_none (po_some (pe_op op_add (pe_callB call_len_str (by rfl) (b_len T) boot_len (pa_cons (pv 4) pa_nil)) pe_int)))))) (pss_one (ps_ret (pv 4))))))), ?_⟩
    walk_at "rd"
    obtain ⟨⟨dx, hp⟩, hl⟩ := id R
    simp only [List.getElem?_cons_zero, List.getElem?_cons_succ, List.set_cons_zero, List.set_cons_succ, List.cons_append, List.nil_append, List.append_nil, Option.some.injEq, V.int.injEq, V.str.injEq, V.bl.injEq, V.ref.injEq, List.cons.injEq, HO.ins.injEq, HO.lst.injEq, HO.tup.injEq, S_inj, ofS_inj, String.reduceEq, ex_eq, ex_eq', ex_eq0, tLc_eq, tFor_eq, iStr, iRng1, iRng2, iList, iTup, tVar, tC, tOp, tCons, tNil, tCB, tFld, tCallS, tMethW, tMakeS, WE, wKeep, tLits, tLst, tTup, wipe, rI, rI0, rU, rEq, rNe, scII, scSS, scBB, scNN, scNI, scNS, scNB, scIN, scSN, scBN, scIS, scSI, if_tt, if_ff, and_true, true_and, and_assoc, exists_and_left, exists_and_right, exists_const, cxK, decide_true, decide_false, Bool.not_true, Bool.not_false, eq_self_iff_true, Bool.true_eq_false, Bool.false_eq_true, if_true, if_false, reduceCtorEq, S_len, S_one, S_tl, decide_eq_true_eq, tUn, tAndV, tOrV, tNotV, tIf, tAnd, tOr, tNot, tB, tTest, tChain, tCall, tMeth, tMake, sFld, tSeq, tNext, tAsg, gName, tIfS, tRet, tRetN, tDrop, tM0, tM1, tBM, tBM0, rAppend, rPop, tSl, tPart, tNoPart, rIxL, rIxT, rIxS, rSlS, rSlL, rCat, iRng3, tRevL, tDisp, tPairs, tDGet, sDPut, gTup, gCons, gNil, gSub, gAttr, rSetL, tv, upd_same, upd_upd, List.length_cons, List.length_nil, Nat.reduceAdd, Nat.zero_add, lines, fk_Filler T, lk_Filler, inj_Filler, hp]
    refine ⟨x, l, ws, t, i, rfl, R, lw, bw, ht, k.imp fun ok i0 i1 k p H1 hpp s1 e1 => ?_⟩
    have hp1 := s1 _ _ hp
    simp only [List.getElem?_cons_zero, List.getElem?_cons_succ, List.set_cons_zero, List.set_cons_succ, List.cons_append, List.nil_append, List.append_nil, Option.some.injEq, V.int.injEq, V.str.injEq, V.bl.injEq, V.ref.injEq, List.cons.injEq, HO.ins.injEq, HO.lst.injEq, HO.tup.injEq, S_inj, ofS_inj, String.reduceEq, ex_eq, ex_eq', ex_eq0, tLc_eq, tFor_eq, iStr, iRng1, iRng2, iList, iTup, tVar, tC, tOp, tCons, tNil, tCB, tFld, tCallS, tMethW, tMakeS, WE, wKeep, tLits, tLst, tTup, wipe, rI, rI0, rU, rEq, rNe, scII, scSS, scBB, scNN, scNI, scNS, scNB, scIN, scSN, scBN, scIS, scSI, if_tt, if_ff, and_true, true_and, and_assoc, exists_and_left, exists_and_right, exists_const, cxK, decide_true, decide_false, Bool.not_true, Bool.not_false, eq_self_iff_true, Bool.true_eq_false, Bool.false_eq_true, if_true, if_false, reduceCtorEq, S_len, S_one, S_tl, decide_eq_true_eq, tUn, tAndV, tOrV, tNotV, tIf, tAnd, tOr, tNot, tB, tTest, tChain, tCall, tMeth, tMake, sFld, tSeq, tNext, tAsg, gName, tIfS, tRet, tRetN, tDrop, tM0, tM1, tBM, tBM0, rAppend, rPop, tSl, tPart, tNoPart, rIxL, rIxT, rIxS, rSlS, rSlL, rCat, iRng3, tRevL, tDisp, tPairs, tDGet, sDPut, gTup, gCons, gNil, gSub, gAttr, rSetL, tv, upd_same, upd_upd, List.length_cons, List.length_nil, Nat.reduceAdd, Nat.zero_add, lines, fk_Filler T, lk_Filler, inj_Filler, hp1]
    refine ⟨x, t, i, rfl, ht, ?_⟩
    unfold Tried
    rw [if_pos ok, if_pos ⟨i0, i1⟩]
    intro H2 s2
    have e2 := s2 _ _ e1
    refine ⟨_, rfl, sline ht, _, tru_lst e2, ?_⟩
    rw [part_cut i0 i1]
    obtain ⟨sm, hsm⟩ : ∃ sm, fitT ws t i.toNat = sm := ⟨_, rfl⟩
    obtain ⟨pt, hpt⟩ : ∃ pt, partAt t i.toNat = pt := ⟨_, rfl⟩
    have hin : ∀ w ∈ sm, pre pt w = true ∧ w.length ≤ 100000 := fun w hw => by
      rw [← hsm] at hw
      obtain ⟨q1, q2⟩ := List.mem_filter.mp hw
      rw [hpt] at q2
      exact ⟨q2, bw w q1⟩
    have lsm : sm.length ≤ 1000 := by
      rw [← hsm]
      exact Nat.le_trans (List.length_filter_le _ _) lw
    rw [hsm, hpt] at k ⊢
    rw [hsm] at e2
    match sm, e2, hin, lsm, k with
    | [], e2, hin, lsm, k =>
      rw [if_pos (by decide)]
      exact k H2 (s1.trans s2)
    | w0 :: r, e2, hin, lsm, k =>
      rw [if_neg (by exact fun z => nomatch z)]
      obtain ⟨m, hm⟩ : ∃ m, lcpN (w0 :: r) w0.length = m := ⟨_, rfl⟩
      have p0 := hin w0 List.mem_cons_self
      have ix : atI (tvs (w0 :: r)) 0 = some (tv w0) := by
        rw [atI_in (by omega) (by rw [List.length_map]; simp)]
        rfl
      have lp : pt.length ≤ w0.length := by
        have := congrArg List.length (pre_iff.mp p0.1)
        rw [List.length_take] at this
        omega
      have ept : pt = w0.take pt.length := (pre_iff.mp p0.1).symm
      have ok0 : okN (w0 :: r) pt.length = true := List.all_eq_true.mpr fun w hw => by
        show pre (w0.take pt.length) w = true
        rw [← ept]
        exact (hin w hw).1
      let Mid : L2.St → Hp → Prop := fun σ' H' => ∃ v5, σ' = [some (.ref x), some (tv t), some (.int i), some (.ref p), some (tv (w0.take m)), v5] ∧ Same H2 H'
      refine ⟨Mid, ?_, ?_⟩
      · refine ⟨fun n σ' H' => ∃ (c : Nat) (v5 : Option V), σ' = [some (.ref x), some (tv t), some (.int i), some (.ref p), some (tv (w0.take c)), v5] ∧ Same H2 H' ∧ c ≤ w0.length ∧ okN (w0 :: r) c = true ∧ n = w0.length - c, ⟨_, pt.length, none, by rw [← ept], Same.refl H2, lp, ok0, rfl⟩, ?_⟩
        rintro n σ' H' ⟨c, v5, rfl, s3, cl, okc, rfl⟩
        have e3 := s3 _ _ e2
        have lc : (w0.take c).length = c := by
          rw [List.length_take]
          omega
        have stop : (¬ (c < w0.length ∧ okN (w0 :: r) (c + 1) = true)) → ∀ v5 H'', Same H' H'' → Mid [some (.ref x), some (tv t), some (.int i), some (.ref p), some (tv (w0.take c)), v5] H'' := fun n v5 H'' s4 => by
          have : m = c := by
            rw [← hm]
            refine lcpN_is cl okc ?_
            by_cases z : c = w0.length
            · exact .inl z
            · exact .inr fun q => n ⟨by omega, q⟩
          refine ⟨v5, ?_, s3.trans s4⟩
          rw [this]
        walk_at "rd"
        rw [lc]
        refine ⟨sline (by omega), _, sq_of e3, _, ix, _, rfl, sline p0.2, ?_⟩
        rw [S_len]
        by_cases clt : (c : Int) < (w0.length : Nat)
        · rw [if_pos clt]
          refine ⟨⟨_, sq_of e3⟩, ?_⟩
          refine lcb_list (w0 :: r) tv (fun _ => true) (fun y => .bl (pre (w0.take (c + 1)) y)) (sq_of e3) (by omega) (fun y H4 hy s4 Y N hY hN => ?_) fun D H4 hD s4 eD => ?_
          · walk_at "rd"
            rw [lc]
            refine ⟨rfl, _, sq_of (s4 _ _ e3), _, ix, sline (by omega), _, rfl, sline p0.2, ?_⟩
            rw [cut_to _ _ (by omega), startswith_S, show ((c : Int) + 1).toNat = c + 1 by omega]
            exact hY rfl _ (Same.refl _)
          · have e4 := s4 _ _ e3
            have eall : ((w0 :: r).map fun y => pre (w0.take (c + 1)) y).all id = okN (w0 :: r) (c + 1) := by
              rw [List.all_map]
              rfl
            refine ⟨D, (w0 :: r).map fun y => pre (w0.take (c + 1)) y, rfl, sq_of (by rw [eD, filter_tt, List.map_map]; rfl), _, rfl, ?_⟩
            rw [eall]
            by_cases b : okN (w0 :: r) (c + 1) = true
            · rw [if_pos b]
              refine ⟨fun σ' H' => ∃ v5, σ' = [some (.ref x), some (tv t), some (.int i), some (.ref p), some (tv (w0.take (c + 1))), v5] ∧ Same H2 H', fun σ' H' ⟨v5, e, s5⟩ => ⟨_, ?_, c + 1, ⟨v5, e⟩, s5, by omega, b, rfl⟩, _, sq_of e4, _, ix, sline (by omega), _, rfl, sline p0.2, v5, ?_, s3.trans s4⟩
              · omega
              · rw [cut_to _ _ (by omega), show ((c : Int) + 1).toNat = c + 1 by omega]
            · rw [if_neg b]
              exact stop (fun q => b q.2) _ _ s4
        · rw [if_neg clt]
          exact stop (fun q => by omega) _ _ (Same.refl _)
      · rintro σ' H3 ⟨v5, rfl, s3⟩
        walk_at "rd"
        have ek : commonT pt (w0 :: r) = w0.take m := by
          show w0.take (lcpN (w0 :: r) w0.length) = _
          rw [hm]
        rw [ek] at k
        exact k H3 (s1.trans (s2.trans s3))
end
end LH
/-! ## L31: the law of fills -/
namespace LH
open PySem PySem.Spec PyProof.Rows L2
def spTold (K : PySem.W.Frag) : Sp := fun vs H Q _ => ∃ (fv : V) (way : Int) (one : V) (at_ : Int), vs = [fv, .int way, one, .int at_] ∧
  ((way = 3 ∧ ∃ (l : Addr) (ws : List (List Nat)), one = .ref l ∧ H l = some (.lst (tvs ws)) ∧ okWords ws = false ∧ ws.length ≤ 1000 ∧ (∀ w ∈ ws, w.length ≤ 100000) ∧ ∀ v H', Same H H' → IsRef H' "text" v → Q v H') ∨
   ∃ (x l : Addr) (ws : List (List Nat)) (t : List Nat), fv = .ref x ∧ one = tv t ∧ FillAt K H x l ws ∧ ws.length ≤ 1000 ∧ (∀ w ∈ ws, w.length ≤ 100000) ∧ t.length ≤ 1000 ∧ okText t = true ∧
    ((¬ (0 ≤ at_ ∧ at_ ≤ t.length) ∧ 0 ≤ way ∧ way ≤ 2 ∧ ∀ v H', Same H H' → IsRef H' "place" v → Q v H') ∨
     (0 ≤ at_ ∧ at_ ≤ t.length ∧ ((way = 0 ∧ ∀ H', Same H H' → Q (.int (blankStart t at_.toNat : Nat)) H') ∨
      (way = 1 ∧ ∀ p H', H p = none → Same H H' → H' p = some (.lst (tvs (fitT ws t at_.toNat))) → Q (.ref p) H') ∨
      (way = 2 ∧ ∀ H', Same H H' → Q (tv (commonT (partAt t at_.toNat) (fitT ws t at_.toNat))) H')))))
def spLaw (K : PySem.W.Frag) : Sp := fun vs H Q _ => ∃ (a : Addr) (ns : List Int), vs = [.ref a] ∧ SqL K H a (ns.map V.int) ∧ ns.length ≤ 63 ∧ ∀ H', Q (.bl true) H'
theorem len_law {K : PySem.W.Frag} (vs : List V) (H : Hp) (Q : VK) (E : XK) (h : spLaw K vs H Q E) : vs.length = p_law.length := by
  obtain ⟨a, ns, rfl, _⟩ := h
  rfl
section
variable {P : Program} {w : World} {K : PySem.W.Frag} {mg : Str → Option Value} {base : Heap}
theorem d_l_told (T : TX K mg) : Dn P w K mg base 6 "_law_told" p_l_told (spTold K) := by
  refine dn_of (fn_l_told T) (g__law_told T) sc_l_told bd_l_told (fun vs H Q E h => ?_) (fun cdv A outer s H vs Q E hr h => ?_)
  · obtain ⟨fv, way, one, at_, rfl, _⟩ := h
    rfl
  · obtain ⟨fv, way, one, at_, rfl, h⟩ := h
    refine ⟨_, (pss_cons (ps_set (i := 4) sc_l_told.nd rfl (Or.inl rfl) pe_non) (pss_cons (ps_set (i := 5) sc_l_told.nd rfl (Or.inl rfl) pe_non) (pss_cons (ps_try_keep (i := 6) rfl rfl rfl sc_l_told.nd rfl rfl ⟨rfl, by decide, .inl (g_HandError T)⟩ (fun W pn xe tk _ => (pss_one (ps_if (pt_cmpR op_eq (pv 1) pe_int (nomark _)) (pss_one (ps_set (i := 5) sc_l_told.nd rfl (Or.inl rfl) (pmS (d_Filler_start T) (hr.mono (by decide)) (fun σ => passAt tk σ) (pv 0) (pa_cons (pv 2) (pa_cons (pv 3) pa_nil))))) (pss_one (ps_if (pt_cmpR op_eq (pv 1) pe_int (nomark _)) (pss_one (ps_set (i := 5) sc_l_told.nd rfl (Or.inl rfl) (pmS (d_Filler_fitting T) (hr.mono (by decide)) (fun σ => passAt tk σ) (pv 0) (pa_cons (pv 2) (pa_cons (pv 3) pa_nil))))) (pss_one (ps_set (i := 5) sc_l_told.nd rfl (Or.inl rfl) (pe_ifExp (pt_cmpR op_eq (pv 1) pe_int (nomark _)) (pmS (d_Filler_common T) (hr.mono (by decide)) (fun σ => passAt tk σ) (pv 0) (pa_cons (pv 2) (pa_cons (pv 3) pa_nil))) (pe_cmpR op_isN (pnS (d_Filler_init T) (hr.mono (by decide)) (fun σ => passAt tk σ) (pa_cons (pv 2) pa_nil)) pe_non (nomark _)))))))))) (fun a oe cls d pn hz hf => (pss_one (ps_set (i := 4) sc_l_told.nd rfl (Or.inl rfl) (pv 6))))) (pss_one (ps_ret (pe_ifExp (pt_cmpR op_isN (pv 4) pe_non (nomark _)) (pv 5) (pc (d_l_refusal T) (hr.mono (by decide)) px (pa_cons (pv 4) pa_nil)))))))), ?_⟩
    walk_at "rd"
    have lt : 6 < 7 := by decide
    rcases h with ⟨rfl, l, ws, rfl, hl, bad, lw, bw, q⟩ | ⟨x, l, ws, t, rfl, rfl, R, lw, bw, ht, ok, h⟩
    · rw [if_neg (by decide), if_neg (by decide), if_neg (by decide)]
      intro y dy hy hdy nyd
      have sm : Same H (upd (upd H dy (.own y)) y (.ins (He.ga K "Filler") dy [])) := (same_new hdy).trans (same_new (by rw [upd_ne nyd.symm]; exact hy))
      refine ⟨y, dy, l, ws, rfl, upd_same, sq_of (sm _ _ hl), ne_new hl hy, lw, bw, ?_⟩
      rw [if_neg (by rw [bad]; decide)]
      refine rf_keep (xm_BadText T) lt fun a H' s na => ?_
      walk_at "rd"
      exact ref_end k_text (sm.trans s) na q
    · obtain ⟨⟨dx, hp⟩, _⟩ := id R
      simp only [List.getElem?_cons_zero, List.getElem?_cons_succ, List.set_cons_zero, List.set_cons_succ, List.cons_append, List.nil_append, List.append_nil, Option.some.injEq, V.int.injEq, V.str.injEq, V.bl.injEq, V.ref.injEq, List.cons.injEq, HO.ins.injEq, HO.lst.injEq, HO.tup.injEq, S_inj, ofS_inj, String.reduceEq, ex_eq, ex_eq', ex_eq0, tLc_eq, tFor_eq, iStr, iRng1, iRng2, iList, iTup, tVar, tC, tOp, tCons, tNil, tCB, tFld, tCallS, tMethW, tMakeS, WE, wKeep, tLits, tLst, tTup, wipe, rI, rI0, rU, rEq, rNe, scII, scSS, scBB, scNN, scNI, scNS, scNB, scIN, scSN, scBN, scIS, scSI, if_tt, if_ff, and_true, true_and, and_assoc, exists_and_left, exists_and_right, exists_const, cxK, decide_true, decide_false, Bool.not_true, Bool.not_false, eq_self_iff_true, Bool.true_eq_false, Bool.false_eq_true, if_true, if_false, reduceCtorEq, S_len, S_one, S_tl, decide_eq_true_eq, tUn, tAndV, tOrV, tNotV, tIf, tAnd, tOr, tNot, tB, tTest, tChain, tCall, tMeth, tMake, sFld, tSeq, tNext, tAsg, gName, tIfS, tRet, tRetN, tDrop, tM0, tM1, tBM, tBM0, rAppend, rPop, tSl, tPart, tNoPart, rIxL, rIxT, rIxS, rSlS, rSlL, rCat, iRng3, tRevL, tDisp, tPairs, tDGet, sDPut, gTup, gCons, gNil, gSub, gAttr, rSetL, tv, upd_same, upd_upd, List.length_cons, List.length_nil, Nat.reduceAdd, Nat.zero_add, lines, fk_Filler T, lk_Filler, inj_Filler, hp]
      rcases h with ⟨bad, w0, w2, q⟩ | ⟨a0, a1, ⟨rfl, q⟩ | ⟨rfl, q⟩ | ⟨rfl, q⟩⟩
      · have tr : ∀ {B : Prop} {D : Ends} {σ : L2.St} , (∀ a H', Same H H' → H' a = none → D.nx (((σ.set 6 (some (.ref a))).set 4 (some (.ref a))).set 6 none) (upd H' a (KX (He.ga K "BadPlace") a))) → 6 < σ.length →
            Tried K t at_ (WE (wKeep K (.ref (He.ga K "HandError")) 6 (fun _ _ _ => tAsg (tVar 6) (gName 4)) D) σ) H B := fun h hl => by
          unfold Tried
          rw [if_pos ok, if_neg bad]
          exact rf_keep (xm_BadPlace T) hl h
        have e3 : way = 0 ∨ way = 1 ∨ way = 2 := by omega
        rcases e3 with rfl | rfl | rfl
        · rw [if_pos rfl]
          refine ⟨x, t, at_, rfl, by omega, tr (fun a H' s na => ?_) lt⟩
          walk_at "rd"
          exact ref_end k_place s na q
        · rw [if_neg (by decide), if_pos rfl]
          refine ⟨x, l, ws, t, at_, rfl, R, lw, bw, by omega, tr (fun a H' s na => ?_) lt⟩
          walk_at "rd"
          exact ref_end k_place s na q
        · rw [if_neg (by decide), if_neg (by decide), if_pos rfl]
          refine ⟨x, l, ws, t, at_, rfl, R, lw, bw, by omega, tr (fun a H' s na => ?_) lt⟩
          walk_at "rd"
          exact ref_end k_place s na q
      · rw [if_pos rfl]
        refine ⟨x, t, at_, rfl, by omega, ?_⟩
        unfold Tried
        rw [if_pos ok, if_pos ⟨a0, a1⟩]
        exact q
      · rw [if_neg (by decide), if_pos rfl]
        refine ⟨x, l, ws, t, at_, rfl, R, lw, bw, by omega, ?_⟩
        unfold Tried
        rw [if_pos ok, if_pos ⟨a0, a1⟩]
        exact q
      · rw [if_neg (by decide), if_neg (by decide), if_pos rfl]
        refine ⟨x, l, ws, t, at_, rfl, R, lw, bw, by omega, ?_⟩
        unfold Tried
        rw [if_pos ok, if_pos ⟨a0, a1⟩]
        exact q
/-- the law's lists, the filler, beside the town -/
structure J31 (K : PySem.W.Frag) (H : Hp) (a p pw pg x wl : Addr) (ns : List Int) (z : Nat) (ws : List (List Nat)) : Prop where
  D : Dr K H a p ns z
  ew : H pw = some (.lst (tvs ws))
  eg : H pg = some (.lst (tvs ws))
  F : FillAt K H x wl (srtW ws)
  n1 : p ≠ pw
  n2 : p ≠ pg
  n3 : p ≠ x
  n4 : p ≠ wl
theorem J31.draw {H H' : Hp} {a p pw pg x wl : Addr} {ns : List Int} {z z' : Nat} {ws : List (List Nat)} (J : J31 K H a p pw pg x wl ns z ws) (f : Fx [p] H H') (D : Dr K H' a p ns z') : J31 K H' a p pw pg x wl ns z' ws :=
  ⟨D, f.at J.ew (by simp [J.n1.symm]), f.at J.eg (by simp [J.n2.symm]), J.F.fx f (by simp [J.n3.symm]) (by simp [J.n4.symm]), J.n1, J.n2, J.n3, J.n4⟩
theorem J31.same {H H' : Hp} {a p pw pg x wl : Addr} {ns : List Int} {z : Nat} {ws : List (List Nat)} (J : J31 K H a p pw pg x wl ns z ws) (s : Same H H') : J31 K H' a p pw pg x wl ns z ws := J.draw (Fx.of s) (J.D.same s)
theorem srt_filter (ws : List (List Nat)) (f : List Nat → Bool) : srtW (ws.filter f) = (srtW ws).filter f :=
  srt_ext (srtW_srt _) ((srtW_srt ws).filter f) fun x => by rw [srtW_mem, List.mem_filter, List.mem_filter, srtW_mem]
/-- the law's own start: the greatest of what stands behind blanks -/
def lawStart (t : List Nat) (i : Nat) : List Int := 0 :: (((List.range i).map fun k : Nat => (0 : Int) + (k : Int)).filter fun k => decide (t[k.toNat]? = some 32)).map fun k => k + 1
theorem lawStart_mem (t : List Nat) (i : Nat) : ((blankStart t i : Nat) : Int) ∈ lawStart t i := by
  have l := blankStart_le t i
  cases e : blankStart t i with
  | zero => exact List.mem_cons_self
  | succ j =>
    refine List.mem_cons_of_mem _ (List.mem_map.mpr ⟨(0 : Int) + (j : Int), List.mem_filter.mpr ⟨List.mem_map.mpr ⟨j, List.mem_range.mpr (by omega), rfl⟩, ?_⟩, by omega⟩)
    have := blankStart_at e
    rw [show ((0 : Int) + (j : Int)).toNat = j by omega, this]
    rfl
theorem lawStart_max {t : List Nat} {i : Nat} : ∀ y ∈ lawStart t i, y ≤ ((blankStart t i : Nat) : Int) := fun y hy => by
  rcases List.mem_cons.mp hy with rfl | h
  · omega
  · obtain ⟨k, hk, rfl⟩ := List.mem_map.mp h
    obtain ⟨h1, h2⟩ := List.mem_filter.mp hk
    obtain ⟨j, hj, rfl⟩ := List.mem_map.mp h1
    have hj2 := List.mem_range.mp hj
    rw [show ((0 : Int) + (j : Int)).toNat = j by omega, decide_eq_true_iff] at h2
    by_cases lt : j < blankStart t i
    · omega
    · exact absurd h2 (blankStart_no (by omega) hj2)
theorem d_law (T : TX K mg) : BodyOk P w K mg base n_law "law" s_law (He.fAd K ("law", none)) 6 (spLaw K) := by
  intro cdv A outer s H vs Q E hr h
  · obtain ⟨a, ns, rfl, hS, hl, K0⟩ := h
    refine ⟨_, (pss_cons (ps_set (i := 1) sc_law.nd rfl (Or.inr rfl) (pe_lst pa_nil)) (pss_cons (ps_set (i := 2) sc_law.nd rfl (Or.inr rfl) (pe_lst (pa_lits rfl))) (pss_cons (ps_setLc (i := 3) rfl sc_law.nd rfl rfl (sw_true rfl rfl rfl (by decide +kernel)) (own := [("_law_k", 4)]) (pi_range1 rfl (b_range T) (pa_cons (pc (d_l_draw T) (hr.mono (by decide)) px (pa_cons (pv 0) (pa_cons (pv 1) (pa_cons pe_int pa_nil)))) pa_nil)) (blkOk_by (own := [("_law_k", 4)]) (N := n_law) (sc := defScope s_law) (by decide +kernel)) (fun _ _ _ _ _ => (pg_name (i := 4) sc_law.nd rfl (Or.inl rfl))) (fun _ _ _ _ _ => pts_nil) (fun _ _ _ _ _ => (pc (d_l_pick T) (hr.mono (by decide)) px0 (pa_cons (pv 0) (pa_cons (pv 1) (pa_cons (pv 2) pa_nil)))))) (Evl.pss_cut (ps_set (i := 5) sc_law.nd rfl (Or.inl rfl) (pe_callTy call_list_of (by rfl) (b_list T) (by decide +kernel) (pa_cons (pv 3) pa_nil))) (Evl.pss_cut (ps_set (i := 6) sc_law.nd rfl (Or.inr rfl) (pn (d_Filler_init T) (hr.mono (by decide)) px (pa_cons (pv 3) pa_nil))) (Evl.pss_cut (ps_set (i := 7) sc_law.nd rfl (Or.inr rfl) (pc (d_l_pick T) (hr.mono (by decide)) px (pa_cons (pv 0) (pa_cons (pv 1) (pa_cons (pe_lst (pa_lits rfl)) pa_nil))))) (Evl.pss_cut (ps_set (i := 7) sc_law.nd rfl (Or.inr rfl) (pe_op op_add_str (pv 7) (pc (d_l_pick T) (hr.mono (by decide)) px (pa_cons (pv 0) (pa_cons (pv 1) (pa_cons (pe_lst (pa_lits rfl)) pa_nil)))))) (Evl.pss_cut (ps_set (i := 7) sc_law.nd rfl (Or.inr rfl) (pe_op op_add_str (pv 7) (pc (d_l_pick T) (hr.mono (by decide)) px (pa_cons (pv 0) (pa_cons (pv 1) (pa_cons (pe_lst (pa_lits rfl)) pa_nil)))))) (Evl.pss_cut (ps_for (passes_of rfl) rfl (pi_range1 rfl (b_range T) (pa_cons (pe_op op_add (pe_callB call_len_str (by rfl) (b_len T) boot_len (pa_cons (pv 7) pa_nil)) pe_int) pa_nil)) (pg_name (i := 8) sc_law.nd rfl (Or.inr rfl)) (Evl.pss_cut (ps_set (i := 9) sc_law.nd rfl (Or.inl rfl) (pe_callB (cr_max rfl) (by rfl) (b_max T) (by decide +kernel) (pa_cons (pe_op op_cat (pe_lst (pa_cons pe_int pa_nil)) (pe_lc (own := [("_law_k", 4)]) rfl sc_law.nd (pi_range1 rfl (b_range T) (pa_cons (pv 8) pa_nil)) (blkOk_by (own := [("_law_k", 4)]) (N := n_law) (sc := defScope s_law) (by decide +kernel)) (fun _ _ _ _ _ => (pg_name (i := 4) sc_law.nd rfl (Or.inl rfl))) (fun _ _ _ _ _ => (pts_one (pt_cmpR op_eq (pe_ix ix_str (pv 7) (pv 4) (fun _ _ => rfl)) pe_str (nomark _)))) (fun _ _ _ _ _ => (pe_op op_add (pv 4) pe_int)))) pa_nil))) (Evl.pss_cut (ps_set (i := 10) sc_law.nd rfl (Or.inr rfl) (pe_slice sl_str (pv 7) (po_some (pv 9)) (po_some (pv 8)))) (Evl.pss_cut (ps_set (i := 11) sc_law.nd rfl (Or.inl rfl) (pe_callB (cr_sortSetS (by rfl)) (by rfl) (b_sorted T) (by decide +kernel) (pa_cons (pe_callTy (cr_setS (by rfl)) (by rfl) (b_set T) (by decide +kernel) (pa_cons (pe_lc (own := [("_law_word", 12)]) rfl sc_law.nd (pi_list (pv 3)) (blkOk_by (own := [("_law_word", 12)]) (N := n_law) (sc := defScope s_law) (by decide +kernel)) (fun _ _ _ _ _ => (pg_name (i := 12) sc_law.nd rfl (Or.inl rfl))) (fun _ _ _ _ _ => (pts_one (pt_cmpR op_eq (pe_slice sl_str (pv 12) po_none (po_some (pe_callB call_len_str (by rfl) (b_len T) boot_len (pa_cons (pv 10) pa_nil)))) (pv 10) (nomark _)))) (fun _ _ _ _ _ => (pv 12))) pa_nil)) pa_nil))) (Evl.pss_cut (ps_set (i := 13) sc_law.nd rfl (Or.inr rfl) (pv 10)) (Evl.pss_cut (ps_if (pt_cmpR (op_neD hr.units) (pv 11) (pe_lst pa_nil) (nomark _)) (pss_cons (ps_set (i := 13) sc_law.nd rfl (Or.inr rfl) (pe_ix ix_list (pv 11) pe_int (fun _ _ => rfl))) (pss_one (ps_while (passes_of rfl) (pt_not (pt_val (pe_callB (cr_all rfl) (by rfl) (b_all T) (by decide +kernel) (pa_cons (pe_lc (own := [("_law_word", 12)]) rfl sc_law.nd (pi_list (pv 11)) (blkOk_by (own := [("_law_word", 12)]) (N := n_law) (sc := defScope s_law) (by decide +kernel)) (fun _ _ _ _ _ => (pg_name (i := 12) sc_law.nd rfl (Or.inl rfl))) (fun _ _ _ _ _ => pts_nil) (fun _ _ _ _ _ => (pe_cmpR op_eq (pe_slice sl_str (pv 12) po_none (po_some (pe_callB call_len_str (by rfl) (b_len T) boot_len (pa_cons (pv 13) pa_nil)))) (pv 13) (nomark _)))) pa_nil)))) (pss_one (ps_set (i := 13) sc_law.nd rfl (Or.inr rfl) (pe_slice sl_str (pv 13) po_none (po_some (pe_un un_neg pe_int)))))))) pss_nil) (pss_one (ps_if (pt_cmpR (op_neD hr.units) (pe_lc (own := [("_law_way", 14)]) rfl sc_law.nd (pi_range1 rfl (b_range T) (pa_cons pe_int pa_nil)) (blkOk_by (own := [("_law_way", 14)]) (N := n_law) (sc := defScope s_law) (by decide +kernel)) (fun _ _ _ _ _ => (pg_name (i := 14) sc_law.nd rfl (Or.inl rfl))) (fun _ _ _ _ _ => pts_nil) (fun _ _ _ _ _ => (pc (d_l_told T) (hr.mono (by decide)) px0 (pa_cons (pv 6) (pa_cons (pv 14) (pa_cons (pv 7) (pa_cons (pv 8) pa_nil))))))) (pe_lst (pa_cons (pv 9) (pa_cons (pv 11) (pa_cons (pv 13) pa_nil)))) (nomark _)) (pss_one (ps_ret pe_bl)) pss_nil)))))))) (pss_cons (ps_if (pt_cmpR (op_neD hr.units) (pv 3) (pv 5) (nomark _)) (pss_one (ps_ret pe_bl)) pss_nil) (pss_cons (ps_set (i := 15) sc_law.nd rfl (Or.inl rfl) (pc (d_l_pick T) (hr.mono (by decide)) px (pa_cons (pv 0) (pa_cons (pv 1) (pa_cons (pe_lst (pa_cons (pe_lst (pa_cons pe_str pa_nil)) (pa_cons (pe_lst (pa_cons pe_str pa_nil)) (pa_cons (pe_lst (pa_cons pe_str (pa_cons pe_str pa_nil))) (pa_cons (pe_op op_rep (pe_lst (pa_cons pe_str pa_nil)) pe_int) pa_nil))))) pa_nil))))) (pss_cons (ps_if (pt_cmpR (op_neD hr.units) (pc (d_l_told T) (hr.mono (by decide)) px (pa_cons (pv 6) (pa_cons pe_int (pa_cons (pv 15) (pa_cons pe_int pa_nil))))) (pe_tup (pa_cons pe_str (pa_cons pe_str pa_nil))) (nomark _)) (pss_one (ps_ret pe_bl)) pss_nil) (pss_one (ps_ret (pe_cmpR (op_eqD hr.units) (pe_lc (own := [("_law_way", 14)]) rfl sc_law.nd (pi_range1 rfl (b_range T) (pa_cons pe_int pa_nil)) (blkOk_by (own := [("_law_way", 14)]) (N := n_law) (sc := defScope s_law) (by decide +kernel)) (fun _ _ _ _ _ => (pg_name (i := 14) sc_law.nd rfl (Or.inl rfl))) (fun _ _ _ _ _ => pts_nil) (fun _ _ _ _ _ => (pc (d_l_told T) (hr.mono (by decide)) px0 (pa_cons (pv 6) (pa_cons (pv 14) (pa_cons (pv 7) (pa_cons (pe_op op_add (pe_callB call_len_str (by rfl) (b_len T) boot_len (pa_cons (pv 7) pa_nil)) pe_int) pa_nil))))))) (pe_op op_rep (pe_lst (pa_cons (pe_tup (pa_cons pe_str (pa_cons pe_str pa_nil))) pa_nil)) pe_int) (nomark _)))))))))))))))), ?_⟩
    walk_at "rd"
    refine ⟨by decide, fun p hp => ⟨by decide, fun pm hpm => ?_⟩⟩
    have D0 : Dr K (upd H p (.lst [])) a p ns 0 := Dr.start hS hl hp
    have D1 := D0.same (same_new (o := .lst (List.map V.str [("make" : Str), "maker", "makers", "map", "m", "other", "Make", "o-k", "under", "und"])) hpm)
    have em : (upd (upd H p (.lst [])) pm (.lst (List.map V.str [("make" : Str), "maker", "makers", "map", "m", "other", "Make", "o-k", "under", "und"]))) pm = some (.lst (List.map V.str [("make" : Str), "maker", "makers", "map", "m", "other", "Make", "o-k", "under", "und"])) := upd_same
    have nm : p ≠ pm := D0.ne hpm
    refine ⟨a, p, 11, ns, 0, rfl, D1, by omega, by omega, by omega, fun n H2 n0 n1 F2 D2 => ?_⟩
    obtain ⟨n, rfl⟩ : ∃ j : Nat, n = (j : Int) := ⟨n.toNat, by omega⟩
    refine ⟨_, rfl, by omega, by omega, ?_⟩
    rw [Int.toNat_natCast]
    have em2 := F2.at em (by simp [nm.symm])
    refine lcb_town (fun v => ∃ u : List Nat, v = tv u ∧ okWord u = true ∧ u.length ≤ 10) D2 (by omega) (fun i H3 hi f3 D3 Y hY => ?_) (fun pw acc H3 hpw f3 D3 eL la ra => ?_)
    · walk_at "rd"
      refine ⟨a, p, pm, _, ns, _, rfl, D3, by omega, sq_of (f3.at em2 (by simp [nm.symm])), nm.symm, by simp, by simp, fun j v H4 hj F4 D4 => hY _ _ ?_ F4 D4⟩
      obtain ⟨z, hz, rfl⟩ := pick_str hj
      have q : (([("make" : Str), "maker", "makers", "map", "m", "other", "Make", "o-k", "under", "und"] : List Str).all fun z => okWord z.cps.toList && decide (z.cps.toList.length ≤ 10)) = true := by decide +kernel
      have q2 := List.all_eq_true.mp q z hz
      rw [Bool.and_eq_true, decide_eq_true_iff] at q2
      exact ⟨z.cps.toList, rfl, q2.1, q2.2⟩
    · obtain ⟨ws, rfl, hws⟩ : ∃ ws : List (List Nat), acc = tvs ws ∧ ∀ u ∈ ws, okWord u = true ∧ u.length ≤ 10 := by
        clear la eL
        induction acc with
        | nil => exact ⟨[], rfl, fun _ h => absurd h List.not_mem_nil⟩
        | cons v acc ih =>
          obtain ⟨ws, rfl, h⟩ := ih fun v hv => ra v (List.mem_cons_of_mem _ hv)
          obtain ⟨u, rfl, h1⟩ := ra v List.mem_cons_self
          exact ⟨u :: ws, rfl, fun y hy => (List.mem_cons.mp hy).elim (fun e => by rw [e]; exact h1) (h y)⟩
      have lws : ws.length ≤ 10 := by
        rw [List.length_map] at la
        omega
      have np := D2.ne hpw
      let P5 : L2.St → Hp → Prop := fun σ' H' => ∃ pg, σ' = [some (.ref a), some (.ref p), some (.ref pm), some (.ref pw), none, some (.ref pg), none, none, none, none, none, none, none, none, none, none] ∧ Dr K H' a p ns (0 + 1 + n) ∧ H' pw = some (.lst (tvs ws)) ∧ H' pg = some (.lst (tvs ws)) ∧ p ≠ pg
      refine ⟨P5, ?_, ?_⟩
      · walk_at "rd"
        exact ⟨_, .inl (sq_of eL), fun pg hpg => ⟨pg, rfl, D3.same (same_new hpg), same_new hpg _ _ eL, upd_same, D3.ne hpg⟩⟩
      rintro σ' H4 ⟨pg, rfl, D4, e4, g4, npg⟩
      walk_at "rd"
      let P6 : L2.St → Hp → Prop := fun σ' H' => ∃ x wl, σ' = [some (.ref a), some (.ref p), some (.ref pm), some (.ref pw), none, some (.ref pg), some (.ref x), none, none, none, none, none, none, none, none, none] ∧ J31 K H' a p pw pg x wl ns 20 ws
      refine ⟨P6, ?_, ?_⟩
      · walk_at "rd"
        intro x xd hx hxd nxd
        have sm : Same H4 (upd (upd H4 xd (.own x)) x (.ins (He.ga K "Filler") xd [])) := (same_new hxd).trans (same_new (by rw [upd_ne nxd.symm]; exact hx))
        refine ⟨x, xd, pw, ws, rfl, upd_same, sq_of (sm _ _ e4), ne_new e4 hx, by omega, fun u hu => by have := (hws u hu).2; omega, ?_⟩
        have ok : okWords ws = true := by
          unfold okWords
          rw [decide_eq_true (by omega), Bool.true_and]
          exact List.all_eq_true.mpr fun u hu => (hws u hu).1
        rw [if_pos ok]
        refine ⟨by omega, fun wl H5 hwl F5 R5 => ⟨rfl, x, wl, rfl, ?_⟩⟩
        have hwl4 := sm.free hwl
        have nx := D4.ne hx
        have D5 := (D4.same sm).fy F5 (D4.new hx) (by simp [nx])
        exact ⟨D5.mono (by omega), F5.at (sm _ _ e4) (by simp [ne_new e4 hx]), F5.at (sm _ _ g4) (by simp [ne_new g4 hx]), R5, np, npg, nx, D4.ne hwl4⟩
      rintro σ' H5 ⟨x, wl, rfl, J5⟩
      walk_at "rd"
      let P7 : Nat → Nat → L2.St → Hp → Prop := fun z m σ' H' => ∃ t : List Nat, σ' = [some (.ref a), some (.ref p), some (.ref pm), some (.ref pw), none, some (.ref pg), some (.ref x), some (tv t), none, none, none, none, none, none, none, none] ∧ J31 K H' a p pw pg x wl ns z ws ∧ (t.all fun c => isSign [c]) = true ∧ t.length ≤ m
      refine ⟨P7 21 10, ?_, ?_⟩
      · walk_at "rd"
        refine pick_new J5.D (by omega) (by simp) (by simp) fun j v H6 hj F6 D6 => ?_
        obtain ⟨u, rfl, lu, au⟩ := pick_piece (n := 10) hj (by decide +kernel)
        exact ⟨u, rfl, J5.draw F6 D6, au, lu⟩
      rintro σ' H6 ⟨t6, rfl, J6, at6, lt6⟩
      walk_at "rd"
      refine ⟨P7 22 20, ?_, ?_⟩
      · walk_at "rd"
        refine pick_new J6.D (by omega) (by simp) (by simp) fun j v H7 hj F7 D7 => ?_
        obtain ⟨u, rfl, lu, au⟩ := pick_piece (n := 10) hj (by decide +kernel)
        refine ⟨_, rfl, by rw [S_len]; exact sline (by omega), t6 ++ u, by rw [S_app], J6.draw F7 D7, by rw [List.all_append, at6, au]; rfl, by rw [List.length_append]; omega⟩
      rintro σ' H7 ⟨t7, rfl, J7, at7, lt7⟩
      walk_at "rd"
      refine ⟨P7 23 30, ?_, ?_⟩
      · walk_at "rd"
        refine pick_new J7.D (by omega) (by simp) (by simp) fun j v H8 hj F8 D8 => ?_
        obtain ⟨u, rfl, lu, au⟩ := pick_piece (n := 10) hj (by decide +kernel)
        refine ⟨_, rfl, by rw [S_len]; exact sline (by omega), t7 ++ u, by rw [S_app], J7.draw F8 D8, by rw [List.all_append, at7, au]; rfl, by rw [List.length_append]; omega⟩
      rintro σ' H8 ⟨t, rfl, J8, att, ltt⟩
      walk_at "rd"
      have okt : okText t = true := by
        unfold okText
        rw [att, decide_eq_true (by omega)]
        rfl
      let Inv : L2.St → Hp → Prop := fun σ' H' => ∃ v4 v8 v9 v10 v11 v12 v13 v14, σ' = [some (.ref a), some (.ref p), some (.ref pm), some (.ref pw), v4, some (.ref pg), some (.ref x), some (tv t), v8, v9, v10, v11, v12, v13, v14, none] ∧ J31 K H' a p pw pg x wl ns 23 ws
      have asc : AscL ws := fun u hu => by
        have := (hws u hu).1
        unfold okWord at this
        rw [Bool.and_eq_true] at this
        exact okText_lt this.1
      refine ⟨Inv, ?_, ?_⟩
      · walk_at "rd"
        refine ⟨sline (by omega), by omega, by omega, ?_⟩
        rw [show ((t.length : Int) + 1).toNat = t.length + 1 by omega]
        refine forb_rng (fun _ => Inv) ⟨_, _, _, _, _, _, _, _, rfl, J8⟩ ?_ (fun _ _ h => h)
        rintro i σ' H9 hi ⟨v4, v8, v9, v10, v11, v12, v13, v14, rfl, J9⟩
        walk_at "rd"
        have bl := blankStart_le t i
        refine ⟨fun σ' H' => σ' = [some (.ref a), some (.ref p), some (.ref pm), some (.ref pw), v4, some (.ref pg), some (.ref x), some (tv t), some (.int (0 + (i : Int))), some (.int (blankStart t i : Nat)), v10, v11, v12, v13, v14, none] ∧ J31 K H' a p pw pg x wl ns 23 ws, ?_, ?_⟩
        · walk_at "rd"
          refine ⟨by show 1 ≤ sizeLine; decide, fun q1 k1 => ⟨by omega, by omega, ?_⟩⟩
          rw [show (0 + (i : Int)).toNat = i by omega]
          have J1 := J9.same (same_new (o := .lst [V.int 0]) k1)
          refine lcb_rng 0 i (fun k => decide (t[k.toNat]? = some 32)) (fun k => .int (k + 1)) (by omega) (fun j H1 hj s1 Y N hY hN => ?_) (fun D H1 hD s1 eD => ?_)
          · walk_at "rd"
            have gj : t[j]? = some (t[j]'(by omega)) := List.getElem?_eq_getElem (by omega)
            refine ⟨sline (by omega), t[j]'(by omega), ?_, ?_⟩
            · rw [atI_in (by omega) (by omega), show (0 + (j : Int)).toNat = j by omega, gj]
            · have e32 : (" " : Str) = S [32] := by decide +kernel
              rw [e32]
              by_cases c : t[j]'(by omega) = 32
              · rw [if_pos (show S [t[j]'(by omega)] = S [32] by rw [c])]
                exact hY (by show decide _ = true; rw [show (0 + (j : Int)).toNat = j by omega, gj, c]; rfl) _ (Same.refl _)
              · rw [if_neg (show ¬ S [t[j]'(by omega)] = S [32] from fun z => c (by rw [S_inj] at z; exact (List.cons.inj z).1))]
                exact hN (by show decide _ = false; rw [show (0 + (j : Int)).toNat = j by omega, gj]; exact decide_eq_false fun z => c (Option.some.inj z)) _ (Same.refl _)
          · have e1 := s1 _ _ (upd_same (H := H9) (a := q1) (o := .lst [V.int 0]))
            have ll := List.length_filter_le (fun k : Int => decide (t[k.toNat]? = some 32)) ((List.range i).map fun k : Nat => (0 : Int) + (k : Int))
            rw [List.length_map, List.length_range] at ll
            refine ⟨D, rfl, _, e1, _, eD, sline (by rw [List.length_map]; simp only [List.length_singleton]; omega), fun q2 k2 => ?_⟩
            refine ⟨q2, lawStart t i, rfl, sq_of (by rw [upd_same]; unfold lawStart; rw [List.map_cons, List.map_map]; rfl), by unfold lawStart; simp, fun m hm hle => ?_⟩
            have em : m = ((blankStart t i : Nat) : Int) := Int.le_antisymm (lawStart_max m hm) (hle _ (lawStart_mem t i))
            rw [em]
            exact ⟨rfl, (J1.same s1).same (same_new k2)⟩
        rintro σ' H10 ⟨rfl, J10⟩
        refine ⟨fun σ' H' => σ' = [some (.ref a), some (.ref p), some (.ref pm), some (.ref pw), v4, some (.ref pg), some (.ref x), some (tv t), some (.int (0 + (i : Int))), some (.int (blankStart t i : Nat)), some (tv (partAt t i)), v11, v12, v13, v14, none] ∧ J31 K H' a p pw pg x wl ns 23 ws, ?_, ?_⟩
        · walk_at "rd"
          refine ⟨sline (by omega), ?_, J10⟩
          have pc := part_cut (t := t) (i := (i : Int)) (by omega) (by omega)
          rw [Int.toNat_natCast] at pc
          rw [Int.zero_add, pc]
        rintro σ' H11 ⟨rfl, J11⟩
        refine ⟨fun σ' H' => ∃ q, σ' = [some (.ref a), some (.ref p), some (.ref pm), some (.ref pw), v4, some (.ref pg), some (.ref x), some (tv t), some (.int (0 + (i : Int))), some (.int (blankStart t i : Nat)), some (tv (partAt t i)), some (.ref q), v12, v13, v14, none] ∧ J31 K H' a p pw pg x wl ns 23 ws ∧ H' q = some (.lst (tvs (fitT (srtW ws) t i))), ?_, ?_⟩
        · walk_at "rd"
          refine ⟨⟨_, sq_of J11.ew⟩, ?_⟩
          have lpt : (partAt t i).length ≤ 1000 := by
            show ((t.drop (blankStart t i)).take (i - blankStart t i)).length ≤ 1000
            rw [List.length_take, List.length_drop]
            omega
          refine lcb_list ws tv (pre (partAt t i)) tv (sq_of J11.ew) (by omega) (fun y H12 hy s2 Y N hY hN => ?_) (fun D H12 hD s2 eD => ?_)
          · walk_at "rd"
            refine ⟨sline (by omega), sline (by have := (hws y hy).2; omega), ?_⟩
            rw [cut_to _ _ (by omega), Int.toNat_natCast]
            by_cases c : pre (partAt t i) y = true
            · rw [if_pos (show S (y.take (partAt t i).length) = S (partAt t i) by rw [pre_iff.mp c])]
              exact hY c _ (Same.refl _)
            · rw [if_neg (show ¬ S (y.take (partAt t i).length) = S (partAt t i) from fun z => c (by rw [S_inj] at z; exact pre_iff.mpr z))]
              exact hN (Bool.eq_false_iff.mpr c) _ (Same.refl _)
          · have lf := List.length_filter_le (pre (partAt t i)) ws
            refine ⟨D, (ws.filter (pre (partAt t i))).map S, rfl, by rw [List.map_map]; exact sq_of eD, by rw [List.length_map]; omega, fun q m hq lm mm nd => ?_⟩
            refine ⟨q, m, rfl, upd_same, lm, fun ys q2 pm' so hq2 => ?_⟩
            generalize TSetO _ _ q m = o at hq2 ⊢
            have e := sorted_is (ws := ws.filter (pre (partAt t i))) pm' so nd mm
            rw [e, srt_filter]
            exact ⟨q2, rfl, ((J11.same s2).same (same_new hq)).same (same_new hq2), upd_same⟩
        rintro σ' H12 ⟨q, rfl, J12, eq12⟩
        refine ⟨fun σ' H' => σ' = [some (.ref a), some (.ref p), some (.ref pm), some (.ref pw), v4, some (.ref pg), some (.ref x), some (tv t), some (.int (0 + (i : Int))), some (.int (blankStart t i : Nat)), some (tv (partAt t i)), some (.ref q), v12, some (tv (partAt t i)), v14, none] ∧ J31 K H' a p pw pg x wl ns 23 ws ∧ H' q = some (.lst (tvs (fitT (srtW ws) t i))), ?_, ?_⟩
        · walk_at "rd"
          exact ⟨J12, eq12⟩
        rintro σ' H13 ⟨rfl, J13, eq13⟩
        refine ⟨fun σ' H' => ∃ v12, σ' = [some (.ref a), some (.ref p), some (.ref pm), some (.ref pw), v4, some (.ref pg), some (.ref x), some (tv t), some (.int (0 + (i : Int))), some (.int (blankStart t i : Nat)), some (tv (partAt t i)), some (.ref q), v12, some (tv (commonT (partAt t i) (fitT (srtW ws) t i))), v14, none] ∧ J31 K H' a p pw pg x wl ns 23 ws ∧ H' q = some (.lst (tvs (fitT (srtW ws) t i))), ?_, ?_⟩
        · walk_at "rd"
          obtain ⟨sm, hsm⟩ : ∃ sm, fitT (srtW ws) t i = sm := ⟨_, rfl⟩
          obtain ⟨pt, hpt⟩ : ∃ pt, partAt t i = pt := ⟨_, rfl⟩
          have hin : ∀ u ∈ sm, pre pt u = true ∧ u.length ≤ 10 ∧ Asc u := fun u hu => by
            rw [← hsm] at hu
            obtain ⟨g1, g2⟩ := List.mem_filter.mp hu
            rw [hpt] at g2
            exact ⟨g2, (hws u (srtW_mem.mp g1)).2, asc u (srtW_mem.mp g1)⟩
          have lsm : sm.length ≤ 1000 := by
            rw [← hsm]
            have g1 := List.length_filter_le (pre (partAt t i)) (srtW ws)
            have g2 := srtW_len ws
            show ((srtW ws).filter (pre (partAt t i))).length ≤ 1000
            omega
          rw [hsm] at eq13
          rw [hsm, hpt]
          refine ⟨by show 0 ≤ sizeLine; decide, fun q1 k1 => ?_⟩
          have s1 := same_new (o := .lst []) k1
          refine ne_empty (s1 _ _ eq13) upd_same (fun u hu => (hin u hu).2.2) ⟨_, rfl, ?_⟩
          match sm, eq13, hin, lsm with
          | [], eq13, hin, lsm =>
            rw [if_neg (by decide)]
            exact ⟨rfl, J13.same s1, s1 _ _ eq13⟩
          | w0 :: r, eq13, hin, lsm =>
            rw [if_pos (by exact decide_eq_true (List.cons_ne_nil _ _))]
            have e1 := s1 _ _ eq13
            have p0 := hin w0 List.mem_cons_self
            have ix : atI (tvs (w0 :: r)) 0 = some (tv w0) := by
              rw [atI_in (by omega) (by rw [List.length_map]; simp)]
              rfl
            refine ⟨_, sq_of e1, _, ix, ?_⟩
            let Fin : L2.St → Hp → Prop := fun σ' H' => ∃ v12, σ' = [some (.ref a), some (.ref p), some (.ref pm), some (.ref pw), v4, some (.ref pg), some (.ref x), some (tv t), some (.int (0 + (i : Int))), some (.int (blankStart t i : Nat)), some (tv pt), some (.ref q), v12, some (tv (commonT pt (w0 :: r))), v14, none] ∧ J31 K H' a p pw pg x wl ns 23 ws ∧ H' q = some (.lst (tvs (w0 :: r)))
            refine ⟨fun n σ' H' => ∃ (c : Nat) (v12 : Option V), σ' = [some (.ref a), some (.ref p), some (.ref pm), some (.ref pw), v4, some (.ref pg), some (.ref x), some (tv t), some (.int (0 + (i : Int))), some (.int (blankStart t i : Nat)), some (tv pt), some (.ref q), v12, some (tv (w0.take c)), v14, none] ∧ J31 K H' a p pw pg x wl ns 23 ws ∧ H' q = some (.lst (tvs (w0 :: r))) ∧ c ≤ w0.length ∧ lcpN (w0 :: r) c = lcpN (w0 :: r) w0.length ∧ n = c, ⟨_, w0.length, v12, by rw [List.take_length], J13.same s1, e1, Nat.le_refl _, rfl, rfl⟩, ?_⟩
            rintro n σ' H14 ⟨c, v12, rfl, J14, e14, cl, lc, rfl⟩
            walk_at "rd"
            have lt : (w0.take n).length = n := by
              rw [List.length_take]
              omega
            refine ⟨⟨_, sq_of e14⟩, ?_⟩
            refine lcb_list (w0 :: r) tv (fun _ => true) (fun y => .bl (pre (w0.take n) y)) (sq_of e14) (by omega) (fun y H15 hy s5 Y N hY hN => ?_) fun D H15 hD s5 eD => ?_
            · walk_at "rd"
              rw [lt]
              refine ⟨sline (by omega), sline (by have := (hin y hy).2.1; omega), ?_⟩
              rw [cut_to _ _ (by omega), Int.toNat_natCast]
              have ep : decide (S (y.take n) = S (w0.take n)) = pre (w0.take n) y := by
                unfold pre
                rw [lt]
                by_cases c : y.take n = w0.take n
                · rw [decide_eq_true c, decide_eq_true (show S (y.take n) = S (w0.take n) by rw [c])]
                · rw [decide_eq_false c, decide_eq_false fun z => c (by rw [S_inj] at z; exact z)]
              rw [ep]
              exact hY rfl _ (Same.refl _)
            · have eall : ((w0 :: r).map fun y => pre (w0.take n) y).all id = okN (w0 :: r) n := by
                rw [List.all_map]
                rfl
              refine ⟨D, (w0 :: r).map fun y => pre (w0.take n) y, rfl, sq_of (by rw [eD, filter_tt, List.map_map]; rfl), _, rfl, ?_⟩
              rw [eall]
              have J15 := J14.same s5
              by_cases b : okN (w0 :: r) n = true
              · rw [if_neg (by rw [b]; decide)]
                have em : commonT pt (w0 :: r) = w0.take n := by
                  show w0.take (lcpN (w0 :: r) w0.length) = _
                  rw [← lc, lcpN_is (Nat.le_refl _) b (.inl rfl)]
                rw [em]
                exact ⟨rfl, J15, s5 _ _ e14⟩
              · rw [if_pos (by rw [Bool.eq_false_iff.mpr b]; rfl)]
                match n, lt, cl, lc, b with
                | 0, _, _, _, b => exact absurd (okN_zero _) b
                | m + 1, lt, cl, lc, b =>
                  refine ⟨fun σ' H' => ∃ v12, σ' = [some (.ref a), some (.ref p), some (.ref pm), some (.ref pw), v4, some (.ref pg), some (.ref x), some (tv t), some (.int (0 + (i : Int))), some (.int (blankStart t i : Nat)), some (tv pt), some (.ref q), v12, some (tv (w0.take m)), v14, none] ∧ J31 K H' a p pw pg x wl ns 23 ws ∧ H' q = some (.lst (tvs (w0 :: r))), fun σ' H' ⟨v12, e, j1, j2⟩ => ⟨m, by omega, m, ⟨v12, e⟩, j1, j2, by omega, ?_, rfl⟩, ?_⟩
                  · rw [← lc]
                    exact (if_neg b).symm
                  · refine ⟨sline (by omega), v12, ?_, J15, s5 _ _ e14⟩
                    have key : (w0.take (m + 1)).dropLast = w0.take m := by
                      rw [List.dropLast_eq_take, List.take_take, lt, Nat.add_sub_cancel, Nat.min_eq_left (Nat.le_succ m)]
                    rw [cut_last, key]
        rintro σ' H14 ⟨v12, rfl, J14, eq14⟩
        walk_at "rd"
        have asc2 : AscL (fitT (srtW ws) t i) := fun u hu => asc u (srtW_mem.mp (List.mem_filter.mp hu).1)
        have ascc : Asc (commonT (partAt t i) (fitT (srtW ws) t i)) := by
          have h1 : Asc (partAt t i) := fun c hc => okText_lt okt c (List.mem_of_mem_drop (List.mem_of_mem_take hc))
          unfold commonT
          split
          · exact h1
          · rename_i w0 r e
            exact fun c hc => asc2 w0 (by rw [e]; exact List.mem_cons_self) c (List.mem_of_mem_take hc)
        have lsw := srtW_len ws
        obtain ⟨sm, hsm⟩ : ∃ sm, fitT (srtW ws) t i = sm := ⟨_, rfl⟩
        obtain ⟨cm, hcm⟩ : ∃ cm, commonT (partAt t i) (fitT (srtW ws) t i) = cm := ⟨_, rfl⟩
        rw [hcm] at ascc
        rw [hsm] at asc2
        rw [hcm]
        refine ⟨by omega, by omega, ?_⟩
        intro D hD
        let Got : Nat → Hp → Prop := fun k H' => ∃ acc, H' D = some (.lst acc) ∧ ((k = 0 ∧ acc = []) ∨ (k = 1 ∧ acc = [.int (blankStart t i : Nat)]) ∨ (∃ q2, q2 ≠ D ∧ H' q2 = some (.lst (tvs sm)) ∧ ((k = 2 ∧ acc = [.int (blankStart t i : Nat), .ref q2]) ∨ (k = 3 ∧ acc = [.int (blankStart t i : Nat), .ref q2, tv cm]))))
        refine lc_it (n := 3) (walk_rng (lo := 0)) (fun k H' => Same H14 H' ∧ Got k H') ⟨same_new hD, [], upd_same, .inl ⟨rfl, rfl⟩⟩ (fun _ _ _ _ => trivial) ?_ ?_
        · rintro k y H1 H2 hk ⟨s, acc, eD, got⟩ ⟨rfl, hy⟩
          rw [List.getElem?_map, List.getElem?_range hk] at hy
          obtain rfl : V.int (0 + (k : Int)) = y := Option.some.inj hy
          walk_at "rd"
          have J1 := J14.same s
          have fbw : ∀ u ∈ srtW ws, u.length ≤ 100000 := fun u hu => by
            have := (hws u (srtW_mem.mp hu)).2
            omega
          refine ⟨.ref x, 0 + (k : Int), tv t, 0 + (i : Int), rfl, .inr ⟨x, wl, srtW ws, t, rfl, rfl, J1.F, by omega, fbw, by omega, okt, .inr ⟨by omega, by omega, ?_⟩⟩⟩
          rw [show (0 + (i : Int)).toNat = i by omega]
          have e3 : k = 0 ∨ k = 1 ∨ k = 2 := by omega
          have nxt : ∀ (v : V) (H3 : Hp), Same H2 H3 → acc.length < 10 → Got (k + 1) (upd H3 D (.lst (acc ++ [v]))) → ∃ acc, H3 D = some (.lst acc) ∧ acc.length < sizeLine ∧ Same H14 (upd H3 D (.lst (acc ++ [v]))) ∧ Got (k + 1) (upd H3 D (.lst (acc ++ [v]))) := fun v H3 s3 la g =>
            ⟨acc, s3 _ _ eD, slt (by omega), same_upd (s.trans s3) hD, g⟩
          rcases e3 with rfl | rfl | rfl
          · rcases got with ⟨_, rfl⟩ | ⟨h, _⟩ | ⟨q2, _, _, ⟨h, _⟩ | ⟨h, _⟩⟩
            · exact .inl ⟨rfl, fun H3 s3 => nxt _ H3 s3 (by simp) ⟨_, upd_same, .inr (.inl ⟨rfl, rfl⟩)⟩⟩
            · omega
            · omega
            · omega
          · rcases got with ⟨h, _⟩ | ⟨_, rfl⟩ | ⟨q2, _, _, ⟨h, _⟩ | ⟨h, _⟩⟩
            · omega
            · refine .inr (.inl ⟨rfl, fun q2 H3 hq2 s3 e3 => nxt _ H3 s3 (by simp) ⟨_, upd_same, .inr (.inr ⟨q2, (ne_of_none eD hq2).symm, ?_, .inl ⟨rfl, rfl⟩⟩)⟩⟩)
              rw [upd_ne (ne_of_none eD hq2).symm, e3, hsm]
            · omega
            · omega
          · rcases got with ⟨h, _⟩ | ⟨h, _⟩ | ⟨q2, nq, e2, ⟨_, rfl⟩ | ⟨h, _⟩⟩
            · omega
            · omega
            · refine .inr (.inr ⟨rfl, fun H3 s3 => ?_⟩)
              rw [hcm]
              refine nxt _ H3 s3 (by simp) ⟨_, upd_same, .inr (.inr ⟨q2, nq, ?_, .inr ⟨rfl, rfl⟩⟩)⟩
              rw [upd_ne nq]
              exact s3 _ _ e2
            · omega
        · rintro H1 ⟨s, acc, eD, got⟩
          rcases got with ⟨h, _⟩ | ⟨h, _⟩ | ⟨q2, nq, e2, ⟨h, _⟩ | ⟨_, rfl⟩⟩
          · omega
          · omega
          · omega
          · refine ⟨by show 3 ≤ sizeLine; decide, fun q3 k3 => ?_⟩
            have s3 := same_new (o := .lst [V.int (blankStart t i : Nat), .ref q, tv cm]) k3
            have eq3 := s3 _ _ (s _ _ eq14)
            rw [hsm] at eq3
            have hs : SeqAt.shaped (.list [.int (blankStart t i : Nat), .list (tds sm), .str (S cm)]) = true := by
              show (PyData.canLay0 (.list [.int (blankStart t i : Nat), .list (tds sm), .str (S cm)]) && decide (PyData.depth (.list [.int (blankStart t i : Nat), .list (tds sm), .str (S cm)]) ≤ 64)) = true
              simp only [PyData.canLay0, PyData.canLayAll0, canLay_texts asc2, strOk_asc ascc, PyData.depth, PyData.depthAll, depth_texts]
              rfl
            refine ne_same (d := .list [.int (blankStart t i : Nat), .list (tds sm), .str (S cm)]) (.lst (sq_of (s3 _ _ eD)) (.cons (.int _) (.cons (dp_texts (s3 _ _ e2)) (.cons (.str _) .nil)))) (.lst (sq_of upd_same) (.cons (.int _) (.cons (dp_texts eq3) (.cons (.str _) .nil)))) hs ⟨_, rfl, ?_⟩
            rw [if_neg (by decide)]
            exact ⟨_, _, _, _, _, _, _, _, rfl, (J14.same s).same s3⟩
      · rintro σ' H9 ⟨v4, v8, v9, v10, v11, v12, v13, v14, rfl, J9⟩
        walk_at "rd"
        refine ne_texts J9.ew J9.eg asc ⟨_, rfl, ?_⟩
        rw [if_neg (by decide)]
        refine ⟨by show 1 ≤ sizeLine; decide, fun q1 k1 => ⟨by show 1 ≤ sizeLine; decide, fun q2 k2 => ⟨by show 2 ≤ sizeLine; decide, fun q3 k3 => ⟨by show 1 ≤ sizeLine; decide, fun q4 k4 => ?_⟩⟩⟩⟩
        have s1 := same_new (o := .lst [V.str "a b"]) k1
        have s2 := same_new (o := .lst [V.str ""]) k2
        have s3 := same_new (o := .lst [V.str "ok", V.str "\n"]) k3
        have s4 := same_new (o := .lst [V.str "w"]) k4
        refine ⟨q4, 201, [V.str "w"], rfl, rfl, upd_same, by omega, by omega, by decide, fun q5 k5 => ?_⟩
        have s5 := same_new (o := .lst (List.replicate (Int.toNat 201) [V.str "w"]).flatten) k5
        have e1 := s5 _ _ (s4 _ _ (s3 _ _ (s2 _ _ (upd_same (H := H9) (a := q1) (o := .lst [V.str "a b"])))))
        have e2 := s5 _ _ (s4 _ _ (s3 _ _ (upd_same (H := upd H9 q1 (.lst [V.str "a b"])) (a := q2) (o := .lst [V.str ""]))))
        have e3 := s5 _ _ (s4 _ _ (upd_same (H := upd (upd H9 q1 (.lst [V.str "a b"])) q2 (.lst [V.str ""])) (a := q3) (o := .lst [V.str "ok", V.str "\n"])))
        have J10 := J9.same (s1.trans (s2.trans (s3.trans (s4.trans s5))))
        refine pick_new (xs := [V.ref q1, V.ref q2, V.ref q3, V.ref q5]) J10.D (by omega) (by simp) (by simp) fun j v H11 hj F11 D11 => ?_
        have J11 := J10.draw F11 D11
        have pq1 := J9.D.ne k1
        have fin : ∀ (l : Addr) (bs : List (List Nat)), H11 l = some (.lst (tvs bs)) → okWords bs = false → bs.length ≤ 1000 → (∀ u ∈ bs, u.length ≤ 100000) → v = .ref l → ∃ (l : Addr) (bs : List (List Nat)), v = .ref l ∧ H11 l = some (.lst (tvs bs)) ∧ okWords bs = false ∧ bs.length ≤ 1000 ∧ ∀ u ∈ bs, u.length ≤ 100000 := fun l bs h1 h2 h3 h4 e => ⟨l, bs, e, h1, h2, h3, h4⟩
        have tr : ∃ (l : Addr) (bs : List (List Nat)), v = .ref l ∧ H11 l = some (.lst (tvs bs)) ∧ okWords bs = false ∧ bs.length ≤ 1000 ∧ ∀ u ∈ bs, u.length ≤ 100000 := by
          have small : ∀ bs : List (List Nat), (bs.all fun u => decide (u.length ≤ 100000)) = true → ∀ u ∈ bs, u.length ≤ 100000 := fun bs h u hu => of_decide_eq_true (List.all_eq_true.mp h u hu)
          match j, hj with
          | 0, hj => exact fin q1 [("a b" : Str).cps.toList] (F11.at e1 (by simp [pq1.symm])) (by decide +kernel) (by simp) (small _ (by decide +kernel)) (Option.some.inj hj).symm
          | 1, hj => exact fin q2 [("" : Str).cps.toList] (F11.at e2 (by simp [(J9.D.ne (s1.free k2)).symm])) (by decide +kernel) (by simp) (small _ (by decide +kernel)) (Option.some.inj hj).symm
          | 2, hj => exact fin q3 [("ok" : Str).cps.toList, ("\n" : Str).cps.toList] (F11.at e3 (by simp [(J9.D.ne (s1.free (s2.free k3))).symm])) (by decide +kernel) (by simp) (small _ (by decide +kernel)) (Option.some.inj hj).symm
          | 3, hj =>
            have ef : (List.replicate (Int.toNat 201) [V.str "w"]).flatten = tvs (List.replicate 201 ("w" : Str).cps.toList) := by decide +kernel
            refine fin q5 (List.replicate 201 ("w" : Str).cps.toList) (F11.at (by rw [upd_same, ef]) (by simp [(J9.D.ne (s1.free (s2.free (s3.free (s4.free k5))))).symm])) ?_ (by rw [List.length_replicate]; omega) (fun u hu => ?_) (Option.some.inj hj).symm
            · unfold okWords
              rw [List.length_replicate, decide_eq_false (by omega)]
              rfl
            · rw [List.eq_of_mem_replicate hu]
              decide +kernel
          | j + 4, hj => simp at hj
        obtain ⟨lb, bs, rfl, eb, bad, lbs, bbs⟩ := tr
        refine ⟨.ref x, 3, .ref lb, 0, rfl, .inl ⟨rfl, lb, bs, rfl, eb, bad, lbs, bbs, fun u1 H12 s12 r12 => ⟨by show 2 ≤ sizeLine; decide, fun q6 k6 => ?_⟩⟩⟩
        have J12 := J11.same s12
        have s13 := same_new (o := .tup [.str "refused", .str "text"]) k6
        have r13 : IsRef (upd H12 q6 (.tup [.str "refused", .str "text"])) "text" (.ref q6) := ⟨q6, rfl, upd_same⟩
        refine ne_same (r12.same s13).dp r13.dp (by decide +kernel) ⟨_, rfl, ?_⟩
        rw [if_neg (by decide)]
        have J13 := J12.same s13
        refine ⟨by omega, by omega, ?_⟩
        have lsw := srtW_len ws
        have fbw : ∀ u ∈ srtW ws, u.length ≤ 100000 := fun u hu => by
          have := (hws u (srtW_mem.mp hu)).2
          omega
        refine lcb_ref ((List.range 3).map fun k : Nat => (0 : Int) + (k : Int)) V.int (by rw [List.map_map]; exact walk_rng) rfl (fun _ _ => trivial) (by simp) "place" (fun y H14 hy s14 Y hY => ?_) (fun L2 acc2 H14 s14 eL2 la2 ra2 => ?_)
        · walk_at "rd"
          obtain ⟨k, hk, rfl⟩ := List.mem_map.mp hy
          have hk3 := List.mem_range.mp hk
          refine ⟨sline (by omega), .ref x, 0 + (k : Int), tv t, (t.length : Int) + 1, rfl, .inr ⟨x, wl, srtW ws, t, rfl, rfl, (J13.same s14).F, by omega, fbw, by omega, okt, .inl ⟨by omega, by omega, by omega, hY⟩⟩⟩
        · refine mk_refs (n := 3) (by omega) fun p3 q7 H15 s15 ep3 eq3 => ?_
          exact eq_refs (n := 3) (s15 _ _ eL2) la2 (fun v hv => (ra2 v hv).same s15) eq3 ep3 rfl (by decide +kernel) (K0 _)
end
end LH
/-! ## End: the head, the theorem -/
namespace LH
open PySem PySem.Spec PyProof.Rows L2
/-- what a law lets out, whatever the world -/
def CXw (P : Program) (outer : List Env) (H : Hp) (s : Shared) (E : XK) (u : Value) (s' : Shared) : Prop := ∃ w : World, L2.CX P w outer H s E u s'
theorem fn_cx {P : Program} {w : World} {K : PySem.W.Frag} {mg : Str → Option Value} {base : Heap} {k : Nat} {f : Addr} {fd : FuncData} {ps : List Str} {sp : Sp} (F : FnOk P w K mg base (L2.CX P w) k f fd ps sp) :
    FnOk P w K mg base (CXw P) k f fd ps sp :=
  ⟨F.len, fun A outer s H args us vs Q E hr he hb hv hs => codeAny_mono (F.run A outer s H args us vs Q E hr he hb hv hs) fun r s' h => by
    match r, h with
    | .ok (.ret u), h => exact h
    | .error e, h => exact ⟨w, h⟩⟩
abbrev R : PySem.W.OpenRow := PySem.W.OpenLaw.row PySem.Challenge.rw_linehand_k31_whole_fills
abbrev hk : PySem.W.Hook := hookM 4 fa fn exs
def ob (s : PySem.W.SharedT) : He.AlD × Bool := obsM fa fn exs (He.frG (HandSHeadRun.getT s) (He.asD (HandSHeadRun.getT s) 4))
theorem ob_eq (s : PySem.W.SharedT) : ob s = hk.obs s.abs := by
  have e : HandSHeadRun.getT s = s.abs.heap.get? := funext (HandSHeadRun.getT_eq s)
  show obsM fa fn exs _ = obsM fa fn exs _
  rw [e]
theorem run (w : World) : HandSHeadRun.RunEq R (PySem.W.view R.prog [21]) hk ob 6000 loose w := by
  intro os
  kernel_rfl
theorem fin {P : Program} {w : World} {K : PySem.W.Frag} {h : Heap} {mg : Str → Option Value} {f : Addr} (X : K.In h) (G : h.Ns mainGlobals mg) (hfa : mg ("law" : Str) = some (.ref f)) (c : He.SaysD fa fn K) (x : (exs.all fun f => f K) = true) :
    ∃ fd : FuncData, (∀ (s : Shared) (v : Value), BindsTo s fd ⟨[v], []⟩ [("_law_script", v)]) ∧ ∀ base : Heap, FnOk P w K mg base (CXw P) 7 f fd ["_law_script"] (spLaw K) := by
  have T : TX K mg := ⟨⟨h, X, G⟩, c, x⟩
  obtain ⟨fd, F⟩ := fn_law T
  have e := hfa.symm.trans (g_law T)
  cases e
  exact ⟨fd, fun s v => FunD.bindsA F bd_law s [v] rfl, fun base => fn_cx (F.ok sc_law len_law fun cdv A outer s H vs Q E hr h => d_law T cdv A outer s H vs Q E hr h)⟩
end LH
open PySem PySem.W PySem.Calls PyProof.Rows
theorem PySem.Challenge.cw_linehand_k31_whole_fills_holds : PySem.Challenge.rw_linehand_k31_whole_fills.Holds := by
  w_on; o_law
  refine HandSHeadRun.head_any (r := OpenLaw.row PySem.Challenge.rw_linehand_k31_whole_fills) (q := view (OpenLaw.row PySem.Challenge.rw_linehand_k31_whole_fills).prog [21]) (H := LH.hk) (ob := LH.ob) (M := 6000) (loose := LH.loose) (d := HandSHeadRun.topDef (OpenLaw.row PySem.Challenge.rw_linehand_k31_whole_fills).prog 21) (kwd := []) LH.ob_eq
    (by kernel_rfl) (fun s => by kernel_rfl) LH.run (by kernel_rfl) (by kernel_rfl) (by kernel_rfl) (by rfl) (by first | assumption | decide +kernel) (by decide +kernel) ⟨rfl, rfl, rfl, rfl, rfl, by decide +kernel⟩ ?hw ?hc
  case hw => w_witness2
  case hc =>
    refine L2.walk_ofE (l := PySem.Challenge.rw_linehand_k31_whole_fills) (n := 63) (k := 7) (x := "_law_script") (CX := LH.CXw PySem.Challenge.rw_linehand_k31_whole_fills.prog) rfl (by decide) (by kernel_rfl) ⟨rfl, by decide, by decide⟩ ?F ?X
    case X =>
      intro H s e s' ⟨_, _, _, _, _, _, _, _, _, _, _, _, _, z⟩
      exact z
    intro w mg fa h Y G hmg0
    obtain ⟨K, KX, c, x⟩ := Y
    have hmg : mg ("law" : PySem.Str) = some (.ref fa) := by
      have e : (HandSHeadRun.topDef (OpenLaw.row PySem.Challenge.rw_linehand_k31_whole_fills).prog 21).name = ("law" : PySem.Str) := by kernel_rfl
      rw [← e]
      exact hmg0
    obtain ⟨fd, hb, hF⟩ := LH.fin (P := (PySem.Challenge.rw_linehand_k31_whole_fills).prog) (w := w) KX G hmg c x
    exact ⟨K, fd, LH.spLaw K, KX, hb, fun H a ns hl _ hS => ⟨a, ns, rfl, hS, hl, fun _ => rfl⟩, fun base _ _ => hF base⟩
